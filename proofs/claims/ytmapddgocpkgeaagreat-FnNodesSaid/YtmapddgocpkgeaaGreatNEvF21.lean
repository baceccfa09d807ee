/- Functions as trees, with their contracts. No conditions. -/
import Derived.Test.YtmapddgocpkgeaaGreatNEvF20
namespace Go.Proofs.YtmapddgocpkgeaaGreat.Ev
open Go.Proofs.YtmapddgocpkgeaaGreat.aa Go.RowKit
set_option linter.unusedVariables false
set_option maxRecDepth 100000
noncomputable section
namespace bo
def S (a0 a1 a2:Int) (a3 a4 a5 a6 a7 a8 a9 a10 a11 a12 a13 a14 a15 a16 a17 a18:Bool):List (PV U):=aa.start C 26 [.ptr 26 0,.agg [.int .i64 a0,.int .i64 a1,.int .i64 a2]] [.box [.bool a3,.bool a4,.bool a5,.bool a6,.bool a7,.bool a8,.bool a9,.bool a10,.bool a11,.bool a12,.bool a13,.bool a14,.bool a15,.bool a16,.bool a17,.bool a18]]
inductive X where
 | c2 (x0:List Int) (x1 x2:Int) (x3 x4 x5 x6 x7 x8 x9 x10 x11 x12 x13 x14 x15 x16 x17 x18:Bool)
 | c5 (x0:Int) (x1:List Int) (x2 x3:Int) (x4 x5 x6 x7 x8 x9 x10 x11 x12 x13 x14 x15 x16 x17 x18 x19:Bool)
 | c6 (x0:List Int) (x1 x2:Int) (x3 x4 x5 x6 x7 x8 x9 x10 x11 x12 x13 x14 x15 x16 x17 x18:Bool)
def id:X→Nat
 | .c2 .. =>2
 | .c5 .. =>5
 | .c6 .. =>6
def st:X→List (PV U)
 | .c2 x0 x1 x2 x3 x4 x5 x6 x7 x8 x9 x10 x11 x12 x13 x14 x15 x16 x17 x18=>eA 27 [(0,.ptr 26 0),(7,.own true 3 x0),(8,.int .i64 x1),(9,.int .i64 x2),(26,.box [.bool x3,.bool x4,.bool x5,.bool x6,.bool x7,.bool x8,.bool x9,.bool x10,.bool x11,.bool x12,.bool x13,.bool x14,.bool x15,.bool x16,.bool x17,.bool x18])]
 | .c5 x0 x1 x2 x3 x4 x5 x6 x7 x8 x9 x10 x11 x12 x13 x14 x15 x16 x17 x18 x19=>eA 27 [(0,.ptr 26 0),(5,.int .i64 x0),(7,.own true 3 x1),(8,.int .i64 x2),(9,.int .i64 x3),(26,.box [.bool x4,.bool x5,.bool x6,.bool x7,.bool x8,.bool x9,.bool x10,.bool x11,.bool x12,.bool x13,.bool x14,.bool x15,.bool x16,.bool x17,.bool x18,.bool x19])]
 | .c6 x0 x1 x2 x3 x4 x5 x6 x7 x8 x9 x10 x11 x12 x13 x14 x15 x16 x17 x18=>eA 27 [(0,.ptr 26 0),(7,.own true 3 x0),(8,.int .i64 x1),(9,.int .i64 x2),(26,.box [.bool x3,.bool x4,.bool x5,.bool x6,.bool x7,.bool x8,.bool x9,.bool x10,.bool x11,.bool x12,.bool x13,.bool x14,.bool x15,.bool x16,.bool x17,.bool x18])]
def begin (a0 a1 a2:Int) (a3 a4 a5 a6 a7 a8 a9 a10 a11 a12 a13 a14 a15 a16 a17 a18:Bool):Tr X A:=
 .call (de.told a0 a1 a2) fun t1=> .jump (.c2 t1 (List.length t1:Int) (0:Int) a3 a4 a5 a6 a7 a8 a9 a10 a11 a12 a13 a14 a15 a16 a17 a18)
def tree:X→Tr X A
 | .c2 x0 x1 x2 x3 x4 x5 x6 x7 x8 x9 x10 x11 x12 x13 x14 x15 x16 x17 x18=>
 let u0_0:Tr X A:=(.jump (.c6 x0 x1 x2 x3 x4 x5 x6 x7 x8 x9 x10 x11 x12 x13 x14 x15 x16 x17 x18));let u0_1:Tr X A:=(.jump (.c5 (dz x0 x2) x0 x1 x2 x3 x4 x5 x6 x7 x8 x9 x10 x11 x12 x13 x14 x15 x16 x17 x18)); .ite (decide (x2<x1))
  (.aC ((0:Int)≤x2∧x2<(List.length x0:Int)) (.ite (decide ((dz x0 x2)=(0:Int)))
   (.ite (!x3)
    (u0_1)
    (u0_0))
   (.ite (decide ((dz x0 x2)=(1:Int)))
    (.ite (!x4)
     (u0_1)
     (u0_0))
    (.ite (decide ((dz x0 x2)=(2:Int)))
     (.ite (!x5)
      (u0_1)
      (u0_0))
     (.ite (decide ((dz x0 x2)=(3:Int)))
      (.ite (!x6)
       (u0_1)
       (u0_0))
      (.ite (decide ((dz x0 x2)=(4:Int)))
       (.ite (!x7)
        (u0_1)
        (u0_0))
       (.ite (decide ((dz x0 x2)=(5:Int)))
        (.ite (!x8)
         (u0_1)
         (u0_0))
        (.ite (decide ((dz x0 x2)=(6:Int)))
         (.ite (!x9)
          (u0_1)
          (u0_0))
         (.ite (decide ((dz x0 x2)=(7:Int)))
          (.ite (!x10)
           (u0_1)
           (u0_0))
          (.fail))))))))))
  (.ret (x3,x4,x5,x6,x7,x8,x9,x10,x11,x12,x13,x14,x15,x16,x17,x18))
 | .c5 x0 x1 x2 x3 x4 x5 x6 x7 x8 x9 x10 x11 x12 x13 x14 x15 x16 x17 x18 x19=>
 .ite (decide (x0=(0:Int)))
  (.jump (.c6 x1 x2 x3 x4 x5 x6 x7 x8 x9 x10 x11 true x13 x14 x15 x16 x17 x18 x19))
  (.ite (decide (x0=(1:Int)))
   (.jump (.c6 x1 x2 x3 x4 x5 x6 x7 x8 x9 x10 x11 x12 true x14 x15 x16 x17 x18 x19))
   (.ite (decide (x0=(2:Int)))
    (.jump (.c6 x1 x2 x3 x4 x5 x6 x7 x8 x9 x10 x11 x12 x13 true x15 x16 x17 x18 x19))
    (.ite (decide (x0=(3:Int)))
     (.jump (.c6 x1 x2 x3 x4 x5 x6 x7 x8 x9 x10 x11 x12 x13 x14 true x16 x17 x18 x19))
     (.ite (decide (x0=(4:Int)))
      (.jump (.c6 x1 x2 x3 x4 x5 x6 x7 x8 x9 x10 x11 x12 x13 x14 x15 true x17 x18 x19))
      (.ite (decide (x0=(5:Int)))
       (.jump (.c6 x1 x2 x3 x4 x5 x6 x7 x8 x9 x10 x11 x12 x13 x14 x15 x16 true x18 x19))
       (.ite (decide (x0=(6:Int)))
        (.jump (.c6 x1 x2 x3 x4 x5 x6 x7 x8 x9 x10 x11 x12 x13 x14 x15 x16 x17 true x19))
        (.ite (decide (x0=(7:Int)))
         (.jump (.c6 x1 x2 x3 x4 x5 x6 x7 x8 x9 x10 x11 x12 x13 x14 x15 x16 x17 x18 true))
         (.fail))))))))
 | .c6 x0 x1 x2 x3 x4 x5 x6 x7 x8 x9 x10 x11 x12 x13 x14 x15 x16 x17 x18=>
 .jump (.c2 x0 x1 (wr (x2+(1:Int))) x3 x4 x5 x6 x7 x8 x9 x10 x11 x12 x13 x14 x15 x16 x17 x18)
def f (a0 a1 a2:Int) (a3 a4 a5 a6 a7 a8 a9 a10 a11 a12 a13 a14 a15 a16 a17 a18:Bool):Option A:=(begin a0 a1 a2 a3 a4 a5 a6 a7 a8 a9 a10 a11 a12 a13 a14 a15 a16 a17 a18).run (lp tree)
def Q:bE C:={PL with fM:=[(2,[0,7,8,9,26]),(5,[0,5,7,8,9,26]),(6,[0,7,8,9,26])]}
theorem e:df Pg C Q Tryz.f240 1 id st v o tree:=fun J K x=>by cases x<;>kernel_rfl
def told (a0 a1 a2:Int) (a3 a4 a5 a6 a7 a8 a9 a10 a11 a12 a13 a14 a15 a16 a17 a18:Bool):aa.Told A:=⟨f a0 a1 a2 a3 a4 a5 a6 a7 a8 a9 a10 a11 a12 a13 a14 a15 a16 a17 a18,fun r=>ae Pg C 240 (S a0 a1 a2 a3 a4 a5 a6 a7 a8 a9 a10 a11 a12 a13 a14 a15 a16 a17 a18) 1 (v r) (o r),fun r h=>dy v o Tryz.func240 rfl (of_decide_eq_true (by kernel_rfl)) (by rfl) (fun _=>rfl) e (fun J K=>by kernel_rfl) h⟩
end bo
namespace cT
def S (a0:List aw) (a1:Int):List (PV U):=aa.start C 33 [.sl 204 a0,.int .i64 a1] []
inductive X where
 | c3 (x0:List aw) (x1 x2:Int)
def id:X→Nat
 | .c3 .. =>3
def st:X→List (PV U)
 | .c3 x0 x1 x2=>eA 33 [(0,.sl 204 x0),(5,.int .i64 x1),(6,.int .i64 x2)]
def begin (a0:List aw) (a1:Int):Tr X A:=
 .jump (.c3 a0 (0:Int) a1)
def tree:X→Tr X A
 | .c3 x0 x1 x2=>
 .ite (decide (x2<(List.length x0:Int)))
  (.aC ((0:Int)≤x2∧x2<(List.length x0:Int)) (.call (bN.told ((ak x0 x2).f0)) fun t1=> .ite t1
   (.aC ((0:Int)≤x2∧x2<(List.length x0:Int)) (.ite (decide ((ak x0 x2).f0=(6:Int)))
    (.ite (decide ((wr ((wr (x1+(1:Int)))-(1:Int)))=(0:Int)))
     (.ret x2)
     (.jump (.c3 x0 (wr ((wr (x1+(1:Int)))-(1:Int))) (wr (x2+(1:Int))))))
    (.ite (decide ((wr (x1+(1:Int)))=(0:Int)))
     (.ret x2)
     (.jump (.c3 x0 (wr (x1+(1:Int))) (wr (x2+(1:Int))))))))
   (.aC ((0:Int)≤x2∧x2<(List.length x0:Int)) (.ite (decide ((ak x0 x2).f0=(6:Int)))
    (.ite (decide ((wr (x1-(1:Int)))=(0:Int)))
     (.ret x2)
     (.jump (.c3 x0 (wr (x1-(1:Int))) (wr (x2+(1:Int))))))
    (.ite (decide (x1=(0:Int)))
     (.ret x2)
     (.jump (.c3 x0 x1 (wr (x2+(1:Int))))))))))
  (.ret ((-1:Int)))
def f (a0:List aw) (a1:Int):Option A:=(begin a0 a1).run (lp tree)
def Q:bE C:={PL with fM:=[(3,[0,5,6])]}
theorem e:df Pg C Q Tryz.f216 0 id st v o tree:=fun J K x=>by cases x<;>kernel_rfl
def told (a0:List aw) (a1:Int):aa.Told A:=⟨f a0 a1,fun r=>ae Pg C 216 (S a0 a1) 0 (v r) (o r),fun r h=>dy v o Tryz.func216 rfl (of_decide_eq_true (by kernel_rfl)) (by rfl) (fun _=>rfl) e (fun J K=>by kernel_rfl) h⟩
end cT
end
end Go.Proofs.YtmapddgocpkgeaaGreat.Ev
