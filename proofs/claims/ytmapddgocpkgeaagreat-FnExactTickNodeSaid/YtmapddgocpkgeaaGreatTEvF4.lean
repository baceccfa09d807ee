/- Functions as trees, with their contracts. No conditions. -/
import Derived.Test.YtmapddgocpkgeaaGreatTEvF3
namespace Go.Proofs.YtmapddgocpkgeaaGreat.Ev
open Go.Proofs.YtmapddgocpkgeaaGreat.aa Go.RowKit
set_option linter.unusedVariables false
set_option maxRecDepth 100000
noncomputable section
namespace bn
def S (a0 a1 a2:Int) (a3 a4 a5 a6 a7 a8 a9 a10 a11 a12 a13 a14 a15 a16 a17 a18:Bool):List (PV U):=aa.start C 26 [.ptr 26 0,.agg [.int .i64 a0,.int .i64 a1,.int .i64 a2]] [.box [.bool a3,.bool a4,.bool a5,.bool a6,.bool a7,.bool a8,.bool a9,.bool a10,.bool a11,.bool a12,.bool a13,.bool a14,.bool a15,.bool a16,.bool a17,.bool a18]]
inductive X where
 | c2 (x0:List Int) (x1 x2:Int) (x3 x4 x5 x6 x7 x8 x9 x10 x11 x12 x13 x14 x15 x16 x17 x18:Bool)
 | c5 (x0:Int) (x1:List Int) (x2 x3:Int) (x4 x5 x6 x7 x8 x9 x10 x11 x12 x13 x14 x15 x16 x17 x18 x19:Bool)
 | c6 (x0:List Int) (x1 x2:Int) (x3 x4 x5 x6 x7 x8 x9 x10 x11 x12 x13 x14 x15 x16 x17 x18:Bool)
def id:X→Nat
 | .c2 .. =>2
 | .c5 .. =>5
 | .c6 .. =>6
def st:X→List (PV U)
 | .c2 x0 x1 x2 x3 x4 x5 x6 x7 x8 x9 x10 x11 x12 x13 x14 x15 x16 x17 x18=>eH 27 [(0,.ptr 26 0),(7,.own true 3 x0),(8,.int .i64 x1),(9,.int .i64 x2),(26,.box [.bool x3,.bool x4,.bool x5,.bool x6,.bool x7,.bool x8,.bool x9,.bool x10,.bool x11,.bool x12,.bool x13,.bool x14,.bool x15,.bool x16,.bool x17,.bool x18])]
 | .c5 x0 x1 x2 x3 x4 x5 x6 x7 x8 x9 x10 x11 x12 x13 x14 x15 x16 x17 x18 x19=>eH 27 [(0,.ptr 26 0),(5,.int .i64 x0),(7,.own true 3 x1),(8,.int .i64 x2),(9,.int .i64 x3),(26,.box [.bool x4,.bool x5,.bool x6,.bool x7,.bool x8,.bool x9,.bool x10,.bool x11,.bool x12,.bool x13,.bool x14,.bool x15,.bool x16,.bool x17,.bool x18,.bool x19])]
 | .c6 x0 x1 x2 x3 x4 x5 x6 x7 x8 x9 x10 x11 x12 x13 x14 x15 x16 x17 x18=>eH 27 [(0,.ptr 26 0),(7,.own true 3 x0),(8,.int .i64 x1),(9,.int .i64 x2),(26,.box [.bool x3,.bool x4,.bool x5,.bool x6,.bool x7,.bool x8,.bool x9,.bool x10,.bool x11,.bool x12,.bool x13,.bool x14,.bool x15,.bool x16,.bool x17,.bool x18])]
def begin (a0 a1 a2:Int) (a3 a4 a5 a6 a7 a8 a9 a10 a11 a12 a13 a14 a15 a16 a17 a18:Bool):Tr X A:=
 .call (cU.told a0 a1 a2) fun t1=> .jump (.c2 t1 (List.length t1:Int) (0:Int) a3 a4 a5 a6 a7 a8 a9 a10 a11 a12 a13 a14 a15 a16 a17 a18)
def tree:X→Tr X A
 | .c2 x0 x1 x2 x3 x4 x5 x6 x7 x8 x9 x10 x11 x12 x13 x14 x15 x16 x17 x18=>
 let u0_0:Tr X A:=(.jump (.c6 x0 x1 x2 x3 x4 x5 x6 x7 x8 x9 x10 x11 x12 x13 x14 x15 x16 x17 x18));let u0_1:Tr X A:=(.jump (.c5 (eG x0 x2) x0 x1 x2 x3 x4 x5 x6 x7 x8 x9 x10 x11 x12 x13 x14 x15 x16 x17 x18)); .ite (decide (x2<x1))
  (.aG ((0:Int)≤x2∧x2<(List.length x0:Int)) (.ite (decide ((eG x0 x2)=(0:Int)))
   (.ite (!x3)
    (u0_1)
    (u0_0))
   (.ite (decide ((eG x0 x2)=(1:Int)))
    (.ite (!x4)
     (u0_1)
     (u0_0))
    (.ite (decide ((eG x0 x2)=(2:Int)))
     (.ite (!x5)
      (u0_1)
      (u0_0))
     (.ite (decide ((eG x0 x2)=(3:Int)))
      (.ite (!x6)
       (u0_1)
       (u0_0))
      (.ite (decide ((eG x0 x2)=(4:Int)))
       (.ite (!x7)
        (u0_1)
        (u0_0))
       (.ite (decide ((eG x0 x2)=(5:Int)))
        (.ite (!x8)
         (u0_1)
         (u0_0))
        (.ite (decide ((eG x0 x2)=(6:Int)))
         (.ite (!x9)
          (u0_1)
          (u0_0))
         (.ite (decide ((eG x0 x2)=(7:Int)))
          (.ite (!x10)
           (u0_1)
           (u0_0))
          (.fail))))))))))
  (.ret (x3,x4,x5,x6,x7,x8,x9,x10,x11,x12,x13,x14,x15,x16,x17,x18))
 | .c5 x0 x1 x2 x3 x4 x5 x6 x7 x8 x9 x10 x11 x12 x13 x14 x15 x16 x17 x18 x19=>
 .ite (decide (x0=(0:Int)))
  (.jump (.c6 x1 x2 x3 x4 x5 x6 x7 x8 x9 x10 x11 true x13 x14 x15 x16 x17 x18 x19))
  (.ite (decide (x0=(1:Int)))
   (.jump (.c6 x1 x2 x3 x4 x5 x6 x7 x8 x9 x10 x11 x12 true x14 x15 x16 x17 x18 x19))
   (.ite (decide (x0=(2:Int)))
    (.jump (.c6 x1 x2 x3 x4 x5 x6 x7 x8 x9 x10 x11 x12 x13 true x15 x16 x17 x18 x19))
    (.ite (decide (x0=(3:Int)))
     (.jump (.c6 x1 x2 x3 x4 x5 x6 x7 x8 x9 x10 x11 x12 x13 x14 true x16 x17 x18 x19))
     (.ite (decide (x0=(4:Int)))
      (.jump (.c6 x1 x2 x3 x4 x5 x6 x7 x8 x9 x10 x11 x12 x13 x14 x15 true x17 x18 x19))
      (.ite (decide (x0=(5:Int)))
       (.jump (.c6 x1 x2 x3 x4 x5 x6 x7 x8 x9 x10 x11 x12 x13 x14 x15 x16 true x18 x19))
       (.ite (decide (x0=(6:Int)))
        (.jump (.c6 x1 x2 x3 x4 x5 x6 x7 x8 x9 x10 x11 x12 x13 x14 x15 x16 x17 true x19))
        (.ite (decide (x0=(7:Int)))
         (.jump (.c6 x1 x2 x3 x4 x5 x6 x7 x8 x9 x10 x11 x12 x13 x14 x15 x16 x17 x18 true))
         (.fail))))))))
 | .c6 x0 x1 x2 x3 x4 x5 x6 x7 x8 x9 x10 x11 x12 x13 x14 x15 x16 x17 x18=>
 .jump (.c2 x0 x1 (wr (x2+(1:Int))) x3 x4 x5 x6 x7 x8 x9 x10 x11 x12 x13 x14 x15 x16 x17 x18)
def f (a0 a1 a2:Int) (a3 a4 a5 a6 a7 a8 a9 a10 a11 a12 a13 a14 a15 a16 a17 a18:Bool):Option A:=(begin a0 a1 a2 a3 a4 a5 a6 a7 a8 a9 a10 a11 a12 a13 a14 a15 a16 a17 a18).run (lp tree)
def Q:aE C:={PL with aU:=[(2,[0,7,8,9,26]),(5,[0,5,7,8,9,26]),(6,[0,7,8,9,26])],aT:=[],aQ:=[]}
theorem e:ay Pg C Q Tryz.f240 1 id st v o tree:=fun J K x=>by cases x<;>kernel_rfl
theorem b (a0 a1 a2:Int) (a3 a4 a5 a6 a7 a8 a9 a10 a11 a12 a13 a14 a15 a16 a17 a18:Bool):ax Pg C Q Tryz.f240 1 id st v o (S a0 a1 a2 a3 a4 a5 a6 a7 a8 a9 a10 a11 a12 a13 a14 a15 a16 a17 a18) (begin a0 a1 a2 a3 a4 a5 a6 a7 a8 a9 a10 a11 a12 a13 a14 a15 a16 a17 a18):=fun J K=>by kernel_rfl
def told (a0 a1 a2:Int) (a3 a4 a5 a6 a7 a8 a9 a10 a11 a12 a13 a14 a15 a16 a17 a18:Bool):aa.Told A:=⟨f a0 a1 a2 a3 a4 a5 a6 a7 a8 a9 a10 a11 a12 a13 a14 a15 a16 a17 a18,fun r=>af Pg C 240 (S a0 a1 a2 a3 a4 a5 a6 a7 a8 a9 a10 a11 a12 a13 a14 a15 a16 a17 a18) 1 (v r) (o r),fun r h=>ae G mixed Q Tryz.func240 rfl (of_decide_eq_true (by kernel_rfl)) (by rfl) id st v o (fun _=>rfl) tree e (begin a0 a1 a2 a3 a4 a5 a6 a7 a8 a9 a10 a11 a12 a13 a14 a15 a16 a17 a18) (b a0 a1 a2 a3 a4 a5 a6 a7 a8 a9 a10 a11 a12 a13 a14 a15 a16 a17 a18) h⟩
end bn
namespace cM
def S (a0:List aq) (a1:Int):List (PV U):=aa.start C 33 [.sl 204 a0,.int .i64 a1] []
inductive X where
 | c3 (x0:List aq) (x1 x2:Int)
def id:X→Nat
 | .c3 .. =>3
def st:X→List (PV U)
 | .c3 x0 x1 x2=>eH 33 [(0,.sl 204 x0),(5,.int .i64 x1),(6,.int .i64 x2)]
def begin (a0:List aq) (a1:Int):Tr X A:=
 .jump (.c3 a0 (0:Int) a1)
def tree:X→Tr X A
 | .c3 x0 x1 x2=>
 .ite (decide (x2<(List.length x0:Int)))
  (.aG ((0:Int)≤x2∧x2<(List.length x0:Int)) (.call (bJ.told ((ah x0 x2).f0)) fun t1=> .ite t1
   (.aG ((0:Int)≤x2∧x2<(List.length x0:Int)) (.ite (decide ((ah x0 x2).f0=(6:Int)))
    (.ite (decide ((wr ((wr (x1+(1:Int)))-(1:Int)))=(0:Int)))
     (.ret x2)
     (.jump (.c3 x0 (wr ((wr (x1+(1:Int)))-(1:Int))) (wr (x2+(1:Int))))))
    (.ite (decide ((wr (x1+(1:Int)))=(0:Int)))
     (.ret x2)
     (.jump (.c3 x0 (wr (x1+(1:Int))) (wr (x2+(1:Int))))))))
   (.aG ((0:Int)≤x2∧x2<(List.length x0:Int)) (.ite (decide ((ah x0 x2).f0=(6:Int)))
    (.ite (decide ((wr (x1-(1:Int)))=(0:Int)))
     (.ret x2)
     (.jump (.c3 x0 (wr (x1-(1:Int))) (wr (x2+(1:Int))))))
    (.ite (decide (x1=(0:Int)))
     (.ret x2)
     (.jump (.c3 x0 x1 (wr (x2+(1:Int))))))))))
  (.ret ((-1:Int)))
def f (a0:List aq) (a1:Int):Option A:=(begin a0 a1).run (lp tree)
def Q:aE C:={PL with aU:=[(3,[0,5,6])],aT:=[],aQ:=[]}
theorem e:ay Pg C Q Tryz.f216 0 id st v o tree:=fun J K x=>by cases x<;>kernel_rfl
theorem b (a0:List aq) (a1:Int):ax Pg C Q Tryz.f216 0 id st v o (S a0 a1) (begin a0 a1):=fun J K=>by kernel_rfl
def told (a0:List aq) (a1:Int):aa.Told A:=⟨f a0 a1,fun r=>af Pg C 216 (S a0 a1) 0 (v r) (o r),fun r h=>ae G mixed Q Tryz.func216 rfl (of_decide_eq_true (by kernel_rfl)) (by rfl) id st v o (fun _=>rfl) tree e (begin a0 a1) (b a0 a1) h⟩
end cM
namespace aD
def S (a0:List aq) (a1 a2 a3 a4 a5 a6 a7 a8 a9 a10 a11 a12 a13 a14 a15 a16:Bool):List (PV U):=aa.start C 56 [.ptr 56 0,.sl 204 a0] [.box [.bool a1,.bool a2,.bool a3,.bool a4,.bool a5,.bool a6,.bool a7,.bool a8,.bool a9,.bool a10,.bool a11,.bool a12,.bool a13,.bool a14,.bool a15,.bool a16]]
abbrev I:=(List aq)×Bool×Bool×Bool×Bool×Bool×Bool×Bool×Bool×Bool×Bool×Bool×Bool×Bool×Bool×Bool×Bool
abbrev K:I→A→Prop:=fun i_ r=>af Pg C 239 (S i_.1 i_.2.1 i_.2.2.1 i_.2.2.2.1 i_.2.2.2.2.1 i_.2.2.2.2.2.1 i_.2.2.2.2.2.2.1 i_.2.2.2.2.2.2.2.1 i_.2.2.2.2.2.2.2.2.1 i_.2.2.2.2.2.2.2.2.2.1 i_.2.2.2.2.2.2.2.2.2.2.1 i_.2.2.2.2.2.2.2.2.2.2.2.1 i_.2.2.2.2.2.2.2.2.2.2.2.2.1 i_.2.2.2.2.2.2.2.2.2.2.2.2.2.1 i_.2.2.2.2.2.2.2.2.2.2.2.2.2.2.1 i_.2.2.2.2.2.2.2.2.2.2.2.2.2.2.2.1 i_.2.2.2.2.2.2.2.2.2.2.2.2.2.2.2.2) 1 (v r) (o r)
inductive X where
 | c1 (x0:List aq) (x1:Int) (x2 x3 x4 x5 x6 x7 x8 x9 x10 x11 x12 x13 x14 x15 x16 x17:Bool)
 | c8 (x0:List aq) (x1 x2 x3 x4 x5 x6 x7:Int) (x8 x9 x10 x11 x12 x13 x14 x15 x16 x17 x18 x19 x20 x21 x22 x23:Bool)
 | C5 (x0:List aq) (x1 x2:Int) (x3 x4 x5 x6 x7 x8 x9 x10 x11 x12 x13 x14 x15 x16 x17 x18 x19 x20 x21 x22 x23 x24 x25 x26:Bool)
def id:X→Nat
 | .c1 .. =>1
 | .c8 .. =>8
 | .C5 .. =>11
def st:X→List (PV U)
 | .c1 x0 x1 x2 x3 x4 x5 x6 x7 x8 x9 x10 x11 x12 x13 x14 x15 x16 x17=>eH 57 [(0,.ptr 56 0),(1,.sl 204 x0),(4,.int .i64 x1),(56,.box [.bool x2,.bool x3,.bool x4,.bool x5,.bool x6,.bool x7,.bool x8,.bool x9,.bool x10,.bool x11,.bool x12,.bool x13,.bool x14,.bool x15,.bool x16,.bool x17])]
 | .c8 x0 x1 x2 x3 x4 x5 x6 x7 x8 x9 x10 x11 x12 x13 x14 x15 x16 x17 x18 x19 x20 x21 x22 x23=>eH 57 [(0,.ptr 56 0),(1,.sl 204 x0),(4,.int .i64 x1),(5,.box [.int .i64 x2,.int .i64 x3,.int .i64 x4,.int .i64 x5,.int .i64 x6,.int .i64 x7]),(56,.box [.bool x8,.bool x9,.bool x10,.bool x11,.bool x12,.bool x13,.bool x14,.bool x15,.bool x16,.bool x17,.bool x18,.bool x19,.bool x20,.bool x21,.bool x22,.bool x23])]
 | .C5 x0 x1 x2 x3 x4 x5 x6 x7 x8 x9 x10 x11 x12 x13 x14 x15 x16 x17 x18 x19 x20 x21 x22 x23 x24 x25 x26=>eH 57 [(0,.ptr 56 0),(1,.sl 204 x0),(4,.int .i64 x1),(6,.int .i64 x2),(7,.box [.bool x3,.bool x4,.bool x5,.bool x6,.bool x7,.bool x8,.bool x9,.bool x10]),(56,.box [.bool x11,.bool x12,.bool x13,.bool x14,.bool x15,.bool x16,.bool x17,.bool x18,.bool x19,.bool x20,.bool x21,.bool x22,.bool x23,.bool x24,.bool x25,.bool x26])]
def begin (self_:Self I A K) (a0:List aq) (a1 a2 a3 a4 a5 a6 a7 a8 a9 a10 a11 a12 a13 a14 a15 a16:Bool):Tr X A:=
 .jump (.c1 a0 (0:Int) a1 a2 a3 a4 a5 a6 a7 a8 a9 a10 a11 a12 a13 a14 a15 a16)
def tree (self_:Self I A K):X→Tr X A
 | .c1 x0 x1 x2 x3 x4 x5 x6 x7 x8 x9 x10 x11 x12 x13 x14 x15 x16 x17=>
 .ite (decide (x1<(List.length x0:Int)))
  (.aG ((0:Int)≤x1∧x1<(List.length x0:Int)) (.call (cS.told ((ah x0 x1).f0)) fun t1=> .ite t1
   (.call (bn.told ((ah x0 x1).f3.f0) ((ah x0 x1).f3.f1) ((ah x0 x1).f3.f2) x2 x3 x4 x5 x6 x7 x8 x9 x10 x11 x12 x13 x14 x15 x16 x17) fun t2=> .call (bT.told ((ah x0 x1).f0)) fun t3=> .ite t3
    (.ite (decide ((ah x0 x1).f1=(0:Int)))
     (.last (.jump (.c8 x0 x1 ((ah x0 x1).f0) ((ah x0 x1).f1) ((ah x0 x1).f2) ((ah x0 x1).f3.f0) ((ah x0 x1).f3.f1) ((ah x0 x1).f3.f2) true t2.2.1 t2.2.2.1 t2.2.2.2.1 t2.2.2.2.2.1 t2.2.2.2.2.2.1 t2.2.2.2.2.2.2.1 t2.2.2.2.2.2.2.2.1 t2.2.2.2.2.2.2.2.2.1 t2.2.2.2.2.2.2.2.2.2.1 t2.2.2.2.2.2.2.2.2.2.2.1 t2.2.2.2.2.2.2.2.2.2.2.2.1 t2.2.2.2.2.2.2.2.2.2.2.2.2.1 t2.2.2.2.2.2.2.2.2.2.2.2.2.2.1 t2.2.2.2.2.2.2.2.2.2.2.2.2.2.2.1 t2.2.2.2.2.2.2.2.2.2.2.2.2.2.2.2)))
     (.ite (decide ((ah x0 x1).f1=(1:Int)))
      (.last (.jump (.c8 x0 x1 ((ah x0 x1).f0) ((ah x0 x1).f1) ((ah x0 x1).f2) ((ah x0 x1).f3.f0) ((ah x0 x1).f3.f1) ((ah x0 x1).f3.f2) t2.1 true t2.2.2.1 t2.2.2.2.1 t2.2.2.2.2.1 t2.2.2.2.2.2.1 t2.2.2.2.2.2.2.1 t2.2.2.2.2.2.2.2.1 t2.2.2.2.2.2.2.2.2.1 t2.2.2.2.2.2.2.2.2.2.1 t2.2.2.2.2.2.2.2.2.2.2.1 t2.2.2.2.2.2.2.2.2.2.2.2.1 t2.2.2.2.2.2.2.2.2.2.2.2.2.1 t2.2.2.2.2.2.2.2.2.2.2.2.2.2.1 t2.2.2.2.2.2.2.2.2.2.2.2.2.2.2.1 t2.2.2.2.2.2.2.2.2.2.2.2.2.2.2.2)))
      (.ite (decide ((ah x0 x1).f1=(2:Int)))
       (.last (.jump (.c8 x0 x1 ((ah x0 x1).f0) ((ah x0 x1).f1) ((ah x0 x1).f2) ((ah x0 x1).f3.f0) ((ah x0 x1).f3.f1) ((ah x0 x1).f3.f2) t2.1 t2.2.1 true t2.2.2.2.1 t2.2.2.2.2.1 t2.2.2.2.2.2.1 t2.2.2.2.2.2.2.1 t2.2.2.2.2.2.2.2.1 t2.2.2.2.2.2.2.2.2.1 t2.2.2.2.2.2.2.2.2.2.1 t2.2.2.2.2.2.2.2.2.2.2.1 t2.2.2.2.2.2.2.2.2.2.2.2.1 t2.2.2.2.2.2.2.2.2.2.2.2.2.1 t2.2.2.2.2.2.2.2.2.2.2.2.2.2.1 t2.2.2.2.2.2.2.2.2.2.2.2.2.2.2.1 t2.2.2.2.2.2.2.2.2.2.2.2.2.2.2.2)))
       (.ite (decide ((ah x0 x1).f1=(3:Int)))
        (.last (.jump (.c8 x0 x1 ((ah x0 x1).f0) ((ah x0 x1).f1) ((ah x0 x1).f2) ((ah x0 x1).f3.f0) ((ah x0 x1).f3.f1) ((ah x0 x1).f3.f2) t2.1 t2.2.1 t2.2.2.1 true t2.2.2.2.2.1 t2.2.2.2.2.2.1 t2.2.2.2.2.2.2.1 t2.2.2.2.2.2.2.2.1 t2.2.2.2.2.2.2.2.2.1 t2.2.2.2.2.2.2.2.2.2.1 t2.2.2.2.2.2.2.2.2.2.2.1 t2.2.2.2.2.2.2.2.2.2.2.2.1 t2.2.2.2.2.2.2.2.2.2.2.2.2.1 t2.2.2.2.2.2.2.2.2.2.2.2.2.2.1 t2.2.2.2.2.2.2.2.2.2.2.2.2.2.2.1 t2.2.2.2.2.2.2.2.2.2.2.2.2.2.2.2)))
        (.ite (decide ((ah x0 x1).f1=(4:Int)))
         (.last (.jump (.c8 x0 x1 ((ah x0 x1).f0) ((ah x0 x1).f1) ((ah x0 x1).f2) ((ah x0 x1).f3.f0) ((ah x0 x1).f3.f1) ((ah x0 x1).f3.f2) t2.1 t2.2.1 t2.2.2.1 t2.2.2.2.1 true t2.2.2.2.2.2.1 t2.2.2.2.2.2.2.1 t2.2.2.2.2.2.2.2.1 t2.2.2.2.2.2.2.2.2.1 t2.2.2.2.2.2.2.2.2.2.1 t2.2.2.2.2.2.2.2.2.2.2.1 t2.2.2.2.2.2.2.2.2.2.2.2.1 t2.2.2.2.2.2.2.2.2.2.2.2.2.1 t2.2.2.2.2.2.2.2.2.2.2.2.2.2.1 t2.2.2.2.2.2.2.2.2.2.2.2.2.2.2.1 t2.2.2.2.2.2.2.2.2.2.2.2.2.2.2.2)))
         (.ite (decide ((ah x0 x1).f1=(5:Int)))
          (.last (.jump (.c8 x0 x1 ((ah x0 x1).f0) ((ah x0 x1).f1) ((ah x0 x1).f2) ((ah x0 x1).f3.f0) ((ah x0 x1).f3.f1) ((ah x0 x1).f3.f2) t2.1 t2.2.1 t2.2.2.1 t2.2.2.2.1 t2.2.2.2.2.1 true t2.2.2.2.2.2.2.1 t2.2.2.2.2.2.2.2.1 t2.2.2.2.2.2.2.2.2.1 t2.2.2.2.2.2.2.2.2.2.1 t2.2.2.2.2.2.2.2.2.2.2.1 t2.2.2.2.2.2.2.2.2.2.2.2.1 t2.2.2.2.2.2.2.2.2.2.2.2.2.1 t2.2.2.2.2.2.2.2.2.2.2.2.2.2.1 t2.2.2.2.2.2.2.2.2.2.2.2.2.2.2.1 t2.2.2.2.2.2.2.2.2.2.2.2.2.2.2.2)))
          (.ite (decide ((ah x0 x1).f1=(6:Int)))
           (.last (.jump (.c8 x0 x1 ((ah x0 x1).f0) ((ah x0 x1).f1) ((ah x0 x1).f2) ((ah x0 x1).f3.f0) ((ah x0 x1).f3.f1) ((ah x0 x1).f3.f2) t2.1 t2.2.1 t2.2.2.1 t2.2.2.2.1 t2.2.2.2.2.1 t2.2.2.2.2.2.1 true t2.2.2.2.2.2.2.2.1 t2.2.2.2.2.2.2.2.2.1 t2.2.2.2.2.2.2.2.2.2.1 t2.2.2.2.2.2.2.2.2.2.2.1 t2.2.2.2.2.2.2.2.2.2.2.2.1 t2.2.2.2.2.2.2.2.2.2.2.2.2.1 t2.2.2.2.2.2.2.2.2.2.2.2.2.2.1 t2.2.2.2.2.2.2.2.2.2.2.2.2.2.2.1 t2.2.2.2.2.2.2.2.2.2.2.2.2.2.2.2)))
           (.ite (decide ((ah x0 x1).f1=(7:Int)))
            (.last (.jump (.c8 x0 x1 ((ah x0 x1).f0) ((ah x0 x1).f1) ((ah x0 x1).f2) ((ah x0 x1).f3.f0) ((ah x0 x1).f3.f1) ((ah x0 x1).f3.f2) t2.1 t2.2.1 t2.2.2.1 t2.2.2.2.1 t2.2.2.2.2.1 t2.2.2.2.2.2.1 t2.2.2.2.2.2.2.1 true t2.2.2.2.2.2.2.2.2.1 t2.2.2.2.2.2.2.2.2.2.1 t2.2.2.2.2.2.2.2.2.2.2.1 t2.2.2.2.2.2.2.2.2.2.2.2.1 t2.2.2.2.2.2.2.2.2.2.2.2.2.1 t2.2.2.2.2.2.2.2.2.2.2.2.2.2.1 t2.2.2.2.2.2.2.2.2.2.2.2.2.2.2.1 t2.2.2.2.2.2.2.2.2.2.2.2.2.2.2.2)))
            (.fail)))))))))
    (.jump (.c8 x0 x1 ((ah x0 x1).f0) ((ah x0 x1).f1) ((ah x0 x1).f2) ((ah x0 x1).f3.f0) ((ah x0 x1).f3.f1) ((ah x0 x1).f3.f2) t2.1 t2.2.1 t2.2.2.1 t2.2.2.2.1 t2.2.2.2.2.1 t2.2.2.2.2.2.1 t2.2.2.2.2.2.2.1 t2.2.2.2.2.2.2.2.1 t2.2.2.2.2.2.2.2.2.1 t2.2.2.2.2.2.2.2.2.2.1 t2.2.2.2.2.2.2.2.2.2.2.1 t2.2.2.2.2.2.2.2.2.2.2.2.1 t2.2.2.2.2.2.2.2.2.2.2.2.2.1 t2.2.2.2.2.2.2.2.2.2.2.2.2.2.1 t2.2.2.2.2.2.2.2.2.2.2.2.2.2.2.1 t2.2.2.2.2.2.2.2.2.2.2.2.2.2.2.2)))
   (.call (bT.told ((ah x0 x1).f0)) fun t2=> .ite t2
    (.ite (decide ((ah x0 x1).f1=(0:Int)))
     (.last (.jump (.c8 x0 x1 ((ah x0 x1).f0) ((ah x0 x1).f1) ((ah x0 x1).f2) ((ah x0 x1).f3.f0) ((ah x0 x1).f3.f1) ((ah x0 x1).f3.f2) true x3 x4 x5 x6 x7 x8 x9 x10 x11 x12 x13 x14 x15 x16 x17)))
     (.ite (decide ((ah x0 x1).f1=(1:Int)))
      (.last (.jump (.c8 x0 x1 ((ah x0 x1).f0) ((ah x0 x1).f1) ((ah x0 x1).f2) ((ah x0 x1).f3.f0) ((ah x0 x1).f3.f1) ((ah x0 x1).f3.f2) x2 true x4 x5 x6 x7 x8 x9 x10 x11 x12 x13 x14 x15 x16 x17)))
      (.ite (decide ((ah x0 x1).f1=(2:Int)))
       (.last (.jump (.c8 x0 x1 ((ah x0 x1).f0) ((ah x0 x1).f1) ((ah x0 x1).f2) ((ah x0 x1).f3.f0) ((ah x0 x1).f3.f1) ((ah x0 x1).f3.f2) x2 x3 true x5 x6 x7 x8 x9 x10 x11 x12 x13 x14 x15 x16 x17)))
       (.ite (decide ((ah x0 x1).f1=(3:Int)))
        (.last (.jump (.c8 x0 x1 ((ah x0 x1).f0) ((ah x0 x1).f1) ((ah x0 x1).f2) ((ah x0 x1).f3.f0) ((ah x0 x1).f3.f1) ((ah x0 x1).f3.f2) x2 x3 x4 true x6 x7 x8 x9 x10 x11 x12 x13 x14 x15 x16 x17)))
        (.ite (decide ((ah x0 x1).f1=(4:Int)))
         (.last (.jump (.c8 x0 x1 ((ah x0 x1).f0) ((ah x0 x1).f1) ((ah x0 x1).f2) ((ah x0 x1).f3.f0) ((ah x0 x1).f3.f1) ((ah x0 x1).f3.f2) x2 x3 x4 x5 true x7 x8 x9 x10 x11 x12 x13 x14 x15 x16 x17)))
         (.ite (decide ((ah x0 x1).f1=(5:Int)))
          (.last (.jump (.c8 x0 x1 ((ah x0 x1).f0) ((ah x0 x1).f1) ((ah x0 x1).f2) ((ah x0 x1).f3.f0) ((ah x0 x1).f3.f1) ((ah x0 x1).f3.f2) x2 x3 x4 x5 x6 true x8 x9 x10 x11 x12 x13 x14 x15 x16 x17)))
          (.ite (decide ((ah x0 x1).f1=(6:Int)))
           (.last (.jump (.c8 x0 x1 ((ah x0 x1).f0) ((ah x0 x1).f1) ((ah x0 x1).f2) ((ah x0 x1).f3.f0) ((ah x0 x1).f3.f1) ((ah x0 x1).f3.f2) x2 x3 x4 x5 x6 x7 true x9 x10 x11 x12 x13 x14 x15 x16 x17)))
           (.ite (decide ((ah x0 x1).f1=(7:Int)))
            (.last (.jump (.c8 x0 x1 ((ah x0 x1).f0) ((ah x0 x1).f1) ((ah x0 x1).f2) ((ah x0 x1).f3.f0) ((ah x0 x1).f3.f1) ((ah x0 x1).f3.f2) x2 x3 x4 x5 x6 x7 x8 true x10 x11 x12 x13 x14 x15 x16 x17)))
            (.fail)))))))))
    (.jump (.c8 x0 x1 ((ah x0 x1).f0) ((ah x0 x1).f1) ((ah x0 x1).f2) ((ah x0 x1).f3.f0) ((ah x0 x1).f3.f1) ((ah x0 x1).f3.f2) x2 x3 x4 x5 x6 x7 x8 x9 x10 x11 x12 x13 x14 x15 x16 x17)))))
  (.ret (x2,x3,x4,x5,x6,x7,x8,x9,x10,x11,x12,x13,x14,x15,x16,x17))
 | .c8 x0 x1 x2 x3 x4 x5 x6 x7 x8 x9 x10 x11 x12 x13 x14 x15 x16 x17 x18 x19 x20 x21 x22 x23=>
 .ite (decide (x2=(4:Int)))
  (.call (cM.told x0 x1) fun t1=> .jump (.C5 x0 x1 t1 x8 x9 x10 x11 x12 x13 x14 x15 x8 x9 x10 x11 x12 x13 x14 x15 x16 x17 x18 x19 x20 x21 x22 x23))
  (.jump (.c1 x0 (wr (x1+(1:Int))) x8 x9 x10 x11 x12 x13 x14 x15 x16 x17 x18 x19 x20 x21 x22 x23))
 | .C5 x0 x1 x2 x3 x4 x5 x6 x7 x8 x9 x10 x11 x12 x13 x14 x15 x16 x17 x18 x19 x20 x21 x22 x23 x24 x25 x26=>
 .aG ((0:Int)≤(wr (x1+(1:Int)))∧(wr (x1+(1:Int)))≤x2∧x2≤(List.length x0:Int)) (.call (self_.told ((List.drop (Int.toNat (wr (x1+(1:Int)))) (List.take (Int.toNat x2) x0)),x11,x12,x13,x14,x15,x16,x17,x18,x19,x20,x21,x22,x23,x24,x25,x26)) fun t1=> .jump (.c1 x0 (wr (x2+(1:Int))) x3 x4 x5 x6 x7 x8 x9 x10 t1.2.2.2.2.2.2.2.2.1 t1.2.2.2.2.2.2.2.2.2.1 t1.2.2.2.2.2.2.2.2.2.2.1 t1.2.2.2.2.2.2.2.2.2.2.2.1 t1.2.2.2.2.2.2.2.2.2.2.2.2.1 t1.2.2.2.2.2.2.2.2.2.2.2.2.2.1 t1.2.2.2.2.2.2.2.2.2.2.2.2.2.2.1 t1.2.2.2.2.2.2.2.2.2.2.2.2.2.2.2))
def Q:aE C:={PL with aU:=[(1,[0,1,4,56]),(8,[0,1,4,5,56]),(11,[0,1,4,6,7,56])],aT:=[(7,[6],(.take 0 [] (.take 1 [] (.take 3 [] (.take 4 [] (.take 2 [0,1,3,4] (.take 5 [] (.alt 6 .done .nil))))))))],aQ:=[]}
theorem e (self_:Self I A K):ay Pg C Q Tryz.f239 1 id st v o (tree self_):=fun J K x=>by cases x<;>kernel_rfl
theorem b (self_:Self I A K) (a0:List aq) (a1 a2 a3 a4 a5 a6 a7 a8 a9 a10 a11 a12 a13 a14 a15 a16:Bool):ax Pg C Q Tryz.f239 1 id st v o (S a0 a1 a2 a3 a4 a5 a6 a7 a8 a9 a10 a11 a12 a13 a14 a15 a16) (begin self_ a0 a1 a2 a3 a4 a5 a6 a7 a8 a9 a10 a11 a12 a13 a14 a15 a16):=fun J K=>by kernel_rfl
def step (self_:Self I A K):Self I A K:=⟨fun i_=>(begin self_ i_.1 i_.2.1 i_.2.2.1 i_.2.2.2.1 i_.2.2.2.2.1 i_.2.2.2.2.2.1 i_.2.2.2.2.2.2.1 i_.2.2.2.2.2.2.2.1 i_.2.2.2.2.2.2.2.2.1 i_.2.2.2.2.2.2.2.2.2.1 i_.2.2.2.2.2.2.2.2.2.2.1 i_.2.2.2.2.2.2.2.2.2.2.2.1 i_.2.2.2.2.2.2.2.2.2.2.2.2.1 i_.2.2.2.2.2.2.2.2.2.2.2.2.2.1 i_.2.2.2.2.2.2.2.2.2.2.2.2.2.2.1 i_.2.2.2.2.2.2.2.2.2.2.2.2.2.2.2.1 i_.2.2.2.2.2.2.2.2.2.2.2.2.2.2.2.2).run (lp (tree self_)),fun i_ r h=>ae G mixed Q Tryz.func239 rfl (of_decide_eq_true (by kernel_rfl)) (by rfl) id st v o (fun _=>rfl) (tree self_) (e self_) (begin self_ i_.1 i_.2.1 i_.2.2.1 i_.2.2.2.1 i_.2.2.2.2.1 i_.2.2.2.2.2.1 i_.2.2.2.2.2.2.1 i_.2.2.2.2.2.2.2.1 i_.2.2.2.2.2.2.2.2.1 i_.2.2.2.2.2.2.2.2.2.1 i_.2.2.2.2.2.2.2.2.2.2.1 i_.2.2.2.2.2.2.2.2.2.2.2.1 i_.2.2.2.2.2.2.2.2.2.2.2.2.1 i_.2.2.2.2.2.2.2.2.2.2.2.2.2.1 i_.2.2.2.2.2.2.2.2.2.2.2.2.2.2.1 i_.2.2.2.2.2.2.2.2.2.2.2.2.2.2.2.1 i_.2.2.2.2.2.2.2.2.2.2.2.2.2.2.2.2) (b self_ i_.1 i_.2.1 i_.2.2.1 i_.2.2.2.1 i_.2.2.2.2.1 i_.2.2.2.2.2.1 i_.2.2.2.2.2.2.1 i_.2.2.2.2.2.2.2.1 i_.2.2.2.2.2.2.2.2.1 i_.2.2.2.2.2.2.2.2.2.1 i_.2.2.2.2.2.2.2.2.2.2.1 i_.2.2.2.2.2.2.2.2.2.2.2.1 i_.2.2.2.2.2.2.2.2.2.2.2.2.1 i_.2.2.2.2.2.2.2.2.2.2.2.2.2.1 i_.2.2.2.2.2.2.2.2.2.2.2.2.2.2.1 i_.2.2.2.2.2.2.2.2.2.2.2.2.2.2.2.1 i_.2.2.2.2.2.2.2.2.2.2.2.2.2.2.2.2) h⟩
def f (a0:List aq) (a1 a2 a3 a4 a5 a6 a7 a8 a9 a10 a11 a12 a13 a14 a15 a16:Bool):Option A:=(Self.iter step 8).f (a0,a1,a2,a3,a4,a5,a6,a7,a8,a9,a10,a11,a12,a13,a14,a15,a16)
def told (a0:List aq) (a1 a2 a3 a4 a5 a6 a7 a8 a9 a10 a11 a12 a13 a14 a15 a16:Bool):aa.Told A:=⟨f a0 a1 a2 a3 a4 a5 a6 a7 a8 a9 a10 a11 a12 a13 a14 a15 a16,fun r=>af Pg C 239 (S a0 a1 a2 a3 a4 a5 a6 a7 a8 a9 a10 a11 a12 a13 a14 a15 a16) 1 (v r) (o r),fun r h=>(Self.iter step 8).ok (a0,a1,a2,a3,a4,a5,a6,a7,a8,a9,a10,a11,a12,a13,a14,a15,a16) r h⟩
end aD
namespace bq
def S (a0:List aq) (a1 a2 a3:Int):List (PV U):=aa.start C 36 [.agg [.sl 204 a0,.int .i64 a1,.int .i64 a2,.int .i64 a3]] []
inductive X where
 | c8 (x0:List Int) (x1 x2 x3 x4 x5 x6 x7 x8:Bool) (x9:Int)
def id:X→Nat
 | .c8 .. =>8
def st:X→List (PV U)
 | .c8 x0 x1 x2 x3 x4 x5 x6 x7 x8 x9=>eH 36 [(4,.own true 3 x0),(24,.agg [.bool x1,.bool x2,.bool x3,.bool x4,.bool x5,.bool x6,.bool x7,.bool x8]),(25,.int .i64 x9)]
def begin (a0:List aq) (a1 a2 a3:Int):Tr X A:=
 .call (de.told a0 a1 a2 a3) fun t1=> .ite (!t1)
  (.ret (([]:List Int)))
  (.call (aD.told a0 false false false false false false false false false false false false false false false false) fun t2=> .call (bn.told a1 a2 a3 t2.1 t2.2.1 t2.2.2.1 t2.2.2.2.1 t2.2.2.2.2.1 t2.2.2.2.2.2.1 t2.2.2.2.2.2.2.1 t2.2.2.2.2.2.2.2.1 t2.2.2.2.2.2.2.2.2.1 t2.2.2.2.2.2.2.2.2.2.1 t2.2.2.2.2.2.2.2.2.2.2.1 t2.2.2.2.2.2.2.2.2.2.2.2.1 t2.2.2.2.2.2.2.2.2.2.2.2.2.1 t2.2.2.2.2.2.2.2.2.2.2.2.2.2.1 t2.2.2.2.2.2.2.2.2.2.2.2.2.2.2.1 t2.2.2.2.2.2.2.2.2.2.2.2.2.2.2.2) fun t3=> .jump (.c8 ([]:List Int) t3.2.2.2.2.2.2.2.2.1 t3.2.2.2.2.2.2.2.2.2.1 t3.2.2.2.2.2.2.2.2.2.2.1 t3.2.2.2.2.2.2.2.2.2.2.2.1 t3.2.2.2.2.2.2.2.2.2.2.2.2.1 t3.2.2.2.2.2.2.2.2.2.2.2.2.2.1 t3.2.2.2.2.2.2.2.2.2.2.2.2.2.2.1 t3.2.2.2.2.2.2.2.2.2.2.2.2.2.2.2 (0:Int)))
def tree:X→Tr X A
 | .c8 x0 x1 x2 x3 x4 x5 x6 x7 x8 x9=>
 .ite (decide (x9<(8:Int)))
  (.aG ((0:Int)≤x9∧x9<(8:Int)) (.ite (List.getD [x1,x2,x3,x4,x5,x6,x7,x8] (Int.toNat x9) false)
   (.aG (((List.length x0:Int)+(List.length ([x9]):Int))*(8:Nat)≤room) (.jump (.c8 (x0++[x9]) x1 x2 x3 x4 x5 x6 x7 x8 (wr (x9+(1:Int))))))
   (.jump (.c8 x0 x1 x2 x3 x4 x5 x6 x7 x8 (wr (x9+(1:Int)))))))
  (.ret x0)
def f (a0:List aq) (a1 a2 a3:Int):Option A:=(begin a0 a1 a2 a3).run (lp tree)
def Q:aE C:={PL with aU:=[(8,[4,24,25])],aT:=[],aQ:=[]}
theorem e:ay Pg C Q Tryz.f209 0 id st v o tree:=fun J K x=>by cases x<;>kernel_rfl
theorem b (a0:List aq) (a1 a2 a3:Int):ax Pg C Q Tryz.f209 0 id st v o (S a0 a1 a2 a3) (begin a0 a1 a2 a3):=fun J K=>by kernel_rfl
def told (a0:List aq) (a1 a2 a3:Int):aa.Told A:=⟨f a0 a1 a2 a3,fun r=>af Pg C 209 (S a0 a1 a2 a3) 0 (v r) (o r),fun r h=>ae G mixed Q Tryz.func209 rfl (of_decide_eq_true (by kernel_rfl)) (by rfl) id st v o (fun _=>rfl) tree e (begin a0 a1 a2 a3) (b a0 a1 a2 a3) h⟩
end bq
namespace cu
def S (a0:Int) (a1:List Bool):List (PV U):=aa.start C 9 [.int .i64 a0,.ptr 9 0] [.box [.own true 4 a1]]
abbrev X:=Empty
def id:X→Nat:=fun _=>0
def st:X→List (PV U):=fun _=>[]
def begin (a0:Int) (a1:List Bool):Tr X A:=
 .aG ((0:Int)≤a0∧a0<(List.length a1:Int)) (.ret ((!(CP a1 a0)),a1))
def tree:X→Tr X A:=fun _=> .fail
def f (a0:Int) (a1:List Bool):Option A:=(begin a0 a1).run (lp tree)
def Q:aE C:={PL with aU:=[],aT:=[],aQ:=[]}
theorem e:ay Pg C Q Tryz.f242 1 id st v o tree:=fun J K x=>by cases x
theorem b (a0:Int) (a1:List Bool):ax Pg C Q Tryz.f242 1 id st v o (S a0 a1) (begin a0 a1):=fun J K=>by kernel_rfl
def told (a0:Int) (a1:List Bool):aa.Told A:=⟨f a0 a1,fun r=>af Pg C 242 (S a0 a1) 1 (v r) (o r),fun r h=>ae G mixed Q Tryz.func242 rfl (of_decide_eq_true (by kernel_rfl)) (by rfl) id st v o (fun _=>rfl) tree e (begin a0 a1) (b a0 a1) h⟩
end cu
namespace dJ
def S (a0:List aq) (a1:List Bool):List (PV U):=aa.start C 34 [.sl 204 a0,.fn 242 [.ptr 34 0]] [.box [.own true 4 a1]]
inductive X where
 | c3 (x0:List Int) (x1:List aq) (x2 x3:Int) (x4:List Bool)
def id:X→Nat
 | .c3 .. =>3
def st:X→List (PV U)
 | .c3 x0 x1 x2 x3 x4=>eH 35 [(1,.fn 242 [.ptr 34 0]),(5,.own true 3 x0),(9,.sl 204 x1),(10,.int .i64 x2),(11,.int .i64 x3),(34,.box [.own true 4 x4])]
def begin (a0:List aq) (a1:List Bool):Tr X A:=
 .jump (.c3 ([]:List Int) a0 (List.length a0:Int) (0:Int) a1)
def tree:X→Tr X A
 | .c3 x0 x1 x2 x3 x4=>
 .ite (decide (x3<x2))
  (.aG ((0:Int)≤x3∧x3<(List.length x1:Int)) (.call (bT.told ((ah x1 x3).f0)) fun t1=> .ite t1
   (.call (cu.told x3 x4) fun t2=> .ite t2.1
    (.aG (((List.length x0:Int)+(List.length ([(ah x1 x3).f1]):Int))*(8:Nat)≤room) (.jump (.c3 (x0++[(ah x1 x3).f1]) x1 x2 (wr (x3+(1:Int))) t2.2)))
    (.jump (.c3 x0 x1 x2 (wr (x3+(1:Int))) t2.2)))
   (.jump (.c3 x0 x1 x2 (wr (x3+(1:Int))) x4))))
  (.call (slices_Sort_int.told x0) fun t1=> .call (slices_Compact_int.told t1) fun t2=> .ret (t2,x4))
def f (a0:List aq) (a1:List Bool):Option A:=(begin a0 a1).run (lp tree)
def Q:aE C:={PL with aU:=[(3,[1,5,9,10,11,34])],aT:=[],aQ:=[]}
theorem e:ay Pg C Q Tryz.f241 1 id st v o tree:=fun J K x=>by cases x<;>kernel_rfl
theorem b (a0:List aq) (a1:List Bool):ax Pg C Q Tryz.f241 1 id st v o (S a0 a1) (begin a0 a1):=fun J K=>by kernel_rfl
def told (a0:List aq) (a1:List Bool):aa.Told A:=⟨f a0 a1,fun r=>af Pg C 241 (S a0 a1) 1 (v r) (o r),fun r h=>ae G mixed Q Tryz.func241 rfl (of_decide_eq_true (by kernel_rfl)) (by rfl) id st v o (fun _=>rfl) tree e (begin a0 a1) (b a0 a1) h⟩
end dJ
namespace bh
def S (a0:List aq):List (PV U):=aa.start C 38 [.sl 204 a0] []
inductive X where
 | c5 (x0:List aq) (x1:List Bool) (x2:List aq) (x3 x4:Int)
 | c9 (x0:List aq) (x1:List Bool) (x2 x3:Int) (x4:List aq) (x5 x6:Int)
def id:X→Nat
 | .c5 .. =>5
 | .c9 .. =>9
def st:X→List (PV U)
 | .c5 x0 x1 x2 x3 x4=>eH 38 [(0,.sl 204 x0),(3,.box [.own true 4 x1]),(13,.sl 204 x2),(14,.int .i64 x3),(15,.int .i64 x4)]
 | .c9 x0 x1 x2 x3 x4 x5 x6=>eH 38 [(0,.sl 204 x0),(3,.box [.own true 4 x1]),(4,.int .i64 x2),(6,.int .i64 x3),(13,.sl 204 x4),(14,.int .i64 x5),(15,.int .i64 x6)]
def begin (a0:List aq):Tr X A:=
 .call (bQ.told a0) fun t1=> .ite (!t1)
  (.ret (([]:List Int)))
  (.aG ((0:Int)≤(List.length a0:Int)∧(List.length a0:Int)≤(List.length a0:Int)∧(List.length a0:Int)*(1:Nat)≤room) (.jump (.c5 a0 (List.replicate (Int.toNat (List.length a0:Int)) false) a0 (List.length a0:Int) (0:Int))))
def tree:X→Tr X A
 | .c5 x0 x1 x2 x3 x4=>
 .ite (decide (x4<x3))
  (.aG ((0:Int)≤x4∧x4<(List.length x2:Int)) (.ite (decide ((ah x2 x4).f0=(4:Int)))
   (.jump (.c9 x0 x1 x4 x4 x2 x3 x4))
   (.jump (.c5 x0 x1 x2 x3 (wr (x4+(1:Int)))))))
  (.call (dJ.told x0 x1) fun t1=> .ret t1.1)
 | .c9 x0 x1 x2 x3 x4 x5 x6=>
 .call (cM.told x0 x2) fun t1=> .ite (decide (x3≤t1))
  (.aG ((0:Int)≤x3∧x3<(List.length x1:Int)) (.jump (.c9 x0 (List.set x1 (Int.toNat x3) true) x2 (wr (x3+(1:Int))) x4 x5 x6)))
  (.jump (.c5 x0 x1 x4 x5 (wr (x6+(1:Int)))))
def f (a0:List aq):Option A:=(begin a0).run (lp tree)
def Q:aE C:={PL with aU:=[(5,[0,3,13,14,15]),(9,[0,3,4,6,13,14,15])],aT:=[],aQ:=[]}
theorem e:ay Pg C Q Tryz.f210 0 id st v o tree:=fun J K x=>by cases x<;>kernel_rfl
theorem b (a0:List aq):ax Pg C Q Tryz.f210 0 id st v o (S a0) (begin a0):=fun J K=>by kernel_rfl
def told (a0:List aq):aa.Told A:=⟨f a0,fun r=>af Pg C 210 (S a0) 0 (v r) (o r),fun r h=>ae G mixed Q Tryz.func210 rfl (of_decide_eq_true (by kernel_rfl)) (by rfl) id st v o (fun _=>rfl) tree e (begin a0) (b a0) h⟩
end bh
namespace dA
def S (a0:Int):List (PV U):=aa.start C 3 [.int .i64 a0] []
abbrev X:=Empty
def id:X→Nat:=fun _=>0
def st:X→List (PV U):=fun _=>[]
def begin (a0:Int):Tr X A:=
 .ret true
def tree:X→Tr X A:=fun _=> .fail
def f (a0:Int):Option A:=(begin a0).run (lp tree)
def Q:aE C:={PL with aU:=[],aT:=[],aQ:=[]}
theorem e:ay Pg C Q Tryz.f243 0 id st v o tree:=fun J K x=>by cases x
theorem b (a0:Int):ax Pg C Q Tryz.f243 0 id st v o (S a0) (begin a0):=fun J K=>by kernel_rfl
def told (a0:Int):aa.Told A:=⟨f a0,fun r=>af Pg C 243 (S a0) 0 (v r) (o r),fun r h=>ae G mixed Q Tryz.func243 rfl (of_decide_eq_true (by kernel_rfl)) (by rfl) id st v o (fun _=>rfl) tree e (begin a0) (b a0) h⟩
end dA
namespace cC
def S (a0:List aq):List (PV U):=aa.start C 34 [.sl 204 a0,.fn 243 []] []
inductive X where
 | c3 (x0:List Int) (x1:List aq) (x2 x3:Int)
def id:X→Nat
 | .c3 .. =>3
def st:X→List (PV U)
 | .c3 x0 x1 x2 x3=>eH 34 [(1,.fn 243 []),(5,.own true 3 x0),(9,.sl 204 x1),(10,.int .i64 x2),(11,.int .i64 x3)]
def begin (a0:List aq):Tr X A:=
 .jump (.c3 ([]:List Int) a0 (List.length a0:Int) (0:Int))
def tree:X→Tr X A
 | .c3 x0 x1 x2 x3=>
 .ite (decide (x3<x2))
  (.aG ((0:Int)≤x3∧x3<(List.length x1:Int)) (.call (bT.told ((ah x1 x3).f0)) fun t1=> .ite t1
   (.call (dA.told x3) fun t2=> .ite t2
    (.aG (((List.length x0:Int)+(List.length ([(ah x1 x3).f1]):Int))*(8:Nat)≤room) (.jump (.c3 (x0++[(ah x1 x3).f1]) x1 x2 (wr (x3+(1:Int))))))
    (.jump (.c3 x0 x1 x2 (wr (x3+(1:Int))))))
   (.jump (.c3 x0 x1 x2 (wr (x3+(1:Int)))))))
  (.call (slices_Sort_int.told x0) fun t1=> .call (slices_Compact_int.told t1) fun t2=> .ret t2)
def f (a0:List aq):Option A:=(begin a0).run (lp tree)
def Q:aE C:={PL with aU:=[(3,[1,5,9,10,11])],aT:=[],aQ:=[]}
theorem e:ay Pg C Q Tryz.f241 0 id st v o tree:=fun J K x=>by cases x<;>kernel_rfl
theorem b (a0:List aq):ax Pg C Q Tryz.f241 0 id st v o (S a0) (begin a0):=fun J K=>by kernel_rfl
def told (a0:List aq):aa.Told A:=⟨f a0,fun r=>af Pg C 241 (S a0) 0 (v r) (o r),fun r h=>ae G mixed Q Tryz.func241 rfl (of_decide_eq_true (by kernel_rfl)) (by rfl) id st v o (fun _=>rfl) tree e (begin a0) (b a0) h⟩
end cC
namespace eK
def S (a0:List aq):List (PV U):=aa.start C 8 [.sl 204 a0] []
abbrev X:=Empty
def id:X→Nat:=fun _=>0
def st:X→List (PV U):=fun _=>[]
def begin (a0:List aq):Tr X A:=
 .call (bQ.told a0) fun t1=> .ite (!t1)
  (.ret (([]:List Int)))
  (.call (cC.told a0) fun t2=> .ret t2)
def tree:X→Tr X A:=fun _=> .fail
def f (a0:List aq):Option A:=(begin a0).run (lp tree)
def Q:aE C:={PL with ret:=fun f_=>lookup f_ ((241,(⟨cC.A,cC.v,cC.o⟩:C1 C))::zf),aU:=[],aT:=[],aQ:=[]}
theorem e:ay Pg C Q Tryz.f212 0 id st v o tree:=fun J K x=>by cases x
theorem b (a0:List aq):ax Pg C Q Tryz.f212 0 id st v o (S a0) (begin a0):=fun J K=>by kernel_rfl
def told (a0:List aq):aa.Told A:=⟨f a0,fun r=>af Pg C 212 (S a0) 0 (v r) (o r),fun r h=>ae G mixed Q Tryz.func212 rfl (of_decide_eq_true (by kernel_rfl)) (by rfl) id st v o (fun _=>rfl) tree e (begin a0) (b a0) h⟩
end eK
namespace bW
def S (a0:List Int) (a1:Int):List (PV U):=aa.start C 19 [.sl 3 a0,.int .i64 a1] []
inductive X where
 | c2 (x0:List Int) (x1 x2 x3:Int)
def id:X→Nat
 | .c2 .. =>2
def st:X→List (PV U)
 | .c2 x0 x1 x2 x3=>eH 19 [(0,.sl 3 x0),(1,.int .i64 x1),(7,.int .i64 x2),(8,.int .i64 x3)]
def begin (a0:List Int) (a1:Int):Tr X A:=
 .jump (.c2 a0 a1 (List.length a0:Int) (0:Int))
def tree:X→Tr X A
 | .c2 x0 x1 x2 x3=>
 .ite (decide (x3<x2))
  (.aG ((0:Int)≤x3∧x3<(List.length x0:Int)) (.ite (decide (x1=(eG x0 x3)))
   (.ret x3)
   (.jump (.c2 x0 x1 x2 (wr (x3+(1:Int)))))))
  (.ret ((-1:Int)))
def f (a0:List Int) (a1:Int):Option A:=(begin a0 a1).run (lp tree)
def Q:aE C:={PL with aU:=[(2,[0,1,7,8])],aT:=[],aQ:=[]}
theorem e:ay Pg C Q Tryz.f261 0 id st v o tree:=fun J K x=>by cases x<;>kernel_rfl
theorem b (a0:List Int) (a1:Int):ax Pg C Q Tryz.f261 0 id st v o (S a0 a1) (begin a0 a1):=fun J K=>by kernel_rfl
def told (a0:List Int) (a1:Int):aa.Told A:=⟨f a0 a1,fun r=>af Pg C 261 (S a0 a1) 0 (v r) (o r),fun r h=>ae G mixed Q Tryz.func261 rfl (of_decide_eq_true (by kernel_rfl)) (by rfl) id st v o (fun _=>rfl) tree e (begin a0 a1) (b a0 a1) h⟩
end bW
namespace cv
def S (a0:List Int) (a1:Int):List (PV U):=aa.start C 9 [.sl 3 a0,.int .i64 a1] []
abbrev X:=Empty
def id:X→Nat:=fun _=>0
def st:X→List (PV U):=fun _=>[]
def begin (a0:List Int) (a1:Int):Tr X A:=
 .call (bW.told a0 a1) fun t1=> .ret ((decide (t1≥(0:Int))))
def tree:X→Tr X A:=fun _=> .fail
def f (a0:List Int) (a1:Int):Option A:=(begin a0 a1).run (lp tree)
def Q:aE C:={PL with aU:=[],aT:=[],aQ:=[]}
theorem e:ay Pg C Q Tryz.f244 0 id st v o tree:=fun J K x=>by cases x
theorem b (a0:List Int) (a1:Int):ax Pg C Q Tryz.f244 0 id st v o (S a0 a1) (begin a0 a1):=fun J K=>by kernel_rfl
def told (a0:List Int) (a1:Int):aa.Told A:=⟨f a0 a1,fun r=>af Pg C 244 (S a0 a1) 0 (v r) (o r),fun r h=>ae G mixed Q Tryz.func244 rfl (of_decide_eq_true (by kernel_rfl)) (by rfl) id st v o (fun _=>rfl) tree e (begin a0 a1) (b a0 a1) h⟩
end cv
namespace ez
def S (a0:List Int) (a1:Int):List (PV U):=aa.start C 8 [.sl 3 a0,.int .i64 a1] []
abbrev X:=Empty
def id:X→Nat:=fun _=>0
def st:X→List (PV U):=fun _=>[]
def begin (a0:List Int) (a1:Int):Tr X A:=
 .call (cv.told a0 a1) fun t1=> .ret t1
def tree:X→Tr X A:=fun _=> .fail
def f (a0:List Int) (a1:Int):Option A:=(begin a0 a1).run (lp tree)
def Q:aE C:={PL with aU:=[],aT:=[],aQ:=[]}
theorem e:ay Pg C Q Tryz.f214 0 id st v o tree:=fun J K x=>by cases x
theorem b (a0:List Int) (a1:Int):ax Pg C Q Tryz.f214 0 id st v o (S a0 a1) (begin a0 a1):=fun J K=>by kernel_rfl
def told (a0:List Int) (a1:Int):aa.Told A:=⟨f a0 a1,fun r=>af Pg C 214 (S a0 a1) 0 (v r) (o r),fun r h=>ae G mixed Q Tryz.func214 rfl (of_decide_eq_true (by kernel_rfl)) (by rfl) id st v o (fun _=>rfl) tree e (begin a0 a1) (b a0 a1) h⟩
end ez
namespace cA
def S (a0:Int) (a1 a2:List Int):List (PV U):=aa.start C 14 [.int .i64 a0,.ptr 14 0,.ptr 15 0] [.box [.own true 3 a1],.box [.own true 3 a2]]
abbrev X:=Empty
def id:X→Nat:=fun _=>0
def st:X→List (PV U):=fun _=>[]
def begin (a0:Int) (a1 a2:List Int):Tr X A:=
 .call (ez.told a1 a0) fun t1=> .ite (!t1)
  (.call (ez.told a2 a0) fun t2=> .ret (t2,a1,a2))
  (.ret (false,a1,a2))
def tree:X→Tr X A:=fun _=> .fail
def f (a0:Int) (a1 a2:List Int):Option A:=(begin a0 a1 a2).run (lp tree)
def Q:aE C:={PL with aU:=[],aT:=[],aQ:=[]}
theorem e:ay Pg C Q Tryz.f213 2 id st v o tree:=fun J K x=>by cases x
theorem b (a0:Int) (a1 a2:List Int):ax Pg C Q Tryz.f213 2 id st v o (S a0 a1 a2) (begin a0 a1 a2):=fun J K=>by kernel_rfl
def told (a0:Int) (a1 a2:List Int):aa.Told A:=⟨f a0 a1 a2,fun r=>af Pg C 213 (S a0 a1 a2) 2 (v r) (o r),fun r h=>ae G mixed Q Tryz.func213 rfl (of_decide_eq_true (by kernel_rfl)) (by rfl) id st v o (fun _=>rfl) tree e (begin a0 a1 a2) (b a0 a1 a2) h⟩
end cA
namespace aC
def S (a0 a1 a2:List Int):List (PV U):=aa.start C 19 [.sl 3 a0,.fn 213 [.ptr 19 0,.ptr 20 0]] [.box [.own true 3 a1],.box [.own true 3 a2]]
inductive X where
 | c2 (x0:List Int) (x1 x2:Int) (x3 x4:List Int)
def id:X→Nat
 | .c2 .. =>2
def st:X→List (PV U)
 | .c2 x0 x1 x2 x3 x4=>eH 21 [(0,.sl 3 x0),(1,.fn 213 [.ptr 19 0,.ptr 20 0]),(7,.int .i64 x1),(8,.int .i64 x2),(19,.box [.own true 3 x3]),(20,.box [.own true 3 x4])]
def begin (a0 a1 a2:List Int):Tr X A:=
 .jump (.c2 a0 (List.length a0:Int) (0:Int) a1 a2)
def tree:X→Tr X A
 | .c2 x0 x1 x2 x3 x4=>
 .ite (decide (x2<x1))
  (.aG ((0:Int)≤x2∧x2<(List.length x0:Int)) (.call (cA.told (eG x0 x2) x3 x4) fun t1=> .ite t1.1
   (.ret (x2,t1.2.1,t1.2.2))
   (.jump (.c2 x0 x1 (wr (x2+(1:Int))) t1.2.1 t1.2.2))))
  (.ret ((-1:Int),x3,x4))
def f (a0 a1 a2:List Int):Option A:=(begin a0 a1 a2).run (lp tree)
def Q:aE C:={PL with aU:=[(2,[0,1,7,8,19,20])],aT:=[],aQ:=[]}
theorem e:ay Pg C Q Tryz.f152 2 id st v o tree:=fun J K x=>by cases x<;>kernel_rfl
theorem b (a0 a1 a2:List Int):ax Pg C Q Tryz.f152 2 id st v o (S a0 a1 a2) (begin a0 a1 a2):=fun J K=>by kernel_rfl
def told (a0 a1 a2:List Int):aa.Told A:=⟨f a0 a1 a2,fun r=>af Pg C 152 (S a0 a1 a2) 2 (v r) (o r),fun r h=>ae G mixed Q Tryz.func152 rfl (of_decide_eq_true (by kernel_rfl)) (by rfl) id st v o (fun _=>rfl) tree e (begin a0 a1 a2) (b a0 a1 a2) h⟩
end aC
namespace aw
def S (a0 a1 a2:List Int):List (PV U):=aa.start C 42 [.own true 3 a0,.fn 213 [.ptr 42 0,.ptr 43 0]] [.box [.own true 3 a1],.box [.own true 3 a2]]
inductive X where
 | c5 (x0:List Int) (x1 x2:Int) (x3 x4:List Int)
def id:X→Nat
 | .c5 .. =>5
def st:X→List (PV U)
 | .c5 x0 x1 x2 x3 x4=>eH 44 [(0,.own true 3 x0),(1,.fn 213 [.ptr 42 0,.ptr 43 0]),(5,.int .i64 x1),(6,.int .i64 x2),(42,.box [.own true 3 x3]),(43,.box [.own true 3 x4])]
def begin (a0 a1 a2:List Int):Tr X A:=
 .call (aC.told a0 a1 a2) fun t1=> .ite (decide (t1.1=(-1:Int)))
  (.ret (a0,t1.2.1,t1.2.2))
  (.jump (.c5 a0 t1.1 (wr (t1.1+(1:Int))) t1.2.1 t1.2.2))
def tree:X→Tr X A
 | .c5 x0 x1 x2 x3 x4=>
 .ite (decide (x2<(List.length x0:Int)))
  (.aG ((0:Int)≤x2∧x2<(List.length x0:Int)) (.call (cA.told (eG x0 x2) x3 x4) fun t1=> .ite (!t1.1)
   (.aG ((0:Int)≤x1∧x1<(List.length x0:Int)) (.jump (.c5 (List.set x0 (Int.toNat x1) (eG x0 x2)) (wr (x1+(1:Int))) (wr (x2+(1:Int))) t1.2.1 t1.2.2)))
   (.jump (.c5 x0 x1 (wr (x2+(1:Int))) t1.2.1 t1.2.2))))
  (.aG ((0:Int)≤x1∧x1<(List.length x0:Int)) (.aG ((0:Int)≤(0:Int)∧(0:Int)≤x1∧x1≤(List.length (List.take (Int.toNat x1) x0++List.replicate (List.length x0-Int.toNat x1) (0:Int)):Int)) (.val ((List.take (Int.toNat x1) (List.take (Int.toNat x1) x0++List.replicate (List.length x0-Int.toNat x1) (0:Int))):List Int) fun v1=> .ret (v1,x3,x4))))
def f (a0 a1 a2:List Int):Option A:=(begin a0 a1 a2).run (lp tree)
def Q:aE C:={PL with ret:=fun f_=>lookup f_ ((152,(⟨aC.A,aC.v,aC.o⟩:C1 C))::zf),aU:=[(5,[0,1,5,6,42,43])],aT:=[],aQ:=[(1000000,[(4,[])]),(3000000,[])]}
theorem e:ay Pg C Q Tryz.f211 2 id st v o tree:=fun J K x=>by cases x<;>kernel_rfl
theorem b (a0 a1 a2:List Int):ax Pg C Q Tryz.f211 2 id st v o (S a0 a1 a2) (begin a0 a1 a2):=fun J K=>by kernel_rfl
def told (a0 a1 a2:List Int):aa.Told A:=⟨f a0 a1 a2,fun r=>af Pg C 211 (S a0 a1 a2) 2 (v r) (o r),fun r h=>ae G mixed Q Tryz.func211 rfl (of_decide_eq_true (by kernel_rfl)) (by rfl) id st v o (fun _=>rfl) tree e (begin a0 a1 a2) (b a0 a1 a2) h⟩
end aw
namespace dK
def S (a0:List aq) (a1 a2 a3:Int):List (PV U):=aa.start C 18 [.agg [.sl 204 a0,.int .i64 a1,.int .i64 a2,.int .i64 a3]] []
inductive X where
 | c4 (x0:List aq) (x1 x2 x3:Int) (x4 x5:List Int)
def id:X→Nat
 | .c4 .. =>4
def st:X→List (PV U)
 | .c4 x0 x1 x2 x3 x4 x5=>eH 18 [(1,.box [.sl 204 x0,.int .i64 x1,.int .i64 x2,.int .i64 x3]),(3,.box [.own true 3 x4]),(4,.box [.own true 3 x5])]
def begin (a0:List aq) (a1 a2 a3:Int):Tr X A:=
 .call (de.told a0 a1 a2 a3) fun t1=>let u1_0:Tr X A:=(.both (.call (bq.told a0 a1 a2 a3) fun t2=> .both (.call (bh.told a0) fun t3=> .last (.last (.last (.jump (.c4 a0 a1 a2 a3 t2 t3))))) (.last (.last (.call (bh.told a0) fun t3=> .last (.last (.jump (.c4 a0 a1 a2 a3 t2 t3))))))) (.last (.last (.call (bq.told a0 a1 a2 a3) fun t2=> .last (.call (bh.told a0) fun t3=> .last (.last (.jump (.c4 a0 a1 a2 a3 t2 t3)))))))); .ite (!t1)
  (.ret (([]:List Int)))
  (.both (.call (bq.told a0 a1 a2 a3) fun t2=>let u2_0:Tr X A:=(.both (.call (bh.told a0) fun t3=> .last (.last (.last (.jump (.c4 a0 a1 a2 a3 t2 t3))))) (.last (.last (.call (bh.told a0) fun t3=> .last (.last (.jump (.c4 a0 a1 a2 a3 t2 t3))))))); .both (.call (bh.told a0) fun t3=>let u3_0:Tr X A:=(.last (.last (.last (.jump (.c4 a0 a1 a2 a3 t2 t3))))); .both (u3_0)
   (.last (u3_0)))
    (.both (u2_0)
     (.last (u2_0))))
   (.both (u1_0)
    (.last (u1_0))))
def tree:X→Tr X A
 | .c4 x0 x1 x2 x3 x4 x5=>
 .call (eK.told x0) fun t1=> .call (aw.told t1 x4 x5) fun t2=> .ret t2.1
def f (a0:List aq) (a1 a2 a3:Int):Option A:=(begin a0 a1 a2 a3).run (lp tree)
def Q:aE C:={PL with aU:=[(4,[1,3,4])],aT:=[(3,[7,8],(.take 2 [] (.take 0 [2,3,5,6] (.take 3 [0,1,2,5,6] (.alt 1 (.alt 4 (.alt 5 (.alt 6 (.alt 7 (.alt 8 .done .nil) .nil) .nil) (.alt 6 (.alt 5 (.alt 7 (.alt 8 .done .nil) .nil) .nil) .nil)) (.alt 5 (.alt 4 (.alt 6 (.alt 7 (.alt 8 .done .nil) .nil) .nil) (.alt 6 (.alt 4 (.alt 7 (.alt 8 .done .nil) .nil) .nil) .nil)) (.alt 6 (.alt 4 (.alt 5 (.alt 7 (.alt 8 .done .nil) .nil) .nil) (.alt 5 (.alt 4 (.alt 7 (.alt 8 .done .nil) .nil) .nil) .nil)) .nil))) (.alt 5 (.alt 1 (.alt 4 (.alt 6 (.alt 7 (.alt 8 .done .nil) .nil) .nil) (.alt 6 (.alt 4 (.alt 7 (.alt 8 .done .nil) .nil) .nil) .nil)) (.alt 6 (.alt 1 (.alt 4 (.alt 7 (.alt 8 .done .nil) .nil) .nil) .nil) .nil)) (.alt 6 (.alt 1 (.alt 4 (.alt 5 (.alt 7 (.alt 8 .done .nil) .nil) .nil) (.alt 5 (.alt 4 (.alt 7 (.alt 8 .done .nil) .nil) .nil) .nil)) (.alt 5 (.alt 1 (.alt 4 (.alt 7 (.alt 8 .done .nil) .nil) .nil) .nil) .nil)) .nil)))))))],aQ:=[(1000000,[(2,[])]),(3000000,[])]}
theorem e:ay Pg C Q Tryz.f177 0 id st v o tree:=fun J K x=>by cases x<;>kernel_rfl
theorem b (a0:List aq) (a1 a2 a3:Int):ax Pg C Q Tryz.f177 0 id st v o (S a0 a1 a2 a3) (begin a0 a1 a2 a3):=fun J K=>by kernel_rfl
def told (a0:List aq) (a1 a2 a3:Int):aa.Told A:=⟨f a0 a1 a2 a3,fun r=>af Pg C 177 (S a0 a1 a2 a3) 0 (v r) (o r),fun r h=>ae G mixed Q Tryz.func177 rfl (of_decide_eq_true (by kernel_rfl)) (by rfl) id st v o (fun _=>rfl) tree e (begin a0 a1 a2 a3) (b a0 a1 a2 a3) h⟩
end dK
namespace eu
def S (a0 a1 a2 a3 a4 a5:Int):List (PV U):=aa.start C 11 [.agg [.int .i64 a0,.int .i64 a1,.int .i64 a2,.int .i64 a3,.int .i64 a4,.int .i64 a5]] []
abbrev X:=Empty
def id:X→Nat:=fun _=>0
def st:X→List (PV U):=fun _=>[]
def begin (a0 a1 a2 a3 a4 a5:Int):Tr X A:=
 .call (dx.told a0 a1 a2 a3 a4 a5) fun t1=> .ite (!t1)
  (.ret ((0:Int)))
  (.aG ((0:Int)≤a0∧a0<(List.length ([(0:Int),(2:Int),(5:Int),(4:Int),(1:Int),(1:Int),(0:Int)]):Int)) (.ret ((eG ([(0:Int),(2:Int),(5:Int),(4:Int),(1:Int),(1:Int),(0:Int)]) a0))))
def tree:X→Tr X A:=fun _=> .fail
def f (a0 a1 a2 a3 a4 a5:Int):Option A:=(begin a0 a1 a2 a3 a4 a5).run (lp tree)
def Q:aE C:={PL with aU:=[],aT:=[],aQ:=[]}
theorem e:ay Pg C Q Tryz.f181 0 id st v o tree:=fun J K x=>by cases x
theorem b (a0 a1 a2 a3 a4 a5:Int):ax Pg C Q Tryz.f181 0 id st v o (S a0 a1 a2 a3 a4 a5) (begin a0 a1 a2 a3 a4 a5):=fun J K=>by kernel_rfl
def told (a0 a1 a2 a3 a4 a5:Int):aa.Told A:=⟨f a0 a1 a2 a3 a4 a5,fun r=>af Pg C 181 (S a0 a1 a2 a3 a4 a5) 0 (v r) (o r),fun r h=>ae G mixed Q Tryz.func181 rfl (of_decide_eq_true (by kernel_rfl)) (by rfl) id st v o (fun _=>rfl) tree e (begin a0 a1 a2 a3 a4 a5) (b a0 a1 a2 a3 a4 a5) h⟩
end eu
namespace b7
def S (a0:Int) (a1:List aM) (a2:List Int) (a3 a4 a5:Int) (a6:List Int) (a7 a8 a9 a10 a11 a12 a13 a14:Bool) (a15:List Int):List (PV U):=aa.start C 17 [.ptr 17 0,.int .i64 a0] [.box [.own true 179 a1,.own true 3 a2,.int .i64 a3,.int .i64 a4,.int .i64 a5,.own true 3 a6,.bool a7,.bool a8,.bool a9,.bool a10,.bool a11,.bool a12,.bool a13,.bool a14,.own true 3 a15]]
abbrev X:=Empty
def id:X→Nat:=fun _=>0
def st:X→List (PV U):=fun _=>[]
def begin (a0:Int) (a1:List aM) (a2:List Int) (a3 a4 a5:Int) (a6:List Int) (a7 a8 a9 a10 a11 a12 a13 a14:Bool) (a15:List Int):Tr X A:=
 .aG (((List.length a1:Int)+(List.length ([(⟨a0,(-1:Int),(0:Int)⟩:aM)]):Int))*(24:Nat)≤room) (.ret ((a1++[(⟨a0,(-1:Int),(0:Int)⟩:aM)]),a2,a3,a4,a5,a6,a7,a8,a9,a10,a11,a12,a13,a14,a15))
def tree:X→Tr X A:=fun _=> .fail
def f (a0:Int) (a1:List aM) (a2:List Int) (a3 a4 a5:Int) (a6:List Int) (a7 a8 a9 a10 a11 a12 a13 a14:Bool) (a15:List Int):Option A:=(begin a0 a1 a2 a3 a4 a5 a6 a7 a8 a9 a10 a11 a12 a13 a14 a15).run (lp tree)
def Q:aE C:={PL with aU:=[],aT:=[],aQ:=[]}
theorem e:ay Pg C Q Tryz.f180 1 id st v o tree:=fun J K x=>by cases x
theorem b (a0:Int) (a1:List aM) (a2:List Int) (a3 a4 a5:Int) (a6:List Int) (a7 a8 a9 a10 a11 a12 a13 a14:Bool) (a15:List Int):ax Pg C Q Tryz.f180 1 id st v o (S a0 a1 a2 a3 a4 a5 a6 a7 a8 a9 a10 a11 a12 a13 a14 a15) (begin a0 a1 a2 a3 a4 a5 a6 a7 a8 a9 a10 a11 a12 a13 a14 a15):=fun J K=>by kernel_rfl
def told (a0:Int) (a1:List aM) (a2:List Int) (a3 a4 a5:Int) (a6:List Int) (a7 a8 a9 a10 a11 a12 a13 a14:Bool) (a15:List Int):aa.Told A:=⟨f a0 a1 a2 a3 a4 a5 a6 a7 a8 a9 a10 a11 a12 a13 a14 a15,fun r=>af Pg C 180 (S a0 a1 a2 a3 a4 a5 a6 a7 a8 a9 a10 a11 a12 a13 a14 a15) 1 (v r) (o r),fun r h=>ae G mixed Q Tryz.func180 rfl (of_decide_eq_true (by kernel_rfl)) (by rfl) id st v o (fun _=>rfl) tree e (begin a0 a1 a2 a3 a4 a5 a6 a7 a8 a9 a10 a11 a12 a13 a14 a15) (b a0 a1 a2 a3 a4 a5 a6 a7 a8 a9 a10 a11 a12 a13 a14 a15) h⟩
end b7
namespace fh
def S (a0:List Int):List (PV U):=aa.start C 10 [.sl 3 a0] []
abbrev X:=Empty
def id:X→Nat:=fun _=>0
def st:X→List (PV U):=fun _=>[]
def begin (a0:List Int):Tr X A:=
 .ite (decide ((List.length a0:Int)=(8:Int)))
  (.call (ck.told a0) fun t1=> .ret t1)
  (.ret false)
def tree:X→Tr X A:=fun _=> .fail
def f (a0:List Int):Option A:=(begin a0).run (lp tree)
def Q:aE C:={PL with aU:=[],aT:=[],aQ:=[]}
theorem e:ay Pg C Q Tryz.f218 0 id st v o tree:=fun J K x=>by cases x
theorem b (a0:List Int):ax Pg C Q Tryz.f218 0 id st v o (S a0) (begin a0):=fun J K=>by kernel_rfl
def told (a0:List Int):aa.Told A:=⟨f a0,fun r=>af Pg C 218 (S a0) 0 (v r) (o r),fun r h=>ae G mixed Q Tryz.func218 rfl (of_decide_eq_true (by kernel_rfl)) (by rfl) id st v o (fun _=>rfl) tree e (begin a0) (b a0) h⟩
end fh
namespace fa
def S (a0:List Int) (a1:Int):List (PV U):=aa.start C 13 [.sl 3 a0,.int .i64 a1] []
abbrev X:=Empty
def id:X→Nat:=fun _=>0
def st:X→List (PV U):=fun _=>[]
def begin (a0:List Int) (a1:Int):Tr X A:=
 .ite (decide (a1<(0:Int)))
  (.aG ((0:Int)≤(wr ((-1:Int)-a1))∧(wr ((-1:Int)-a1))<(List.length a0:Int)) (.ret ((eG a0 (wr ((-1:Int)-a1))))))
  (.ret a1)
def tree:X→Tr X A:=fun _=> .fail
def f (a0:List Int) (a1:Int):Option A:=(begin a0 a1).run (lp tree)
def Q:aE C:={PL with aU:=[],aT:=[],aQ:=[]}
theorem e:ay Pg C Q Tryz.f219 0 id st v o tree:=fun J K x=>by cases x
theorem b (a0:List Int) (a1:Int):ax Pg C Q Tryz.f219 0 id st v o (S a0 a1) (begin a0 a1):=fun J K=>by kernel_rfl
def told (a0:List Int) (a1:Int):aa.Told A:=⟨f a0 a1,fun r=>af Pg C 219 (S a0 a1) 0 (v r) (o r),fun r h=>ae G mixed Q Tryz.func219 rfl (of_decide_eq_true (by kernel_rfl)) (by rfl) id st v o (fun _=>rfl) tree e (begin a0 a1) (b a0 a1) h⟩
end fa
namespace bL
def S (a0:Int):List (PV U):=aa.start C 5 [.int .i64 a0] []
abbrev X:=Empty
def id:X→Nat:=fun _=>0
def st:X→List (PV U):=fun _=>[]
def begin (a0:Int):Tr X A:=
 .call (cN.told a0 (-1000000:Int) (1000000:Int)) fun t1=> .ret t1
def tree:X→Tr X A:=fun _=> .fail
def f (a0:Int):Option A:=(begin a0).run (lp tree)
def Q:aE C:={PL with aU:=[],aT:=[],aQ:=[]}
theorem e:ay Pg C Q Tryz.f247 0 id st v o tree:=fun J K x=>by cases x
theorem b (a0:Int):ax Pg C Q Tryz.f247 0 id st v o (S a0) (begin a0):=fun J K=>by kernel_rfl
def told (a0:Int):aa.Told A:=⟨f a0,fun r=>af Pg C 247 (S a0) 0 (v r) (o r),fun r h=>ae G mixed Q Tryz.func247 rfl (of_decide_eq_true (by kernel_rfl)) (by rfl) id st v o (fun _=>rfl) tree e (begin a0) (b a0) h⟩
end bL
namespace cY
def S (a0 a1:Int):List (PV U):=aa.start C 11 [.int .i64 a0,.int .i64 a1] []
abbrev X:=Empty
def id:X→Nat:=fun _=>0
def st:X→List (PV U):=fun _=>[]
def begin (a0 a1:Int):Tr X A:=
 .call (bL.told a0) fun t1=> .call (bL.told a1) fun t2=> .call (bL.told (wr (t1+t2))) fun t3=> .ret t3
def tree:X→Tr X A:=fun _=> .fail
def f (a0 a1:Int):Option A:=(begin a0 a1).run (lp tree)
def Q:aE C:={PL with aU:=[],aT:=[],aQ:=[]}
theorem e:ay Pg C Q Tryz.f220 0 id st v o tree:=fun J K x=>by cases x
theorem b (a0 a1:Int):ax Pg C Q Tryz.f220 0 id st v o (S a0 a1) (begin a0 a1):=fun J K=>by kernel_rfl
def told (a0 a1:Int):aa.Told A:=⟨f a0 a1,fun r=>af Pg C 220 (S a0 a1) 0 (v r) (o r),fun r h=>ae G mixed Q Tryz.func220 rfl (of_decide_eq_true (by kernel_rfl)) (by rfl) id st v o (fun _=>rfl) tree e (begin a0 a1) (b a0 a1) h⟩
end cY
namespace dD
def S (a0 a1:Int):List (PV U):=aa.start C 11 [.int .i64 a0,.int .i64 a1] []
abbrev X:=Empty
def id:X→Nat:=fun _=>0
def st:X→List (PV U):=fun _=>[]
def begin (a0 a1:Int):Tr X A:=
 .call (bL.told a0) fun t1=> .call (bL.told a1) fun t2=> .call (bL.told (wr (t1-t2))) fun t3=> .ret t3
def tree:X→Tr X A:=fun _=> .fail
def f (a0 a1:Int):Option A:=(begin a0 a1).run (lp tree)
def Q:aE C:={PL with aU:=[],aT:=[],aQ:=[]}
theorem e:ay Pg C Q Tryz.f221 0 id st v o tree:=fun J K x=>by cases x
theorem b (a0 a1:Int):ax Pg C Q Tryz.f221 0 id st v o (S a0 a1) (begin a0 a1):=fun J K=>by kernel_rfl
def told (a0 a1:Int):aa.Told A:=⟨f a0 a1,fun r=>af Pg C 221 (S a0 a1) 0 (v r) (o r),fun r h=>ae G mixed Q Tryz.func221 rfl (of_decide_eq_true (by kernel_rfl)) (by rfl) id st v o (fun _=>rfl) tree e (begin a0 a1) (b a0 a1) h⟩
end dD
namespace dH
def S (a0 a1:Int):List (PV U):=aa.start C 11 [.int .i64 a0,.int .i64 a1] []
abbrev X:=Empty
def id:X→Nat:=fun _=>0
def st:X→List (PV U):=fun _=>[]
def begin (a0 a1:Int):Tr X A:=
 .call (bL.told a0) fun t1=> .call (bL.told a1) fun t2=> .call (bL.told (wr (t1*t2))) fun t3=> .ret t3
def tree:X→Tr X A:=fun _=> .fail
def f (a0 a1:Int):Option A:=(begin a0 a1).run (lp tree)
def Q:aE C:={PL with aU:=[],aT:=[],aQ:=[]}
theorem e:ay Pg C Q Tryz.f222 0 id st v o tree:=fun J K x=>by cases x
theorem b (a0 a1:Int):ax Pg C Q Tryz.f222 0 id st v o (S a0 a1) (begin a0 a1):=fun J K=>by kernel_rfl
def told (a0 a1:Int):aa.Told A:=⟨f a0 a1,fun r=>af Pg C 222 (S a0 a1) 0 (v r) (o r),fun r h=>ae G mixed Q Tryz.func222 rfl (of_decide_eq_true (by kernel_rfl)) (by rfl) id st v o (fun _=>rfl) tree e (begin a0 a1) (b a0 a1) h⟩
end dH
namespace gQ
def S (a0:Bool):List (PV U):=aa.start C 4 [.bool a0] []
abbrev X:=Empty
def id:X→Nat:=fun _=>0
def st:X→List (PV U):=fun _=>[]
def begin (a0:Bool):Tr X A:=
 .ite a0
  (.ret ((1:Int)))
  (.ret ((0:Int)))
def tree:X→Tr X A:=fun _=> .fail
def f (a0:Bool):Option A:=(begin a0).run (lp tree)
def Q:aE C:={PL with aU:=[],aT:=[],aQ:=[]}
theorem e:ay Pg C Q Tryz.f136 0 id st v o tree:=fun J K x=>by cases x
theorem b (a0:Bool):ax Pg C Q Tryz.f136 0 id st v o (S a0) (begin a0):=fun J K=>by kernel_rfl
def told (a0:Bool):aa.Told A:=⟨f a0,fun r=>af Pg C 136 (S a0) 0 (v r) (o r),fun r h=>ae G mixed Q Tryz.func136 rfl (of_decide_eq_true (by kernel_rfl)) (by rfl) id st v o (fun _=>rfl) tree e (begin a0) (b a0) h⟩
end gQ
end
end Go.Proofs.YtmapddgocpkgeaaGreat.Ev
