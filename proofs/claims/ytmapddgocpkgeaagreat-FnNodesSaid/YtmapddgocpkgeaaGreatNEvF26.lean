/- Functions as trees, with their contracts. No conditions. -/
import Derived.Test.YtmapddgocpkgeaaGreatNEvF25
namespace Go.Proofs.YtmapddgocpkgeaaGreat.Ev
open Go.Proofs.YtmapddgocpkgeaaGreat.aa Go.RowKit
set_option linter.unusedVariables false
set_option maxRecDepth 100000
noncomputable section
namespace aM
def S (a0:List Int) (a1 a2:Int) (a3:List aO) (a4:List Int) (a5 a6 a7:Int) (a8:List Int) (a9 a10 a11 a12 a13 a14 a15 a16:Bool) (a17:List Int):List (PV U):=aa.start C 85 [.ptr 85 0,.sl 3 a0,.int .i64 a1,.int .i64 a2] [.box [.own true 179 a3,.own true 3 a4,.int .i64 a5,.int .i64 a6,.int .i64 a7,.own true 3 a8,.bool a9,.bool a10,.bool a11,.bool a12,.bool a13,.bool a14,.bool a15,.bool a16,.own true 3 a17]]
inductive X where
 | c1 (x0 x1:Int) (x2:List aO) (x3:List Int) (x4 x5 x6:Int) (x7:List Int) (x8 x9 x10 x11 x12 x13 x14 x15:Bool) (x16:List Int)
 | c6 (x0 x1:Int) (x2:List aO) (x3:List Int) (x4 x5 x6:Int) (x7:List Int) (x8 x9 x10 x11 x12 x13 x14 x15:Bool) (x16:List Int)
 | c7 (x0 x1:Int) (x2:List aO) (x3:List Int) (x4 x5 x6:Int) (x7:List Int) (x8 x9 x10 x11 x12 x13 x14 x15:Bool) (x16:List Int)
def id:X→Nat
 | .c1 .. =>1
 | .c6 .. =>6
 | .c7 .. =>7
def st:X→List (PV U)
 | .c1 x0 x1 x2 x3 x4 x5 x6 x7 x8 x9 x10 x11 x12 x13 x14 x15 x16=>eA 86 [(0,.ptr 85 0),(2,.int .i64 x0),(3,.int .i64 x1),(85,.box [.own true 179 x2,.own true 3 x3,.int .i64 x4,.int .i64 x5,.int .i64 x6,.own true 3 x7,.bool x8,.bool x9,.bool x10,.bool x11,.bool x12,.bool x13,.bool x14,.bool x15,.own true 3 x16])]
 | .c6 x0 x1 x2 x3 x4 x5 x6 x7 x8 x9 x10 x11 x12 x13 x14 x15 x16=>eA 86 [(0,.ptr 85 0),(2,.int .i64 x0),(3,.int .i64 x1),(85,.box [.own true 179 x2,.own true 3 x3,.int .i64 x4,.int .i64 x5,.int .i64 x6,.own true 3 x7,.bool x8,.bool x9,.bool x10,.bool x11,.bool x12,.bool x13,.bool x14,.bool x15,.own true 3 x16])]
 | .c7 x0 x1 x2 x3 x4 x5 x6 x7 x8 x9 x10 x11 x12 x13 x14 x15 x16=>eA 86 [(0,.ptr 85 0),(2,.int .i64 x0),(3,.int .i64 x1),(85,.box [.own true 179 x2,.own true 3 x3,.int .i64 x4,.int .i64 x5,.int .i64 x6,.own true 3 x7,.bool x8,.bool x9,.bool x10,.bool x11,.bool x12,.bool x13,.bool x14,.bool x15,.own true 3 x16])]
def begin (a0:List Int) (a1 a2:Int) (a3:List aO) (a4:List Int) (a5 a6 a7:Int) (a8:List Int) (a9 a10 a11 a12 a13 a14 a15 a16:Bool) (a17:List Int):Tr X A:=
 .call (eK.told a0 a1) fun t1=>let u1_0:Tr X A:=(.jump (.c6 a1 a2 a3 a4 a5 a6 a7 a8 a9 a10 a11 a12 a13 a14 a15 a16 a17));let u1_1:Tr X A:=(.jump (.c1 a1 a2 a3 a4 a5 a6 a7 a8 a9 a10 a11 a12 a13 a14 a15 a16 a17)); .ite t1
  (.ite (decide (a1=(0:Int)))
   (.ite (!a9)
    (u1_1)
    (u1_0))
   (.ite (decide (a1=(1:Int)))
    (.ite (!a10)
     (u1_1)
     (u1_0))
    (.ite (decide (a1=(2:Int)))
     (.ite (!a11)
      (u1_1)
      (u1_0))
     (.ite (decide (a1=(3:Int)))
      (.ite (!a12)
       (u1_1)
       (u1_0))
      (.ite (decide (a1=(4:Int)))
       (.ite (!a13)
        (u1_1)
        (u1_0))
       (.ite (decide (a1=(5:Int)))
        (.ite (!a14)
         (u1_1)
         (u1_0))
        (.ite (decide (a1=(6:Int)))
         (.ite (!a15)
          (u1_1)
          (u1_0))
         (.ite (decide (a1=(7:Int)))
          (.ite (!a16)
           (u1_1)
           (u1_0))
          (.fail)))))))))
  (u1_0)
def tree:X→Tr X A
 | .c1 x0 x1 x2 x3 x4 x5 x6 x7 x8 x9 x10 x11 x12 x13 x14 x15 x16=>
 .call (aX.told (wr ((9:Int)+(wr ((2:Int)*(List.length x7:Int))))) x0 x2 x3 x4 x5 x6 x7 x8 x9 x10 x11 x12 x13 x14 x15 x16) fun t1=> .aC ((0:Int)≤x0∧x0<(List.length t1.2.2.2.2.2.2.2.2.2.2.2.2.2.2:Int)) (.call (aX.told (wr ((wr ((9:Int)+(wr ((2:Int)*(List.length x7:Int)))))+(1:Int))) (dz t1.2.2.2.2.2.2.2.2.2.2.2.2.2.2 x0) t1.1 t1.2.1 t1.2.2.1 t1.2.2.2.1 t1.2.2.2.2.1 t1.2.2.2.2.2.1 t1.2.2.2.2.2.2.1 t1.2.2.2.2.2.2.2.1 t1.2.2.2.2.2.2.2.2.1 t1.2.2.2.2.2.2.2.2.2.1 t1.2.2.2.2.2.2.2.2.2.2.1 t1.2.2.2.2.2.2.2.2.2.2.2.1 t1.2.2.2.2.2.2.2.2.2.2.2.2.1 t1.2.2.2.2.2.2.2.2.2.2.2.2.2.1 t1.2.2.2.2.2.2.2.2.2.2.2.2.2.2) fun t2=> .aC (((List.length t2.2.2.2.2.2.1:Int)+(List.length ([x0]):Int))*(8:Nat)≤room) (.last (.call (bq.told t2.2.2.1 (List.length (t2.2.2.2.2.2.1++[x0]):Int) t2.2.2.2.1) fun t3=> .last (.call (aX.told (8:Int) t3 t2.1 t2.2.1 t2.2.2.1 t2.2.2.2.1 t2.2.2.2.2.1 (t2.2.2.2.2.2.1++[x0]) t2.2.2.2.2.2.2.1 t2.2.2.2.2.2.2.2.1 t2.2.2.2.2.2.2.2.2.1 t2.2.2.2.2.2.2.2.2.2.1 t2.2.2.2.2.2.2.2.2.2.2.1 t2.2.2.2.2.2.2.2.2.2.2.2.1 t2.2.2.2.2.2.2.2.2.2.2.2.2.1 t2.2.2.2.2.2.2.2.2.2.2.2.2.2.1 t2.2.2.2.2.2.2.2.2.2.2.2.2.2.2) fun t4=> .jump (.c6 x0 x1 t4.1 t4.2.1 t4.2.2.1 t4.2.2.2.1 t4.2.2.2.2.1 t4.2.2.2.2.2.1 t4.2.2.2.2.2.2.1 t4.2.2.2.2.2.2.2.1 t4.2.2.2.2.2.2.2.2.1 t4.2.2.2.2.2.2.2.2.2.1 t4.2.2.2.2.2.2.2.2.2.2.1 t4.2.2.2.2.2.2.2.2.2.2.2.1 t4.2.2.2.2.2.2.2.2.2.2.2.2.1 t4.2.2.2.2.2.2.2.2.2.2.2.2.2.1 t4.2.2.2.2.2.2.2.2.2.2.2.2.2.2)))))
 | .c6 x0 x1 x2 x3 x4 x5 x6 x7 x8 x9 x10 x11 x12 x13 x14 x15 x16=>
 .ite (decide (x0=(0:Int)))
  (.jump (.c7 x0 x1 x2 x3 x4 x5 x6 x7 true x9 x10 x11 x12 x13 x14 x15 x16))
  (.ite (decide (x0=(1:Int)))
   (.jump (.c7 x0 x1 x2 x3 x4 x5 x6 x7 x8 true x10 x11 x12 x13 x14 x15 x16))
   (.ite (decide (x0=(2:Int)))
    (.jump (.c7 x0 x1 x2 x3 x4 x5 x6 x7 x8 x9 true x11 x12 x13 x14 x15 x16))
    (.ite (decide (x0=(3:Int)))
     (.jump (.c7 x0 x1 x2 x3 x4 x5 x6 x7 x8 x9 x10 true x12 x13 x14 x15 x16))
     (.ite (decide (x0=(4:Int)))
      (.jump (.c7 x0 x1 x2 x3 x4 x5 x6 x7 x8 x9 x10 x11 true x13 x14 x15 x16))
      (.ite (decide (x0=(5:Int)))
       (.jump (.c7 x0 x1 x2 x3 x4 x5 x6 x7 x8 x9 x10 x11 x12 true x14 x15 x16))
       (.ite (decide (x0=(6:Int)))
        (.jump (.c7 x0 x1 x2 x3 x4 x5 x6 x7 x8 x9 x10 x11 x12 x13 true x15 x16))
        (.ite (decide (x0=(7:Int)))
         (.jump (.c7 x0 x1 x2 x3 x4 x5 x6 x7 x8 x9 x10 x11 x12 x13 x14 true x16))
         (.fail))))))))
 | .c7 x0 x1 x2 x3 x4 x5 x6 x7 x8 x9 x10 x11 x12 x13 x14 x15 x16=>
 .aC ((0:Int)≤x0∧x0<(List.length x16:Int)) (.call (aX.told x0 x1 x2 x3 x4 x5 x6 x7 x8 x9 x10 x11 x12 x13 x14 x15 (List.set x16 (Int.toNat x0) x1)) fun t1=> .ret (t1.1,t1.2.1,t1.2.2.1,t1.2.2.2.1,t1.2.2.2.2.1,t1.2.2.2.2.2.1,t1.2.2.2.2.2.2.1,t1.2.2.2.2.2.2.2.1,t1.2.2.2.2.2.2.2.2.1,t1.2.2.2.2.2.2.2.2.2.1,t1.2.2.2.2.2.2.2.2.2.2.1,t1.2.2.2.2.2.2.2.2.2.2.2.1,t1.2.2.2.2.2.2.2.2.2.2.2.2.1,t1.2.2.2.2.2.2.2.2.2.2.2.2.2.1,t1.2.2.2.2.2.2.2.2.2.2.2.2.2.2))
def f (a0:List Int) (a1 a2:Int) (a3:List aO) (a4:List Int) (a5 a6 a7:Int) (a8:List Int) (a9 a10 a11 a12 a13 a14 a15 a16:Bool) (a17:List Int):Option A:=(begin a0 a1 a2 a3 a4 a5 a6 a7 a8 a9 a10 a11 a12 a13 a14 a15 a16 a17).run (lp tree)
def Q:bE C:={PL with fM:=[(1,[0,2,3,85]),(6,[0,2,3,85]),(7,[0,2,3,85])],iH:=[(5,[15],(.take 0 [] (.take 1 [] (.take 2 [] (.take 3 [] (.take 5 [] (.take 6 [] (.take 7 [] (.take 10 [] (.take 11 [] (.take 12 [] (.take 4 [0,1,2,3,5,6,7,8,9,10,11,12,13] (.take 8 [0,1,2,3,4,5,6,7,10,11,12,13] (.take 9 [] (.take 13 [0,1,2,3,4,5,6,7,8,9,10,11,12] (.alt 14 (.alt 15 .done .nil) .nil))))))))))))))))]}
theorem e:df Pg C Q Tryz.f182 1 id st v o tree:=fun J K x=>by cases x<;>kernel_rfl
def told (a0:List Int) (a1 a2:Int) (a3:List aO) (a4:List Int) (a5 a6 a7:Int) (a8:List Int) (a9 a10 a11 a12 a13 a14 a15 a16:Bool) (a17:List Int):aa.Told A:=⟨f a0 a1 a2 a3 a4 a5 a6 a7 a8 a9 a10 a11 a12 a13 a14 a15 a16 a17,fun r=>ae Pg C 182 (S a0 a1 a2 a3 a4 a5 a6 a7 a8 a9 a10 a11 a12 a13 a14 a15 a16 a17) 1 (v r) (o r),fun r h=>dy v o Tryz.func182 rfl (of_decide_eq_true (by kernel_rfl)) (by rfl) (fun _=>rfl) e (fun J K=>by kernel_rfl) h⟩
end aM
namespace bS
def S (a0:List Int) (a1 a2:Int):List (PV U):=aa.start C 29 [.sl 3 a0,.int .i64 a1,.int .i64 a2] []
def begin (a0:List Int) (a1 a2:Int):Tr Empty A:=
 .ite (decide ((List.length a0:Int)=(0:Int)))
  (.ret ((0:Int)))
  (.call (bY.told a1) fun t1=> .ite (!t1)
   (.ret ((0:Int)))
   (.ite (decide (a2<(0:Int)))
    (.ret ((0:Int)))
    (.aC ((List.length a0:Int)≠0) (.aC ((0:Int)≤(Int.tmod a2 (List.length a0:Int))∧(Int.tmod a2 (List.length a0:Int))<(List.length a0:Int)) (.call (dn.told (dz a0 (Int.tmod a2 (List.length a0:Int))) (wr ((100:Int)*a1))) fun t2=> .ret t2)))))
def f (a0:List Int) (a1 a2:Int):Option A:=(begin a0 a1 a2).run (lp aF)
def told (a0:List Int) (a1 a2:Int):aa.Told A:=⟨f a0 a1 a2,fun r=>ae Pg C 184 (S a0 a1 a2) 0 (v r) (o r),fun r h=>aG (Q:=PL) v o Tryz.func184 rfl (of_decide_eq_true (by kernel_rfl)) (by rfl) (fun _=>rfl) (fun J K=>by kernel_rfl) h⟩
end bS
namespace cE
def S (a0:Int) (a1:List aO) (a2:List Int) (a3 a4 a5:Int) (a6:List Int) (a7 a8 a9 a10 a11 a12 a13 a14:Bool) (a15:List Int):List (PV U):=aa.start C 28 [.ptr 28 0,.int .i64 a0] [.box [.own true 179 a1,.own true 3 a2,.int .i64 a3,.int .i64 a4,.int .i64 a5,.own true 3 a6,.bool a7,.bool a8,.bool a9,.bool a10,.bool a11,.bool a12,.bool a13,.bool a14,.own true 3 a15]]
def begin (a0:Int) (a1:List aO) (a2:List Int) (a3 a4 a5:Int) (a6:List Int) (a7 a8 a9 a10 a11 a12 a13 a14:Bool) (a15:List Int):Tr Empty A:=
 .ite (decide ((wr (a4+a5))<(24:Int)))
  (.call (aX.told (wr ((25:Int)+(wr (a4+a5)))) a0 a1 a2 a3 a4 a5 a6 a7 a8 a9 a10 a11 a12 a13 a14 a15) fun t1=> .ret (t1.1,t1.2.1,t1.2.2.1,t1.2.2.2.1,(wr (t1.2.2.2.2.1+(1:Int))),t1.2.2.2.2.2.1,t1.2.2.2.2.2.2.1,t1.2.2.2.2.2.2.2.1,t1.2.2.2.2.2.2.2.2.1,t1.2.2.2.2.2.2.2.2.2.1,t1.2.2.2.2.2.2.2.2.2.2.1,t1.2.2.2.2.2.2.2.2.2.2.2.1,t1.2.2.2.2.2.2.2.2.2.2.2.2.1,t1.2.2.2.2.2.2.2.2.2.2.2.2.2.1,t1.2.2.2.2.2.2.2.2.2.2.2.2.2.2))
  (.ret (a1,a2,a3,a4,(wr (a5+(1:Int))),a6,a7,a8,a9,a10,a11,a12,a13,a14,a15))
def f (a0:Int) (a1:List aO) (a2:List Int) (a3 a4 a5:Int) (a6:List Int) (a7 a8 a9 a10 a11 a12 a13 a14:Bool) (a15:List Int):Option A:=(begin a0 a1 a2 a3 a4 a5 a6 a7 a8 a9 a10 a11 a12 a13 a14 a15).run (lp aF)
def Q:bE C:={PL with iH:=[(0,[],(.take 0 [] (.take 1 [] (.take 2 [] (.take 4 [] (.take 5 [] (.take 6 [] (.take 3 [0,1,2,4,5,6,7] (.take 7 [0,1,2,3,4,5,6] (.take 8 [] (.take 9 [] .done)))))))))))]}
def told (a0:Int) (a1:List aO) (a2:List Int) (a3 a4 a5:Int) (a6:List Int) (a7 a8 a9 a10 a11 a12 a13 a14:Bool) (a15:List Int):aa.Told A:=⟨f a0 a1 a2 a3 a4 a5 a6 a7 a8 a9 a10 a11 a12 a13 a14 a15,fun r=>ae Pg C 185 (S a0 a1 a2 a3 a4 a5 a6 a7 a8 a9 a10 a11 a12 a13 a14 a15) 1 (v r) (o r),fun r h=>aG (Q:=Q) v o Tryz.func185 rfl (of_decide_eq_true (by kernel_rfl)) (by rfl) (fun _=>rfl) (fun J K=>by kernel_rfl) h⟩
end cE
end
end Go.Proofs.YtmapddgocpkgeaaGreat.Ev
