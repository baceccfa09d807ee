/- Functions as trees, with their contracts. No conditions. -/
import Derived.Test.YtmapddgocpkgeaaGreatUEvF2
namespace Go.Proofs.YtmapddgocpkgeaaGreat.Ev
open Go.Proofs.YtmapddgocpkgeaaGreat.aa Go.RowKit
set_option linter.unusedVariables false
set_option maxRecDepth 100000
noncomputable section
namespace bf
def S (a0:List aC) (a1 a2:List Int) (a3 a4 a5 a6 a7 a8 a9 a10:Int) (a11:List Int) (a12 a13 a14 a15:Int):List (PV U):=aa.start C 112 [.agg [.sl 164 a0,.sl 3 a1,.sl 3 a2,.int .i64 a3,.int .i64 a4,.int .i64 a5,.int .i64 a6,.int .i64 a7,.int .i64 a8,.int .i64 a9,.int .i64 a10,.sl 3 a11,.int .i64 a12],.agg [.int .i64 a13,.int .i64 a14,.int .i64 a15]] []
inductive X where
 | c7 (x0 x1 x2:Int) (x3:List aC) (x4 x5:List Int) (x6 x7 x8 x9 x10 x11 x12 x13:Int) (x14:List Int) (x15:Int) (x16:List aC) (x17 x18:List Int) (x19 x20 x21 x22 x23 x24 x25 x26:Int) (x27:List Int) (x28 x29:Int)
def id:X→Nat
 | .c7 .. =>7
def st:X→List (PV U)
 | .c7 x0 x1 x2 x3 x4 x5 x6 x7 x8 x9 x10 x11 x12 x13 x14 x15 x16 x17 x18 x19 x20 x21 x22 x23 x24 x25 x26 x27 x28 x29=>iC 112 [(3,.box [.int .i64 x0,.int .i64 x1,.int .i64 x2]),(4,.box [.own true 164 x3,.own true 3 x4,.own true 3 x5,.int .i64 x6,.int .i64 x7,.int .i64 x8,.int .i64 x9,.int .i64 x10,.int .i64 x11,.int .i64 x12,.int .i64 x13,.own true 3 x14,.int .i64 x15]),(6,.box [.own true 164 x16,.own true 3 x17,.own true 3 x18,.int .i64 x19,.int .i64 x20,.int .i64 x21,.int .i64 x22,.int .i64 x23,.int .i64 x24,.int .i64 x25,.int .i64 x26,.own true 3 x27,.int .i64 x28]),(7,.int .i64 x29)]
def begin (a0:List aC) (a1 a2:List Int) (a3 a4 a5 a6 a7 a8 a9 a10:Int) (a11:List Int) (a12 a13 a14 a15:Int):Tr X A:=
 .call (aS.told a0 a1 a2 a3 a4 a5 a6 a7 a8 a9 a10 a11 a12) fun t1=> .call (bk.told a0 a1 a2 a3 a4 a5 a6 a7 a8 a9 a10 a11 a12) fun t2=> .ite (!t2)
  (.ret (t1.1,t1.2.1,t1.2.2.1,t1.2.2.2.1,t1.2.2.2.2.1,t1.2.2.2.2.2.1,t1.2.2.2.2.2.2.1,t1.2.2.2.2.2.2.2.1,t1.2.2.2.2.2.2.2.2.1,t1.2.2.2.2.2.2.2.2.2.1,t1.2.2.2.2.2.2.2.2.2.2.1,t1.2.2.2.2.2.2.2.2.2.2.2.1,t1.2.2.2.2.2.2.2.2.2.2.2.2,(-1:Int)))
  (.call (dI.told a13 a14 a15) fun t3=>let u3_0:Tr X A:=(.last (.ret (t1.1,t1.2.1,t1.2.2.1,t1.2.2.2.1,t1.2.2.2.2.1,t1.2.2.2.2.2.1,t1.2.2.2.2.2.2.1,t1.2.2.2.2.2.2.2.1,t1.2.2.2.2.2.2.2.2.1,t1.2.2.2.2.2.2.2.2.2.1,t1.2.2.2.2.2.2.2.2.2.2.1,t1.2.2.2.2.2.2.2.2.2.2.2.1,t1.2.2.2.2.2.2.2.2.2.2.2.2,(List.length t1.2.2.1:Int))));let u3_1:Tr X A:=(.last (.ret (t1.1,t1.2.1,(t1.2.2.1++[a14]),t1.2.2.2.1,t1.2.2.2.2.1,t1.2.2.2.2.2.1,t1.2.2.2.2.2.2.1,t1.2.2.2.2.2.2.2.1,t1.2.2.2.2.2.2.2.2.1,t1.2.2.2.2.2.2.2.2.2.1,t1.2.2.2.2.2.2.2.2.2.2.1,t1.2.2.2.2.2.2.2.2.2.2.2.1,t1.2.2.2.2.2.2.2.2.2.2.2.2,(List.length (t1.2.2.1++[a14]):Int)))); .ite (!t3)
   (.ret (t1.1,t1.2.1,t1.2.2.1,t1.2.2.2.1,t1.2.2.2.2.1,t1.2.2.2.2.2.1,t1.2.2.2.2.2.2.1,t1.2.2.2.2.2.2.2.1,t1.2.2.2.2.2.2.2.2.1,t1.2.2.2.2.2.2.2.2.2.1,t1.2.2.2.2.2.2.2.2.2.2.1,t1.2.2.2.2.2.2.2.2.2.2.2.1,t1.2.2.2.2.2.2.2.2.2.2.2.2,(-1:Int)))
   (.ite (decide (a13=(1:Int)))
    (.jump (.c7 a13 a14 a15 ([]:List aC) ([]:List Int) ([]:List Int) (0:Int) (0:Int) (0:Int) (0:Int) (0:Int) (0:Int) (0:Int) (0:Int) ([]:List Int) (0:Int) t1.1 t1.2.1 t1.2.2.1 t1.2.2.2.1 t1.2.2.2.2.1 t1.2.2.2.2.2.1 t1.2.2.2.2.2.2.1 t1.2.2.2.2.2.2.2.1 t1.2.2.2.2.2.2.2.2.1 t1.2.2.2.2.2.2.2.2.2.1 t1.2.2.2.2.2.2.2.2.2.2.1 t1.2.2.2.2.2.2.2.2.2.2.2.1 t1.2.2.2.2.2.2.2.2.2.2.2.2 (0:Int)))
    (.ite (decide (a13=(2:Int)))
     (.call (gQ.told t1.2.2.2.2.2.2.2.2.1 t1.2.2.2.2.2.2.2.2.2.1 a14 a15) fun t4=> .last (.call (dO.told t4.1 t4.2) fun t5=> .last (.ret (t1.1,t1.2.1,t1.2.2.1,t1.2.2.2.1,t1.2.2.2.2.1,t1.2.2.2.2.2.1,t1.2.2.2.2.2.2.1,t1.2.2.2.2.2.2.2.1,t4.1,t4.2,t1.2.2.2.2.2.2.2.2.2.2.1,t1.2.2.2.2.2.2.2.2.2.2.2.1,t1.2.2.2.2.2.2.2.2.2.2.2.2,t5))))
     (.ite (decide (a13=(3:Int)))
      (.last (.call (dV.told a14) fun t4=> .last (.call (ik.told a0 a1 a2 a3 a4 a5 a6 a7 a8 a9 a10 a11 a12 t4 (decide (a15=(1:Int)))) fun t5=>let u5_0:Tr X A:=(.last (.ret (t5.1,t5.2.1,t5.2.2.1,t5.2.2.2.1,t5.2.2.2.2.1,t5.2.2.2.2.2.1,t5.2.2.2.2.2.2.1,t5.2.2.2.2.2.2.2.1,t5.2.2.2.2.2.2.2.2.1,t5.2.2.2.2.2.2.2.2.2.1,t5.2.2.2.2.2.2.2.2.2.2.1,t5.2.2.2.2.2.2.2.2.2.2.2.1,t5.2.2.2.2.2.2.2.2.2.2.2.2.1,(List.length t5.2.2.2.2.2.2.2.2.2.2.2.1:Int)))); .last (.both (u5_0)
       (u5_0)))))
      (.ite (decide (a13=(4:Int)))
       (.call (dM.told t1.2.2.2.2.2.2.2.2.1 t1.2.2.2.2.2.2.2.2.2.1 a14 a15) fun t4=> .last (.call (gA.told t4.2.2) fun t5=> .last (.ret (t1.1,t1.2.1,t1.2.2.1,t1.2.2.2.1,t1.2.2.2.2.1,t1.2.2.2.2.2.1,t1.2.2.2.2.2.2.1,t1.2.2.2.2.2.2.2.1,t4.1,t4.2.1,t1.2.2.2.2.2.2.2.2.2.2.1,t1.2.2.2.2.2.2.2.2.2.2.2.1,t1.2.2.2.2.2.2.2.2.2.2.2.2,t5))))
       (.ite (decide ((List.length t1.2.2.1:Int)<(100:Int)))
        (.bH (((List.length t1.2.2.1:Int)+(List.length ([a14]):Int))*(8:Nat)≤room) (.both (u3_1)
         (u3_1)))
        (.both (u3_0)
         (u3_0))))))))
def tree:X→Tr X A
 | .c7 x0 x1 x2 x3 x4 x5 x6 x7 x8 x9 x10 x11 x12 x13 x14 x15 x16 x17 x18 x19 x20 x21 x22 x23 x24 x25 x26 x27 x28 x29=>
 let u0_0:Tr X A:=(.last (.ret (x16,x17,x18,x19,x20,x21,x22,x23,x24,x25,x26,x27,x28,x28))); .ite (decide (x29<x1))
  (.call (bW.told x16 x17 x18 x19 x20 x21 x22 x23 x24 x25 x26 x27 x28 x2) fun t1=>let u1_0:Tr X A:=(u0_0); .ite (!t1.2.2.2.2.2.2.2.2.2.2.2.2.2)
   (.both (u1_0)
    (u1_0))
   (.jump (.c7 x0 x1 x2 x3 x4 x5 x6 x7 x8 x9 x10 x11 x12 x13 x14 x15 t1.1 t1.2.1 t1.2.2.1 t1.2.2.2.1 t1.2.2.2.2.1 t1.2.2.2.2.2.1 t1.2.2.2.2.2.2.1 t1.2.2.2.2.2.2.2.1 t1.2.2.2.2.2.2.2.2.1 t1.2.2.2.2.2.2.2.2.2.1 t1.2.2.2.2.2.2.2.2.2.2.1 t1.2.2.2.2.2.2.2.2.2.2.2.1 t1.2.2.2.2.2.2.2.2.2.2.2.2.1 (wr (x29+(1:Int))))))
  (.both (u0_0)
   (u0_0))
def f (a0:List aC) (a1 a2:List Int) (a3 a4 a5 a6 a7 a8 a9 a10:Int) (a11:List Int) (a12 a13 a14 a15:Int):Option A:=(begin a0 a1 a2 a3 a4 a5 a6 a7 a8 a9 a10 a11 a12 a13 a14 a15).run (lp tree)
def Q:bA C:={PL with cb:=[(7,[3,4,6,7])],ca:=[(12,[3],(.take 1 [] (.take 0 [1,2] (.alt 2 (.alt 3 (.take 4 [] .done) .nil) (.alt 3 (.take 2 [0,1,3] (.take 4 [] .done)) .nil))))),(15,[4],(.take 1 [] (.take 0 [1,2,3] (.take 2 [0,1] (.alt 3 (.alt 4 (.take 5 [] .done) .nil) .nil))))),(17,[11],(.take 1 [] (.take 4 [] (.take 0 [1,2,3,4,5,6] (.take 2 [0,1,4,5,6] (.take 5 [0,1,2,3,4] (.take 6 [] (.alt 3 (.alt 7 (.take 8 [] (.take 9 [] (.take 10 [] (.alt 11 .done .nil)))) .nil) .nil)))))))),(18,[6],(.take 1 [] (.take 2 [] (.take 3 [] (.take 0 [1,2,3,4,5] (.alt 4 (.take 5 [] (.alt 6 (.take 7 [] .done) .nil)) (.alt 6 (.take 4 [0,1,2,3,6] (.take 5 [] (.take 7 [] .done))) .nil))))))),(22,[3],(.take 1 [] (.take 0 [1,2] (.alt 2 (.alt 3 (.take 4 [] .done) .nil) .nil)))),(25,[4],(.take 1 [] (.take 0 [1,2,3] (.alt 2 (.take 3 [] (.alt 4 (.take 5 [] .done) .nil)) (.alt 4 (.take 2 [0,1,4] (.take 3 [] (.take 5 [] .done))) .nil)))))],bV:=[]}
theorem e:aW Pg C Q Tryz.f23 0 id st v o tree:=fun J K x=>by cases x<;>kernel_rfl
theorem b (a0:List aC) (a1 a2:List Int) (a3 a4 a5 a6 a7 a8 a9 a10:Int) (a11:List Int) (a12 a13 a14 a15:Int):aX Pg C Q Tryz.f23 0 id st v o (S a0 a1 a2 a3 a4 a5 a6 a7 a8 a9 a10 a11 a12 a13 a14 a15) (begin a0 a1 a2 a3 a4 a5 a6 a7 a8 a9 a10 a11 a12 a13 a14 a15):=fun J K=>by kernel_rfl
def told (a0:List aC) (a1 a2:List Int) (a3 a4 a5 a6 a7 a8 a9 a10:Int) (a11:List Int) (a12 a13 a14 a15:Int):aa.Told A:=⟨f a0 a1 a2 a3 a4 a5 a6 a7 a8 a9 a10 a11 a12 a13 a14 a15,fun r=>al Pg C 23 (S a0 a1 a2 a3 a4 a5 a6 a7 a8 a9 a10 a11 a12 a13 a14 a15) 0 (v r) (o r),fun r h=>ah G mixed Q Tryz.func23 rfl (of_decide_eq_true (by kernel_rfl)) (by rfl) id st v o (fun _=>rfl) tree e (begin a0 a1 a2 a3 a4 a5 a6 a7 a8 a9 a10 a11 a12 a13 a14 a15) (b a0 a1 a2 a3 a4 a5 a6 a7 a8 a9 a10 a11 a12 a13 a14 a15) h⟩
end bf
namespace aI
def S (a0 a1 a2:Int):List (PV U):=aa.start C 15 [.int .i64 a0,.int .i64 a1,.int .i64 a2] []
abbrev X:=Empty
def id:X→Nat:=fun _=>0
def st:X→List (PV U):=fun _=>[]
def begin (a0 a1 a2:Int):Tr X A:=
 .ite (decide (a0≥a1))
  (.ret ((decide (a0≤a2))))
  (.ret false)
def tree:X→Tr X A:=fun _=> .fail
def f (a0 a1 a2:Int):Option A:=(begin a0 a1 a2).run (lp tree)
def Q:bA C:={PL with cb:=[],ca:=[],bV:=[]}
theorem e:aW Pg C Q Tryz.f50 0 id st v o tree:=fun J K x=>by cases x
theorem b (a0 a1 a2:Int):aX Pg C Q Tryz.f50 0 id st v o (S a0 a1 a2) (begin a0 a1 a2):=fun J K=>by kernel_rfl
def told (a0 a1 a2:Int):aa.Told A:=⟨f a0 a1 a2,fun r=>al Pg C 50 (S a0 a1 a2) 0 (v r) (o r),fun r h=>ah G mixed Q Tryz.func50 rfl (of_decide_eq_true (by kernel_rfl)) (by rfl) id st v o (fun _=>rfl) tree e (begin a0 a1 a2) (b a0 a1 a2) h⟩
end aI
namespace b6
def S (a0:Int):List (PV U):=aa.start C 9 [.int .i64 a0] []
abbrev X:=Empty
def id:X→Nat:=fun _=>0
def st:X→List (PV U):=fun _=>[]
def begin (a0:Int):Tr X A:=
 .ite (decide (a0=(1:Int)))
  (.ret true)
  (.ret ((decide (a0=(2:Int)))))
def tree:X→Tr X A:=fun _=> .fail
def f (a0:Int):Option A:=(begin a0).run (lp tree)
def Q:bA C:={PL with cb:=[],ca:=[],bV:=[]}
theorem e:aW Pg C Q Tryz.f245 0 id st v o tree:=fun J K x=>by cases x
theorem b (a0:Int):aX Pg C Q Tryz.f245 0 id st v o (S a0) (begin a0):=fun J K=>by kernel_rfl
def told (a0:Int):aa.Told A:=⟨f a0,fun r=>al Pg C 245 (S a0) 0 (v r) (o r),fun r h=>ah G mixed Q Tryz.func245 rfl (of_decide_eq_true (by kernel_rfl)) (by rfl) id st v o (fun _=>rfl) tree e (begin a0) (b a0) h⟩
end b6
namespace dR
def S (a0:Int):List (PV U):=aa.start C 5 [.int .i64 a0] []
abbrev X:=Empty
def id:X→Nat:=fun _=>0
def st:X→List (PV U):=fun _=>[]
def begin (a0:Int):Tr X A:=
 .call (aI.told a0 (0:Int) (7:Int)) fun t1=> .ret t1
def tree:X→Tr X A:=fun _=> .fail
def f (a0:Int):Option A:=(begin a0).run (lp tree)
def Q:bA C:={PL with cb:=[],ca:=[],bV:=[]}
theorem e:aW Pg C Q Tryz.f105 0 id st v o tree:=fun J K x=>by cases x
theorem b (a0:Int):aX Pg C Q Tryz.f105 0 id st v o (S a0) (begin a0):=fun J K=>by kernel_rfl
def told (a0:Int):aa.Told A:=⟨f a0,fun r=>al Pg C 105 (S a0) 0 (v r) (o r),fun r h=>ah G mixed Q Tryz.func105 rfl (of_decide_eq_true (by kernel_rfl)) (by rfl) id st v o (fun _=>rfl) tree e (begin a0) (b a0) h⟩
end dR
namespace dy
def S (a0:Int):List (PV U):=aa.start C 13 [.int .i64 a0] []
abbrev X:=Empty
def id:X→Nat:=fun _=>0
def st:X→List (PV U):=fun _=>[]
def begin (a0:Int):Tr X A:=
 .ite (decide (a0=(1:Int)))
  (.ret true)
  (.ite (decide (a0=(3:Int)))
   (.ret true)
   (.ret ((decide (a0=(4:Int))))))
def tree:X→Tr X A:=fun _=> .fail
def f (a0:Int):Option A:=(begin a0).run (lp tree)
def Q:bA C:={PL with cb:=[],ca:=[],bV:=[]}
theorem e:aW Pg C Q Tryz.f246 0 id st v o tree:=fun J K x=>by cases x
theorem b (a0:Int):aX Pg C Q Tryz.f246 0 id st v o (S a0) (begin a0):=fun J K=>by kernel_rfl
def told (a0:Int):aa.Told A:=⟨f a0,fun r=>al Pg C 246 (S a0) 0 (v r) (o r),fun r h=>ah G mixed Q Tryz.func246 rfl (of_decide_eq_true (by kernel_rfl)) (by rfl) id st v o (fun _=>rfl) tree e (begin a0) (b a0) h⟩
end dy
namespace fY
def S (a0:Int):List (PV U):=aa.start C 5 [.int .i64 a0] []
abbrev X:=Empty
def id:X→Nat:=fun _=>0
def st:X→List (PV U):=fun _=>[]
def begin (a0:Int):Tr X A:=
 .call (aI.told a0 (-8:Int) (999:Int)) fun t1=> .ret t1
def tree:X→Tr X A:=fun _=> .fail
def f (a0:Int):Option A:=(begin a0).run (lp tree)
def Q:bA C:={PL with cb:=[],ca:=[],bV:=[]}
theorem e:aW Pg C Q Tryz.f225 0 id st v o tree:=fun J K x=>by cases x
theorem b (a0:Int):aX Pg C Q Tryz.f225 0 id st v o (S a0) (begin a0):=fun J K=>by kernel_rfl
def told (a0:Int):aa.Told A:=⟨f a0,fun r=>al Pg C 225 (S a0) 0 (v r) (o r),fun r h=>ah G mixed Q Tryz.func225 rfl (of_decide_eq_true (by kernel_rfl)) (by rfl) id st v o (fun _=>rfl) tree e (begin a0) (b a0) h⟩
end fY
namespace cV
def S (a0 a1 a2:Int):List (PV U):=aa.start C 16 [.agg [.int .i64 a0,.int .i64 a1,.int .i64 a2]] []
abbrev X:=Empty
def id:X→Nat:=fun _=>0
def st:X→List (PV U):=fun _=>[]
def begin (a0 a1 a2:Int):Tr X A:=
 .call (aI.told a0 (1:Int) (7:Int)) fun t1=> .ite t1
  (.call (fY.told a1) fun t2=> .ite t2
   (.call (fY.told a2) fun t3=> .ret t3)
   (.ret false))
  (.ret false)
def tree:X→Tr X A:=fun _=> .fail
def f (a0 a1 a2:Int):Option A:=(begin a0 a1 a2).run (lp tree)
def Q:bA C:={PL with cb:=[],ca:=[],bV:=[]}
theorem e:aW Pg C Q Tryz.f190 0 id st v o tree:=fun J K x=>by cases x
theorem b (a0 a1 a2:Int):aX Pg C Q Tryz.f190 0 id st v o (S a0 a1 a2) (begin a0 a1 a2):=fun J K=>by kernel_rfl
def told (a0 a1 a2:Int):aa.Told A:=⟨f a0 a1 a2,fun r=>al Pg C 190 (S a0 a1 a2) 0 (v r) (o r),fun r h=>ah G mixed Q Tryz.func190 rfl (of_decide_eq_true (by kernel_rfl)) (by rfl) id st v o (fun _=>rfl) tree e (begin a0 a1 a2) (b a0 a1 a2) h⟩
end cV
namespace bN
def S (a0:Int):List (PV U):=aa.start C 5 [.int .i64 a0] []
abbrev X:=Empty
def id:X→Nat:=fun _=>0
def st:X→List (PV U):=fun _=>[]
def begin (a0:Int):Tr X A:=
 .call (aI.told a0 (0:Int) (3:Int)) fun t1=> .ret t1
def tree:X→Tr X A:=fun _=> .fail
def f (a0:Int):Option A:=(begin a0).run (lp tree)
def Q:bA C:={PL with cb:=[],ca:=[],bV:=[]}
theorem e:aW Pg C Q Tryz.f223 0 id st v o tree:=fun J K x=>by cases x
theorem b (a0:Int):aX Pg C Q Tryz.f223 0 id st v o (S a0) (begin a0):=fun J K=>by kernel_rfl
def told (a0:Int):aa.Told A:=⟨f a0,fun r=>al Pg C 223 (S a0) 0 (v r) (o r),fun r h=>ah G mixed Q Tryz.func223 rfl (of_decide_eq_true (by kernel_rfl)) (by rfl) id st v o (fun _=>rfl) tree e (begin a0) (b a0) h⟩
end bN
namespace dx
def S (a0 a1 a2 a3 a4 a5:Int):List (PV U):=aa.start C 65 [.agg [.int .i64 a0,.int .i64 a1,.int .i64 a2,.int .i64 a3,.int .i64 a4,.int .i64 a5]] []
inductive X where
 | c3 (x0 x1 x2 x3 x4 x5:Int)
 | c5 (x0 x1 x2 x3 x4 x5:Int)
def id:X→Nat
 | .c3 .. =>3
 | .c5 .. =>5
def st:X→List (PV U)
 | .c3 x0 x1 x2 x3 x4 x5=>iC 65 [(1,.box [.int .i64 x0,.int .i64 x1,.int .i64 x2,.int .i64 x3,.int .i64 x4,.int .i64 x5])]
 | .c5 x0 x1 x2 x3 x4 x5=>iC 65 [(1,.box [.int .i64 x0,.int .i64 x1,.int .i64 x2,.int .i64 x3,.int .i64 x4,.int .i64 x5])]
def begin (a0 a1 a2 a3 a4 a5:Int):Tr X A:=
 .call (aI.told a0 (1:Int) (6:Int)) fun t1=> .ite (!t1)
  (.ret false)
  (.call (b6.told a0) fun t2=> .ite t2
   (.call (dR.told a1) fun t3=> .ite (!t3)
    (.ret false)
    (.call (b6.told a0) fun t4=>let u4_0:Tr X A:=(.jump (.c3 a0 a1 a2 a3 a4 a5)); .ite (!t4)
     (.ite (!decide (a1=(0:Int)))
      (.ret false)
      (u4_0))
     (u4_0)))
   (.call (b6.told a0) fun t3=>let u3_0:Tr X A:=(.jump (.c3 a0 a1 a2 a3 a4 a5)); .ite (!t3)
    (.ite (!decide (a1=(0:Int)))
     (.ret false)
     (u3_0))
    (u3_0)))
def tree:X→Tr X A
 | .c3 x0 x1 x2 x3 x4 x5=>
 .call (dy.told x0) fun t1=> .ite t1
  (.call (cV.told x3 x4 x5) fun t2=> .ite (!t2)
   (.ret false)
   (.call (dy.told x0) fun t3=> .ite (!t3)
    (.val ((!(decide (x3=(0:Int))&&(decide (x4=(0:Int))&&(decide (x5=(0:Int))&&true)))):Bool) fun v4=> .ite v4
     (.ret false)
     (.jump (.c5 x0 x1 x2 x3 x4 x5)))
    (.jump (.c5 x0 x1 x2 x3 x4 x5))))
  (.call (dy.told x0) fun t2=> .ite (!t2)
   (.val ((!(decide (x3=(0:Int))&&(decide (x4=(0:Int))&&(decide (x5=(0:Int))&&true)))):Bool) fun v3=> .ite v3
    (.ret false)
    (.jump (.c5 x0 x1 x2 x3 x4 x5)))
   (.jump (.c5 x0 x1 x2 x3 x4 x5)))
 | .c5 x0 x1 x2 x3 x4 x5=>
 .ite (decide (x0=(2:Int)))
  (.call (bN.told x2) fun t1=> .ret t1)
  (.ite (decide (x0=(5:Int)))
   (.call (aI.told x2 (1:Int) (5:Int)) fun t1=> .ret t1)
   (.ret ((decide (x2=(0:Int))))))
def f (a0 a1 a2 a3 a4 a5:Int):Option A:=(begin a0 a1 a2 a3 a4 a5).run (lp tree)
def Q:bA C:={PL with cb:=[(3,[1,33,34,35,36,39,40,41,42,43,44,45,46,47,48]),(5,[1])],ca:=[],bV:=[]}
theorem e:aW Pg C Q Tryz.f217 0 id st v o tree:=fun J K x=>by cases x<;>kernel_rfl
theorem b (a0 a1 a2 a3 a4 a5:Int):aX Pg C Q Tryz.f217 0 id st v o (S a0 a1 a2 a3 a4 a5) (begin a0 a1 a2 a3 a4 a5):=fun J K=>by kernel_rfl
def told (a0 a1 a2 a3 a4 a5:Int):aa.Told A:=⟨f a0 a1 a2 a3 a4 a5,fun r=>al Pg C 217 (S a0 a1 a2 a3 a4 a5) 0 (v r) (o r),fun r h=>ah G mixed Q Tryz.func217 rfl (of_decide_eq_true (by kernel_rfl)) (by rfl) id st v o (fun _=>rfl) tree e (begin a0 a1 a2 a3 a4 a5) (b a0 a1 a2 a3 a4 a5) h⟩
end dx
namespace bS
def S (a0:Int):List (PV U):=aa.start C 9 [.int .i64 a0] []
abbrev X:=Empty
def id:X→Nat:=fun _=>0
def st:X→List (PV U):=fun _=>[]
def begin (a0:Int):Tr X A:=
 .ite (decide (a0=(4:Int)))
  (.ret true)
  (.ret ((decide (a0=(5:Int)))))
def tree:X→Tr X A:=fun _=> .fail
def f (a0:Int):Option A:=(begin a0).run (lp tree)
def Q:bA C:={PL with cb:=[],ca:=[],bV:=[]}
theorem e:aW Pg C Q Tryz.f215 0 id st v o tree:=fun J K x=>by cases x
theorem b (a0:Int):aX Pg C Q Tryz.f215 0 id st v o (S a0) (begin a0):=fun J K=>by kernel_rfl
def told (a0:Int):aa.Told A:=⟨f a0,fun r=>al Pg C 215 (S a0) 0 (v r) (o r),fun r h=>ah G mixed Q Tryz.func215 rfl (of_decide_eq_true (by kernel_rfl)) (by rfl) id st v o (fun _=>rfl) tree e (begin a0) (b a0) h⟩
end bS
namespace bE
def S (a0:List aB):List (PV U):=aa.start C 39 [.sl 204 a0] []
inductive X where
 | c3 (x0:List aB) (x1:Int) (x2:List aB) (x3 x4:Int)
 | rE
def id:X→Nat
 | .c3 .. =>3
 | .rE .. =>12
def st:X→List (PV U)
 | .c3 x0 x1 x2 x3 x4=>iC 39 [(0,.sl 204 x0),(3,.int .i64 x1),(6,.sl 204 x2),(7,.int .i64 x3),(8,.int .i64 x4)]
 | .rE=>iC 39 []
def begin (a0:List aB):Tr X A:=
 .jump (.c3 a0 (0:Int) a0 (List.length a0:Int) (0:Int))
def tree:X→Tr X A
 | .c3 x0 x1 x2 x3 x4=>
 .ite (decide (x4<x3))
  (.bH ((0:Int)≤x4∧x4<(List.length x2:Int)) (.call (dx.told ((aw x2 x4).f0) ((aw x2 x4).f1) ((aw x2 x4).f2) ((aw x2 x4).f3.f0) ((aw x2 x4).f3.f1) ((aw x2 x4).f3.f2)) fun t1=> .ite (!t1)
   (.ret false)
   (.call (bS.told ((aw x2 x4).f0)) fun t2=>let u2_0:Tr X A:=(.jump (.rE)); .ite t2
    (.ite (decide ((aw x2 x4).f0=(6:Int)))
     (.ite (decide ((wr ((wr (x1+(1:Int)))-(1:Int)))<(0:Int)))
      (u2_0)
      (.ite (decide ((wr ((wr (x1+(1:Int)))-(1:Int)))>(3:Int)))
       (u2_0)
       (.jump (.c3 x0 (wr ((wr (x1+(1:Int)))-(1:Int))) x2 x3 (wr (x4+(1:Int)))))))
     (.ite (decide ((wr (x1+(1:Int)))<(0:Int)))
      (u2_0)
      (.ite (decide ((wr (x1+(1:Int)))>(3:Int)))
       (u2_0)
       (.jump (.c3 x0 (wr (x1+(1:Int))) x2 x3 (wr (x4+(1:Int))))))))
    (.ite (decide ((aw x2 x4).f0=(6:Int)))
     (.ite (decide ((wr (x1-(1:Int)))<(0:Int)))
      (u2_0)
      (.ite (decide ((wr (x1-(1:Int)))>(3:Int)))
       (u2_0)
       (.jump (.c3 x0 (wr (x1-(1:Int))) x2 x3 (wr (x4+(1:Int)))))))
     (.ite (decide (x1<(0:Int)))
      (u2_0)
      (.ite (decide (x1>(3:Int)))
       (u2_0)
       (.jump (.c3 x0 x1 x2 x3 (wr (x4+(1:Int)))))))))))
  (.ite (decide (x1=(0:Int)))
   (.ret ((decide ((List.length x0:Int)≤(24:Int)))))
   (.ret false))
 | .rE=>
 .ret false
def f (a0:List aB):Option A:=(begin a0).run (lp tree)
def Q:bA C:={PL with cb:=[(3,[0,3,6,7,8,35,36,37]),(12,[])],ca:=[],bV:=[]}
theorem e:aW Pg C Q Tryz.f189 0 id st v o tree:=fun J K x=>by cases x<;>kernel_rfl
theorem b (a0:List aB):aX Pg C Q Tryz.f189 0 id st v o (S a0) (begin a0):=fun J K=>by kernel_rfl
def told (a0:List aB):aa.Told A:=⟨f a0,fun r=>al Pg C 189 (S a0) 0 (v r) (o r),fun r h=>ah G mixed Q Tryz.func189 rfl (of_decide_eq_true (by kernel_rfl)) (by rfl) id st v o (fun _=>rfl) tree e (begin a0) (b a0) h⟩
end bE
namespace dn
def S (a0:List aB) (a1 a2 a3:Int):List (PV U):=aa.start C 11 [.agg [.sl 204 a0,.int .i64 a1,.int .i64 a2,.int .i64 a3]] []
abbrev X:=Empty
def id:X→Nat:=fun _=>0
def st:X→List (PV U):=fun _=>[]
def begin (a0:List aB) (a1 a2 a3:Int):Tr X A:=
 .call (bE.told a0) fun t1=> .ite t1
  (.call (cV.told a1 a2 a3) fun t2=> .ret t2)
  (.ret false)
def tree:X→Tr X A:=fun _=> .fail
def f (a0:List aB) (a1 a2 a3:Int):Option A:=(begin a0 a1 a2 a3).run (lp tree)
def Q:bA C:={PL with cb:=[],ca:=[],bV:=[]}
theorem e:aW Pg C Q Tryz.f150 0 id st v o tree:=fun J K x=>by cases x
theorem b (a0:List aB) (a1 a2 a3:Int):aX Pg C Q Tryz.f150 0 id st v o (S a0 a1 a2 a3) (begin a0 a1 a2 a3):=fun J K=>by kernel_rfl
def told (a0:List aB) (a1 a2 a3:Int):aa.Told A:=⟨f a0 a1 a2 a3,fun r=>al Pg C 150 (S a0 a1 a2 a3) 0 (v r) (o r),fun r h=>ah G mixed Q Tryz.func150 rfl (of_decide_eq_true (by kernel_rfl)) (by rfl) id st v o (fun _=>rfl) tree e (begin a0 a1 a2 a3) (b a0 a1 a2 a3) h⟩
end dn
namespace fe
def S (a0:List aB) (a1 a2 a3:Int):List (PV U):=aa.start C 6 [.agg [.sl 204 a0,.int .i64 a1,.int .i64 a2,.int .i64 a3]] []
abbrev X:=Empty
def id:X→Nat:=fun _=>0
def st:X→List (PV U):=fun _=>[]
def begin (a0:List aB) (a1 a2 a3:Int):Tr X A:=
 .call (dn.told a0 a1 a2 a3) fun t1=> .ret ((!t1))
def tree:X→Tr X A:=fun _=> .fail
def f (a0:List aB) (a1 a2 a3:Int):Option A:=(begin a0 a1 a2 a3).run (lp tree)
def Q:bA C:={PL with cb:=[],ca:=[],bV:=[]}
theorem e:aW Pg C Q Tryz.f149 0 id st v o tree:=fun J K x=>by cases x
theorem b (a0:List aB) (a1 a2 a3:Int):aX Pg C Q Tryz.f149 0 id st v o (S a0 a1 a2 a3) (begin a0 a1 a2 a3):=fun J K=>by kernel_rfl
def told (a0:List aB) (a1 a2 a3:Int):aa.Told A:=⟨f a0 a1 a2 a3,fun r=>al Pg C 149 (S a0 a1 a2 a3) 0 (v r) (o r),fun r h=>ah G mixed Q Tryz.func149 rfl (of_decide_eq_true (by kernel_rfl)) (by rfl) id st v o (fun _=>rfl) tree e (begin a0 a1 a2 a3) (b a0 a1 a2 a3) h⟩
end fe
namespace az
def S (a0:List aC):List (PV U):=aa.start C 19 [.sl 164 a0,.fn 149 []] []
inductive X where
 | c2 (x0:List aC) (x1 x2:Int)
def id:X→Nat
 | .c2 .. =>2
def st:X→List (PV U)
 | .c2 x0 x1 x2=>iC 19 [(0,.sl 164 x0),(1,.fn 149 []),(7,.int .i64 x1),(8,.int .i64 x2)]
def begin (a0:List aC):Tr X A:=
 .jump (.c2 a0 (List.length a0:Int) (0:Int))
def tree:X→Tr X A
 | .c2 x0 x1 x2=>
 .ite (decide (x2<x1))
  (.bH ((0:Int)≤x2∧x2<(List.length x0:Int)) (.call (fe.told ((bG x0 x2).f0) ((bG x0 x2).f1.f0) ((bG x0 x2).f1.f1) ((bG x0 x2).f1.f2)) fun t1=> .ite t1
   (.ret x2)
   (.jump (.c2 x0 x1 (wr (x2+(1:Int)))))))
  (.ret ((-1:Int)))
def f (a0:List aC):Option A:=(begin a0).run (lp tree)
def Q:bA C:={PL with cb:=[(2,[0,1,7,8])],ca:=[],bV:=[]}
theorem e:aW Pg C Q Tryz.f188 0 id st v o tree:=fun J K x=>by cases x<;>kernel_rfl
theorem b (a0:List aC):aX Pg C Q Tryz.f188 0 id st v o (S a0) (begin a0):=fun J K=>by kernel_rfl
def told (a0:List aC):aa.Told A:=⟨f a0,fun r=>al Pg C 188 (S a0) 0 (v r) (o r),fun r h=>ah G mixed Q Tryz.func188 rfl (of_decide_eq_true (by kernel_rfl)) (by rfl) id st v o (fun _=>rfl) tree e (begin a0) (b a0) h⟩
end az
namespace aP
def S (a0:List aC):List (PV U):=aa.start C 9 [.sl 164 a0,.fn 149 []] []
abbrev X:=Empty
def id:X→Nat:=fun _=>0
def st:X→List (PV U):=fun _=>[]
def begin (a0:List aC):Tr X A:=
 .call (az.told a0) fun t1=> .ret ((decide (t1≥(0:Int))))
def tree:X→Tr X A:=fun _=> .fail
def f (a0:List aC):Option A:=(begin a0).run (lp tree)
def Q:bA C:={PL with cb:=[],ca:=[],bV:=[]}
theorem e:aW Pg C Q Tryz.f148 0 id st v o tree:=fun J K x=>by cases x
theorem b (a0:List aC):aX Pg C Q Tryz.f148 0 id st v o (S a0) (begin a0):=fun J K=>by kernel_rfl
def told (a0:List aC):aa.Told A:=⟨f a0,fun r=>al Pg C 148 (S a0) 0 (v r) (o r),fun r h=>ah G mixed Q Tryz.func148 rfl (of_decide_eq_true (by kernel_rfl)) (by rfl) id st v o (fun _=>rfl) tree e (begin a0) (b a0) h⟩
end aP
namespace dK
def S (a0:List aC):List (PV U):=aa.start C 13 [.agg [.sl 164 a0]] []
abbrev X:=Empty
def id:X→Nat:=fun _=>0
def st:X→List (PV U):=fun _=>[]
def begin (a0:List aC):Tr X A:=
 .call (aI.told (List.length a0:Int) (1:Int) (6:Int)) fun t1=> .ite t1
  (.call (aP.told a0) fun t2=> .ret ((!t2)))
  (.ret false)
def tree:X→Tr X A:=fun _=> .fail
def f (a0:List aC):Option A:=(begin a0).run (lp tree)
def Q:bA C:={PL with cb:=[],ca:=[],bV:=[]}
theorem e:aW Pg C Q Tryz.f103 0 id st v o tree:=fun J K x=>by cases x
theorem b (a0:List aC):aX Pg C Q Tryz.f103 0 id st v o (S a0) (begin a0):=fun J K=>by kernel_rfl
def told (a0:List aC):aa.Told A:=⟨f a0,fun r=>al Pg C 103 (S a0) 0 (v r) (o r),fun r h=>ah G mixed Q Tryz.func103 rfl (of_decide_eq_true (by kernel_rfl)) (by rfl) id st v o (fun _=>rfl) tree e (begin a0) (b a0) h⟩
end dK
namespace dD
def S (a0:Int):List (PV U):=aa.start C 5 [.int .i64 a0] []
abbrev X:=Empty
def id:X→Nat:=fun _=>0
def st:X→List (PV U):=fun _=>[]
def begin (a0:Int):Tr X A:=
 .call (aI.told a0 (-1000000:Int) (1000000:Int)) fun t1=> .ret t1
def tree:X→Tr X A:=fun _=> .fail
def f (a0:Int):Option A:=(begin a0).run (lp tree)
def Q:bA C:={PL with cb:=[],ca:=[],bV:=[]}
theorem e:aW Pg C Q Tryz.f106 0 id st v o tree:=fun J K x=>by cases x
theorem b (a0:Int):aX Pg C Q Tryz.f106 0 id st v o (S a0) (begin a0):=fun J K=>by kernel_rfl
def told (a0:Int):aa.Told A:=⟨f a0,fun r=>al Pg C 106 (S a0) 0 (v r) (o r),fun r h=>ah G mixed Q Tryz.func106 rfl (of_decide_eq_true (by kernel_rfl)) (by rfl) id st v o (fun _=>rfl) tree e (begin a0) (b a0) h⟩
end dD
namespace fa
def S (a0:Int):List (PV U):=aa.start C 6 [.int .i64 a0] []
abbrev X:=Empty
def id:X→Nat:=fun _=>0
def st:X→List (PV U):=fun _=>[]
def begin (a0:Int):Tr X A:=
 .call (dD.told a0) fun t1=> .ret ((!t1))
def tree:X→Tr X A:=fun _=> .fail
def f (a0:Int):Option A:=(begin a0).run (lp tree)
def Q:bA C:={PL with cb:=[],ca:=[],bV:=[]}
theorem e:aW Pg C Q Tryz.f108 0 id st v o tree:=fun J K x=>by cases x
theorem b (a0:Int):aX Pg C Q Tryz.f108 0 id st v o (S a0) (begin a0):=fun J K=>by kernel_rfl
def told (a0:Int):aa.Told A:=⟨f a0,fun r=>al Pg C 108 (S a0) 0 (v r) (o r),fun r h=>ah G mixed Q Tryz.func108 rfl (of_decide_eq_true (by kernel_rfl)) (by rfl) id st v o (fun _=>rfl) tree e (begin a0) (b a0) h⟩
end fa
namespace aD
def S (a0:List Int):List (PV U):=aa.start C 19 [.sl 3 a0,.fn 108 []] []
inductive X where
 | c2 (x0:List Int) (x1 x2:Int)
def id:X→Nat
 | .c2 .. =>2
def st:X→List (PV U)
 | .c2 x0 x1 x2=>iC 19 [(0,.sl 3 x0),(1,.fn 108 []),(7,.int .i64 x1),(8,.int .i64 x2)]
def begin (a0:List Int):Tr X A:=
 .jump (.c2 a0 (List.length a0:Int) (0:Int))
def tree:X→Tr X A
 | .c2 x0 x1 x2=>
 .ite (decide (x2<x1))
  (.bH ((0:Int)≤x2∧x2<(List.length x0:Int)) (.call (fa.told (dh x0 x2)) fun t1=> .ite t1
   (.ret x2)
   (.jump (.c2 x0 x1 (wr (x2+(1:Int)))))))
  (.ret ((-1:Int)))
def f (a0:List Int):Option A:=(begin a0).run (lp tree)
def Q:bA C:={PL with cb:=[(2,[0,1,7,8])],ca:=[],bV:=[]}
theorem e:aW Pg C Q Tryz.f152 0 id st v o tree:=fun J K x=>by cases x<;>kernel_rfl
theorem b (a0:List Int):aX Pg C Q Tryz.f152 0 id st v o (S a0) (begin a0):=fun J K=>by kernel_rfl
def told (a0:List Int):aa.Told A:=⟨f a0,fun r=>al Pg C 152 (S a0) 0 (v r) (o r),fun r h=>ah G mixed Q Tryz.func152 rfl (of_decide_eq_true (by kernel_rfl)) (by rfl) id st v o (fun _=>rfl) tree e (begin a0) (b a0) h⟩
end aD
namespace bd
def S (a0:List Int):List (PV U):=aa.start C 9 [.sl 3 a0,.fn 108 []] []
abbrev X:=Empty
def id:X→Nat:=fun _=>0
def st:X→List (PV U):=fun _=>[]
def begin (a0:List Int):Tr X A:=
 .call (aD.told a0) fun t1=> .ret ((decide (t1≥(0:Int))))
def tree:X→Tr X A:=fun _=> .fail
def f (a0:List Int):Option A:=(begin a0).run (lp tree)
def Q:bA C:={PL with cb:=[],ca:=[],bV:=[]}
theorem e:aW Pg C Q Tryz.f107 0 id st v o tree:=fun J K x=>by cases x
theorem b (a0:List Int):aX Pg C Q Tryz.f107 0 id st v o (S a0) (begin a0):=fun J K=>by kernel_rfl
def told (a0:List Int):aa.Told A:=⟨f a0,fun r=>al Pg C 107 (S a0) 0 (v r) (o r),fun r h=>ah G mixed Q Tryz.func107 rfl (of_decide_eq_true (by kernel_rfl)) (by rfl) id st v o (fun _=>rfl) tree e (begin a0) (b a0) h⟩
end bd
namespace dc
def S (a0:List Int):List (PV U):=aa.start C 6 [.sl 3 a0] []
abbrev X:=Empty
def id:X→Nat:=fun _=>0
def st:X→List (PV U):=fun _=>[]
def begin (a0:List Int):Tr X A:=
 .call (bd.told a0) fun t1=> .ret ((!t1))
def tree:X→Tr X A:=fun _=> .fail
def f (a0:List Int):Option A:=(begin a0).run (lp tree)
def Q:bA C:={PL with cb:=[],ca:=[],bV:=[]}
theorem e:aW Pg C Q Tryz.f49 0 id st v o tree:=fun J K x=>by cases x
theorem b (a0:List Int):aX Pg C Q Tryz.f49 0 id st v o (S a0) (begin a0):=fun J K=>by kernel_rfl
def told (a0:List Int):aa.Told A:=⟨f a0,fun r=>al Pg C 49 (S a0) 0 (v r) (o r),fun r h=>ah G mixed Q Tryz.func49 rfl (of_decide_eq_true (by kernel_rfl)) (by rfl) id st v o (fun _=>rfl) tree e (begin a0) (b a0) h⟩
end dc
namespace bQ
def S (a0 a1 a2:Int):List (PV U):=aa.start C 27 [.int .i64 a0,.int .i64 a1,.int .i64 a2] []
abbrev X:=Empty
def id:X→Nat:=fun _=>0
def st:X→List (PV U):=fun _=>[]
def begin (a0 a1 a2:Int):Tr X A:=
 .call (aI.told a0 (0:Int) (5:Int)) fun t1=> .ite (!t1)
  (.ret ((-1:Int)))
  (.call (aI.told a1 (0:Int) (8:Int)) fun t2=> .ite (!t2)
   (.ret ((-1:Int)))
   (.call (aI.told a2 (0:Int) (24:Int)) fun t3=> .ite (!t3)
    (.ret ((-1:Int)))
    (.ret ((wr (a0+(wr ((8:Int)*(wr (a1+(wr ((16:Int)*a2))))))))))))
def tree:X→Tr X A:=fun _=> .fail
def f (a0 a1 a2:Int):Option A:=(begin a0 a1 a2).run (lp tree)
def Q:bA C:={PL with cb:=[],ca:=[],bV:=[]}
theorem e:aW Pg C Q Tryz.f151 0 id st v o tree:=fun J K x=>by cases x
theorem b (a0 a1 a2:Int):aX Pg C Q Tryz.f151 0 id st v o (S a0 a1 a2) (begin a0 a1 a2):=fun J K=>by kernel_rfl
def told (a0 a1 a2:Int):aa.Told A:=⟨f a0 a1 a2,fun r=>al Pg C 151 (S a0 a1 a2) 0 (v r) (o r),fun r h=>ah G mixed Q Tryz.func151 rfl (of_decide_eq_true (by kernel_rfl)) (by rfl) id st v o (fun _=>rfl) tree e (begin a0 a1 a2) (b a0 a1 a2) h⟩
end bQ
namespace bC
def S (a0:Int):List (PV U):=aa.start C 28 [.int .i64 a0] []
abbrev X:=Empty
def id:X→Nat:=fun _=>0
def st:X→List (PV U):=fun _=>[]
def begin (a0:Int):Tr X A:=
 .bH ((8:Int)≠0) (.bH ((8:Int)≠0) (.bH ((16:Int)≠0) (.bH ((128:Int)≠0) (.ite (decide (a0<(0:Int)))
  (.ret ((-1:Int),(-1:Int),(-1:Int)))
  (.call (bQ.told (Int.tmod a0 (8:Int)) (Int.tmod (wr (Int.tdiv a0 (8:Int))) (16:Int)) (wr (Int.tdiv a0 (128:Int)))) fun t1=> .ite (!decide (t1=a0))
   (.ret ((-1:Int),(-1:Int),(-1:Int)))
   (.ret ((Int.tmod a0 (8:Int)),(Int.tmod (wr (Int.tdiv a0 (8:Int))) (16:Int)),(wr (Int.tdiv a0 (128:Int))))))))))
def tree:X→Tr X A:=fun _=> .fail
def f (a0:Int):Option A:=(begin a0).run (lp tree)
def Q:bA C:={PL with cb:=[],ca:=[],bV:=[]}
theorem e:aW Pg C Q Tryz.f104 0 id st v o tree:=fun J K x=>by cases x
theorem b (a0:Int):aX Pg C Q Tryz.f104 0 id st v o (S a0) (begin a0):=fun J K=>by kernel_rfl
def told (a0:Int):aa.Told A:=⟨f a0,fun r=>al Pg C 104 (S a0) 0 (v r) (o r),fun r h=>ah G mixed Q Tryz.func104 rfl (of_decide_eq_true (by kernel_rfl)) (by rfl) id st v o (fun _=>rfl) tree e (begin a0) (b a0) h⟩
end bC
namespace fb
def S (a0:List aC) (a1:List Int):List (PV U):=aa.start C 72 [.agg [.sl 164 a0],.sl 3 a1] []
inductive X where
 | c7 (x0:List Int) (x1 x2:Int)
def id:X→Nat
 | .c7 .. =>7
def st:X→List (PV U)
 | .c7 x0 x1 x2=>iC 72 [(1,.sl 3 x0),(48,.int .i64 x1),(49,.int .i64 x2)]
def begin (a0:List aC) (a1:List Int):Tr X A:=
 .call (dK.told a0) fun t1=> .ite (!t1)
  (.ret false)
  (.ite (!decide ((List.length a1:Int)=(49:Int)))
   (.ret false)
   (.bH ((0:Int)≤(0:Int)∧(0:Int)≤(8:Int)∧(8:Int)≤(List.length a1:Int)) (.call (dc.told (List.take (Int.toNat (8:Int)) a1)) fun t2=> .ite (!t2)
    (.ret false)
    (.bH ((0:Int)≤(8:Int)∧(8:Int)<(List.length a1:Int)) (.call (bC.told (dh a1 (8:Int))) fun t3=> .ite (decide (t3.1<(0:Int)))
     (.ret false)
     (.ite (decide (t3.1≥(List.length a0:Int)))
      (.ret false)
      (.bH ((0:Int)≤(25:Int)∧(25:Int)≤(wr ((25:Int)+t3.2.2))∧(wr ((25:Int)+t3.2.2))≤(List.length a1:Int)) (.call (dc.told (List.drop (Int.toNat (25:Int)) (List.take (Int.toNat (wr ((25:Int)+t3.2.2))) a1))) fun t4=> .ite (!t4)
       (.ret false)
       (.jump (.c7 a1 t3.2.1 (0:Int)))))))))))
def tree:X→Tr X A
 | .c7 x0 x1 x2=>
 .ite (decide (x2<x1))
  (.bH ((0:Int)≤(wr ((9:Int)+(wr ((2:Int)*x2))))∧(wr ((9:Int)+(wr ((2:Int)*x2))))<(List.length x0:Int)) (.call (dR.told (dh x0 (wr ((9:Int)+(wr ((2:Int)*x2)))))) fun t1=> .ite (!t1)
   (.ret false)
   (.bH ((0:Int)≤(wr ((wr ((9:Int)+(wr ((2:Int)*x2))))+(1:Int)))∧(wr ((wr ((9:Int)+(wr ((2:Int)*x2))))+(1:Int)))<(List.length x0:Int)) (.call (dD.told (dh x0 (wr ((wr ((9:Int)+(wr ((2:Int)*x2))))+(1:Int))))) fun t2=> .ite (!t2)
    (.ret false)
    (.jump (.c7 x0 x1 (wr (x2+(1:Int)))))))))
  (.ret true)
def f (a0:List aC) (a1:List Int):Option A:=(begin a0 a1).run (lp tree)
def Q:bA C:={PL with cb:=[(7,[1,48,49])],ca:=[],bV:=[]}
theorem e:aW Pg C Q Tryz.f47 0 id st v o tree:=fun J K x=>by cases x<;>kernel_rfl
theorem b (a0:List aC) (a1:List Int):aX Pg C Q Tryz.f47 0 id st v o (S a0 a1) (begin a0 a1):=fun J K=>by kernel_rfl
def told (a0:List aC) (a1:List Int):aa.Told A:=⟨f a0 a1,fun r=>al Pg C 47 (S a0 a1) 0 (v r) (o r),fun r h=>ah G mixed Q Tryz.func47 rfl (of_decide_eq_true (by kernel_rfl)) (by rfl) id st v o (fun _=>rfl) tree e (begin a0 a1) (b a0 a1) h⟩
end fb
namespace gO
def S (a0 a1 a2 a3:Int):List (PV U):=aa.start C 25 [.agg [.int .i64 a0,.int .i64 a1,.int .i64 a2,.int .i64 a3]] []
abbrev X:=Empty
def id:X→Nat:=fun _=>0
def st:X→List (PV U):=fun _=>[]
def begin (a0 a1 a2 a3:Int):Tr X A:=
 .call (aI.told a1 (1:Int) (5000:Int)) fun t1=> .ite t1
  (.call (aI.told a0 (0:Int) a1) fun t2=> .ite t2
   (.call (aI.told a2 (1:Int) a1) fun t3=> .ite t3
    (.call (aI.told a3 (0:Int) (100:Int)) fun t4=> .ret t4)
    (.ret false))
   (.ret false))
  (.ret false)
def tree:X→Tr X A:=fun _=> .fail
def f (a0 a1 a2 a3:Int):Option A:=(begin a0 a1 a2 a3).run (lp tree)
def Q:bA C:={PL with cb:=[],ca:=[],bV:=[]}
theorem e:aW Pg C Q Tryz.f48 0 id st v o tree:=fun J K x=>by cases x
theorem b (a0 a1 a2 a3:Int):aX Pg C Q Tryz.f48 0 id st v o (S a0 a1 a2 a3) (begin a0 a1 a2 a3):=fun J K=>by kernel_rfl
def told (a0 a1 a2 a3:Int):aa.Told A:=⟨f a0 a1 a2 a3,fun r=>al Pg C 48 (S a0 a1 a2 a3) 0 (v r) (o r),fun r h=>ah G mixed Q Tryz.func48 rfl (of_decide_eq_true (by kernel_rfl)) (by rfl) id st v o (fun _=>rfl) tree e (begin a0 a1 a2 a3) (b a0 a1 a2 a3) h⟩
end gO
namespace ck
def S (a0 a1:Int):List (PV U):=aa.start C 18 [.agg [.int .i64 a0,.int .i64 a1]] []
abbrev X:=Empty
def id:X→Nat:=fun _=>0
def st:X→List (PV U):=fun _=>[]
def begin (a0 a1:Int):Tr X A:=
 .ite (decide (a0≥(0:Int)))
  (.ite (decide (a0≤a1))
   (.ret ((decide (a1≤(1000000:Int)))))
   (.ret false))
  (.ret false)
def tree:X→Tr X A:=fun _=> .fail
def f (a0 a1:Int):Option A:=(begin a0 a1).run (lp tree)
def Q:bA C:={PL with cb:=[],ca:=[],bV:=[]}
theorem e:aW Pg C Q Tryz.f51 0 id st v o tree:=fun J K x=>by cases x
theorem b (a0 a1:Int):aX Pg C Q Tryz.f51 0 id st v o (S a0 a1) (begin a0 a1):=fun J K=>by kernel_rfl
def told (a0 a1:Int):aa.Told A:=⟨f a0 a1,fun r=>al Pg C 51 (S a0 a1) 0 (v r) (o r),fun r h=>ah G mixed Q Tryz.func51 rfl (of_decide_eq_true (by kernel_rfl)) (by rfl) id st v o (fun _=>rfl) tree e (begin a0 a1) (b a0 a1) h⟩
end ck
namespace aT
def S (a0:List Int):List (PV U):=aa.start C 8 [.sl 3 a0] []
abbrev X:=Empty
def id:X→Nat:=fun _=>0
def st:X→List (PV U):=fun _=>[]
def begin (a0:List Int):Tr X A:=
 .z6 a0
  (.ret (([]:List Int)))
  (.bH (((List.length ([]:List Int):Int)+(List.length a0:Int))*(8:Nat)≤room) (.ret ((([]:List Int)++a0))))
def tree:X→Tr X A:=fun _=> .fail
def f (a0:List Int):Option A:=(begin a0).run (lp tree)
def Q:bA C:={PL with cb:=[],ca:=[],bV:=[]}
theorem e:aW Pg C Q Tryz.f55 0 id st v o tree:=fun J K x=>by cases x
theorem b (a0:List Int):aX Pg C Q Tryz.f55 0 id st v o (S a0) (begin a0):=fun J K=>by kernel_rfl
def told (a0:List Int):aa.Told A:=⟨f a0,fun r=>al Pg C 55 (S a0) 0 (v r) (o r),fun r h=>ah G mixed Q Tryz.func55 rfl (of_decide_eq_true (by kernel_rfl)) (by rfl) id st v o (fun _=>rfl) tree e (begin a0) (b a0) h⟩
end aT
namespace fH
def S (a0:List Int):List (PV U):=aa.start C 24 [.sl 3 a0] []
abbrev X:=Empty
def id:X→Nat:=fun _=>0
def st:X→List (PV U):=fun _=>[]
def begin (a0:List Int):Tr X A:=
 .ite (!decide ((List.length a0:Int)=(49:Int)))
  (.ret (([]:List Int)))
  (.bH ((0:Int)≤(8:Int)∧(8:Int)<(List.length a0:Int)) (.call (bC.told (dh a0 (8:Int))) fun t1=> .ite (decide (t1.2.2<(0:Int)))
   (.ret (([]:List Int)))
   (.bH ((0:Int)≤(25:Int)∧(25:Int)≤(wr ((25:Int)+t1.2.2))∧(wr ((25:Int)+t1.2.2))≤(List.length a0:Int)) (.call (aT.told (List.drop (Int.toNat (25:Int)) (List.take (Int.toNat (wr ((25:Int)+t1.2.2))) a0))) fun t2=> .ret t2))))
def tree:X→Tr X A:=fun _=> .fail
def f (a0:List Int):Option A:=(begin a0).run (lp tree)
def Q:bA C:={PL with cb:=[],ca:=[],bV:=[]}
theorem e:aW Pg C Q Tryz.f54 0 id st v o tree:=fun J K x=>by cases x
theorem b (a0:List Int):aX Pg C Q Tryz.f54 0 id st v o (S a0) (begin a0):=fun J K=>by kernel_rfl
def told (a0:List Int):aa.Told A:=⟨f a0,fun r=>al Pg C 54 (S a0) 0 (v r) (o r),fun r h=>ah G mixed Q Tryz.func54 rfl (of_decide_eq_true (by kernel_rfl)) (by rfl) id st v o (fun _=>rfl) tree e (begin a0) (b a0) h⟩
end fH
namespace bR
def S (a0 a1:List Int):List (PV U):=aa.start C 26 [.sl 3 a0,.sl 3 a1] []
inductive X where
 | c4 (x0 x1:List Int) (x2 x3:Int)
def id:X→Nat
 | .c4 .. =>4
def st:X→List (PV U)
 | .c4 x0 x1 x2 x3=>iC 26 [(0,.sl 3 x0),(1,.sl 3 x1),(12,.int .i64 x2),(13,.int .i64 x3)]
def begin (a0 a1:List Int):Tr X A:=
 .ite (!decide ((List.length a0:Int)=(List.length a1:Int)))
  (.ret false)
  (.jump (.c4 a0 a1 (List.length a0:Int) (0:Int)))
def tree:X→Tr X A
 | .c4 x0 x1 x2 x3=>
 .ite (decide (x3<x2))
  (.bH ((0:Int)≤x3∧x3<(List.length x0:Int)) (.bH ((0:Int)≤x3∧x3<(List.length x1:Int)) (.ite (!decide ((dh x0 x3)=(dh x1 x3)))
   (.ret false)
   (.jump (.c4 x0 x1 x2 (wr (x3+(1:Int))))))))
  (.ret true)
def f (a0 a1:List Int):Option A:=(begin a0 a1).run (lp tree)
def Q:bA C:={PL with cb:=[(4,[0,1,12,13])],ca:=[(6,[],(.take 0 [] (.take 1 [] (.take 2 [] (.take 4 [] (.take 5 [] (.take 6 [] (.take 3 [0,1,2,4,5,6,7] (.take 7 [0,1,2,3,4,5,6] (.take 8 [] .done))))))))))],bV:=[]}
theorem e:aW Pg C Q Tryz.f53 0 id st v o tree:=fun J K x=>by cases x<;>kernel_rfl
theorem b (a0 a1:List Int):aX Pg C Q Tryz.f53 0 id st v o (S a0 a1) (begin a0 a1):=fun J K=>by kernel_rfl
def told (a0 a1:List Int):aa.Told A:=⟨f a0 a1,fun r=>al Pg C 53 (S a0 a1) 0 (v r) (o r),fun r h=>ah G mixed Q Tryz.func53 rfl (of_decide_eq_true (by kernel_rfl)) (by rfl) id st v o (fun _=>rfl) tree e (begin a0 a1) (b a0 a1) h⟩
end bR
namespace eG
def S (a0 a1:List Int):List (PV U):=aa.start C 18 [.sl 3 a0,.sl 3 a1] []
abbrev X:=Empty
def id:X→Nat:=fun _=>0
def st:X→List (PV U):=fun _=>[]
def begin (a0 a1:List Int):Tr X A:=
 .ite (decide ((List.length a0:Int)≤(List.length a1:Int)))
  (.bH ((0:Int)≤(0:Int)∧(0:Int)≤(List.length a0:Int)∧(List.length a0:Int)≤(List.length a1:Int)) (.call (bR.told a0 (List.take (Int.toNat (List.length a0:Int)) a1)) fun t1=> .ret t1))
  (.ret false)
def tree:X→Tr X A:=fun _=> .fail
def f (a0 a1:List Int):Option A:=(begin a0 a1).run (lp tree)
def Q:bA C:={PL with cb:=[],ca:=[],bV:=[]}
theorem e:aW Pg C Q Tryz.f14 0 id st v o tree:=fun J K x=>by cases x
theorem b (a0 a1:List Int):aX Pg C Q Tryz.f14 0 id st v o (S a0 a1) (begin a0 a1):=fun J K=>by kernel_rfl
def told (a0 a1:List Int):aa.Told A:=⟨f a0 a1,fun r=>al Pg C 14 (S a0 a1) 0 (v r) (o r),fun r h=>ah G mixed Q Tryz.func14 rfl (of_decide_eq_true (by kernel_rfl)) (by rfl) id st v o (fun _=>rfl) tree e (begin a0 a1) (b a0 a1) h⟩
end eG
namespace gg
def S (a0:List Int) (a1:Int) (a2:List Int):List (PV U):=aa.start C 20 [.sl 3 a0,.agg [.int .i64 a1,.sl 3 a2]] []
abbrev X:=Empty
def id:X→Nat:=fun _=>0
def st:X→List (PV U):=fun _=>[]
def begin (a0:List Int) (a1:Int) (a2:List Int):Tr X A:=
 .last (.call (aI.told a1 (0:Int) (List.length a2:Int)) fun t1=> .ite t1
  (.last (.call (fH.told a0) fun t2=> .last (.call (eG.told a2 t2) fun t3=> .ret t3)))
  (.last (.last (.ret false))))
def tree:X→Tr X A:=fun _=> .fail
def f (a0:List Int) (a1:Int) (a2:List Int):Option A:=(begin a0 a1 a2).run (lp tree)
def Q:bA C:={PL with cb:=[],ca:=[(1,[],(.take 0 [] (.take 2 [] (.take 3 [] (.take 1 [0,2,3,4,5] (.take 4 [0,1,2,3] (.take 5 [] (.alt 6 (.take 7 [] (.take 8 [] (.take 9 [] (.take 11 [] (.take 10 [0,1,2,3,4,5,6,7,8,9,11,12] (.alt 12 (.alt 13 (.take 14 [] (.take 15 [] .done)) .nil) .nil)))))) .nil))))))))],bV:=[]}
theorem e:aW Pg C Q Tryz.f52 0 id st v o tree:=fun J K x=>by cases x
theorem b (a0:List Int) (a1:Int) (a2:List Int):aX Pg C Q Tryz.f52 0 id st v o (S a0 a1 a2) (begin a0 a1 a2):=fun J K=>by kernel_rfl
def told (a0:List Int) (a1:Int) (a2:List Int):aa.Told A:=⟨f a0 a1 a2,fun r=>al Pg C 52 (S a0 a1 a2) 0 (v r) (o r),fun r h=>ah G mixed Q Tryz.func52 rfl (of_decide_eq_true (by kernel_rfl)) (by rfl) id st v o (fun _=>rfl) tree e (begin a0 a1 a2) (b a0 a1 a2) h⟩
end gg
namespace bF
def S (a0:List aC) (a1 a2:List Int) (a3 a4 a5 a6 a7 a8 a9 a10:Int) (a11:List Int) (a12:Int):List (PV U):=aa.start C 40 [.agg [.sl 164 a0,.sl 3 a1,.sl 3 a2,.int .i64 a3,.int .i64 a4,.int .i64 a5,.int .i64 a6,.int .i64 a7,.int .i64 a8,.int .i64 a9,.int .i64 a10,.sl 3 a11,.int .i64 a12]] []
abbrev X:=Empty
def id:X→Nat:=fun _=>0
def st:X→List (PV U):=fun _=>[]
def begin (a0:List aC) (a1 a2:List Int) (a3 a4 a5 a6 a7 a8 a9 a10:Int) (a11:List Int) (a12:Int):Tr X A:=
 .call (fb.told a0 a1) fun t1=> .ite t1
  (.call (gO.told a4 a5 a6 a7) fun t2=> .ite t2
   (.call (dc.told a2) fun t3=> .ite t3
    (.call (aI.told a3 (0:Int) (400000:Int)) fun t4=> .ite t4
     (.call (ck.told a8 a9) fun t5=> .ite t5
      (.call (gg.told a1 a10 a11) fun t6=> .ite t6
       (.call (aI.told a12 (0:Int) (100000:Int)) fun t7=> .ret t7)
       (.ret false))
      (.ret false))
     (.ret false))
    (.ret false))
   (.ret false))
  (.ret false)
def tree:X→Tr X A:=fun _=> .fail
def f (a0:List aC) (a1 a2:List Int) (a3 a4 a5 a6 a7 a8 a9 a10:Int) (a11:List Int) (a12:Int):Option A:=(begin a0 a1 a2 a3 a4 a5 a6 a7 a8 a9 a10 a11 a12).run (lp tree)
def Q:bA C:={PL with cb:=[],ca:=[],bV:=[]}
theorem e:aW Pg C Q Tryz.f13 0 id st v o tree:=fun J K x=>by cases x
theorem b (a0:List aC) (a1 a2:List Int) (a3 a4 a5 a6 a7 a8 a9 a10:Int) (a11:List Int) (a12:Int):aX Pg C Q Tryz.f13 0 id st v o (S a0 a1 a2 a3 a4 a5 a6 a7 a8 a9 a10 a11 a12) (begin a0 a1 a2 a3 a4 a5 a6 a7 a8 a9 a10 a11 a12):=fun J K=>by kernel_rfl
def told (a0:List aC) (a1 a2:List Int) (a3 a4 a5 a6 a7 a8 a9 a10:Int) (a11:List Int) (a12:Int):aa.Told A:=⟨f a0 a1 a2 a3 a4 a5 a6 a7 a8 a9 a10 a11 a12,fun r=>al Pg C 13 (S a0 a1 a2 a3 a4 a5 a6 a7 a8 a9 a10 a11 a12) 0 (v r) (o r),fun r h=>ah G mixed Q Tryz.func13 rfl (of_decide_eq_true (by kernel_rfl)) (by rfl) id st v o (fun _=>rfl) tree e (begin a0 a1 a2 a3 a4 a5 a6 a7 a8 a9 a10 a11 a12) (b a0 a1 a2 a3 a4 a5 a6 a7 a8 a9 a10 a11 a12) h⟩
end bF
namespace cg
def S (a0:List aB):List (PV U):=aa.start C 8 [.sl 204 a0] []
abbrev X:=Empty
def id:X→Nat:=fun _=>0
def st:X→List (PV U):=fun _=>[]
def begin (a0:List aB):Tr X A:=
 .z6 a0
  (.ret (([]:List aB)))
  (.bH (((List.length ([]:List aB):Int)+(List.length a0:Int))*(48:Nat)≤room) (.ret ((([]:List aB)++a0))))
def tree:X→Tr X A:=fun _=> .fail
def f (a0:List aB):Option A:=(begin a0).run (lp tree)
def Q:bA C:={PL with cb:=[],ca:=[],bV:=[]}
theorem e:aW Pg C Q Tryz.f175 0 id st v o tree:=fun J K x=>by cases x
theorem b (a0:List aB):aX Pg C Q Tryz.f175 0 id st v o (S a0) (begin a0):=fun J K=>by kernel_rfl
def told (a0:List aB):aa.Told A:=⟨f a0,fun r=>al Pg C 175 (S a0) 0 (v r) (o r),fun r h=>ah G mixed Q Tryz.func175 rfl (of_decide_eq_true (by kernel_rfl)) (by rfl) id st v o (fun _=>rfl) tree e (begin a0) (b a0) h⟩
end cg
namespace gL
def S (a0:List aB) (a1 a2 a3:Int):List (PV U):=aa.start C 8 [.agg [.sl 204 a0,.int .i64 a1,.int .i64 a2,.int .i64 a3]] []
abbrev X:=Empty
def id:X→Nat:=fun _=>0
def st:X→List (PV U):=fun _=>[]
def begin (a0:List aB) (a1 a2 a3:Int):Tr X A:=
 .call (cg.told a0) fun t1=> .ret (t1,a1,a2,a3)
def tree:X→Tr X A:=fun _=> .fail
def f (a0:List aB) (a1 a2 a3:Int):Option A:=(begin a0 a1 a2 a3).run (lp tree)
def Q:bA C:={PL with cb:=[],ca:=[],bV:=[]}
theorem e:aW Pg C Q Tryz.f142 0 id st v o tree:=fun J K x=>by cases x
theorem b (a0:List aB) (a1 a2 a3:Int):aX Pg C Q Tryz.f142 0 id st v o (S a0 a1 a2 a3) (begin a0 a1 a2 a3):=fun J K=>by kernel_rfl
def told (a0:List aB) (a1 a2 a3:Int):aa.Told A:=⟨f a0 a1 a2 a3,fun r=>al Pg C 142 (S a0 a1 a2 a3) 0 (v r) (o r),fun r h=>ah G mixed Q Tryz.func142 rfl (of_decide_eq_true (by kernel_rfl)) (by rfl) id st v o (fun _=>rfl) tree e (begin a0 a1 a2 a3) (b a0 a1 a2 a3) h⟩
end gL
namespace cu
def S (a0:List aC):List (PV U):=aa.start C 23 [.agg [.sl 164 a0]] []
inductive X where
 | c3 (x0 x1 x2:List aC) (x3 x4:Int)
def id:X→Nat
 | .c3 .. =>3
def st:X→List (PV U)
 | .c3 x0 x1 x2 x3 x4=>iC 23 [(2,.box [.own true 164 x0]),(3,.box [.own true 164 x1]),(8,.sl 164 x2),(9,.int .i64 x3),(10,.int .i64 x4)]
def begin (a0:List aC):Tr X A:=
 .jump (.c3 ([]:List aC) ([]:List aC) a0 (List.length a0:Int) (0:Int))
def tree:X→Tr X A
 | .c3 x0 x1 x2 x3 x4=>
 .ite (decide (x4<x3))
  (.bH ((0:Int)≤x4∧x4<(List.length x2:Int)) (.both (.last (.call (gL.told ((bG x2 x4).f0) ((bG x2 x4).f1.f0) ((bG x2 x4).f1.f1) ((bG x2 x4).f1.f2)) fun t1=> .last (.last (.bH (((List.length x1:Int)+(List.length ([(⟨t1.1,(⟨t1.2.1,t1.2.2.1,t1.2.2.2⟩:kP)⟩:aC)]):Int))*(48:Nat)≤room) (.last (.jump (.c3 x0 (x1++[(⟨t1.1,(⟨t1.2.1,t1.2.2.1,t1.2.2.2⟩:kP)⟩:aC)]) x2 x3 (wr (x4+(1:Int))))))))))
   (.last (.call (gL.told ((bG x2 x4).f0) ((bG x2 x4).f1.f0) ((bG x2 x4).f1.f1) ((bG x2 x4).f1.f2)) fun t1=>let u1_0:Tr X A:=(.last (.last (.bH (((List.length x1:Int)+(List.length ([(⟨t1.1,(⟨t1.2.1,t1.2.2.1,t1.2.2.2⟩:kP)⟩:aC)]):Int))*(48:Nat)≤room) (.last (.jump (.c3 x0 (x1++[(⟨t1.1,(⟨t1.2.1,t1.2.2.1,t1.2.2.2⟩:kP)⟩:aC)]) x2 x3 (wr (x4+(1:Int))))))))); .both (u1_0)
    (u1_0)))))
  (.ret x1)
def f (a0:List aC):Option A:=(begin a0).run (lp tree)
def Q:bA C:={PL with cb:=[(3,[2,3,8,9,10])],ca:=[(5,[4,5,7],(.take 0 [] (.take 2 [0,1] (.alt 1 (.alt 3 (.alt 4 (.alt 5 (.take 6 [] (.alt 7 .done .nil)) .nil) .nil) .nil) (.alt 3 (.alt 1 (.alt 4 (.alt 5 (.take 6 [] (.alt 7 .done .nil)) .nil) .nil) (.alt 4 (.take 1 [0,2,3,4] (.alt 5 (.take 6 [] (.alt 7 .done .nil)) .nil)) .nil)) .nil)))))],bV:=[]}
theorem e:aW Pg C Q Tryz.f95 0 id st v o tree:=fun J K x=>by cases x<;>kernel_rfl
theorem b (a0:List aC):aX Pg C Q Tryz.f95 0 id st v o (S a0) (begin a0):=fun J K=>by kernel_rfl
def told (a0:List aC):aa.Told A:=⟨f a0,fun r=>al Pg C 95 (S a0) 0 (v r) (o r),fun r h=>ah G mixed Q Tryz.func95 rfl (of_decide_eq_true (by kernel_rfl)) (by rfl) id st v o (fun _=>rfl) tree e (begin a0) (b a0) h⟩
end cu
namespace eK
def S (a0:Int) (a1:List Int):List (PV U):=aa.start C 11 [.agg [.int .i64 a0,.sl 3 a1]] []
abbrev X:=Empty
def id:X→Nat:=fun _=>0
def st:X→List (PV U):=fun _=>[]
def begin (a0:Int) (a1:List Int):Tr X A:=
 .both (.last (.call (aT.told a1) fun t1=> .last (.last (.last (.ret (a0,t1))))))
  (.last (.call (aT.told a1) fun t1=> .both (.last (.last (.last (.ret (a0,t1)))))
   (.last (.last (.last (.ret (a0,t1)))))))
def tree:X→Tr X A:=fun _=> .fail
def f (a0:Int) (a1:List Int):Option A:=(begin a0 a1).run (lp tree)
def Q:bA C:={PL with cb:=[],ca:=[(1,[6,7,8],(.take 0 [] (.take 2 [] (.take 3 [] (.take 4 [0,1,2,3] (.alt 1 (.alt 5 (.alt 6 (.alt 7 (.alt 8 .done .nil) .nil) .nil) .nil) (.alt 5 (.alt 1 (.alt 6 (.alt 7 (.alt 8 .done .nil) .nil) .nil) (.alt 6 (.take 1 [0,2,3,4,5,6] (.alt 7 (.alt 8 .done .nil) .nil)) .nil)) .nil)))))))],bV:=[]}
theorem e:aW Pg C Q Tryz.f96 0 id st v o tree:=fun J K x=>by cases x
theorem b (a0:Int) (a1:List Int):aX Pg C Q Tryz.f96 0 id st v o (S a0 a1) (begin a0 a1):=fun J K=>by kernel_rfl
def told (a0:Int) (a1:List Int):aa.Told A:=⟨f a0 a1,fun r=>al Pg C 96 (S a0 a1) 0 (v r) (o r),fun r h=>ah G mixed Q Tryz.func96 rfl (of_decide_eq_true (by kernel_rfl)) (by rfl) id st v o (fun _=>rfl) tree e (begin a0 a1) (b a0 a1) h⟩
end eK
namespace bh
def S (a0:List aC) (a1 a2:List Int) (a3 a4 a5 a6 a7 a8 a9 a10:Int) (a11:List Int) (a12:Int):List (PV U):=aa.start C 20 [.agg [.sl 164 a0,.sl 3 a1,.sl 3 a2,.int .i64 a3,.int .i64 a4,.int .i64 a5,.int .i64 a6,.int .i64 a7,.int .i64 a8,.int .i64 a9,.int .i64 a10,.sl 3 a11,.int .i64 a12]] []
abbrev X:=Empty
def id:X→Nat:=fun _=>0
def st:X→List (PV U):=fun _=>[]
def begin (a0:List aC) (a1 a2:List Int) (a3 a4 a5 a6 a7 a8 a9 a10:Int) (a11:List Int) (a12:Int):Tr X A:=
 .last (.call (cu.told a0) fun t1=> .last (.call (aT.told a1) fun t2=> .last (.call (aT.told a2) fun t3=> .last (.call (eK.told a10 a11) fun t4=> .last (.last (.last (.last (.ret (t1,t2,t3,a3,a4,a5,a6,a7,a8,a9,t4.1,t4.2,a12)))))))))
def tree:X→Tr X A:=fun _=> .fail
def f (a0:List aC) (a1 a2:List Int) (a3 a4 a5 a6 a7 a8 a9 a10:Int) (a11:List Int) (a12:Int):Option A:=(begin a0 a1 a2 a3 a4 a5 a6 a7 a8 a9 a10 a11 a12).run (lp tree)
def Q:bA C:={PL with cb:=[],ca:=[(1,[13,15,17,19],(.take 0 [] (.take 3 [] (.take 6 [] (.take 9 [] (.take 1 [0,3,4,6,7,9,10] (.take 4 [0,1,2,3,6,7,9,10] (.take 7 [0,1,2,3,4,5,6,9,10] (.take 10 [0,1,2,3,4,5,6,7,8,9] (.alt 2 (.take 12 [] (.alt 5 (.alt 8 (.alt 11 (.alt 13 (.take 14 [] (.alt 15 (.take 16 [] (.alt 17 (.take 18 [] (.alt 19 .done .nil)) .nil)) .nil)) .nil) .nil) .nil) .nil)) .nil))))))))))],bV:=[]}
theorem e:aW Pg C Q Tryz.f41 0 id st v o tree:=fun J K x=>by cases x
theorem b (a0:List aC) (a1 a2:List Int) (a3 a4 a5 a6 a7 a8 a9 a10:Int) (a11:List Int) (a12:Int):aX Pg C Q Tryz.f41 0 id st v o (S a0 a1 a2 a3 a4 a5 a6 a7 a8 a9 a10 a11 a12) (begin a0 a1 a2 a3 a4 a5 a6 a7 a8 a9 a10 a11 a12):=fun J K=>by kernel_rfl
def told (a0:List aC) (a1 a2:List Int) (a3 a4 a5 a6 a7 a8 a9 a10:Int) (a11:List Int) (a12:Int):aa.Told A:=⟨f a0 a1 a2 a3 a4 a5 a6 a7 a8 a9 a10 a11 a12,fun r=>al Pg C 41 (S a0 a1 a2 a3 a4 a5 a6 a7 a8 a9 a10 a11 a12) 0 (v r) (o r),fun r h=>ah G mixed Q Tryz.func41 rfl (of_decide_eq_true (by kernel_rfl)) (by rfl) id st v o (fun _=>rfl) tree e (begin a0 a1 a2 a3 a4 a5 a6 a7 a8 a9 a10 a11 a12) (b a0 a1 a2 a3 a4 a5 a6 a7 a8 a9 a10 a11 a12) h⟩
end bh
end
end Go.Proofs.YtmapddgocpkgeaaGreat.Ev
