/- Functions as trees, with their contracts. No conditions. -/
import Derived.Test.YtmapddgocpkgeaaGreatUEvF6
namespace Go.Proofs.YtmapddgocpkgeaaGreat.Ev
open Go.Proofs.YtmapddgocpkgeaaGreat.aa Go.RowKit
set_option linter.unusedVariables false
set_option maxRecDepth 100000
noncomputable section
namespace eM
def S (a0:List aC) (a1 a2:List Int) (a3 a4 a5 a6 a7 a8 a9 a10:Int) (a11:List Int) (a12 a13 a14 a15:Int):List (PV U):=aa.start C 84 [.agg [.own true 164 a0,.own true 3 a1,.own true 3 a2,.int .i64 a3,.int .i64 a4,.int .i64 a5,.int .i64 a6,.int .i64 a7,.int .i64 a8,.int .i64 a9,.int .i64 a10,.own true 3 a11,.int .i64 a12],.agg [.int .i64 a13,.int .i64 a14,.int .i64 a15]] []
inductive X where
 | c9 (x0:List aC) (x1 x2:List Int) (x3 x4 x5 x6 x7 x8 x9 x10:Int) (x11:List Int) (x12:Int) (x13:List aC) (x14 x15:List Int) (x16 x17 x18 x19 x20 x21 x22 x23:Int) (x24:List Int) (x25:Int)
def id:X→Nat
 | .c9 .. =>9
def st:X→List (PV U)
 | .c9 x0 x1 x2 x3 x4 x5 x6 x7 x8 x9 x10 x11 x12 x13 x14 x15 x16 x17 x18 x19 x20 x21 x22 x23 x24 x25=>iC 84 [(2,.box [.own true 164 x0,.own true 3 x1,.own true 3 x2,.int .i64 x3,.int .i64 x4,.int .i64 x5,.int .i64 x6,.int .i64 x7,.int .i64 x8,.int .i64 x9,.int .i64 x10,.own true 3 x11,.int .i64 x12]),(4,.box [.own true 164 x13,.own true 3 x14,.own true 3 x15,.int .i64 x16,.int .i64 x17,.int .i64 x18,.int .i64 x19,.int .i64 x20,.int .i64 x21,.int .i64 x22,.int .i64 x23,.own true 3 x24,.int .i64 x25])]
def begin (a0:List aC) (a1 a2:List Int) (a3 a4 a5 a6 a7 a8 a9 a10:Int) (a11:List Int) (a12 a13 a14 a15:Int):Tr X A:=
 let u0_0:Tr X A:=(.last (.ret (a0,a1,a2,a3,a4,a5,a6,a7,a8,a9,a10,a11,a12,(List.length a2:Int))));let u0_1:Tr X A:=(.last (.ret (a0,a1,(a2++[a14]),a3,a4,a5,a6,a7,a8,a9,a10,a11,a12,(List.length (a2++[a14]):Int))));let u0_2:Tr X A:=(.last (.call (bt.told ([true]) a14) fun t1=> .last (.call (il.told a0 a1 a2 a3 a4 a5 a6 a7 a8 a9 a10 a11 a12 t1 (decide (a15=(1:Int)))) fun t2=> .last (.jump (.c9 t2.1 t2.2.1 t2.2.2.1 t2.2.2.2.1 t2.2.2.2.2.1 t2.2.2.2.2.2.1 t2.2.2.2.2.2.2.1 t2.2.2.2.2.2.2.2.1 t2.2.2.2.2.2.2.2.2.1 t2.2.2.2.2.2.2.2.2.2.1 t2.2.2.2.2.2.2.2.2.2.2.1 t2.2.2.2.2.2.2.2.2.2.2.2.1 t2.2.2.2.2.2.2.2.2.2.2.2.2.1 ([]:List aC) ([]:List Int) ([]:List Int) (0:Int) (0:Int) (0:Int) (0:Int) (0:Int) (0:Int) (0:Int) (0:Int) ([]:List Int) (0:Int))))));let u0_3:Tr X A:=(.last (u0_2));let u0_4:Tr X A:=(.both (u0_2) (.last (u0_3)));let u0_5:Tr X A:=(.both (u0_4) (.both (u0_2) (.last (.both (u0_3) (u0_3))))); .ite (decide (a13=(1:Int)))
  (.call (gF.told a0 a1 a2 a3 a4 a5 a6 a7 a8 a9 a10 a11 a12 a13 a14 a15) fun t1=> .ret (t1.1,t1.2.1,t1.2.2.1,t1.2.2.2.1,t1.2.2.2.2.1,t1.2.2.2.2.2.1,t1.2.2.2.2.2.2.1,t1.2.2.2.2.2.2.2.1,t1.2.2.2.2.2.2.2.2.1,t1.2.2.2.2.2.2.2.2.2.1,t1.2.2.2.2.2.2.2.2.2.2.1,t1.2.2.2.2.2.2.2.2.2.2.2.1,t1.2.2.2.2.2.2.2.2.2.2.2.2.1,t1.2.2.2.2.2.2.2.2.2.2.2.2.2))
  (.ite (decide (a13=(2:Int)))
   (.call (cF.told a8 a9 a14 a15) fun t1=> .last (.call (dN.told t1.1 t1.2) fun t2=> .last (.ret (a0,a1,a2,a3,a4,a5,a6,a7,t1.1,t1.2,a10,a11,a12,t2))))
   (.ite (decide (a13=(3:Int)))
    (.both (.both (u0_2)
      (.both (u0_4)
       (.last (u0_4))))
     (.both (u0_2)
      (.both (u0_5)
       (.last (u0_5)))))
    (.ite (decide (a13=(4:Int)))
     (.call (dP.told a8 a9 a14 a15) fun t1=> .last (.call (iW.told t1.2.2) fun t2=> .last (.ret (a0,a1,a2,a3,a4,a5,a6,a7,t1.1,t1.2.1,a10,a11,a12,t2))))
     (.ite (decide ((List.length a2:Int)<(100:Int)))
      (.bH (((List.length a2:Int)+(List.length ([a14]):Int))*(8:Nat)≤room) (.both (u0_1)
       (u0_1)))
      (.both (u0_0)
       (u0_0))))))
def tree:X→Tr X A
 | .c9 x0 x1 x2 x3 x4 x5 x6 x7 x8 x9 x10 x11 x12 x13 x14 x15 x16 x17 x18 x19 x20 x21 x22 x23 x24 x25=>
 let u0_0:Tr X A:=(.last (.ret (x0,x1,x2,x3,x4,x5,x6,x7,x8,x9,x10,x11,x12,(List.length x11:Int)))); .both (u0_0)
  (u0_0)
def f (a0:List aC) (a1 a2:List Int) (a3 a4 a5 a6 a7 a8 a9 a10:Int) (a11:List Int) (a12 a13 a14 a15:Int):Option A:=(begin a0 a1 a2 a3 a4 a5 a6 a7 a8 a9 a10 a11 a12 a13 a14 a15).run (lp tree)
def Q:bA C:={PL with cb:=[(9,[2,4])],ca:=[(6,[4],(.take 1 [] (.take 0 [1,2,3] (.take 2 [0,1] (.alt 3 (.alt 4 (.take 5 [] .done) .nil) .nil))))),(8,[1,12],(.take 2 [] (.take 5 [] (.alt 0 (.alt 1 (.take 3 [0,1,2,5,6,7] (.take 6 [0,1,2,3,4,5] (.take 7 [] (.alt 4 (.alt 8 (.take 9 [] (.take 10 [] (.take 11 [] (.alt 12 .done .nil)))) .nil) .nil)))) (.alt 3 (.alt 1 (.take 6 [0,1,2,3,4,5] (.take 7 [] (.alt 4 (.alt 8 (.take 9 [] (.take 10 [] (.take 11 [] (.alt 12 .done .nil)))) .nil) .nil))) (.alt 6 (.take 7 [] (.alt 1 (.alt 4 (.alt 8 (.take 9 [] (.take 10 [] (.take 11 [] (.alt 12 .done .nil)))) .nil) .nil) .nil)) .nil)) (.alt 6 (.take 7 [] (.alt 1 (.take 3 [0,1,2,5,6,7] (.alt 4 (.alt 8 (.take 9 [] (.take 10 [] (.take 11 [] (.alt 12 .done .nil)))) .nil) .nil)) (.alt 3 (.alt 1 (.alt 4 (.alt 8 (.take 9 [] (.take 10 [] (.take 11 [] (.alt 12 .done .nil)))) .nil) .nil) .nil) .nil))) .nil))) (.alt 1 (.take 0 [1,2,3,4,5,6,7] (.take 3 [0,1,2,5,6,7] (.take 6 [0,1,2,3,4,5] (.take 7 [] (.alt 4 (.alt 8 (.take 9 [] (.take 10 [] (.take 11 [] (.alt 12 .done .nil)))) .nil) .nil))))) (.alt 3 (.alt 0 (.alt 1 (.take 6 [0,1,2,3,4,5] (.take 7 [] (.alt 4 (.alt 8 (.take 9 [] (.take 10 [] (.take 11 [] (.alt 12 .done .nil)))) .nil) .nil))) (.alt 6 (.take 7 [] (.alt 1 (.alt 4 (.alt 8 (.take 9 [] (.take 10 [] (.take 11 [] (.alt 12 .done .nil)))) .nil) .nil) .nil)) .nil)) (.alt 1 (.take 0 [1,2,3,4,5,6,7] (.take 6 [0,1,2,3,4,5] (.take 7 [] (.alt 4 (.alt 8 (.take 9 [] (.take 10 [] (.take 11 [] (.alt 12 .done .nil)))) .nil) .nil)))) (.alt 6 (.take 7 [] (.alt 0 (.alt 1 (.alt 4 (.alt 8 (.take 9 [] (.take 10 [] (.take 11 [] (.alt 12 .done .nil)))) .nil) .nil) .nil) (.alt 1 (.take 0 [1,2,3,4,5,6,7] (.alt 4 (.alt 8 (.take 9 [] (.take 10 [] (.take 11 [] (.alt 12 .done .nil)))) .nil) .nil)) .nil))) .nil))) (.alt 6 (.take 7 [] (.alt 0 (.alt 1 (.take 3 [0,1,2,5,6,7] (.alt 4 (.alt 8 (.take 9 [] (.take 10 [] (.take 11 [] (.alt 12 .done .nil)))) .nil) .nil)) (.alt 3 (.alt 1 (.alt 4 (.alt 8 (.take 9 [] (.take 10 [] (.take 11 [] (.alt 12 .done .nil)))) .nil) .nil) .nil) .nil)) (.alt 1 (.take 0 [1,2,3,4,5,6,7] (.take 3 [0,1,2,5,6,7] (.alt 4 (.alt 8 (.take 9 [] (.take 10 [] (.take 11 [] (.alt 12 .done .nil)))) .nil) .nil))) (.alt 3 (.alt 0 (.alt 1 (.alt 4 (.alt 8 (.take 9 [] (.take 10 [] (.take 11 [] (.alt 12 .done .nil)))) .nil) .nil) .nil) (.alt 1 (.take 0 [1,2,3,4,5,6,7] (.alt 4 (.alt 8 (.take 9 [] (.take 10 [] (.take 11 [] (.alt 12 .done .nil)))) .nil) .nil)) .nil)) .nil)))) .nil))))))),(9,[6],(.take 1 [] (.take 2 [] (.take 3 [] (.take 0 [1,2,3,4,5] (.alt 4 (.take 5 [] (.alt 6 (.take 7 [] .done) .nil)) (.alt 6 (.take 4 [0,1,2,3,6] (.take 5 [] (.take 7 [] .done))) .nil))))))),(13,[3],(.take 1 [] (.take 0 [1,2] (.alt 2 (.alt 3 (.take 4 [] .done) .nil) .nil)))),(16,[4],(.take 1 [] (.take 0 [1,2,3] (.alt 2 (.take 3 [] (.alt 4 (.take 5 [] .done) .nil)) (.alt 4 (.take 2 [0,1,4] (.take 3 [] (.take 5 [] .done))) .nil)))))],bV:=[]}
theorem e:aW Pg C Q Tryz.f83 0 id st v o tree:=fun J K x=>by cases x<;>kernel_rfl
theorem b (a0:List aC) (a1 a2:List Int) (a3 a4 a5 a6 a7 a8 a9 a10:Int) (a11:List Int) (a12 a13 a14 a15:Int):aX Pg C Q Tryz.f83 0 id st v o (S a0 a1 a2 a3 a4 a5 a6 a7 a8 a9 a10 a11 a12 a13 a14 a15) (begin a0 a1 a2 a3 a4 a5 a6 a7 a8 a9 a10 a11 a12 a13 a14 a15):=fun J K=>by kernel_rfl
def told (a0:List aC) (a1 a2:List Int) (a3 a4 a5 a6 a7 a8 a9 a10:Int) (a11:List Int) (a12 a13 a14 a15:Int):aa.Told A:=⟨f a0 a1 a2 a3 a4 a5 a6 a7 a8 a9 a10 a11 a12 a13 a14 a15,fun r=>al Pg C 83 (S a0 a1 a2 a3 a4 a5 a6 a7 a8 a9 a10 a11 a12 a13 a14 a15) 0 (v r) (o r),fun r h=>ah G mixed Q Tryz.func83 rfl (of_decide_eq_true (by kernel_rfl)) (by rfl) id st v o (fun _=>rfl) tree e (begin a0 a1 a2 a3 a4 a5 a6 a7 a8 a9 a10 a11 a12 a13 a14 a15) (b a0 a1 a2 a3 a4 a5 a6 a7 a8 a9 a10 a11 a12 a13 a14 a15) h⟩
end eM
namespace dm
def S (a0:List aC) (a1 a2:List Int) (a3 a4 a5 a6 a7 a8 a9 a10:Int) (a11:List Int) (a12 a13 a14 a15:Int):List (PV U):=aa.start C 22 [.agg [.sl 164 a0,.sl 3 a1,.sl 3 a2,.int .i64 a3,.int .i64 a4,.int .i64 a5,.int .i64 a6,.int .i64 a7,.int .i64 a8,.int .i64 a9,.int .i64 a10,.sl 3 a11,.int .i64 a12],.agg [.int .i64 a13,.int .i64 a14,.int .i64 a15]] []
abbrev X:=Empty
def id:X→Nat:=fun _=>0
def st:X→List (PV U):=fun _=>[]
def begin (a0:List aC) (a1 a2:List Int) (a3 a4 a5 a6 a7 a8 a9 a10:Int) (a11:List Int) (a12 a13 a14 a15:Int):Tr X A:=
 .call (bF.told a0 a1 a2 a3 a4 a5 a6 a7 a8 a9 a10 a11 a12) fun t1=> .ite (!t1)
  (.call (bh.told a0 a1 a2 a3 a4 a5 a6 a7 a8 a9 a10 a11 a12) fun t2=> .ret (t2.1,t2.2.1,t2.2.2.1,t2.2.2.2.1,t2.2.2.2.2.1,t2.2.2.2.2.2.1,t2.2.2.2.2.2.2.1,t2.2.2.2.2.2.2.2.1,t2.2.2.2.2.2.2.2.2.1,t2.2.2.2.2.2.2.2.2.2.1,t2.2.2.2.2.2.2.2.2.2.2.1,t2.2.2.2.2.2.2.2.2.2.2.2.1,t2.2.2.2.2.2.2.2.2.2.2.2.2,(-1:Int)))
  (.call (eZ.told a13 a14 a15) fun t2=> .ite (!t2)
   (.call (bh.told a0 a1 a2 a3 a4 a5 a6 a7 a8 a9 a10 a11 a12) fun t3=> .ret (t3.1,t3.2.1,t3.2.2.1,t3.2.2.2.1,t3.2.2.2.2.1,t3.2.2.2.2.2.1,t3.2.2.2.2.2.2.1,t3.2.2.2.2.2.2.2.1,t3.2.2.2.2.2.2.2.2.1,t3.2.2.2.2.2.2.2.2.2.1,t3.2.2.2.2.2.2.2.2.2.2.1,t3.2.2.2.2.2.2.2.2.2.2.2.1,t3.2.2.2.2.2.2.2.2.2.2.2.2,(-1:Int)))
   (.last (.call (bh.told a0 a1 a2 a3 a4 a5 a6 a7 a8 a9 a10 a11 a12) fun t3=> .last (.call (eM.told t3.1 t3.2.1 t3.2.2.1 t3.2.2.2.1 t3.2.2.2.2.1 t3.2.2.2.2.2.1 t3.2.2.2.2.2.2.1 t3.2.2.2.2.2.2.2.1 t3.2.2.2.2.2.2.2.2.1 t3.2.2.2.2.2.2.2.2.2.1 t3.2.2.2.2.2.2.2.2.2.2.1 t3.2.2.2.2.2.2.2.2.2.2.2.1 t3.2.2.2.2.2.2.2.2.2.2.2.2 a13 a14 a15) fun t4=> .last (.ret (t4.1,t4.2.1,t4.2.2.1,t4.2.2.2.1,t4.2.2.2.2.1,t4.2.2.2.2.2.1,t4.2.2.2.2.2.2.1,t4.2.2.2.2.2.2.2.1,t4.2.2.2.2.2.2.2.2.1,t4.2.2.2.2.2.2.2.2.2.1,t4.2.2.2.2.2.2.2.2.2.2.1,t4.2.2.2.2.2.2.2.2.2.2.2.1,t4.2.2.2.2.2.2.2.2.2.2.2.2.1,t4.2.2.2.2.2.2.2.2.2.2.2.2.2))))))
def tree:X→Tr X A:=fun _=> .fail
def f (a0:List aC) (a1 a2:List Int) (a3 a4 a5 a6 a7 a8 a9 a10:Int) (a11:List Int) (a12 a13 a14 a15:Int):Option A:=(begin a0 a1 a2 a3 a4 a5 a6 a7 a8 a9 a10 a11 a12 a13 a14 a15).run (lp tree)
def Q:bA C:={PL with cb:=[],ca:=[(3,[3,6],(.take 0 [2] (.take 2 [0,1] (.alt 1 (.alt 3 (.take 4 [] (.take 5 [] (.alt 6 (.take 7 [] .done) .nil))) .nil) .nil))))],bV:=[]}
theorem e:aW Pg C Q Tryz.f25 0 id st v o tree:=fun J K x=>by cases x
theorem b (a0:List aC) (a1 a2:List Int) (a3 a4 a5 a6 a7 a8 a9 a10:Int) (a11:List Int) (a12 a13 a14 a15:Int):aX Pg C Q Tryz.f25 0 id st v o (S a0 a1 a2 a3 a4 a5 a6 a7 a8 a9 a10 a11 a12 a13 a14 a15) (begin a0 a1 a2 a3 a4 a5 a6 a7 a8 a9 a10 a11 a12 a13 a14 a15):=fun J K=>by kernel_rfl
def told (a0:List aC) (a1 a2:List Int) (a3 a4 a5 a6 a7 a8 a9 a10:Int) (a11:List Int) (a12 a13 a14 a15:Int):aa.Told A:=⟨f a0 a1 a2 a3 a4 a5 a6 a7 a8 a9 a10 a11 a12 a13 a14 a15,fun r=>al Pg C 25 (S a0 a1 a2 a3 a4 a5 a6 a7 a8 a9 a10 a11 a12 a13 a14 a15) 0 (v r) (o r),fun r h=>ah G mixed Q Tryz.func25 rfl (of_decide_eq_true (by kernel_rfl)) (by rfl) id st v o (fun _=>rfl) tree e (begin a0 a1 a2 a3 a4 a5 a6 a7 a8 a9 a10 a11 a12 a13 a14 a15) (b a0 a1 a2 a3 a4 a5 a6 a7 a8 a9 a10 a11 a12 a13 a14 a15) h⟩
end dm
namespace gj
def S (a0 a1 a2 a3 a4 a5:Int):List (PV U):=aa.start C 20 [.agg [.int .i64 a0,.int .i64 a1,.int .i64 a2],.agg [.int .i64 a3,.int .i64 a4,.int .i64 a5]] []
abbrev X:=Empty
def id:X→Nat:=fun _=>0
def st:X→List (PV U):=fun _=>[]
def begin (a0 a1 a2 a3 a4 a5:Int):Tr X A:=
 .ite (!decide (a0=a3))
  (.ret false)
  (.ite (!decide (a1=a4))
   (.ret false)
   (.ite (!decide (a2=a5))
    (.ret false)
    (.ret true)))
def tree:X→Tr X A:=fun _=> .fail
def f (a0 a1 a2 a3 a4 a5:Int):Option A:=(begin a0 a1 a2 a3 a4 a5).run (lp tree)
def Q:bA C:={PL with cb:=[],ca:=[],bV:=[]}
theorem e:aW Pg C Q Tryz.f202 0 id st v o tree:=fun J K x=>by cases x
theorem b (a0 a1 a2 a3 a4 a5:Int):aX Pg C Q Tryz.f202 0 id st v o (S a0 a1 a2 a3 a4 a5) (begin a0 a1 a2 a3 a4 a5):=fun J K=>by kernel_rfl
def told (a0 a1 a2 a3 a4 a5:Int):aa.Told A:=⟨f a0 a1 a2 a3 a4 a5,fun r=>al Pg C 202 (S a0 a1 a2 a3 a4 a5) 0 (v r) (o r),fun r h=>ah G mixed Q Tryz.func202 rfl (of_decide_eq_true (by kernel_rfl)) (by rfl) id st v o (fun _=>rfl) tree e (begin a0 a1 a2 a3 a4 a5) (b a0 a1 a2 a3 a4 a5) h⟩
end gj
namespace ir
def S (a0 a1 a2 a3 a4 a5 a6 a7 a8 a9 a10 a11:Int):List (PV U):=aa.start C 26 [.agg [.int .i64 a0,.int .i64 a1,.int .i64 a2,.int .i64 a3,.int .i64 a4,.int .i64 a5],.agg [.int .i64 a6,.int .i64 a7,.int .i64 a8,.int .i64 a9,.int .i64 a10,.int .i64 a11]] []
abbrev X:=Empty
def id:X→Nat:=fun _=>0
def st:X→List (PV U):=fun _=>[]
def begin (a0 a1 a2 a3 a4 a5 a6 a7 a8 a9 a10 a11:Int):Tr X A:=
 .ite (!decide (a0=a6))
  (.ret false)
  (.ite (!decide (a1=a7))
   (.ret false)
   (.ite (!decide (a2=a8))
    (.ret false)
    (.call (gj.told a3 a4 a5 a9 a10 a11) fun t1=> .ite (!t1)
     (.ret false)
     (.ret true))))
def tree:X→Tr X A:=fun _=> .fail
def f (a0 a1 a2 a3 a4 a5 a6 a7 a8 a9 a10 a11:Int):Option A:=(begin a0 a1 a2 a3 a4 a5 a6 a7 a8 a9 a10 a11).run (lp tree)
def Q:bA C:={PL with cb:=[],ca:=[],bV:=[]}
theorem e:aW Pg C Q Tryz.f237 0 id st v o tree:=fun J K x=>by cases x
theorem b (a0 a1 a2 a3 a4 a5 a6 a7 a8 a9 a10 a11:Int):aX Pg C Q Tryz.f237 0 id st v o (S a0 a1 a2 a3 a4 a5 a6 a7 a8 a9 a10 a11) (begin a0 a1 a2 a3 a4 a5 a6 a7 a8 a9 a10 a11):=fun J K=>by kernel_rfl
def told (a0 a1 a2 a3 a4 a5 a6 a7 a8 a9 a10 a11:Int):aa.Told A:=⟨f a0 a1 a2 a3 a4 a5 a6 a7 a8 a9 a10 a11,fun r=>al Pg C 237 (S a0 a1 a2 a3 a4 a5 a6 a7 a8 a9 a10 a11) 0 (v r) (o r),fun r h=>ah G mixed Q Tryz.func237 rfl (of_decide_eq_true (by kernel_rfl)) (by rfl) id st v o (fun _=>rfl) tree e (begin a0 a1 a2 a3 a4 a5 a6 a7 a8 a9 a10 a11) (b a0 a1 a2 a3 a4 a5 a6 a7 a8 a9 a10 a11) h⟩
end ir
namespace dW
def S (a0 a1:List aB):List (PV U):=aa.start C 27 [.sl 204 a0,.sl 204 a1] []
inductive X where
 | c4 (x0 x1:List aB) (x2:Int)
def id:X→Nat
 | .c4 .. =>4
def st:X→List (PV U)
 | .c4 x0 x1 x2=>iC 27 [(0,.sl 204 x0),(1,.sl 204 x1),(5,.int .i64 x2)]
def begin (a0 a1:List aB):Tr X A:=
 .ite (!decide ((List.length a0:Int)=(List.length a1:Int)))
  (.ret false)
  (.jump (.c4 a0 a1 (0:Int)))
def tree:X→Tr X A
 | .c4 x0 x1 x2=>
 .ite (decide (x2<(List.length x0:Int)))
  (.bH ((0:Int)≤x2∧x2<(List.length x0:Int)) (.bH ((0:Int)≤x2∧x2<(List.length x1:Int)) (.last (.call (ir.told ((aw x0 x2).f0) ((aw x0 x2).f1) ((aw x0 x2).f2) ((aw x0 x2).f3.f0) ((aw x0 x2).f3.f1) ((aw x0 x2).f3.f2) ((aw x1 x2).f0) ((aw x1 x2).f1) ((aw x1 x2).f2) ((aw x1 x2).f3.f0) ((aw x1 x2).f3.f1) ((aw x1 x2).f3.f2)) fun t1=> .ite (!t1)
   (.ret false)
   (.jump (.c4 x0 x1 (wr (x2+(1:Int)))))))))
  (.ret true)
def f (a0 a1:List aB):Option A:=(begin a0 a1).run (lp tree)
def Q:bA C:={PL with cb:=[(4,[0,1,5])],ca:=[(6,[],(.take 0 [] (.take 1 [] (.take 2 [] (.take 4 [] (.take 5 [] (.take 6 [] (.take 3 [0,1,2,4,5,6,7] (.take 7 [0,1,2,3,4,5,6] (.alt 8 (.take 9 [] .done) .nil))))))))))],bV:=[]}
theorem e:aW Pg C Q Tryz.f201 0 id st v o tree:=fun J K x=>by cases x<;>kernel_rfl
theorem b (a0 a1:List aB):aX Pg C Q Tryz.f201 0 id st v o (S a0 a1) (begin a0 a1):=fun J K=>by kernel_rfl
def told (a0 a1:List aB):aa.Told A:=⟨f a0 a1,fun r=>al Pg C 201 (S a0 a1) 0 (v r) (o r),fun r h=>ah G mixed Q Tryz.func201 rfl (of_decide_eq_true (by kernel_rfl)) (by rfl) id st v o (fun _=>rfl) tree e (begin a0 a1) (b a0 a1) h⟩
end dW
namespace im
def S (a0:List aB) (a1 a2 a3:Int) (a4:List aB) (a5 a6 a7:Int):List (PV U):=aa.start C 17 [.agg [.sl 204 a0,.int .i64 a1,.int .i64 a2,.int .i64 a3],.agg [.sl 204 a4,.int .i64 a5,.int .i64 a6,.int .i64 a7]] []
abbrev X:=Empty
def id:X→Nat:=fun _=>0
def st:X→List (PV U):=fun _=>[]
def begin (a0:List aB) (a1 a2 a3:Int) (a4:List aB) (a5 a6 a7:Int):Tr X A:=
 .call (dW.told a0 a4) fun t1=> .ite (!t1)
  (.ret false)
  (.call (gj.told a1 a2 a3 a5 a6 a7) fun t2=> .ite (!t2)
   (.ret false)
   (.ret true))
def tree:X→Tr X A:=fun _=> .fail
def f (a0:List aB) (a1 a2 a3:Int) (a4:List aB) (a5 a6 a7:Int):Option A:=(begin a0 a1 a2 a3 a4 a5 a6 a7).run (lp tree)
def Q:bA C:={PL with cb:=[],ca:=[],bV:=[]}
theorem e:aW Pg C Q Tryz.f164 0 id st v o tree:=fun J K x=>by cases x
theorem b (a0:List aB) (a1 a2 a3:Int) (a4:List aB) (a5 a6 a7:Int):aX Pg C Q Tryz.f164 0 id st v o (S a0 a1 a2 a3 a4 a5 a6 a7) (begin a0 a1 a2 a3 a4 a5 a6 a7):=fun J K=>by kernel_rfl
def told (a0:List aB) (a1 a2 a3:Int) (a4:List aB) (a5 a6 a7:Int):aa.Told A:=⟨f a0 a1 a2 a3 a4 a5 a6 a7,fun r=>al Pg C 164 (S a0 a1 a2 a3 a4 a5 a6 a7) 0 (v r) (o r),fun r h=>ah G mixed Q Tryz.func164 rfl (of_decide_eq_true (by kernel_rfl)) (by rfl) id st v o (fun _=>rfl) tree e (begin a0 a1 a2 a3 a4 a5 a6 a7) (b a0 a1 a2 a3 a4 a5 a6 a7) h⟩
end im
namespace dQ
def S (a0 a1:List aC):List (PV U):=aa.start C 27 [.sl 164 a0,.sl 164 a1] []
inductive X where
 | c4 (x0 x1:List aC) (x2:Int)
def id:X→Nat
 | .c4 .. =>4
def st:X→List (PV U)
 | .c4 x0 x1 x2=>iC 27 [(0,.sl 164 x0),(1,.sl 164 x1),(5,.int .i64 x2)]
def begin (a0 a1:List aC):Tr X A:=
 .ite (!decide ((List.length a0:Int)=(List.length a1:Int)))
  (.ret false)
  (.jump (.c4 a0 a1 (0:Int)))
def tree:X→Tr X A
 | .c4 x0 x1 x2=>
 .ite (decide (x2<(List.length x0:Int)))
  (.bH ((0:Int)≤x2∧x2<(List.length x0:Int)) (.bH ((0:Int)≤x2∧x2<(List.length x1:Int)) (.last (.call (im.told ((bG x0 x2).f0) ((bG x0 x2).f1.f0) ((bG x0 x2).f1.f1) ((bG x0 x2).f1.f2) ((bG x1 x2).f0) ((bG x1 x2).f1.f0) ((bG x1 x2).f1.f1) ((bG x1 x2).f1.f2)) fun t1=> .ite (!t1)
   (.ret false)
   (.jump (.c4 x0 x1 (wr (x2+(1:Int)))))))))
  (.ret true)
def f (a0 a1:List aC):Option A:=(begin a0 a1).run (lp tree)
def Q:bA C:={PL with cb:=[(4,[0,1,5])],ca:=[(6,[],(.take 0 [] (.take 1 [] (.take 2 [] (.take 4 [] (.take 5 [] (.take 6 [] (.take 3 [0,1,2,4,5,6,7] (.take 7 [0,1,2,3,4,5,6] (.alt 8 (.take 9 [] .done) .nil))))))))))],bV:=[]}
theorem e:aW Pg C Q Tryz.f123 0 id st v o tree:=fun J K x=>by cases x<;>kernel_rfl
theorem b (a0 a1:List aC):aX Pg C Q Tryz.f123 0 id st v o (S a0 a1) (begin a0 a1):=fun J K=>by kernel_rfl
def told (a0 a1:List aC):aa.Told A:=⟨f a0 a1,fun r=>al Pg C 123 (S a0 a1) 0 (v r) (o r),fun r h=>ah G mixed Q Tryz.func123 rfl (of_decide_eq_true (by kernel_rfl)) (by rfl) id st v o (fun _=>rfl) tree e (begin a0 a1) (b a0 a1) h⟩
end dQ
namespace fv
def S (a0 a1:List aC):List (PV U):=aa.start C 11 [.agg [.sl 164 a0],.agg [.sl 164 a1]] []
abbrev X:=Empty
def id:X→Nat:=fun _=>0
def st:X→List (PV U):=fun _=>[]
def begin (a0 a1:List aC):Tr X A:=
 .call (dQ.told a0 a1) fun t1=> .ite (!t1)
  (.ret false)
  (.ret true)
def tree:X→Tr X A:=fun _=> .fail
def f (a0 a1:List aC):Option A:=(begin a0 a1).run (lp tree)
def Q:bA C:={PL with cb:=[],ca:=[],bV:=[]}
theorem e:aW Pg C Q Tryz.f67 0 id st v o tree:=fun J K x=>by cases x
theorem b (a0 a1:List aC):aX Pg C Q Tryz.f67 0 id st v o (S a0 a1) (begin a0 a1):=fun J K=>by kernel_rfl
def told (a0 a1:List aC):aa.Told A:=⟨f a0 a1,fun r=>al Pg C 67 (S a0 a1) 0 (v r) (o r),fun r h=>ah G mixed Q Tryz.func67 rfl (of_decide_eq_true (by kernel_rfl)) (by rfl) id st v o (fun _=>rfl) tree e (begin a0 a1) (b a0 a1) h⟩
end fv
namespace cZ
def S (a0 a1:List Int):List (PV U):=aa.start C 26 [.sl 3 a0,.sl 3 a1] []
inductive X where
 | c4 (x0 x1:List Int) (x2:Int)
def id:X→Nat
 | .c4 .. =>4
def st:X→List (PV U)
 | .c4 x0 x1 x2=>iC 26 [(0,.sl 3 x0),(1,.sl 3 x1),(5,.int .i64 x2)]
def begin (a0 a1:List Int):Tr X A:=
 .ite (!decide ((List.length a0:Int)=(List.length a1:Int)))
  (.ret false)
  (.jump (.c4 a0 a1 (0:Int)))
def tree:X→Tr X A
 | .c4 x0 x1 x2=>
 .ite (decide (x2<(List.length x0:Int)))
  (.bH ((0:Int)≤x2∧x2<(List.length x0:Int)) (.bH ((0:Int)≤x2∧x2<(List.length x1:Int)) (.ite (!decide ((dh x0 x2)=(dh x1 x2)))
   (.ret false)
   (.jump (.c4 x0 x1 (wr (x2+(1:Int))))))))
  (.ret true)
def f (a0 a1:List Int):Option A:=(begin a0 a1).run (lp tree)
def Q:bA C:={PL with cb:=[(4,[0,1,5])],ca:=[(6,[],(.take 0 [] (.take 1 [] (.take 2 [] (.take 4 [] (.take 5 [] (.take 6 [] (.take 3 [0,1,2,4,5,6,7] (.take 7 [0,1,2,3,4,5,6] (.take 8 [] .done))))))))))],bV:=[]}
theorem e:aW Pg C Q Tryz.f30 0 id st v o tree:=fun J K x=>by cases x<;>kernel_rfl
theorem b (a0 a1:List Int):aX Pg C Q Tryz.f30 0 id st v o (S a0 a1) (begin a0 a1):=fun J K=>by kernel_rfl
def told (a0 a1:List Int):aa.Told A:=⟨f a0 a1,fun r=>al Pg C 30 (S a0 a1) 0 (v r) (o r),fun r h=>ah G mixed Q Tryz.func30 rfl (of_decide_eq_true (by kernel_rfl)) (by rfl) id st v o (fun _=>rfl) tree e (begin a0 a1) (b a0 a1) h⟩
end cZ
namespace gR
def S (a0 a1 a2 a3 a4 a5 a6 a7:Int):List (PV U):=aa.start C 25 [.agg [.int .i64 a0,.int .i64 a1,.int .i64 a2,.int .i64 a3],.agg [.int .i64 a4,.int .i64 a5,.int .i64 a6,.int .i64 a7]] []
abbrev X:=Empty
def id:X→Nat:=fun _=>0
def st:X→List (PV U):=fun _=>[]
def begin (a0 a1 a2 a3 a4 a5 a6 a7:Int):Tr X A:=
 .ite (!decide (a0=a4))
  (.ret false)
  (.ite (!decide (a1=a5))
   (.ret false)
   (.ite (!decide (a2=a6))
    (.ret false)
    (.ite (!decide (a3=a7))
     (.ret false)
     (.ret true))))
def tree:X→Tr X A:=fun _=> .fail
def f (a0 a1 a2 a3 a4 a5 a6 a7:Int):Option A:=(begin a0 a1 a2 a3 a4 a5 a6 a7).run (lp tree)
def Q:bA C:={PL with cb:=[],ca:=[],bV:=[]}
theorem e:aW Pg C Q Tryz.f68 0 id st v o tree:=fun J K x=>by cases x
theorem b (a0 a1 a2 a3 a4 a5 a6 a7:Int):aX Pg C Q Tryz.f68 0 id st v o (S a0 a1 a2 a3 a4 a5 a6 a7) (begin a0 a1 a2 a3 a4 a5 a6 a7):=fun J K=>by kernel_rfl
def told (a0 a1 a2 a3 a4 a5 a6 a7:Int):aa.Told A:=⟨f a0 a1 a2 a3 a4 a5 a6 a7,fun r=>al Pg C 68 (S a0 a1 a2 a3 a4 a5 a6 a7) 0 (v r) (o r),fun r h=>ah G mixed Q Tryz.func68 rfl (of_decide_eq_true (by kernel_rfl)) (by rfl) id st v o (fun _=>rfl) tree e (begin a0 a1 a2 a3 a4 a5 a6 a7) (b a0 a1 a2 a3 a4 a5 a6 a7) h⟩
end gR
namespace iz
def S (a0 a1 a2 a3:Int):List (PV U):=aa.start C 15 [.agg [.int .i64 a0,.int .i64 a1],.agg [.int .i64 a2,.int .i64 a3]] []
abbrev X:=Empty
def id:X→Nat:=fun _=>0
def st:X→List (PV U):=fun _=>[]
def begin (a0 a1 a2 a3:Int):Tr X A:=
 .ite (!decide (a0=a2))
  (.ret false)
  (.ite (!decide (a1=a3))
   (.ret false)
   (.ret true))
def tree:X→Tr X A:=fun _=> .fail
def f (a0 a1 a2 a3:Int):Option A:=(begin a0 a1 a2 a3).run (lp tree)
def Q:bA C:={PL with cb:=[],ca:=[],bV:=[]}
theorem e:aW Pg C Q Tryz.f69 0 id st v o tree:=fun J K x=>by cases x
theorem b (a0 a1 a2 a3:Int):aX Pg C Q Tryz.f69 0 id st v o (S a0 a1 a2 a3) (begin a0 a1 a2 a3):=fun J K=>by kernel_rfl
def told (a0 a1 a2 a3:Int):aa.Told A:=⟨f a0 a1 a2 a3,fun r=>al Pg C 69 (S a0 a1 a2 a3) 0 (v r) (o r),fun r h=>ah G mixed Q Tryz.func69 rfl (of_decide_eq_true (by kernel_rfl)) (by rfl) id st v o (fun _=>rfl) tree e (begin a0 a1 a2 a3) (b a0 a1 a2 a3) h⟩
end iz
namespace fo
def S (a0 a1:List Int):List (PV U):=aa.start C 11 [.agg [.sl 3 a0],.agg [.sl 3 a1]] []
abbrev X:=Empty
def id:X→Nat:=fun _=>0
def st:X→List (PV U):=fun _=>[]
def begin (a0 a1:List Int):Tr X A:=
 .call (cZ.told a0 a1) fun t1=> .ite (!t1)
  (.ret false)
  (.ret true)
def tree:X→Tr X A:=fun _=> .fail
def f (a0 a1:List Int):Option A:=(begin a0 a1).run (lp tree)
def Q:bA C:={PL with cb:=[],ca:=[],bV:=[]}
theorem e:aW Pg C Q Tryz.f124 0 id st v o tree:=fun J K x=>by cases x
theorem b (a0 a1:List Int):aX Pg C Q Tryz.f124 0 id st v o (S a0 a1) (begin a0 a1):=fun J K=>by kernel_rfl
def told (a0 a1:List Int):aa.Told A:=⟨f a0 a1,fun r=>al Pg C 124 (S a0 a1) 0 (v r) (o r),fun r h=>ah G mixed Q Tryz.func124 rfl (of_decide_eq_true (by kernel_rfl)) (by rfl) id st v o (fun _=>rfl) tree e (begin a0 a1) (b a0 a1) h⟩
end fo
namespace iq
def S (a0:Int) (a1:List Int) (a2:Int) (a3:List Int):List (PV U):=aa.start C 16 [.agg [.int .i64 a0,.sl 3 a1],.agg [.int .i64 a2,.sl 3 a3]] []
abbrev X:=Empty
def id:X→Nat:=fun _=>0
def st:X→List (PV U):=fun _=>[]
def begin (a0:Int) (a1:List Int) (a2:Int) (a3:List Int):Tr X A:=
 .ite (!decide (a0=a2))
  (.ret false)
  (.call (fo.told a1 a3) fun t1=> .ite (!t1)
   (.ret false)
   (.ret true))
def tree:X→Tr X A:=fun _=> .fail
def f (a0:Int) (a1:List Int) (a2:Int) (a3:List Int):Option A:=(begin a0 a1 a2 a3).run (lp tree)
def Q:bA C:={PL with cb:=[],ca:=[],bV:=[]}
theorem e:aW Pg C Q Tryz.f70 0 id st v o tree:=fun J K x=>by cases x
theorem b (a0:Int) (a1:List Int) (a2:Int) (a3:List Int):aX Pg C Q Tryz.f70 0 id st v o (S a0 a1 a2 a3) (begin a0 a1 a2 a3):=fun J K=>by kernel_rfl
def told (a0:Int) (a1:List Int) (a2:Int) (a3:List Int):aa.Told A:=⟨f a0 a1 a2 a3,fun r=>al Pg C 70 (S a0 a1 a2 a3) 0 (v r) (o r),fun r h=>ah G mixed Q Tryz.func70 rfl (of_decide_eq_true (by kernel_rfl)) (by rfl) id st v o (fun _=>rfl) tree e (begin a0 a1 a2 a3) (b a0 a1 a2 a3) h⟩
end iq
namespace eP
def S (a0:List aC) (a1 a2:List Int) (a3 a4 a5 a6 a7 a8 a9 a10:Int) (a11:List Int) (a12:Int) (a13:List aC) (a14 a15:List Int) (a16 a17 a18 a19 a20 a21 a22 a23:Int) (a24:List Int) (a25:Int):List (PV U):=aa.start C 51 [.agg [.sl 164 a0,.sl 3 a1,.sl 3 a2,.int .i64 a3,.int .i64 a4,.int .i64 a5,.int .i64 a6,.int .i64 a7,.int .i64 a8,.int .i64 a9,.int .i64 a10,.sl 3 a11,.int .i64 a12],.agg [.sl 164 a13,.sl 3 a14,.sl 3 a15,.int .i64 a16,.int .i64 a17,.int .i64 a18,.int .i64 a19,.int .i64 a20,.int .i64 a21,.int .i64 a22,.int .i64 a23,.sl 3 a24,.int .i64 a25]] []
abbrev X:=Empty
def id:X→Nat:=fun _=>0
def st:X→List (PV U):=fun _=>[]
def begin (a0:List aC) (a1 a2:List Int) (a3 a4 a5 a6 a7 a8 a9 a10:Int) (a11:List Int) (a12:Int) (a13:List aC) (a14 a15:List Int) (a16 a17 a18 a19 a20 a21 a22 a23:Int) (a24:List Int) (a25:Int):Tr X A:=
 .call (fv.told a0 a13) fun t1=> .ite (!t1)
  (.ret false)
  (.call (cZ.told a1 a14) fun t2=> .ite (!t2)
   (.ret false)
   (.call (cZ.told a2 a15) fun t3=> .ite (!t3)
    (.ret false)
    (.ite (!decide (a3=a16))
     (.ret false)
     (.call (gR.told a4 a5 a6 a7 a17 a18 a19 a20) fun t4=> .ite (!t4)
      (.ret false)
      (.call (iz.told a8 a9 a21 a22) fun t5=> .ite (!t5)
       (.ret false)
       (.call (iq.told a10 a11 a23 a24) fun t6=> .ite (!t6)
        (.ret false)
        (.ite (!decide (a12=a25))
         (.ret false)
         (.ret true))))))))
def tree:X→Tr X A:=fun _=> .fail
def f (a0:List aC) (a1 a2:List Int) (a3 a4 a5 a6 a7 a8 a9 a10:Int) (a11:List Int) (a12:Int) (a13:List aC) (a14 a15:List Int) (a16 a17 a18 a19 a20 a21 a22 a23:Int) (a24:List Int) (a25:Int):Option A:=(begin a0 a1 a2 a3 a4 a5 a6 a7 a8 a9 a10 a11 a12 a13 a14 a15 a16 a17 a18 a19 a20 a21 a22 a23 a24 a25).run (lp tree)
def Q:bA C:={PL with cb:=[],ca:=[],bV:=[]}
theorem e:aW Pg C Q Tryz.f20 0 id st v o tree:=fun J K x=>by cases x
theorem b (a0:List aC) (a1 a2:List Int) (a3 a4 a5 a6 a7 a8 a9 a10:Int) (a11:List Int) (a12:Int) (a13:List aC) (a14 a15:List Int) (a16 a17 a18 a19 a20 a21 a22 a23:Int) (a24:List Int) (a25:Int):aX Pg C Q Tryz.f20 0 id st v o (S a0 a1 a2 a3 a4 a5 a6 a7 a8 a9 a10 a11 a12 a13 a14 a15 a16 a17 a18 a19 a20 a21 a22 a23 a24 a25) (begin a0 a1 a2 a3 a4 a5 a6 a7 a8 a9 a10 a11 a12 a13 a14 a15 a16 a17 a18 a19 a20 a21 a22 a23 a24 a25):=fun J K=>by kernel_rfl
def told (a0:List aC) (a1 a2:List Int) (a3 a4 a5 a6 a7 a8 a9 a10:Int) (a11:List Int) (a12:Int) (a13:List aC) (a14 a15:List Int) (a16 a17 a18 a19 a20 a21 a22 a23:Int) (a24:List Int) (a25:Int):aa.Told A:=⟨f a0 a1 a2 a3 a4 a5 a6 a7 a8 a9 a10 a11 a12 a13 a14 a15 a16 a17 a18 a19 a20 a21 a22 a23 a24 a25,fun r=>al Pg C 20 (S a0 a1 a2 a3 a4 a5 a6 a7 a8 a9 a10 a11 a12 a13 a14 a15 a16 a17 a18 a19 a20 a21 a22 a23 a24 a25) 0 (v r) (o r),fun r h=>ah G mixed Q Tryz.func20 rfl (of_decide_eq_true (by kernel_rfl)) (by rfl) id st v o (fun _=>rfl) tree e (begin a0 a1 a2 a3 a4 a5 a6 a7 a8 a9 a10 a11 a12 a13 a14 a15 a16 a17 a18 a19 a20 a21 a22 a23 a24 a25) (b a0 a1 a2 a3 a4 a5 a6 a7 a8 a9 a10 a11 a12 a13 a14 a15 a16 a17 a18 a19 a20 a21 a22 a23 a24 a25) h⟩
end eP
namespace eC
def S (a0:Int) (a1:List aB):List (PV U):=aa.start C 58 [.nj (58,[]),.int .i64 a0] [.own true 204 a1]
inductive X where
 | c2 (x0 x1:Int) (x2:List aB)
def id:X→Nat
 | .c2 .. =>2
def st:X→List (PV U)
 | .c2 x0 x1 x2=>iC 59 [(0,.nj (58,[])),(1,.int .i64 x0),(5,.int .i64 x1),(58,.own true 204 x2)]
def begin (a0:Int) (a1:List aB):Tr X A:=
 .jump (.c2 a0 (0:Int) a1)
def tree:X→Tr X A
 | .c2 x0 x1 x2=>
 .ite (decide (x1<(List.length x2:Int)))
  (.bH ((0:Int)≤x1∧x1<(List.length x2:Int)) (.val ((List.set x2 (Int.toNat x1) (⟨x0,(aw x2 x1).f1,(aw x2 x1).f2,(⟨(aw x2 x1).f3.f0,(aw x2 x1).f3.f1,(aw x2 x1).f3.f2⟩:kP)⟩:aB)):List aB) fun v1=> .bH ((0:Int)≤x1∧x1<(List.length v1:Int)) (.val ((List.set v1 (Int.toNat x1) (⟨(aw v1 x1).f0,(wr (x0+(1:Int))),(aw v1 x1).f2,(⟨(aw v1 x1).f3.f0,(aw v1 x1).f3.f1,(aw v1 x1).f3.f2⟩:kP)⟩:aB)):List aB) fun v2=> .bH ((0:Int)≤x1∧x1<(List.length v2:Int)) (.val ((List.set v2 (Int.toNat x1) (⟨(aw v2 x1).f0,(aw v2 x1).f1,(wr ((wr (x0+(1:Int)))+(1:Int))),(⟨(aw v2 x1).f3.f0,(aw v2 x1).f3.f1,(aw v2 x1).f3.f2⟩:kP)⟩:aB)):List aB) fun v3=> .bH ((0:Int)≤x1∧x1<(List.length v3:Int)) (.val ((List.set v3 (Int.toNat x1) (⟨(aw v3 x1).f0,(aw v3 x1).f1,(aw v3 x1).f2,(⟨(wr ((wr ((wr (x0+(1:Int)))+(1:Int)))+(1:Int))),(aw v3 x1).f3.f1,(aw v3 x1).f3.f2⟩:kP)⟩:aB)):List aB) fun v4=> .bH ((0:Int)≤x1∧x1<(List.length v4:Int)) (.val ((List.set v4 (Int.toNat x1) (⟨(aw v4 x1).f0,(aw v4 x1).f1,(aw v4 x1).f2,(⟨(aw v4 x1).f3.f0,(wr ((wr ((wr ((wr (x0+(1:Int)))+(1:Int)))+(1:Int)))+(1:Int))),(aw v4 x1).f3.f2⟩:kP)⟩:aB)):List aB) fun v5=> .val ((wr ((wr ((wr ((wr ((wr (x0+(1:Int)))+(1:Int)))+(1:Int)))+(1:Int)))+(1:Int))):Int) fun v6=> .bH ((0:Int)≤x1∧x1<(List.length v5:Int)) (.val ((List.set v5 (Int.toNat x1) (⟨(aw v5 x1).f0,(aw v5 x1).f1,(aw v5 x1).f2,(⟨(aw v5 x1).f3.f0,(aw v5 x1).f3.f1,v6⟩:kP)⟩:aB)):List aB) fun v7=> .jump (.c2 (wr (v6+(1:Int))) (wr (x1+(1:Int))) v7))))))))
  (.ret (x0,x2))
def f (a0:Int) (a1:List aB):Option A:=(begin a0 a1).run (lp tree)
def Q:bA C:={PL with cb:=[(2,[0,1,5,58])],ca:=[],bV:=[]}
theorem e:aW Pg C Q Tryz.f165 1 id st v o tree:=fun J K x=>by cases x<;>kernel_rfl
theorem b (a0:Int) (a1:List aB):aX Pg C Q Tryz.f165 1 id st v o (S a0 a1) (begin a0 a1):=fun J K=>by kernel_rfl
def told (a0:Int) (a1:List aB):aa.Told A:=⟨f a0 a1,fun r=>al Pg C 165 (S a0 a1) 1 (v r) (o r),fun r h=>ah G mixed Q Tryz.func165 rfl (of_decide_eq_true (by kernel_rfl)) (by rfl) id st v o (fun _=>rfl) tree e (begin a0 a1) (b a0 a1) h⟩
end eC
namespace eF
def S (a0:Int) (a1:List aC):List (PV U):=aa.start C 44 [.nj (44,[]),.int .i64 a0] [.own true 164 a1]
inductive X where
 | c2 (x0 x1:Int) (x2:List aC)
def id:X→Nat
 | .c2 .. =>2
def st:X→List (PV U)
 | .c2 x0 x1 x2=>iC 45 [(0,.nj (44,[])),(1,.int .i64 x0),(5,.int .i64 x1),(44,.own true 164 x2)]
def begin (a0:Int) (a1:List aC):Tr X A:=
 .jump (.c2 a0 (0:Int) a1)
def tree:X→Tr X A
 | .c2 x0 x1 x2=>
 .ite (decide (x1<(List.length x2:Int)))
  (.bH ((0:Int)≤x1∧x1<(List.length x2:Int)) (.call (eC.told x0 ((bG x2 x1).f0)) fun t1=> .bH ((0:Int)≤x1∧x1<(List.length (List.set x2 (Int.toNat x1) (⟨t1.2,(⟨(bG x2 x1).f1.f0,(bG x2 x1).f1.f1,(bG x2 x1).f1.f2⟩:kP)⟩:aC)):Int)) (.val ((List.set (List.set x2 (Int.toNat x1) (⟨t1.2,(⟨(bG x2 x1).f1.f0,(bG x2 x1).f1.f1,(bG x2 x1).f1.f2⟩:kP)⟩:aC)) (Int.toNat x1) (⟨(bG (List.set x2 (Int.toNat x1) (⟨t1.2,(⟨(bG x2 x1).f1.f0,(bG x2 x1).f1.f1,(bG x2 x1).f1.f2⟩:kP)⟩:aC)) x1).f0,(⟨t1.1,(bG (List.set x2 (Int.toNat x1) (⟨t1.2,(⟨(bG x2 x1).f1.f0,(bG x2 x1).f1.f1,(bG x2 x1).f1.f2⟩:kP)⟩:aC)) x1).f1.f1,(bG (List.set x2 (Int.toNat x1) (⟨t1.2,(⟨(bG x2 x1).f1.f0,(bG x2 x1).f1.f1,(bG x2 x1).f1.f2⟩:kP)⟩:aC)) x1).f1.f2⟩:kP)⟩:aC)):List aC) fun v2=> .bH ((0:Int)≤x1∧x1<(List.length v2:Int)) (.val ((List.set v2 (Int.toNat x1) (⟨(bG v2 x1).f0,(⟨(bG v2 x1).f1.f0,(wr (t1.1+(1:Int))),(bG v2 x1).f1.f2⟩:kP)⟩:aC)):List aC) fun v3=> .bH ((0:Int)≤x1∧x1<(List.length v3:Int)) (.val ((List.set v3 (Int.toNat x1) (⟨(bG v3 x1).f0,(⟨(bG v3 x1).f1.f0,(bG v3 x1).f1.f1,(wr ((wr (t1.1+(1:Int)))+(1:Int)))⟩:kP)⟩:aC)):List aC) fun v4=> .jump (.c2 (wr ((wr ((wr (t1.1+(1:Int)))+(1:Int)))+(1:Int))) (wr (x1+(1:Int))) v4))))))
  (.ret (x0,x2))
def f (a0:Int) (a1:List aC):Option A:=(begin a0 a1).run (lp tree)
def Q:bA C:={PL with cb:=[(2,[0,1,5,44])],ca:=[],bV:=[]}
theorem e:aW Pg C Q Tryz.f125 1 id st v o tree:=fun J K x=>by cases x<;>kernel_rfl
theorem b (a0:Int) (a1:List aC):aX Pg C Q Tryz.f125 1 id st v o (S a0 a1) (begin a0 a1):=fun J K=>by kernel_rfl
def told (a0:Int) (a1:List aC):aa.Told A:=⟨f a0 a1,fun r=>al Pg C 125 (S a0 a1) 1 (v r) (o r),fun r h=>ah G mixed Q Tryz.func125 rfl (of_decide_eq_true (by kernel_rfl)) (by rfl) id st v o (fun _=>rfl) tree e (begin a0 a1) (b a0 a1) h⟩
end eF
namespace gx
def S (a0:Int) (a1:List aC):List (PV U):=aa.start C 10 [.agg [.nj (10,[])],.int .i64 a0] [.own true 164 a1]
abbrev X:=Empty
def id:X→Nat:=fun _=>0
def st:X→List (PV U):=fun _=>[]
def begin (a0:Int) (a1:List aC):Tr X A:=
 .call (eF.told a0 a1) fun t1=> .ret (t1.1,t1.2)
def tree:X→Tr X A:=fun _=> .fail
def f (a0:Int) (a1:List aC):Option A:=(begin a0 a1).run (lp tree)
def Q:bA C:={PL with cb:=[],ca:=[],bV:=[]}
theorem e:aW Pg C Q Tryz.f71 1 id st v o tree:=fun J K x=>by cases x
theorem b (a0:Int) (a1:List aC):aX Pg C Q Tryz.f71 1 id st v o (S a0 a1) (begin a0 a1):=fun J K=>by kernel_rfl
def told (a0:Int) (a1:List aC):aa.Told A:=⟨f a0 a1,fun r=>al Pg C 71 (S a0 a1) 1 (v r) (o r),fun r h=>ah G mixed Q Tryz.func71 rfl (of_decide_eq_true (by kernel_rfl)) (by rfl) id st v o (fun _=>rfl) tree e (begin a0 a1) (b a0 a1) h⟩
end gx
namespace dZ
def S (a0:Int) (a1:List Int):List (PV U):=aa.start C 19 [.nj (19,[]),.int .i64 a0] [.own true 3 a1]
inductive X where
 | c2 (x0 x1:Int) (x2:List Int)
def id:X→Nat
 | .c2 .. =>2
def st:X→List (PV U)
 | .c2 x0 x1 x2=>iC 20 [(0,.nj (19,[])),(1,.int .i64 x0),(5,.int .i64 x1),(19,.own true 3 x2)]
def begin (a0:Int) (a1:List Int):Tr X A:=
 .jump (.c2 a0 (0:Int) a1)
def tree:X→Tr X A
 | .c2 x0 x1 x2=>
 .ite (decide (x1<(List.length x2:Int)))
  (.bH ((0:Int)≤x1∧x1<(List.length x2:Int)) (.jump (.c2 (wr (x0+(1:Int))) (wr (x1+(1:Int))) (List.set x2 (Int.toNat x1) x0))))
  (.ret (x0,x2))
def f (a0:Int) (a1:List Int):Option A:=(begin a0 a1).run (lp tree)
def Q:bA C:={PL with cb:=[(2,[0,1,5,19])],ca:=[],bV:=[]}
theorem e:aW Pg C Q Tryz.f33 1 id st v o tree:=fun J K x=>by cases x<;>kernel_rfl
theorem b (a0:Int) (a1:List Int):aX Pg C Q Tryz.f33 1 id st v o (S a0 a1) (begin a0 a1):=fun J K=>by kernel_rfl
def told (a0:Int) (a1:List Int):aa.Told A:=⟨f a0 a1,fun r=>al Pg C 33 (S a0 a1) 1 (v r) (o r),fun r h=>ah G mixed Q Tryz.func33 rfl (of_decide_eq_true (by kernel_rfl)) (by rfl) id st v o (fun _=>rfl) tree e (begin a0 a1) (b a0 a1) h⟩
end dZ
namespace gv
def S (a0:Int) (a1:List Int):List (PV U):=aa.start C 10 [.agg [.nj (10,[])],.int .i64 a0] [.own true 3 a1]
abbrev X:=Empty
def id:X→Nat:=fun _=>0
def st:X→List (PV U):=fun _=>[]
def begin (a0:Int) (a1:List Int):Tr X A:=
 .call (dZ.told a0 a1) fun t1=> .ret (t1.1,t1.2)
def tree:X→Tr X A:=fun _=> .fail
def f (a0:Int) (a1:List Int):Option A:=(begin a0 a1).run (lp tree)
def Q:bA C:={PL with cb:=[],ca:=[],bV:=[]}
theorem e:aW Pg C Q Tryz.f126 1 id st v o tree:=fun J K x=>by cases x
theorem b (a0:Int) (a1:List Int):aX Pg C Q Tryz.f126 1 id st v o (S a0 a1) (begin a0 a1):=fun J K=>by kernel_rfl
def told (a0:Int) (a1:List Int):aa.Told A:=⟨f a0 a1,fun r=>al Pg C 126 (S a0 a1) 1 (v r) (o r),fun r h=>ah G mixed Q Tryz.func126 rfl (of_decide_eq_true (by kernel_rfl)) (by rfl) id st v o (fun _=>rfl) tree e (begin a0 a1) (b a0 a1) h⟩
end gv
namespace iK
def S (a0 a1:Int) (a2:List Int):List (PV U):=aa.start C 10 [.agg [.int .i64 a0,.nj (10,[])],.int .i64 a1] [.own true 3 a2]
abbrev X:=Empty
def id:X→Nat:=fun _=>0
def st:X→List (PV U):=fun _=>[]
def begin (a0 a1:Int) (a2:List Int):Tr X A:=
 .call (gv.told a1 a2) fun t1=> .ret (t1.1,t1.2)
def tree:X→Tr X A:=fun _=> .fail
def f (a0 a1:Int) (a2:List Int):Option A:=(begin a0 a1 a2).run (lp tree)
def Q:bA C:={PL with cb:=[],ca:=[],bV:=[]}
theorem e:aW Pg C Q Tryz.f72 1 id st v o tree:=fun J K x=>by cases x
theorem b (a0 a1:Int) (a2:List Int):aX Pg C Q Tryz.f72 1 id st v o (S a0 a1 a2) (begin a0 a1 a2):=fun J K=>by kernel_rfl
def told (a0 a1:Int) (a2:List Int):aa.Told A:=⟨f a0 a1 a2,fun r=>al Pg C 72 (S a0 a1 a2) 1 (v r) (o r),fun r h=>ah G mixed Q Tryz.func72 rfl (of_decide_eq_true (by kernel_rfl)) (by rfl) id st v o (fun _=>rfl) tree e (begin a0 a1 a2) (b a0 a1 a2) h⟩
end iK
namespace gk
def S (a0 a1 a2 a3 a4 a5 a6 a7 a8 a9:Int) (a10:List aC) (a11 a12 a13:List Int):List (PV U):=aa.start C 22 [.agg [.nj (22,[]),.nj (23,[]),.nj (24,[]),.int .i64 a0,.int .i64 a1,.int .i64 a2,.int .i64 a3,.int .i64 a4,.int .i64 a5,.int .i64 a6,.int .i64 a7,.nj (25,[]),.int .i64 a8],.int .i64 a9] [.own true 164 a10,.own true 3 a11,.own true 3 a12,.own true 3 a13]
abbrev X:=Empty
def id:X→Nat:=fun _=>0
def st:X→List (PV U):=fun _=>[]
def begin (a0 a1 a2 a3 a4 a5 a6 a7 a8 a9:Int) (a10:List aC) (a11 a12 a13:List Int):Tr X A:=
 .call (gx.told a9 a10) fun t1=> .call (dZ.told t1.1 a11) fun t2=> .call (dZ.told t2.1 a12) fun t3=> .call (iK.told a7 t3.1 a13) fun t4=> .ret (t4.1,t1.2,t2.2,t3.2,t4.2)
def tree:X→Tr X A:=fun _=> .fail
def f (a0 a1 a2 a3 a4 a5 a6 a7 a8 a9:Int) (a10:List aC) (a11 a12 a13:List Int):Option A:=(begin a0 a1 a2 a3 a4 a5 a6 a7 a8 a9 a10 a11 a12 a13).run (lp tree)
def Q:bA C:={PL with cb:=[],ca:=[],bV:=[]}
theorem e:aW Pg C Q Tryz.f21 4 id st v o tree:=fun J K x=>by cases x
theorem b (a0 a1 a2 a3 a4 a5 a6 a7 a8 a9:Int) (a10:List aC) (a11 a12 a13:List Int):aX Pg C Q Tryz.f21 4 id st v o (S a0 a1 a2 a3 a4 a5 a6 a7 a8 a9 a10 a11 a12 a13) (begin a0 a1 a2 a3 a4 a5 a6 a7 a8 a9 a10 a11 a12 a13):=fun J K=>by kernel_rfl
def told (a0 a1 a2 a3 a4 a5 a6 a7 a8 a9:Int) (a10:List aC) (a11 a12 a13:List Int):aa.Told A:=⟨f a0 a1 a2 a3 a4 a5 a6 a7 a8 a9 a10 a11 a12 a13,fun r=>al Pg C 21 (S a0 a1 a2 a3 a4 a5 a6 a7 a8 a9 a10 a11 a12 a13) 4 (v r) (o r),fun r h=>ah G mixed Q Tryz.func21 rfl (of_decide_eq_true (by kernel_rfl)) (by rfl) id st v o (fun _=>rfl) tree e (begin a0 a1 a2 a3 a4 a5 a6 a7 a8 a9 a10 a11 a12 a13) (b a0 a1 a2 a3 a4 a5 a6 a7 a8 a9 a10 a11 a12 a13) h⟩
end gk
namespace eE
def S (a0:List aB) (a1:Int):List (PV U):=aa.start C 70 [.sl 204 a0,.int .i64 a1] []
inductive X where
 | c2 (x0:List aB) (x1 x2:Int)
def id:X→Nat
 | .c2 .. =>2
def st:X→List (PV U)
 | .c2 x0 x1 x2=>iC 70 [(0,.sl 204 x0),(1,.int .i64 x1),(5,.int .i64 x2)]
def begin (a0:List aB) (a1:Int):Tr X A:=
 .jump (.c2 a0 a1 (0:Int))
def tree:X→Tr X A
 | .c2 x0 x1 x2=>
 .ite (decide (x2<(List.length x0:Int)))
  (.bH ((0:Int)≤x2∧x2<(List.length x0:Int)) (.ite (!decide ((aw x0 x2).f0=x1))
   (.ret ((-1:Int)))
   (.bH ((0:Int)≤x2∧x2<(List.length x0:Int)) (.ite (!decide ((aw x0 x2).f1=(wr (x1+(1:Int)))))
    (.ret ((-1:Int)))
    (.bH ((0:Int)≤x2∧x2<(List.length x0:Int)) (.ite (!decide ((aw x0 x2).f2=(wr ((wr (x1+(1:Int)))+(1:Int)))))
     (.ret ((-1:Int)))
     (.bH ((0:Int)≤x2∧x2<(List.length x0:Int)) (.val ((!decide ((aw x0 x2).f3.f0=(wr ((wr ((wr (x1+(1:Int)))+(1:Int)))+(1:Int))))):Bool) fun v1=> .ite v1
      (.ret ((-1:Int)))
      (.bH ((0:Int)≤x2∧x2<(List.length x0:Int)) (.val ((!decide ((aw x0 x2).f3.f1=(wr ((wr ((wr ((wr (x1+(1:Int)))+(1:Int)))+(1:Int)))+(1:Int))))):Bool) fun v2=> .ite v2
       (.ret ((-1:Int)))
       (.val ((wr ((wr ((wr ((wr ((wr (x1+(1:Int)))+(1:Int)))+(1:Int)))+(1:Int)))+(1:Int))):Int) fun v3=> .bH ((0:Int)≤x2∧x2<(List.length x0:Int)) (.ite (!decide ((aw x0 x2).f3.f2=v3))
        (.ret ((-1:Int)))
        (.jump (.c2 x0 (wr (v3+(1:Int))) (wr (x2+(1:Int)))))))))))))))))
  (.ret x1)
def f (a0:List aB) (a1:Int):Option A:=(begin a0 a1).run (lp tree)
def Q:bA C:={PL with cb:=[(2,[0,1,5])],ca:=[],bV:=[]}
theorem e:aW Pg C Q Tryz.f166 0 id st v o tree:=fun J K x=>by cases x<;>kernel_rfl
theorem b (a0:List aB) (a1:Int):aX Pg C Q Tryz.f166 0 id st v o (S a0 a1) (begin a0 a1):=fun J K=>by kernel_rfl
def told (a0:List aB) (a1:Int):aa.Told A:=⟨f a0 a1,fun r=>al Pg C 166 (S a0 a1) 0 (v r) (o r),fun r h=>ah G mixed Q Tryz.func166 rfl (of_decide_eq_true (by kernel_rfl)) (by rfl) id st v o (fun _=>rfl) tree e (begin a0 a1) (b a0 a1) h⟩
end eE
namespace eA
def S (a0:List aC) (a1:Int):List (PV U):=aa.start C 52 [.sl 164 a0,.int .i64 a1] []
inductive X where
 | c2 (x0:List aC) (x1 x2:Int)
def id:X→Nat
 | .c2 .. =>2
def st:X→List (PV U)
 | .c2 x0 x1 x2=>iC 52 [(0,.sl 164 x0),(1,.int .i64 x1),(5,.int .i64 x2)]
def begin (a0:List aC) (a1:Int):Tr X A:=
 .jump (.c2 a0 a1 (0:Int))
def tree:X→Tr X A
 | .c2 x0 x1 x2=>
 .ite (decide (x2<(List.length x0:Int)))
  (.bH ((0:Int)≤x2∧x2<(List.length x0:Int)) (.call (eE.told ((bG x0 x2).f0) x1) fun t1=> .ite (decide (t1<(0:Int)))
   (.ret ((-1:Int)))
   (.bH ((0:Int)≤x2∧x2<(List.length x0:Int)) (.ite (!decide ((bG x0 x2).f1.f0=t1))
    (.ret ((-1:Int)))
    (.bH ((0:Int)≤x2∧x2<(List.length x0:Int)) (.ite (!decide ((bG x0 x2).f1.f1=(wr (t1+(1:Int)))))
     (.ret ((-1:Int)))
     (.bH ((0:Int)≤x2∧x2<(List.length x0:Int)) (.ite (!decide ((bG x0 x2).f1.f2=(wr ((wr (t1+(1:Int)))+(1:Int)))))
      (.ret ((-1:Int)))
      (.jump (.c2 x0 (wr ((wr ((wr (t1+(1:Int)))+(1:Int)))+(1:Int))) (wr (x2+(1:Int)))))))))))))
  (.ret x1)
def f (a0:List aC) (a1:Int):Option A:=(begin a0 a1).run (lp tree)
def Q:bA C:={PL with cb:=[(2,[0,1,5])],ca:=[],bV:=[]}
theorem e:aW Pg C Q Tryz.f127 0 id st v o tree:=fun J K x=>by cases x<;>kernel_rfl
theorem b (a0:List aC) (a1:Int):aX Pg C Q Tryz.f127 0 id st v o (S a0 a1) (begin a0 a1):=fun J K=>by kernel_rfl
def told (a0:List aC) (a1:Int):aa.Told A:=⟨f a0 a1,fun r=>al Pg C 127 (S a0 a1) 0 (v r) (o r),fun r h=>ah G mixed Q Tryz.func127 rfl (of_decide_eq_true (by kernel_rfl)) (by rfl) id st v o (fun _=>rfl) tree e (begin a0 a1) (b a0 a1) h⟩
end eA
namespace gr
def S (a0:List aC) (a1:Int):List (PV U):=aa.start C 12 [.agg [.sl 164 a0],.int .i64 a1] []
abbrev X:=Empty
def id:X→Nat:=fun _=>0
def st:X→List (PV U):=fun _=>[]
def begin (a0:List aC) (a1:Int):Tr X A:=
 .call (eA.told a0 a1) fun t1=> .ite (decide (t1<(0:Int)))
  (.ret ((-1:Int)))
  (.ret t1)
def tree:X→Tr X A:=fun _=> .fail
def f (a0:List aC) (a1:Int):Option A:=(begin a0 a1).run (lp tree)
def Q:bA C:={PL with cb:=[],ca:=[],bV:=[]}
theorem e:aW Pg C Q Tryz.f73 0 id st v o tree:=fun J K x=>by cases x
theorem b (a0:List aC) (a1:Int):aX Pg C Q Tryz.f73 0 id st v o (S a0 a1) (begin a0 a1):=fun J K=>by kernel_rfl
def told (a0:List aC) (a1:Int):aa.Told A:=⟨f a0 a1,fun r=>al Pg C 73 (S a0 a1) 0 (v r) (o r),fun r h=>ah G mixed Q Tryz.func73 rfl (of_decide_eq_true (by kernel_rfl)) (by rfl) id st v o (fun _=>rfl) tree e (begin a0 a1) (b a0 a1) h⟩
end gr
namespace dG
def S (a0:List Int) (a1:Int):List (PV U):=aa.start C 21 [.sl 3 a0,.int .i64 a1] []
inductive X where
 | c2 (x0:List Int) (x1 x2:Int)
def id:X→Nat
 | .c2 .. =>2
def st:X→List (PV U)
 | .c2 x0 x1 x2=>iC 21 [(0,.sl 3 x0),(1,.int .i64 x1),(5,.int .i64 x2)]
def begin (a0:List Int) (a1:Int):Tr X A:=
 .jump (.c2 a0 a1 (0:Int))
def tree:X→Tr X A
 | .c2 x0 x1 x2=>
 .ite (decide (x2<(List.length x0:Int)))
  (.bH ((0:Int)≤x2∧x2<(List.length x0:Int)) (.ite (!decide ((dh x0 x2)=x1))
   (.ret ((-1:Int)))
   (.jump (.c2 x0 (wr (x1+(1:Int))) (wr (x2+(1:Int)))))))
  (.ret x1)
def f (a0:List Int) (a1:Int):Option A:=(begin a0 a1).run (lp tree)
def Q:bA C:={PL with cb:=[(2,[0,1,5])],ca:=[],bV:=[]}
theorem e:aW Pg C Q Tryz.f34 0 id st v o tree:=fun J K x=>by cases x<;>kernel_rfl
theorem b (a0:List Int) (a1:Int):aX Pg C Q Tryz.f34 0 id st v o (S a0 a1) (begin a0 a1):=fun J K=>by kernel_rfl
def told (a0:List Int) (a1:Int):aa.Told A:=⟨f a0 a1,fun r=>al Pg C 34 (S a0 a1) 0 (v r) (o r),fun r h=>ah G mixed Q Tryz.func34 rfl (of_decide_eq_true (by kernel_rfl)) (by rfl) id st v o (fun _=>rfl) tree e (begin a0 a1) (b a0 a1) h⟩
end dG
namespace gw
def S (a0:List Int) (a1:Int):List (PV U):=aa.start C 12 [.agg [.sl 3 a0],.int .i64 a1] []
abbrev X:=Empty
def id:X→Nat:=fun _=>0
def st:X→List (PV U):=fun _=>[]
def begin (a0:List Int) (a1:Int):Tr X A:=
 .call (dG.told a0 a1) fun t1=> .ite (decide (t1<(0:Int)))
  (.ret ((-1:Int)))
  (.ret t1)
def tree:X→Tr X A:=fun _=> .fail
def f (a0:List Int) (a1:Int):Option A:=(begin a0 a1).run (lp tree)
def Q:bA C:={PL with cb:=[],ca:=[],bV:=[]}
theorem e:aW Pg C Q Tryz.f128 0 id st v o tree:=fun J K x=>by cases x
theorem b (a0:List Int) (a1:Int):aX Pg C Q Tryz.f128 0 id st v o (S a0 a1) (begin a0 a1):=fun J K=>by kernel_rfl
def told (a0:List Int) (a1:Int):aa.Told A:=⟨f a0 a1,fun r=>al Pg C 128 (S a0 a1) 0 (v r) (o r),fun r h=>ah G mixed Q Tryz.func128 rfl (of_decide_eq_true (by kernel_rfl)) (by rfl) id st v o (fun _=>rfl) tree e (begin a0 a1) (b a0 a1) h⟩
end gw
namespace iL
def S (a0:Int) (a1:List Int) (a2:Int):List (PV U):=aa.start C 12 [.agg [.int .i64 a0,.sl 3 a1],.int .i64 a2] []
abbrev X:=Empty
def id:X→Nat:=fun _=>0
def st:X→List (PV U):=fun _=>[]
def begin (a0:Int) (a1:List Int) (a2:Int):Tr X A:=
 .call (gw.told a1 a2) fun t1=> .ite (decide (t1<(0:Int)))
  (.ret ((-1:Int)))
  (.ret t1)
def tree:X→Tr X A:=fun _=> .fail
def f (a0:Int) (a1:List Int) (a2:Int):Option A:=(begin a0 a1 a2).run (lp tree)
def Q:bA C:={PL with cb:=[],ca:=[],bV:=[]}
theorem e:aW Pg C Q Tryz.f74 0 id st v o tree:=fun J K x=>by cases x
theorem b (a0:Int) (a1:List Int) (a2:Int):aX Pg C Q Tryz.f74 0 id st v o (S a0 a1 a2) (begin a0 a1 a2):=fun J K=>by kernel_rfl
def told (a0:Int) (a1:List Int) (a2:Int):aa.Told A:=⟨f a0 a1 a2,fun r=>al Pg C 74 (S a0 a1 a2) 0 (v r) (o r),fun r h=>ah G mixed Q Tryz.func74 rfl (of_decide_eq_true (by kernel_rfl)) (by rfl) id st v o (fun _=>rfl) tree e (begin a0 a1 a2) (b a0 a1 a2) h⟩
end iL
namespace fV
def S (a0:List aC) (a1 a2:List Int) (a3 a4 a5 a6 a7 a8 a9 a10:Int) (a11:List Int) (a12 a13:Int):List (PV U):=aa.start C 30 [.agg [.sl 164 a0,.sl 3 a1,.sl 3 a2,.int .i64 a3,.int .i64 a4,.int .i64 a5,.int .i64 a6,.int .i64 a7,.int .i64 a8,.int .i64 a9,.int .i64 a10,.sl 3 a11,.int .i64 a12],.int .i64 a13] []
abbrev X:=Empty
def id:X→Nat:=fun _=>0
def st:X→List (PV U):=fun _=>[]
def begin (a0:List aC) (a1 a2:List Int) (a3 a4 a5 a6 a7 a8 a9 a10:Int) (a11:List Int) (a12 a13:Int):Tr X A:=
 .call (gr.told a0 a13) fun t1=> .ite (decide (t1<(0:Int)))
  (.ret ((-1:Int)))
  (.call (dG.told a1 t1) fun t2=> .ite (decide (t2<(0:Int)))
   (.ret ((-1:Int)))
   (.call (dG.told a2 t2) fun t3=> .ite (decide (t3<(0:Int)))
    (.ret ((-1:Int)))
    (.call (iL.told a10 a11 t3) fun t4=> .ite (decide (t4<(0:Int)))
     (.ret ((-1:Int)))
     (.ret t4))))
def tree:X→Tr X A:=fun _=> .fail
def f (a0:List aC) (a1 a2:List Int) (a3 a4 a5 a6 a7 a8 a9 a10:Int) (a11:List Int) (a12 a13:Int):Option A:=(begin a0 a1 a2 a3 a4 a5 a6 a7 a8 a9 a10 a11 a12 a13).run (lp tree)
def Q:bA C:={PL with cb:=[],ca:=[],bV:=[]}
theorem e:aW Pg C Q Tryz.f22 0 id st v o tree:=fun J K x=>by cases x
theorem b (a0:List aC) (a1 a2:List Int) (a3 a4 a5 a6 a7 a8 a9 a10:Int) (a11:List Int) (a12 a13:Int):aX Pg C Q Tryz.f22 0 id st v o (S a0 a1 a2 a3 a4 a5 a6 a7 a8 a9 a10 a11 a12 a13) (begin a0 a1 a2 a3 a4 a5 a6 a7 a8 a9 a10 a11 a12 a13):=fun J K=>by kernel_rfl
def told (a0:List aC) (a1 a2:List Int) (a3 a4 a5 a6 a7 a8 a9 a10:Int) (a11:List Int) (a12 a13:Int):aa.Told A:=⟨f a0 a1 a2 a3 a4 a5 a6 a7 a8 a9 a10 a11 a12 a13,fun r=>al Pg C 22 (S a0 a1 a2 a3 a4 a5 a6 a7 a8 a9 a10 a11 a12 a13) 0 (v r) (o r),fun r h=>ah G mixed Q Tryz.func22 rfl (of_decide_eq_true (by kernel_rfl)) (by rfl) id st v o (fun _=>rfl) tree e (begin a0 a1 a2 a3 a4 a5 a6 a7 a8 a9 a10 a11 a12 a13) (b a0 a1 a2 a3 a4 a5 a6 a7 a8 a9 a10 a11 a12 a13) h⟩
end fV
end
end Go.Proofs.YtmapddgocpkgeaaGreat.Ev
