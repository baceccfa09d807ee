/- Functions as trees, with their contracts. No conditions. -/
import Derived.Test.YtmapddgocpkgeaaGreatUEvF0
namespace Go.Proofs.YtmapddgocpkgeaaGreat.Ev
open Go.Proofs.YtmapddgocpkgeaaGreat.aa Go.RowKit
set_option linter.unusedVariables false
set_option maxRecDepth 100000
noncomputable section
namespace gP
def S (a0 a1 a2 a3:Int):List (PV U):=aa.start C 25 [.agg [.int .i64 a0,.int .i64 a1,.int .i64 a2,.int .i64 a3]] []
abbrev X:=Empty
def id:X→Nat:=fun _=>0
def st:X→List (PV U):=fun _=>[]
def begin (a0 a1 a2 a3:Int):Tr X A:=
 .call (aG.told a1 (1:Int) (5000:Int)) fun t1=> .ite t1
  (.call (aG.told a0 (0:Int) a1) fun t2=> .ite t2
   (.call (aG.told a2 (1:Int) a1) fun t3=> .ite t3
    (.call (aG.told a3 (0:Int) (100:Int)) fun t4=> .ret t4)
    (.ret false))
   (.ret false))
  (.ret false)
def tree:X→Tr X A:=fun _=> .fail
def f (a0 a1 a2 a3:Int):Option A:=(begin a0 a1 a2 a3).run (lp tree)
def Q:bA C:={PL with cb:=[],ca:=[],bV:=[]}
theorem e:aW Pg C Q Tryz.f112 0 id st v o tree:=fun J K x=>by cases x
theorem b (a0 a1 a2 a3:Int):aX Pg C Q Tryz.f112 0 id st v o (S a0 a1 a2 a3) (begin a0 a1 a2 a3):=fun J K=>by kernel_rfl
def told (a0 a1 a2 a3:Int):aa.Told A:=⟨f a0 a1 a2 a3,fun r=>al Pg C 112 (S a0 a1 a2 a3) 0 (v r) (o r),fun r h=>ah G mixed Q Tryz.func112 rfl (of_decide_eq_true (by kernel_rfl)) (by rfl) id st v o (fun _=>rfl) tree e (begin a0 a1 a2 a3) (b a0 a1 a2 a3) h⟩
end gP
namespace cS
def S (a0 a1:Int):List (PV U):=aa.start C 18 [.agg [.int .i64 a0,.int .i64 a1]] []
abbrev X:=Empty
def id:X→Nat:=fun _=>0
def st:X→List (PV U):=fun _=>[]
def begin (a0 a1:Int):Tr X A:=
 .ite (decide (a0≥(0:Int)))
  (.ite (decide (a0≤a1))
   (.ret ((decide (a1≤(1000000:Int)))))
   (.ret false))
  (.ret false)
def tree:X→Tr X A:=fun _=> .fail
def f (a0 a1:Int):Option A:=(begin a0 a1).run (lp tree)
def Q:bA C:={PL with cb:=[],ca:=[],bV:=[]}
theorem e:aW Pg C Q Tryz.f114 0 id st v o tree:=fun J K x=>by cases x
theorem b (a0 a1:Int):aX Pg C Q Tryz.f114 0 id st v o (S a0 a1) (begin a0 a1):=fun J K=>by kernel_rfl
def told (a0 a1:Int):aa.Told A:=⟨f a0 a1,fun r=>al Pg C 114 (S a0 a1) 0 (v r) (o r),fun r h=>ah G mixed Q Tryz.func114 rfl (of_decide_eq_true (by kernel_rfl)) (by rfl) id st v o (fun _=>rfl) tree e (begin a0 a1) (b a0 a1) h⟩
end cS
namespace fE
def S (a0:List Int):List (PV U):=aa.start C 27 [.sl 3 a0] []
abbrev X:=Empty
def id:X→Nat:=fun _=>0
def st:X→List (PV U):=fun _=>[]
def begin (a0:List Int):Tr X A:=
 .ite (!decide ((List.length a0:Int)=(49:Int)))
  (.ret (([]:List Int)))
  (.bH ((0:Int)≤(8:Int)∧(8:Int)<(List.length a0:Int)) (.call (bB.told (dh a0 (8:Int))) fun t1=> .ite (decide (t1.2.2<(0:Int)))
   (.ret (([]:List Int)))
   (.bH ((0:Int)≤(25:Int)∧(25:Int)≤(wr ((25:Int)+t1.2.2))∧(wr ((25:Int)+t1.2.2))≤(List.length a0:Int)) (.bH (((List.length ([]:List Int):Int)+(List.length (List.drop (Int.toNat (25:Int)) (List.take (Int.toNat (wr ((25:Int)+t1.2.2))) a0)):Int))*(8:Nat)≤room) (.val ((([]:List Int)++(List.drop (Int.toNat (25:Int)) (List.take (Int.toNat (wr ((25:Int)+t1.2.2))) a0))):List Int) fun v2=> .ret v2)))))
def tree:X→Tr X A:=fun _=> .fail
def f (a0:List Int):Option A:=(begin a0).run (lp tree)
def Q:bA C:={PL with cb:=[],ca:=[],bV:=[]}
theorem e:aW Pg C Q Tryz.f156 0 id st v o tree:=fun J K x=>by cases x
theorem b (a0:List Int):aX Pg C Q Tryz.f156 0 id st v o (S a0) (begin a0):=fun J K=>by kernel_rfl
def told (a0:List Int):aa.Told A:=⟨f a0,fun r=>al Pg C 156 (S a0) 0 (v r) (o r),fun r h=>ah G mixed Q Tryz.func156 rfl (of_decide_eq_true (by kernel_rfl)) (by rfl) id st v o (fun _=>rfl) tree e (begin a0) (b a0) h⟩
end fE
namespace bL
def S (a0 a1:List Int):List (PV U):=aa.start C 27 [.sl 3 a0,.sl 3 a1] []
inductive X where
 | c2 (x0 x1:List Int) (x2:Int)
def id:X→Nat
 | .c2 .. =>2
def st:X→List (PV U)
 | .c2 x0 x1 x2=>iC 27 [(0,.sl 3 x0),(1,.sl 3 x1),(5,.int .i64 x2)]
def begin (a0 a1:List Int):Tr X A:=
 .jump (.c2 a0 a1 (0:Int))
def tree:X→Tr X A
 | .c2 x0 x1 x2=>
 .ite (decide (x2<(List.length x0:Int)))
  (.ite (decide (x2≥(List.length x1:Int)))
   (.ret false)
   (.bH ((0:Int)≤x2∧x2<(List.length x0:Int)) (.bH ((0:Int)≤x2∧x2<(List.length x1:Int)) (.ite (!decide ((dh x0 x2)=(dh x1 x2)))
    (.ret false)
    (.jump (.c2 x0 x1 (wr (x2+(1:Int)))))))))
  (.ret true)
def f (a0 a1:List Int):Option A:=(begin a0 a1).run (lp tree)
def Q:bA C:={PL with cb:=[(2,[0,1,5])],ca:=[(4,[],(.take 0 [] (.take 1 [] (.take 2 [] (.take 3 [] (.take 4 [] (.take 5 [] (.take 6 [] (.take 7 [] (.take 9 [] (.take 10 [] (.take 11 [] (.take 8 [0,1,2,3,4,5,6,7,9,10,11,12] (.take 12 [0,1,2,3,4,5,6,7,8,9,10,11] (.take 13 [] (.take 14 [] .done))))))))))))))))],bV:=[]}
theorem e:aW Pg C Q Tryz.f155 0 id st v o tree:=fun J K x=>by cases x<;>kernel_rfl
theorem b (a0 a1:List Int):aX Pg C Q Tryz.f155 0 id st v o (S a0 a1) (begin a0 a1):=fun J K=>by kernel_rfl
def told (a0 a1:List Int):aa.Told A:=⟨f a0 a1,fun r=>al Pg C 155 (S a0 a1) 0 (v r) (o r),fun r h=>ah G mixed Q Tryz.func155 rfl (of_decide_eq_true (by kernel_rfl)) (by rfl) id st v o (fun _=>rfl) tree e (begin a0 a1) (b a0 a1) h⟩
end bL
namespace gi
def S (a0:List Int) (a1:Int) (a2:List Int):List (PV U):=aa.start C 20 [.sl 3 a0,.agg [.int .i64 a1,.sl 3 a2]] []
abbrev X:=Empty
def id:X→Nat:=fun _=>0
def st:X→List (PV U):=fun _=>[]
def begin (a0:List Int) (a1:Int) (a2:List Int):Tr X A:=
 .last (.call (aG.told a1 (0:Int) (List.length a2:Int)) fun t1=> .ite t1
  (.last (.call (fE.told a0) fun t2=> .last (.call (bL.told a2 t2) fun t3=> .ret t3)))
  (.last (.last (.ret false))))
def tree:X→Tr X A:=fun _=> .fail
def f (a0:List Int) (a1:Int) (a2:List Int):Option A:=(begin a0 a1 a2).run (lp tree)
def Q:bA C:={PL with cb:=[],ca:=[(1,[],(.take 0 [] (.take 2 [] (.take 3 [] (.take 1 [0,2,3,4,5] (.take 4 [0,1,2,3] (.take 5 [] (.alt 6 (.take 7 [] (.take 8 [] (.take 9 [] (.take 11 [] (.take 10 [0,1,2,3,4,5,6,7,8,9,11,12] (.alt 12 (.alt 13 (.take 14 [] (.take 15 [] .done)) .nil) .nil)))))) .nil))))))))],bV:=[]}
theorem e:aW Pg C Q Tryz.f115 0 id st v o tree:=fun J K x=>by cases x
theorem b (a0:List Int) (a1:Int) (a2:List Int):aX Pg C Q Tryz.f115 0 id st v o (S a0 a1 a2) (begin a0 a1 a2):=fun J K=>by kernel_rfl
def told (a0:List Int) (a1:Int) (a2:List Int):aa.Told A:=⟨f a0 a1 a2,fun r=>al Pg C 115 (S a0 a1 a2) 0 (v r) (o r),fun r h=>ah G mixed Q Tryz.func115 rfl (of_decide_eq_true (by kernel_rfl)) (by rfl) id st v o (fun _=>rfl) tree e (begin a0 a1 a2) (b a0 a1 a2) h⟩
end gi
namespace bk
def S (a0:List aC) (a1 a2:List Int) (a3 a4 a5 a6 a7 a8 a9 a10:Int) (a11:List Int) (a12:Int):List (PV U):=aa.start C 40 [.agg [.sl 164 a0,.sl 3 a1,.sl 3 a2,.int .i64 a3,.int .i64 a4,.int .i64 a5,.int .i64 a6,.int .i64 a7,.int .i64 a8,.int .i64 a9,.int .i64 a10,.sl 3 a11,.int .i64 a12]] []
abbrev X:=Empty
def id:X→Nat:=fun _=>0
def st:X→List (PV U):=fun _=>[]
def begin (a0:List aC) (a1 a2:List Int) (a3 a4 a5 a6 a7 a8 a9 a10:Int) (a11:List Int) (a12:Int):Tr X A:=
 .call (eY.told a0 a1) fun t1=> .ite t1
  (.call (gP.told a4 a5 a6 a7) fun t2=> .ite t2
   (.call (cw.told a2) fun t3=> .ite t3
    (.call (aG.told a3 (0:Int) (400000:Int)) fun t4=> .ite t4
     (.call (cS.told a8 a9) fun t5=> .ite t5
      (.call (gi.told a1 a10 a11) fun t6=> .ite t6
       (.call (aG.told a12 (0:Int) (100000:Int)) fun t7=> .ret t7)
       (.ret false))
      (.ret false))
     (.ret false))
    (.ret false))
   (.ret false))
  (.ret false)
def tree:X→Tr X A:=fun _=> .fail
def f (a0:List aC) (a1 a2:List Int) (a3 a4 a5 a6 a7 a8 a9 a10:Int) (a11:List Int) (a12:Int):Option A:=(begin a0 a1 a2 a3 a4 a5 a6 a7 a8 a9 a10 a11 a12).run (lp tree)
def Q:bA C:={PL with cb:=[],ca:=[],bV:=[]}
theorem e:aW Pg C Q Tryz.f59 0 id st v o tree:=fun J K x=>by cases x
theorem b (a0:List aC) (a1 a2:List Int) (a3 a4 a5 a6 a7 a8 a9 a10:Int) (a11:List Int) (a12:Int):aX Pg C Q Tryz.f59 0 id st v o (S a0 a1 a2 a3 a4 a5 a6 a7 a8 a9 a10 a11 a12) (begin a0 a1 a2 a3 a4 a5 a6 a7 a8 a9 a10 a11 a12):=fun J K=>by kernel_rfl
def told (a0:List aC) (a1 a2:List Int) (a3 a4 a5 a6 a7 a8 a9 a10:Int) (a11:List Int) (a12:Int):aa.Told A:=⟨f a0 a1 a2 a3 a4 a5 a6 a7 a8 a9 a10 a11 a12,fun r=>al Pg C 59 (S a0 a1 a2 a3 a4 a5 a6 a7 a8 a9 a10 a11 a12) 0 (v r) (o r),fun r h=>ah G mixed Q Tryz.func59 rfl (of_decide_eq_true (by kernel_rfl)) (by rfl) id st v o (fun _=>rfl) tree e (begin a0 a1 a2 a3 a4 a5 a6 a7 a8 a9 a10 a11 a12) (b a0 a1 a2 a3 a4 a5 a6 a7 a8 a9 a10 a11 a12) h⟩
end bk
namespace dI
def S (a0 a1 a2:Int):List (PV U):=aa.start C 55 [.agg [.int .i64 a0,.int .i64 a1,.int .i64 a2]] []
abbrev X:=Empty
def id:X→Nat:=fun _=>0
def st:X→List (PV U):=fun _=>[]
def begin (a0 a1 a2:Int):Tr X A:=
 .ite (decide (a0=(1:Int)))
  (.call (aG.told a1 (1:Int) (50:Int)) fun t1=> .ite t1
   (.call (aG.told a2 (0:Int) (1000:Int)) fun t2=> .ret t2)
   (.ret false))
  (.ite (decide (a0=(2:Int)))
   (.call (aG.told a2 (0:Int) (10000:Int)) fun t1=> .ite t1
    (.call (aG.told a1 (0:Int) a2) fun t2=> .ret t2)
    (.ret false))
   (.ite (decide (a0=(3:Int)))
    (.call (aG.told a1 (0:Int) (24:Int)) fun t1=> .ite t1
     (.call (aG.told a2 (0:Int) (1:Int)) fun t2=> .ret t2)
     (.ret false))
    (.ite (decide (a0=(4:Int)))
     (.call (cS.told a1 a2) fun t1=> .ret t1)
     (.ite (decide (a0=(5:Int)))
      (.call (ek.told a1) fun t1=> .ite t1
       (.ret ((decide (a2=(0:Int)))))
       (.ret false))
      (.ret false)))))
def tree:X→Tr X A:=fun _=> .fail
def f (a0 a1 a2:Int):Option A:=(begin a0 a1 a2).run (lp tree)
def Q:bA C:={PL with cb:=[],ca:=[],bV:=[]}
theorem e:aW Pg C Q Tryz.f75 0 id st v o tree:=fun J K x=>by cases x
theorem b (a0 a1 a2:Int):aX Pg C Q Tryz.f75 0 id st v o (S a0 a1 a2) (begin a0 a1 a2):=fun J K=>by kernel_rfl
def told (a0 a1 a2:Int):aa.Told A:=⟨f a0 a1 a2,fun r=>al Pg C 75 (S a0 a1 a2) 0 (v r) (o r),fun r h=>ah G mixed Q Tryz.func75 rfl (of_decide_eq_true (by kernel_rfl)) (by rfl) id st v o (fun _=>rfl) tree e (begin a0 a1 a2) (b a0 a1 a2) h⟩
end dI
namespace fC
def S (a0 a1 a2 a3:Int):List (PV U):=aa.start C 18 [.agg [.int .i64 a0,.int .i64 a1],.int .i64 a2,.int .i64 a3] []
abbrev X:=Empty
def id:X→Nat:=fun _=>0
def st:X→List (PV U):=fun _=>[]
def begin (a0 a1 a2 a3:Int):Tr X A:=
 .ret ((if(wr (a0+a2))<(1000000:Int)then(wr (a0+a2))else(1000000:Int)),(if(wr (a1+a3))<(1000000:Int)then(wr (a1+a3))else(1000000:Int)))
def tree:X→Tr X A:=fun _=> .fail
def f (a0 a1 a2 a3:Int):Option A:=(begin a0 a1 a2 a3).run (lp tree)
def Q:bA C:={PL with cb:=[],ca:=[],bV:=[]}
theorem e:aW Pg C Q Tryz.f130 0 id st v o tree:=fun J K x=>by cases x
theorem b (a0 a1 a2 a3:Int):aX Pg C Q Tryz.f130 0 id st v o (S a0 a1 a2 a3) (begin a0 a1 a2 a3):=fun J K=>by kernel_rfl
def told (a0 a1 a2 a3:Int):aa.Told A:=⟨f a0 a1 a2 a3,fun r=>al Pg C 130 (S a0 a1 a2 a3) 0 (v r) (o r),fun r h=>ah G mixed Q Tryz.func130 rfl (of_decide_eq_true (by kernel_rfl)) (by rfl) id st v o (fun _=>rfl) tree e (begin a0 a1 a2 a3) (b a0 a1 a2 a3) h⟩
end fC
namespace gQ
def S (a0 a1 a2 a3:Int):List (PV U):=aa.start C 26 [.agg [.int .i64 a0,.int .i64 a1],.int .i64 a2,.int .i64 a3] []
abbrev X:=Empty
def id:X→Nat:=fun _=>0
def st:X→List (PV U):=fun _=>[]
def begin (a0 a1 a2 a3:Int):Tr X A:=
 .call (cS.told a0 a1) fun t1=> .ite (!t1)
  (.ret (a0,a1))
  (.call (aG.told a3 (0:Int) (1000000:Int)) fun t2=> .ite (!t2)
   (.ret (a0,a1))
   (.call (aG.told a2 (0:Int) a3) fun t3=> .ite (!t3)
    (.ret (a0,a1))
    (.call (fC.told a0 a1 a2 a3) fun t4=> .ret (t4.1,t4.2))))
def tree:X→Tr X A:=fun _=> .fail
def f (a0 a1 a2 a3:Int):Option A:=(begin a0 a1 a2 a3).run (lp tree)
def Q:bA C:={PL with cb:=[],ca:=[],bV:=[]}
theorem e:aW Pg C Q Tryz.f76 0 id st v o tree:=fun J K x=>by cases x
theorem b (a0 a1 a2 a3:Int):aX Pg C Q Tryz.f76 0 id st v o (S a0 a1 a2 a3) (begin a0 a1 a2 a3):=fun J K=>by kernel_rfl
def told (a0 a1 a2 a3:Int):aa.Told A:=⟨f a0 a1 a2 a3,fun r=>al Pg C 76 (S a0 a1 a2 a3) 0 (v r) (o r),fun r h=>ah G mixed Q Tryz.func76 rfl (of_decide_eq_true (by kernel_rfl)) (by rfl) id st v o (fun _=>rfl) tree e (begin a0 a1 a2 a3) (b a0 a1 a2 a3) h⟩
end gQ
namespace dO
def S (a0 a1:Int):List (PV U):=aa.start C 11 [.agg [.int .i64 a0,.int .i64 a1]] []
abbrev X:=Empty
def id:X→Nat:=fun _=>0
def st:X→List (PV U):=fun _=>[]
def begin (a0 a1:Int):Tr X A:=
 .call (cS.told a0 a1) fun t1=> .ite (!t1)
  (.ret ((-1:Int)))
  (.ret ((wr (a1-a0))))
def tree:X→Tr X A:=fun _=> .fail
def f (a0 a1:Int):Option A:=(begin a0 a1).run (lp tree)
def Q:bA C:={PL with cb:=[],ca:=[],bV:=[]}
theorem e:aW Pg C Q Tryz.f77 0 id st v o tree:=fun J K x=>by cases x
theorem b (a0 a1:Int):aX Pg C Q Tryz.f77 0 id st v o (S a0 a1) (begin a0 a1):=fun J K=>by kernel_rfl
def told (a0 a1:Int):aa.Told A:=⟨f a0 a1,fun r=>al Pg C 77 (S a0 a1) 0 (v r) (o r),fun r h=>ah G mixed Q Tryz.func77 rfl (of_decide_eq_true (by kernel_rfl)) (by rfl) id st v o (fun _=>rfl) tree e (begin a0 a1) (b a0 a1) h⟩
end dO
namespace dV
def S (a0:Int):List (PV U):=aa.start C 15 [.int .i64 a0] []
inductive X where
 | c3 (x0:Int) (x1:List Bool) (x2:Int)
def id:X→Nat
 | .c3 .. =>3
def st:X→List (PV U)
 | .c3 x0 x1 x2=>iC 15 [(0,.int .i64 x0),(3,.own true 4 x1),(4,.int .i64 x2)]
def begin (a0:Int):Tr X A:=
 .jump (.c3 a0 ([]:List Bool) (0:Int))
def tree:X→Tr X A
 | .c3 x0 x1 x2=>
 .ite (decide (x2<x0))
  (.bH (((List.length x1:Int)+(List.length ([true]):Int))*(1:Nat)≤room) (.jump (.c3 x0 (x1++[true]) (wr (x2+(1:Int))))))
  (.ret x1)
def f (a0:Int):Option A:=(begin a0).run (lp tree)
def Q:bA C:={PL with cb:=[(3,[0,3,4])],ca:=[],bV:=[]}
theorem e:aW Pg C Q Tryz.f79 0 id st v o tree:=fun J K x=>by cases x<;>kernel_rfl
theorem b (a0:Int):aX Pg C Q Tryz.f79 0 id st v o (S a0) (begin a0):=fun J K=>by kernel_rfl
def told (a0:Int):aa.Told A:=⟨f a0,fun r=>al Pg C 79 (S a0) 0 (v r) (o r),fun r h=>ah G mixed Q Tryz.func79 rfl (of_decide_eq_true (by kernel_rfl)) (by rfl) id st v o (fun _=>rfl) tree e (begin a0) (b a0) h⟩
end dV
namespace cT
def S (a0:List Int) (a1:Int):List (PV U):=aa.start C 34 [.sl 3 a0,.int .i64 a1] []
inductive X where
 | c6 (x0:List ju) (x1:List Int) (x2:Int)
def id:X→Nat
 | .c6 .. =>6
def st:X→List (PV U)
 | .c6 x0 x1 x2=>iC 34 [(5,.own true 182 x0),(6,.own true 3 x1),(7,.int .i64 x2)]
def begin (a0:List Int) (a1:Int):Tr X A:=
 .call (fE.told a0) fun t1=> .call (aG.told a1 (0:Int) (List.length t1:Int)) fun t2=> .ite (!t2)
  (.ret (([]:List ju)))
  (.jump (.c6 ([]:List ju) t1 a1))
def tree:X→Tr X A
 | .c6 x0 x1 x2=>
 .ite (decide (x2<(List.length x1:Int)))
  (.bH ((0:Int)≤x2∧x2<(List.length x1:Int)) (.bH (((List.length x0:Int)+(List.length ([(⟨x2,(dh x1 x2)⟩:ju)]):Int))*(16:Nat)≤room) (.jump (.c6 (x0++[(⟨x2,(dh x1 x2)⟩:ju)]) x1 (wr (x2+(1:Int)))))))
  (.ret x0)
def f (a0:List Int) (a1:Int):Option A:=(begin a0 a1).run (lp tree)
def Q:bA C:={PL with cb:=[(6,[5,6,7])],ca:=[],bV:=[]}
theorem e:aW Pg C Q Tryz.f168 0 id st v o tree:=fun J K x=>by cases x<;>kernel_rfl
theorem b (a0:List Int) (a1:Int):aX Pg C Q Tryz.f168 0 id st v o (S a0 a1) (begin a0 a1):=fun J K=>by kernel_rfl
def told (a0:List Int) (a1:Int):aa.Told A:=⟨f a0 a1,fun r=>al Pg C 168 (S a0 a1) 0 (v r) (o r),fun r h=>ah G mixed Q Tryz.func168 rfl (of_decide_eq_true (by kernel_rfl)) (by rfl) id st v o (fun _=>rfl) tree e (begin a0 a1) (b a0 a1) h⟩
end cT
namespace gT
def S (a0:List Int) (a1 a2:Int):List (PV U):=aa.start C 21 [.own true 3 a0,.agg [.int .i64 a1,.int .i64 a2]] []
abbrev X:=Empty
def id:X→Nat:=fun _=>0
def st:X→List (PV U):=fun _=>[]
def begin (a0:List Int) (a1 a2:Int):Tr X A:=
 .ite (decide (a1=(List.length a0:Int)))
  (.ite (decide ((List.length a0:Int)<(255:Int)))
   (.bH (((List.length a0:Int)+(List.length ([a2]):Int))*(8:Nat)≤room) (.ret ((a0++[a2]))))
   (.ret a0))
  (.ret a0)
def tree:X→Tr X A:=fun _=> .fail
def f (a0:List Int) (a1 a2:Int):Option A:=(begin a0 a1 a2).run (lp tree)
def Q:bA C:={PL with cb:=[],ca:=[],bV:=[]}
theorem e:aW Pg C Q Tryz.f203 0 id st v o tree:=fun J K x=>by cases x
theorem b (a0:List Int) (a1 a2:Int):aX Pg C Q Tryz.f203 0 id st v o (S a0 a1 a2) (begin a0 a1 a2):=fun J K=>by kernel_rfl
def told (a0:List Int) (a1 a2:Int):aa.Told A:=⟨f a0 a1 a2,fun r=>al Pg C 203 (S a0 a1 a2) 0 (v r) (o r),fun r h=>ah G mixed Q Tryz.func203 rfl (of_decide_eq_true (by kernel_rfl)) (by rfl) id st v o (fun _=>rfl) tree e (begin a0 a1 a2) (b a0 a1 a2) h⟩
end gT
namespace bX
def S (a0:List Int) (a1:List ju) (a2:List Bool):List (PV U):=aa.start C 40 [.agg [.sl 3 a0],.sl 182 a1,.sl 4 a2] []
inductive X where
 | c3 (x0:List ju) (x1:List Bool) (x2 x3:List Int) (x4:Int)
def id:X→Nat
 | .c3 .. =>3
def st:X→List (PV U)
 | .c3 x0 x1 x2 x3 x4=>iC 40 [(1,.sl 182 x0),(2,.sl 4 x1),(6,.box [.own true 3 x2]),(8,.own true 3 x3),(9,.int .i64 x4)]
def begin (a0:List Int) (a1:List ju) (a2:List Bool):Tr X A:=
 .bH (((List.length ([]:List Int):Int)+(List.length a0:Int))*(8:Nat)≤room) (.jump (.c3 a1 a2 ([]:List Int) (([]:List Int)++a0) (0:Int)))
def tree:X→Tr X A
 | .c3 x0 x1 x2 x3 x4=>
 .ite (decide (x4<(List.length x0:Int)))
  (.ite (decide (x4<(List.length x1:Int)))
   (.bH ((0:Int)≤x4∧x4<(List.length x1:Int)) (.ite (DT x1 x4)
    (.bH ((0:Int)≤x4∧x4<(List.length x0:Int)) (.call (gT.told x3 ((AU x0 x4).f0) ((AU x0 x4).f1)) fun t1=> .jump (.c3 x0 x1 x2 t1 (wr (x4+(1:Int))))))
    (.jump (.c3 x0 x1 x2 x3 (wr (x4+(1:Int)))))))
   (.ret (x3,(List.length x3:Int))))
  (.ret (x3,(List.length x3:Int)))
def f (a0:List Int) (a1:List ju) (a2:List Bool):Option A:=(begin a0 a1 a2).run (lp tree)
def Q:bA C:={PL with cb:=[(3,[1,2,6,8,9])],ca:=[],bV:=[]}
theorem e:aW Pg C Q Tryz.f167 0 id st v o tree:=fun J K x=>by cases x<;>kernel_rfl
theorem b (a0:List Int) (a1:List ju) (a2:List Bool):aX Pg C Q Tryz.f167 0 id st v o (S a0 a1 a2) (begin a0 a1 a2):=fun J K=>by kernel_rfl
def told (a0:List Int) (a1:List ju) (a2:List Bool):aa.Told A:=⟨f a0 a1 a2,fun r=>al Pg C 167 (S a0 a1 a2) 0 (v r) (o r),fun r h=>ah G mixed Q Tryz.func167 rfl (of_decide_eq_true (by kernel_rfl)) (by rfl) id st v o (fun _=>rfl) tree e (begin a0 a1 a2) (b a0 a1 a2) h⟩
end bX
namespace fp
def S (a0:List Int) (a1:Int) (a2:List Int) (a3:List Bool) (a4:Bool):List (PV U):=aa.start C 37 [.sl 3 a0,.agg [.int .i64 a1,.sl 3 a2],.sl 4 a3,.bool a4] []
abbrev X:=Empty
def id:X→Nat:=fun _=>0
def st:X→List (PV U):=fun _=>[]
def begin (a0:List Int) (a1:Int) (a2:List Int) (a3:List Bool) (a4:Bool):Tr X A:=
 .call (fG.told a1 a2) fun t1=> .call (gi.told a0 a1 a2) fun t2=> .ite (!t2)
  (.ret (t1.1,t1.2,false))
  (.both (.call (cT.told a0 a1) fun t3=> .both (.call (bX.told t1.2 t3 a3) fun t4=> .last (.last (.ite a4
   (.ret (t4.2,t4.1,true))
   (.ret (t1.1,t4.1,true)))))
    (.last (.last (.call (bX.told t1.2 t3 a3) fun t4=> .last (.ite a4
     (.ret (t4.2,t4.1,true))
     (.ret (t1.1,t4.1,true)))))))
   (.last (.last (.call (cT.told a0 a1) fun t3=> .last (.call (bX.told t1.2 t3 a3) fun t4=> .last (.ite a4
    (.ret (t4.2,t4.1,true))
    (.ret (t1.1,t4.1,true))))))))
def tree:X→Tr X A:=fun _=> .fail
def f (a0:List Int) (a1:Int) (a2:List Int) (a3:List Bool) (a4:Bool):Option A:=(begin a0 a1 a2 a3 a4).run (lp tree)
def Q:bA C:={PL with cb:=[],ca:=[(4,[12],(.take 0 [] (.take 2 [] (.take 3 [] (.take 6 [] (.take 1 [0,2,3,4,5,6,11] (.take 4 [0,1,2,3,6,11] (.alt 5 (.alt 7 (.take 8 [] (.take 9 [] (.take 10 [] (.alt 11 (.alt 12 (.take 13 [] .done) .nil) .nil)))) (.alt 11 (.alt 7 (.take 8 [] (.take 9 [] (.take 10 [] (.alt 12 (.take 13 [] .done) .nil)))) .nil) .nil)) (.alt 11 (.alt 5 (.alt 7 (.take 8 [] (.take 9 [] (.take 10 [] (.alt 12 (.take 13 [] .done) .nil)))) .nil) .nil) .nil)))))))))],bV:=[]}
theorem e:aW Pg C Q Tryz.f131 0 id st v o tree:=fun J K x=>by cases x
theorem b (a0:List Int) (a1:Int) (a2:List Int) (a3:List Bool) (a4:Bool):aX Pg C Q Tryz.f131 0 id st v o (S a0 a1 a2 a3 a4) (begin a0 a1 a2 a3 a4):=fun J K=>by kernel_rfl
def told (a0:List Int) (a1:Int) (a2:List Int) (a3:List Bool) (a4:Bool):aa.Told A:=⟨f a0 a1 a2 a3 a4,fun r=>al Pg C 131 (S a0 a1 a2 a3 a4) 0 (v r) (o r),fun r h=>ah G mixed Q Tryz.func131 rfl (of_decide_eq_true (by kernel_rfl)) (by rfl) id st v o (fun _=>rfl) tree e (begin a0 a1 a2 a3 a4) (b a0 a1 a2 a3 a4) h⟩
end fp
namespace ik
def S (a0:List aC) (a1 a2:List Int) (a3 a4 a5 a6 a7 a8 a9 a10:Int) (a11:List Int) (a12:Int) (a13:List Bool) (a14:Bool):List (PV U):=aa.start C 27 [.agg [.sl 164 a0,.sl 3 a1,.sl 3 a2,.int .i64 a3,.int .i64 a4,.int .i64 a5,.int .i64 a6,.int .i64 a7,.int .i64 a8,.int .i64 a9,.int .i64 a10,.sl 3 a11,.int .i64 a12],.sl 4 a13,.bool a14] []
abbrev X:=Empty
def id:X→Nat:=fun _=>0
def st:X→List (PV U):=fun _=>[]
def begin (a0:List aC) (a1 a2:List Int) (a3 a4 a5 a6 a7 a8 a9 a10:Int) (a11:List Int) (a12:Int) (a13:List Bool) (a14:Bool):Tr X A:=
 .call (aS.told a0 a1 a2 a3 a4 a5 a6 a7 a8 a9 a10 a11 a12) fun t1=> .call (bk.told a0 a1 a2 a3 a4 a5 a6 a7 a8 a9 a10 a11 a12) fun t2=> .ite (!t2)
  (.ret (t1.1,t1.2.1,t1.2.2.1,t1.2.2.2.1,t1.2.2.2.2.1,t1.2.2.2.2.2.1,t1.2.2.2.2.2.2.1,t1.2.2.2.2.2.2.2.1,t1.2.2.2.2.2.2.2.2.1,t1.2.2.2.2.2.2.2.2.2.1,t1.2.2.2.2.2.2.2.2.2.2.1,t1.2.2.2.2.2.2.2.2.2.2.2.1,t1.2.2.2.2.2.2.2.2.2.2.2.2,false))
  (.call (fp.told a1 a10 a11 a13 a14) fun t3=> .ret (t1.1,t1.2.1,t1.2.2.1,t1.2.2.2.1,t1.2.2.2.2.1,t1.2.2.2.2.2.1,t1.2.2.2.2.2.2.1,t1.2.2.2.2.2.2.2.1,t1.2.2.2.2.2.2.2.2.1,t1.2.2.2.2.2.2.2.2.2.1,t3.1,t3.2.1,t1.2.2.2.2.2.2.2.2.2.2.2.2,true))
def tree:X→Tr X A:=fun _=> .fail
def f (a0:List aC) (a1 a2:List Int) (a3 a4 a5 a6 a7 a8 a9 a10:Int) (a11:List Int) (a12:Int) (a13:List Bool) (a14:Bool):Option A:=(begin a0 a1 a2 a3 a4 a5 a6 a7 a8 a9 a10 a11 a12 a13 a14).run (lp tree)
def Q:bA C:={PL with cb:=[],ca:=[],bV:=[]}
theorem e:aW Pg C Q Tryz.f78 0 id st v o tree:=fun J K x=>by cases x
theorem b (a0:List aC) (a1 a2:List Int) (a3 a4 a5 a6 a7 a8 a9 a10:Int) (a11:List Int) (a12:Int) (a13:List Bool) (a14:Bool):aX Pg C Q Tryz.f78 0 id st v o (S a0 a1 a2 a3 a4 a5 a6 a7 a8 a9 a10 a11 a12 a13 a14) (begin a0 a1 a2 a3 a4 a5 a6 a7 a8 a9 a10 a11 a12 a13 a14):=fun J K=>by kernel_rfl
def told (a0:List aC) (a1 a2:List Int) (a3 a4 a5 a6 a7 a8 a9 a10:Int) (a11:List Int) (a12:Int) (a13:List Bool) (a14:Bool):aa.Told A:=⟨f a0 a1 a2 a3 a4 a5 a6 a7 a8 a9 a10 a11 a12 a13 a14,fun r=>al Pg C 78 (S a0 a1 a2 a3 a4 a5 a6 a7 a8 a9 a10 a11 a12 a13 a14) 0 (v r) (o r),fun r h=>ah G mixed Q Tryz.func78 rfl (of_decide_eq_true (by kernel_rfl)) (by rfl) id st v o (fun _=>rfl) tree e (begin a0 a1 a2 a3 a4 a5 a6 a7 a8 a9 a10 a11 a12 a13 a14) (b a0 a1 a2 a3 a4 a5 a6 a7 a8 a9 a10 a11 a12 a13 a14) h⟩
end ik
namespace dM
def S (a0 a1 a2 a3:Int):List (PV U):=aa.start C 35 [.agg [.int .i64 a0,.int .i64 a1],.agg [.int .i64 a2,.int .i64 a3]] []
abbrev X:=Empty
def id:X→Nat:=fun _=>0
def st:X→List (PV U):=fun _=>[]
def begin (a0 a1 a2 a3:Int):Tr X A:=
 .call (cS.told a0 a1) fun t1=> .ite (!t1)
  (.ret (a0,a1,false))
  (.call (cS.told a2 a3) fun t2=> .ite (!t2)
   (.ret (a0,a1,false))
   (.ite (decide ((if a2>a0 then a2 else a0)>(if a3<a1 then a3 else a1)))
    (.ret (a0,a1,false))
    (.ret ((if a2>a0 then a2 else a0),(if a3<a1 then a3 else a1),true))))
def tree:X→Tr X A:=fun _=> .fail
def f (a0 a1 a2 a3:Int):Option A:=(begin a0 a1 a2 a3).run (lp tree)
def Q:bA C:={PL with cb:=[],ca:=[],bV:=[]}
theorem e:aW Pg C Q Tryz.f80 0 id st v o tree:=fun J K x=>by cases x
theorem b (a0 a1 a2 a3:Int):aX Pg C Q Tryz.f80 0 id st v o (S a0 a1 a2 a3) (begin a0 a1 a2 a3):=fun J K=>by kernel_rfl
def told (a0 a1 a2 a3:Int):aa.Told A:=⟨f a0 a1 a2 a3,fun r=>al Pg C 80 (S a0 a1 a2 a3) 0 (v r) (o r),fun r h=>ah G mixed Q Tryz.func80 rfl (of_decide_eq_true (by kernel_rfl)) (by rfl) id st v o (fun _=>rfl) tree e (begin a0 a1 a2 a3) (b a0 a1 a2 a3) h⟩
end dM
namespace gA
def S (a0:Bool):List (PV U):=aa.start C 4 [.bool a0] []
abbrev X:=Empty
def id:X→Nat:=fun _=>0
def st:X→List (PV U):=fun _=>[]
def begin (a0:Bool):Tr X A:=
 .ite a0
  (.ret ((1:Int)))
  (.ret ((0:Int)))
def tree:X→Tr X A:=fun _=> .fail
def f (a0:Bool):Option A:=(begin a0).run (lp tree)
def Q:bA C:={PL with cb:=[],ca:=[],bV:=[]}
theorem e:aW Pg C Q Tryz.f81 0 id st v o tree:=fun J K x=>by cases x
theorem b (a0:Bool):aX Pg C Q Tryz.f81 0 id st v o (S a0) (begin a0):=fun J K=>by kernel_rfl
def told (a0:Bool):aa.Told A:=⟨f a0,fun r=>al Pg C 81 (S a0) 0 (v r) (o r),fun r h=>ah G mixed Q Tryz.func81 rfl (of_decide_eq_true (by kernel_rfl)) (by rfl) id st v o (fun _=>rfl) tree e (begin a0) (b a0) h⟩
end gA
namespace db
def S (a0 a1 a2:Int):List (PV U):=aa.start C 21 [.int .i64 a0,.int .i64 a1,.int .i64 a2] []
abbrev X:=Empty
def id:X→Nat:=fun _=>0
def st:X→List (PV U):=fun _=>[]
def begin (a0 a1 a2:Int):Tr X A:=
 .ite (decide (a2<a1))
  (.ret a1)
  (.ite (decide (a0<a1))
   (.ret a1)
   (.ite (decide (a0>a2))
    (.ret a2)
    (.ret a0)))
def tree:X→Tr X A:=fun _=> .fail
def f (a0 a1 a2:Int):Option A:=(begin a0 a1 a2).run (lp tree)
def Q:bA C:={PL with cb:=[],ca:=[],bV:=[]}
theorem e:aW Pg C Q Tryz.f157 0 id st v o tree:=fun J K x=>by cases x
theorem b (a0 a1 a2:Int):aX Pg C Q Tryz.f157 0 id st v o (S a0 a1 a2) (begin a0 a1 a2):=fun J K=>by kernel_rfl
def told (a0 a1 a2:Int):aa.Told A:=⟨f a0 a1 a2,fun r=>al Pg C 157 (S a0 a1 a2) 0 (v r) (o r),fun r h=>ah G mixed Q Tryz.func157 rfl (of_decide_eq_true (by kernel_rfl)) (by rfl) id st v o (fun _=>rfl) tree e (begin a0 a1 a2) (b a0 a1 a2) h⟩
end db
namespace fP
def S (a0 a1 a2 a3 a4:Int):List (PV U):=aa.start C 17 [.agg [.int .i64 a0,.int .i64 a1,.int .i64 a2,.int .i64 a3],.int .i64 a4] []
abbrev X:=Empty
def id:X→Nat:=fun _=>0
def st:X→List (PV U):=fun _=>[]
def begin (a0 a1 a2 a3 a4:Int):Tr X A:=
 .call (db.told (wr ((wr (a0+a4))-a3)) (0:Int) a1) fun t1=> .ret (t1,a1,a2,a3)
def tree:X→Tr X A:=fun _=> .fail
def f (a0 a1 a2 a3 a4:Int):Option A:=(begin a0 a1 a2 a3 a4).run (lp tree)
def Q:bA C:={PL with cb:=[],ca:=[],bV:=[]}
theorem e:aW Pg C Q Tryz.f118 0 id st v o tree:=fun J K x=>by cases x
theorem b (a0 a1 a2 a3 a4:Int):aX Pg C Q Tryz.f118 0 id st v o (S a0 a1 a2 a3 a4) (begin a0 a1 a2 a3 a4):=fun J K=>by kernel_rfl
def told (a0 a1 a2 a3 a4:Int):aa.Told A:=⟨f a0 a1 a2 a3 a4,fun r=>al Pg C 118 (S a0 a1 a2 a3 a4) 0 (v r) (o r),fun r h=>ah G mixed Q Tryz.func118 rfl (of_decide_eq_true (by kernel_rfl)) (by rfl) id st v o (fun _=>rfl) tree e (begin a0 a1 a2 a3 a4) (b a0 a1 a2 a3 a4) h⟩
end fP
namespace gE
def S (a0 a1 a2:Int):List (PV U):=aa.start C 18 [.agg [.int .i64 a0,.int .i64 a1],.int .i64 a2] []
abbrev X:=Empty
def id:X→Nat:=fun _=>0
def st:X→List (PV U):=fun _=>[]
def begin (a0 a1 a2:Int):Tr X A:=
 .call (cS.told a0 a1) fun t1=> .ite (!t1)
  (.ret (a0,a1))
  (.call (aG.told a2 (0:Int) (1000000:Int)) fun t2=> .ite (!t2)
   (.ret (a0,a1))
   (.call (fC.told a0 a1 a2 a2) fun t3=> .ret (t3.1,t3.2)))
def tree:X→Tr X A:=fun _=> .fail
def f (a0 a1 a2:Int):Option A:=(begin a0 a1 a2).run (lp tree)
def Q:bA C:={PL with cb:=[],ca:=[],bV:=[]}
theorem e:aW Pg C Q Tryz.f119 0 id st v o tree:=fun J K x=>by cases x
theorem b (a0 a1 a2:Int):aX Pg C Q Tryz.f119 0 id st v o (S a0 a1 a2) (begin a0 a1 a2):=fun J K=>by kernel_rfl
def told (a0 a1 a2:Int):aa.Told A:=⟨f a0 a1 a2,fun r=>al Pg C 119 (S a0 a1 a2) 0 (v r) (o r),fun r h=>ah G mixed Q Tryz.func119 rfl (of_decide_eq_true (by kernel_rfl)) (by rfl) id st v o (fun _=>rfl) tree e (begin a0 a1 a2) (b a0 a1 a2) h⟩
end gE
namespace aY
def S (a0:List Int):List (PV U):=aa.start C 60 [.sl 3 a0] []
inductive X where
 | c6 (x0:List Int) (x1:List fL) (x2 x3 x4 x5:Int)
def id:X→Nat
 | .c6 .. =>6
def st:X→List (PV U)
 | .c6 x0 x1 x2 x3 x4 x5=>iC 60 [(0,.sl 3 x0),(3,.own true 173 x1),(4,.int .i64 x2),(5,.int .i64 x3),(6,.int .i64 x4),(7,.int .i64 x5)]
def begin (a0:List Int):Tr X A:=
 .ite (!decide ((List.length a0:Int)=(49:Int)))
  (.ret (([]:List fL)))
  (.bH ((0:Int)≤(8:Int)∧(8:Int)<(List.length a0:Int)) (.call (bB.told (dh a0 (8:Int))) fun t1=> .jump (.c6 a0 ([]:List fL) t1.1 t1.2.1 t1.2.2 (wr (t1.2.1-(1:Int))))))
def tree:X→Tr X A
 | .c6 x0 x1 x2 x3 x4 x5=>
 .ite (decide (x5≥(0:Int)))
  (.bH ((0:Int)≤(wr ((9:Int)+(wr ((2:Int)*x5))))∧(wr ((9:Int)+(wr ((2:Int)*x5))))<(List.length x0:Int)) (.call (aG.told (dh x0 (wr ((9:Int)+(wr ((2:Int)*x5))))) (0:Int) (7:Int)) fun t1=> .ite (!t1)
   (.ret (([]:List fL)))
   (.bH ((0:Int)≤(wr ((wr ((9:Int)+(wr ((2:Int)*x5))))+(1:Int)))∧(wr ((wr ((9:Int)+(wr ((2:Int)*x5))))+(1:Int)))<(List.length x0:Int)) (.val ([(⟨(dh x0 (wr ((9:Int)+(wr ((2:Int)*x5))))),(dh x0 (wr ((wr ((9:Int)+(wr ((2:Int)*x5))))+(1:Int))))⟩:fL)]:List fL) fun v2=> .bH (((List.length x1:Int)+(List.length v2:Int))*(16:Nat)≤room) (.jump (.c6 x0 (x1++v2) x2 x3 x4 (wr (x5-(1:Int)))))))))
  (.ite (decide (x3≤(0:Int)))
   (.ret x1)
   (.call (bU.told x2 (0:Int) x4) fun t1=> .bH (((List.length x1:Int)+(List.length ([(⟨(8:Int),t1⟩:fL)]):Int))*(16:Nat)≤room) (.ret ((x1++[(⟨(8:Int),t1⟩:fL)])))))
def f (a0:List Int):Option A:=(begin a0).run (lp tree)
def Q:bA C:={PL with cb:=[(6,[0,3,4,5,6,7])],ca:=[],bV:=[]}
theorem e:aW Pg C Q Tryz.f158 0 id st v o tree:=fun J K x=>by cases x<;>kernel_rfl
theorem b (a0:List Int):aX Pg C Q Tryz.f158 0 id st v o (S a0) (begin a0):=fun J K=>by kernel_rfl
def told (a0:List Int):aa.Told A:=⟨f a0,fun r=>al Pg C 158 (S a0) 0 (v r) (o r),fun r h=>ah G mixed Q Tryz.func158 rfl (of_decide_eq_true (by kernel_rfl)) (by rfl) id st v o (fun _=>rfl) tree e (begin a0) (b a0) h⟩
end aY
namespace bM
def S (a0:List Int) (a1:List fL) (a2:Int):List (PV U):=aa.start C 45 [.sl 3 a0,.sl 173 a1,.int .i64 a2] []
inductive X where
 | c3 (x0:List Int) (x1:List fL) (x2:Int) (x3:List Int) (x4:Int)
def id:X→Nat
 | .c3 .. =>3
def st:X→List (PV U)
 | .c3 x0 x1 x2 x3 x4=>iC 45 [(0,.sl 3 x0),(1,.sl 173 x1),(2,.int .i64 x2),(7,.own true 3 x3),(8,.int .i64 x4)]
def begin (a0:List Int) (a1:List fL) (a2:Int):Tr X A:=
 .bH (((List.length ([]:List Int):Int)+(List.length a0:Int))*(8:Nat)≤room) (.jump (.c3 a0 a1 a2 (([]:List Int)++a0) (0:Int)))
def tree:X→Tr X A
 | .c3 x0 x1 x2 x3 x4=>
 .ite (decide (x4<(List.length x1:Int)))
  (.ite (decide (x4<x2))
   (.bH ((0:Int)≤x4∧x4<(List.length x1:Int)) (.call (aG.told ((tY x1 x4).f0) (0:Int) (wr ((List.length x0:Int)-(1:Int)))) fun t1=> .ite t1
    (.bH ((0:Int)≤x4∧x4<(List.length x1:Int)) (.bH ((0:Int)≤x4∧x4<(List.length x1:Int)) (.bH ((0:Int)≤(tY x1 x4).f0∧(tY x1 x4).f0<(List.length x3:Int)) (.last (.jump (.c3 x0 x1 x2 (List.set x3 (Int.toNat ((tY x1 x4).f0)) ((tY x1 x4).f1)) (wr (x4+(1:Int)))))))))
    (.jump (.c3 x0 x1 x2 x3 (wr (x4+(1:Int)))))))
   (.ret x3))
  (.ret x3)
def f (a0:List Int) (a1:List fL) (a2:Int):Option A:=(begin a0 a1 a2).run (lp tree)
def Q:bA C:={PL with cb:=[(3,[0,1,2,7,8])],ca:=[(6,[12],(.take 0 [] (.take 1 [] (.take 2 [] (.take 3 [] (.take 4 [] (.take 6 [] (.take 7 [] (.take 8 [] (.take 9 [] (.take 5 [0,1,2,3,4,6,7,8,9,10] (.take 10 [0,1,2,3,4,5,6,7,8,9] (.take 11 [] (.alt 12 .done .nil))))))))))))))],bV:=[]}
theorem e:aW Pg C Q Tryz.f159 0 id st v o tree:=fun J K x=>by cases x<;>kernel_rfl
theorem b (a0:List Int) (a1:List fL) (a2:Int):aX Pg C Q Tryz.f159 0 id st v o (S a0 a1 a2) (begin a0 a1 a2):=fun J K=>by kernel_rfl
def told (a0:List Int) (a1:List fL) (a2:Int):aa.Told A:=⟨f a0 a1 a2,fun r=>al Pg C 159 (S a0 a1 a2) 0 (v r) (o r),fun r h=>ah G mixed Q Tryz.func159 rfl (of_decide_eq_true (by kernel_rfl)) (by rfl) id st v o (fun _=>rfl) tree e (begin a0 a1 a2) (b a0 a1 a2) h⟩
end bM
namespace ji
def S (a0:List aB) (a1 a2 a3:Int):List (PV U):=aa.start C 11 [.agg [.sl 204 a0,.int .i64 a1,.int .i64 a2,.int .i64 a3]] []
abbrev X:=Empty
def id:X→Nat:=fun _=>0
def st:X→List (PV U):=fun _=>[]
def begin (a0:List aB) (a1 a2 a3:Int):Tr X A:=
 .call (bm.told a0) fun t1=> .ite t1
  (.call (cy.told a1 a2 a3) fun t2=> .ret t2)
  (.ret false)
def tree:X→Tr X A:=fun _=> .fail
def f (a0:List aB) (a1 a2 a3:Int):Option A:=(begin a0 a1 a2 a3).run (lp tree)
def Q:bA C:={PL with cb:=[],ca:=[],bV:=[]}
theorem e:aW Pg C Q Tryz.f226 0 id st v o tree:=fun J K x=>by cases x
theorem b (a0:List aB) (a1 a2 a3:Int):aX Pg C Q Tryz.f226 0 id st v o (S a0 a1 a2 a3) (begin a0 a1 a2 a3):=fun J K=>by kernel_rfl
def told (a0:List aB) (a1 a2 a3:Int):aa.Told A:=⟨f a0 a1 a2 a3,fun r=>al Pg C 226 (S a0 a1 a2 a3) 0 (v r) (o r),fun r h=>ah G mixed Q Tryz.func226 rfl (of_decide_eq_true (by kernel_rfl)) (by rfl) id st v o (fun _=>rfl) tree e (begin a0 a1 a2 a3) (b a0 a1 a2 a3) h⟩
end ji
namespace cW
def S (a0 a1 a2 a3 a4 a5:Int):List (PV U):=aa.start C 11 [.agg [.int .i64 a0,.int .i64 a1,.int .i64 a2,.int .i64 a3,.int .i64 a4,.int .i64 a5]] []
abbrev X:=Empty
def id:X→Nat:=fun _=>0
def st:X→List (PV U):=fun _=>[]
def begin (a0 a1 a2 a3 a4 a5:Int):Tr X A:=
 .ite (decide (a0=(1:Int)))
  (.ret true)
  (.ret ((decide (a0=(2:Int)))))
def tree:X→Tr X A:=fun _=> .fail
def f (a0 a1 a2 a3 a4 a5:Int):Option A:=(begin a0 a1 a2 a3 a4 a5).run (lp tree)
def Q:bA C:={PL with cb:=[],ca:=[],bV:=[]}
theorem e:aW Pg C Q Tryz.f248 0 id st v o tree:=fun J K x=>by cases x
theorem b (a0 a1 a2 a3 a4 a5:Int):aX Pg C Q Tryz.f248 0 id st v o (S a0 a1 a2 a3 a4 a5) (begin a0 a1 a2 a3 a4 a5):=fun J K=>by kernel_rfl
def told (a0 a1 a2 a3 a4 a5:Int):aa.Told A:=⟨f a0 a1 a2 a3 a4 a5,fun r=>al Pg C 248 (S a0 a1 a2 a3 a4 a5) 0 (v r) (o r),fun r h=>ah G mixed Q Tryz.func248 rfl (of_decide_eq_true (by kernel_rfl)) (by rfl) id st v o (fun _=>rfl) tree e (begin a0 a1 a2 a3 a4 a5) (b a0 a1 a2 a3 a4 a5) h⟩
end cW
namespace cd
def S (a0:List Bool):List (PV U):=aa.start C 21 [.sl 4 a0] []
inductive X where
 | c3 (x0:List Bool) (x1:List Int) (x2:Int)
def id:X→Nat
 | .c3 .. =>3
def st:X→List (PV U)
 | .c3 x0 x1 x2=>iC 21 [(0,.sl 4 x0),(3,.own true 3 x1),(4,.int .i64 x2)]
def begin (a0:List Bool):Tr X A:=
 .jump (.c3 a0 ([]:List Int) (0:Int))
def tree:X→Tr X A
 | .c3 x0 x1 x2=>
 .ite (decide (x2<(List.length x0:Int)))
  (.bH ((0:Int)≤x2∧x2<(List.length x0:Int)) (.ite (DT x0 x2)
   (.bH (((List.length x1:Int)+(List.length ([x2]):Int))*(8:Nat)≤room) (.jump (.c3 x0 (x1++[x2]) (wr (x2+(1:Int))))))
   (.jump (.c3 x0 x1 (wr (x2+(1:Int)))))))
  (.ret x1)
def f (a0:List Bool):Option A:=(begin a0).run (lp tree)
def Q:bA C:={PL with cb:=[(3,[0,3,4])],ca:=[],bV:=[]}
theorem e:aW Pg C Q Tryz.f249 0 id st v o tree:=fun J K x=>by cases x<;>kernel_rfl
theorem b (a0:List Bool):aX Pg C Q Tryz.f249 0 id st v o (S a0) (begin a0):=fun J K=>by kernel_rfl
def told (a0:List Bool):aa.Told A:=⟨f a0,fun r=>al Pg C 249 (S a0) 0 (v r) (o r),fun r h=>ah G mixed Q Tryz.func249 rfl (of_decide_eq_true (by kernel_rfl)) (by rfl) id st v o (fun _=>rfl) tree e (begin a0) (b a0) h⟩
end cd
namespace da
def S (a0:List aB):List (PV U):=aa.start C 30 [.sl 204 a0] []
inductive X where
 | c3 (x0:List aB) (x1:List Bool) (x2:Int)
def id:X→Nat
 | .c3 .. =>3
def st:X→List (PV U)
 | .c3 x0 x1 x2=>iC 30 [(0,.sl 204 x0),(3,.own true 4 x1),(4,.int .i64 x2)]
def begin (a0:List aB):Tr X A:=
 .bH ((0:Int)≤(8:Int)∧(8:Int)≤(8:Int)∧(8:Int)*(1:Nat)≤room) (.jump (.c3 a0 (List.replicate (Int.toNat (8:Int)) false) (0:Int)))
def tree:X→Tr X A
 | .c3 x0 x1 x2=>
 .ite (decide (x2<(List.length x0:Int)))
  (.call (bm.told x0) fun t1=> .ite t1
   (.bH ((0:Int)≤x2∧x2<(List.length x0:Int)) (.call (cW.told ((aw x0 x2).f0) ((aw x0 x2).f1) ((aw x0 x2).f2) ((aw x0 x2).f3.f0) ((aw x0 x2).f3.f1) ((aw x0 x2).f3.f2)) fun t2=> .ite t2
    (.bH ((0:Int)≤x2∧x2<(List.length x0:Int)) (.bH ((0:Int)≤(aw x0 x2).f1∧(aw x0 x2).f1<(List.length x1:Int)) (.jump (.c3 x0 (List.set x1 (Int.toNat ((aw x0 x2).f1)) true) (wr (x2+(1:Int)))))))
    (.jump (.c3 x0 x1 (wr (x2+(1:Int)))))))
   (.call (cd.told x1) fun t2=> .ret t2))
  (.call (cd.told x1) fun t1=> .ret t1)
def f (a0:List aB):Option A:=(begin a0).run (lp tree)
def Q:bA C:={PL with cb:=[(3,[0,3,4])],ca:=[],bV:=[]}
theorem e:aW Pg C Q Tryz.f227 0 id st v o tree:=fun J K x=>by cases x<;>kernel_rfl
theorem b (a0:List aB):aX Pg C Q Tryz.f227 0 id st v o (S a0) (begin a0):=fun J K=>by kernel_rfl
def told (a0:List aB):aa.Told A:=⟨f a0,fun r=>al Pg C 227 (S a0) 0 (v r) (o r),fun r h=>ah G mixed Q Tryz.func227 rfl (of_decide_eq_true (by kernel_rfl)) (by rfl) id st v o (fun _=>rfl) tree e (begin a0) (b a0) h⟩
end da
namespace fW
def S (a0 a1 a2 a3 a4 a5:Int):List (PV U):=aa.start C 11 [.agg [.int .i64 a0,.int .i64 a1,.int .i64 a2,.int .i64 a3,.int .i64 a4,.int .i64 a5]] []
abbrev X:=Empty
def id:X→Nat:=fun _=>0
def st:X→List (PV U):=fun _=>[]
def begin (a0 a1 a2 a3 a4 a5:Int):Tr X A:=
 .ite (decide (a0=(4:Int)))
  (.ret true)
  (.ret ((decide (a0=(5:Int)))))
def tree:X→Tr X A:=fun _=> .fail
def f (a0 a1 a2 a3 a4 a5:Int):Option A:=(begin a0 a1 a2 a3 a4 a5).run (lp tree)
def Q:bA C:={PL with cb:=[],ca:=[],bV:=[]}
theorem e:aW Pg C Q Tryz.f257 0 id st v o tree:=fun J K x=>by cases x
theorem b (a0 a1 a2 a3 a4 a5:Int):aX Pg C Q Tryz.f257 0 id st v o (S a0 a1 a2 a3 a4 a5) (begin a0 a1 a2 a3 a4 a5):=fun J K=>by kernel_rfl
def told (a0 a1 a2 a3 a4 a5:Int):aa.Told A:=⟨f a0 a1 a2 a3 a4 a5,fun r=>al Pg C 257 (S a0 a1 a2 a3 a4 a5) 0 (v r) (o r),fun r h=>ah G mixed Q Tryz.func257 rfl (of_decide_eq_true (by kernel_rfl)) (by rfl) id st v o (fun _=>rfl) tree e (begin a0 a1 a2 a3 a4 a5) (b a0 a1 a2 a3 a4 a5) h⟩
end fW
namespace b7
def S (a0:List aB) (a1:Int):List (PV U):=aa.start C 32 [.sl 204 a0,.int .i64 a1] []
inductive X where
 | c3 (x0:List aB) (x1 x2:Int)
def id:X→Nat
 | .c3 .. =>3
def st:X→List (PV U)
 | .c3 x0 x1 x2=>iC 32 [(0,.sl 204 x0),(5,.int .i64 x1),(6,.int .i64 x2)]
def begin (a0:List aB) (a1:Int):Tr X A:=
 .jump (.c3 a0 (0:Int) a1)
def tree:X→Tr X A
 | .c3 x0 x1 x2=>
 .ite (decide (x2<(List.length x0:Int)))
  (.bH ((0:Int)≤x2∧x2<(List.length x0:Int)) (.call (fW.told ((aw x0 x2).f0) ((aw x0 x2).f1) ((aw x0 x2).f2) ((aw x0 x2).f3.f0) ((aw x0 x2).f3.f1) ((aw x0 x2).f3.f2)) fun t1=> .ite t1
   (.bH ((0:Int)≤x2∧x2<(List.length x0:Int)) (.ite (decide ((aw x0 x2).f0=(6:Int)))
    (.ite (decide ((wr ((wr (x1+(1:Int)))-(1:Int)))=(0:Int)))
     (.ret x2)
     (.jump (.c3 x0 (wr ((wr (x1+(1:Int)))-(1:Int))) (wr (x2+(1:Int))))))
    (.jump (.c3 x0 (wr (x1+(1:Int))) (wr (x2+(1:Int)))))))
   (.bH ((0:Int)≤x2∧x2<(List.length x0:Int)) (.ite (decide ((aw x0 x2).f0=(6:Int)))
    (.ite (decide ((wr (x1-(1:Int)))=(0:Int)))
     (.ret x2)
     (.jump (.c3 x0 (wr (x1-(1:Int))) (wr (x2+(1:Int))))))
    (.jump (.c3 x0 x1 (wr (x2+(1:Int)))))))))
  (.ret ((-1:Int)))
def f (a0:List aB) (a1:Int):Option A:=(begin a0 a1).run (lp tree)
def Q:bA C:={PL with cb:=[(3,[0,5,6])],ca:=[],bV:=[]}
theorem e:aW Pg C Q Tryz.f235 0 id st v o tree:=fun J K x=>by cases x<;>kernel_rfl
theorem b (a0:List aB) (a1:Int):aX Pg C Q Tryz.f235 0 id st v o (S a0 a1) (begin a0 a1):=fun J K=>by kernel_rfl
def told (a0:List aB) (a1:Int):aa.Told A:=⟨f a0 a1,fun r=>al Pg C 235 (S a0 a1) 0 (v r) (o r),fun r h=>ah G mixed Q Tryz.func235 rfl (of_decide_eq_true (by kernel_rfl)) (by rfl) id st v o (fun _=>rfl) tree e (begin a0 a1) (b a0 a1) h⟩
end b7
namespace cl
def S (a0:List aB):List (PV U):=aa.start C 39 [.sl 204 a0] []
inductive X where
 | c3 (x0:List aB) (x1:List Bool) (x2:Int)
def id:X→Nat
 | .c3 .. =>3
def st:X→List (PV U)
 | .c3 x0 x1 x2=>iC 39 [(0,.sl 204 x0),(3,.own true 4 x1),(4,.int .i64 x2)]
def begin (a0:List aB):Tr X A:=
 .bH ((0:Int)≤(8:Int)∧(8:Int)≤(8:Int)∧(8:Int)*(1:Nat)≤room) (.jump (.c3 a0 (List.replicate (Int.toNat (8:Int)) false) (0:Int)))
def tree:X→Tr X A
 | .c3 x0 x1 x2=>
 .ite (decide (x2<(List.length x0:Int)))
  (.call (bm.told x0) fun t1=> .ite t1
   (.bH ((0:Int)≤x2∧x2<(List.length x0:Int)) (.ite (decide ((aw x0 x2).f0=(4:Int)))
    (.call (b7.told x0 x2) fun t2=> .jump (.c3 x0 x1 (wr (t2+(1:Int)))))
    (.bH ((0:Int)≤x2∧x2<(List.length x0:Int)) (.call (cW.told ((aw x0 x2).f0) ((aw x0 x2).f1) ((aw x0 x2).f2) ((aw x0 x2).f3.f0) ((aw x0 x2).f3.f1) ((aw x0 x2).f3.f2)) fun t2=> .ite t2
     (.bH ((0:Int)≤x2∧x2<(List.length x0:Int)) (.bH ((0:Int)≤(aw x0 x2).f1∧(aw x0 x2).f1<(List.length x1:Int)) (.jump (.c3 x0 (List.set x1 (Int.toNat ((aw x0 x2).f1)) true) (wr (x2+(1:Int)))))))
     (.jump (.c3 x0 x1 (wr (x2+(1:Int)))))))))
   (.call (cd.told x1) fun t2=> .ret t2))
  (.call (cd.told x1) fun t1=> .ret t1)
def f (a0:List aB):Option A:=(begin a0).run (lp tree)
def Q:bA C:={PL with cb:=[(3,[0,3,4])],ca:=[],bV:=[]}
theorem e:aW Pg C Q Tryz.f228 0 id st v o tree:=fun J K x=>by cases x<;>kernel_rfl
theorem b (a0:List aB):aX Pg C Q Tryz.f228 0 id st v o (S a0) (begin a0):=fun J K=>by kernel_rfl
def told (a0:List aB):aa.Told A:=⟨f a0,fun r=>al Pg C 228 (S a0) 0 (v r) (o r),fun r h=>ah G mixed Q Tryz.func228 rfl (of_decide_eq_true (by kernel_rfl)) (by rfl) id st v o (fun _=>rfl) tree e (begin a0) (b a0) h⟩
end cl
namespace cI
def S (a0 a1 a2:Int):List (PV U):=aa.start C 31 [.agg [.int .i64 a0,.int .i64 a1,.int .i64 a2]] []
inductive X where
 | c3 (x0 x1 x2:Int) (x3:List Int) (x4:Int)
def id:X→Nat
 | .c3 .. =>3
def st:X→List (PV U)
 | .c3 x0 x1 x2 x3 x4=>iC 31 [(1,.box [.int .i64 x0,.int .i64 x1,.int .i64 x2]),(3,.own true 3 x3),(4,.int .i64 x4)]
def begin (a0 a1 a2:Int):Tr X A:=
 .jump (.c3 a0 a1 a2 ([]:List Int) (0:Int))
def tree:X→Tr X A
 | .c3 x0 x1 x2 x3 x4=>
 .ite (decide (x4<(8:Int)))
  (.call (cy.told x0 x1 x2) fun t1=>let u1_0:Tr X A:=(.bH (((List.length x3:Int)+(List.length ([x4]):Int))*(8:Nat)≤room) (.jump (.c3 x0 x1 x2 (x3++[x4]) (wr (x4+(1:Int)))))); .ite t1
   (.ite (decide (x1=(wr ((-1:Int)-x4))))
    (u1_0)
    (.ite (decide (x2=(wr ((-1:Int)-x4))))
     (u1_0)
     (.jump (.c3 x0 x1 x2 x3 (wr (x4+(1:Int)))))))
   (.ret x3))
  (.ret x3)
def f (a0 a1 a2:Int):Option A:=(begin a0 a1 a2).run (lp tree)
def Q:bA C:={PL with cb:=[(3,[1,3,4])],ca:=[],bV:=[]}
theorem e:aW Pg C Q Tryz.f262 0 id st v o tree:=fun J K x=>by cases x<;>kernel_rfl
theorem b (a0 a1 a2:Int):aX Pg C Q Tryz.f262 0 id st v o (S a0 a1 a2) (begin a0 a1 a2):=fun J K=>by kernel_rfl
def told (a0 a1 a2:Int):aa.Told A:=⟨f a0 a1 a2,fun r=>al Pg C 262 (S a0 a1 a2) 0 (v r) (o r),fun r h=>ah G mixed Q Tryz.func262 rfl (of_decide_eq_true (by kernel_rfl)) (by rfl) id st v o (fun _=>rfl) tree e (begin a0 a1 a2) (b a0 a1 a2) h⟩
end cI
namespace cc
def S (a0 a1 a2:Int) (a3 a4:List Bool):List (PV U):=aa.start C 30 [.nj (30,[]),.nj (31,[]),.agg [.int .i64 a0,.int .i64 a1,.int .i64 a2]] [.own true 4 a3,.own true 4 a4]
inductive X where
 | c3 (x0:List Int) (x1:Int) (x2 x3:List Bool)
def id:X→Nat
 | .c3 .. =>3
def st:X→List (PV U)
 | .c3 x0 x1 x2 x3=>iC 32 [(0,.nj (30,[])),(1,.nj (31,[])),(6,.own true 3 x0),(7,.int .i64 x1),(30,.own true 4 x2),(31,.own true 4 x3)]
def begin (a0 a1 a2:Int) (a3 a4:List Bool):Tr X A:=
 .call (cI.told a0 a1 a2) fun t1=> .jump (.c3 t1 (0:Int) a3 a4)
def tree:X→Tr X A
 | .c3 x0 x1 x2 x3=>
 .ite (decide (x1<(List.length x0:Int)))
  (.bH ((0:Int)≤x1∧x1<(List.length x0:Int)) (.bH ((0:Int)≤(dh x0 x1)∧(dh x0 x1)<(List.length x3:Int)) (.ite (!(DT x3 (dh x0 x1)))
   (.bH ((0:Int)≤x1∧x1<(List.length x0:Int)) (.bH ((0:Int)≤(dh x0 x1)∧(dh x0 x1)<(List.length x2:Int)) (.jump (.c3 x0 (wr (x1+(1:Int))) (List.set x2 (Int.toNat (dh x0 x1)) true) x3))))
   (.jump (.c3 x0 (wr (x1+(1:Int))) x2 x3)))))
  (.ret (x2,x3))
def f (a0 a1 a2:Int) (a3 a4:List Bool):Option A:=(begin a0 a1 a2 a3 a4).run (lp tree)
def Q:bA C:={PL with cb:=[(3,[0,1,6,7,30,31])],ca:=[],bV:=[]}
theorem e:aW Pg C Q Tryz.f251 2 id st v o tree:=fun J K x=>by cases x<;>kernel_rfl
theorem b (a0 a1 a2:Int) (a3 a4:List Bool):aX Pg C Q Tryz.f251 2 id st v o (S a0 a1 a2 a3 a4) (begin a0 a1 a2 a3 a4):=fun J K=>by kernel_rfl
def told (a0 a1 a2:Int) (a3 a4:List Bool):aa.Told A:=⟨f a0 a1 a2 a3 a4,fun r=>al Pg C 251 (S a0 a1 a2 a3 a4) 2 (v r) (o r),fun r h=>ah G mixed Q Tryz.func251 rfl (of_decide_eq_true (by kernel_rfl)) (by rfl) id st v o (fun _=>rfl) tree e (begin a0 a1 a2 a3 a4) (b a0 a1 a2 a3 a4) h⟩
end cc
namespace aR
def S (a0:List aB) (a1 a2:Int) (a3 a4:List Bool):List (PV U):=aa.start C 83 [.sl 204 a0,.int .i64 a1,.int .i64 a2,.nj (83,[]),.nj (84,[])] [.own true 4 a3,.own true 4 a4]
abbrev I:=(List aB)×Int×Int×(List Bool)×(List Bool)
abbrev K:I→A→Prop:=fun i_ r=>al Pg C 250 (S i_.1 i_.2.1 i_.2.2.1 i_.2.2.2.1 i_.2.2.2.2) 2 (v r) (o r)
inductive X where
 | c1 (x0:List aB) (x1 x2:Int) (x3 x4:List Bool)
def id:X→Nat
 | .c1 .. =>1
def st:X→List (PV U)
 | .c1 x0 x1 x2 x3 x4=>iC 85 [(0,.sl 204 x0),(2,.int .i64 x1),(3,.nj (83,[])),(4,.nj (84,[])),(10,.int .i64 x2),(83,.own true 4 x3),(84,.own true 4 x4)]
def begin (self_:Self I A K) (a0:List aB) (a1 a2:Int) (a3 a4:List Bool):Tr X A:=
 .jump (.c1 a0 a2 a1 a3 a4)
def tree (self_:Self I A K):X→Tr X A
 | .c1 x0 x1 x2 x3 x4=>
 .ite (decide (x2<x1))
  (.bH ((0:Int)≤x2∧x2<(List.length x0:Int)) (.ite (decide ((aw x0 x2).f0=(1:Int)))
   (.call (cc.told ((aw x0 x2).f3.f0) ((aw x0 x2).f3.f1) ((aw x0 x2).f3.f2) x4 x3) fun t1=> .bH ((0:Int)≤(aw x0 x2).f1∧(aw x0 x2).f1<(List.length t1.2:Int)) (.jump (.c1 x0 x1 (wr (x2+(1:Int))) (List.set t1.2 (Int.toNat ((aw x0 x2).f1)) true) t1.1)))
   (.ite (decide ((aw x0 x2).f0=(2:Int)))
    (.bH ((0:Int)≤(aw x0 x2).f1∧(aw x0 x2).f1<(List.length x3:Int)) (.jump (.c1 x0 x1 (wr (x2+(1:Int))) (List.set x3 (Int.toNat ((aw x0 x2).f1)) true) x4)))
    (.ite (decide ((aw x0 x2).f0=(3:Int)))
     (.call (cc.told ((aw x0 x2).f3.f0) ((aw x0 x2).f3.f1) ((aw x0 x2).f3.f2) x4 x3) fun t1=> .jump (.c1 x0 x1 (wr (x2+(1:Int))) t1.2 t1.1))
     (.ite (decide ((aw x0 x2).f0=(4:Int)))
      (.call (cc.told ((aw x0 x2).f3.f0) ((aw x0 x2).f3.f1) ((aw x0 x2).f3.f2) x4 x3) fun t1=> .call (b7.told x0 x2) fun t2=> .bH (((List.length ([]:List Bool):Int)+(List.length t1.2:Int))*(1:Nat)≤room) (.call (self_.told (x0,(wr (x2+(1:Int))),t2,(([]:List Bool)++t1.2),t1.1)) fun t3=> .jump (.c1 x0 x1 (wr (t2+(1:Int))) t1.2 t3.2)))
      (.ite (decide ((aw x0 x2).f0=(5:Int)))
       (.call (b7.told x0 x2) fun t1=> .call (self_.told (x0,(wr (x2+(1:Int))),t1,x3,x4)) fun t2=> .jump (.c1 x0 x1 (wr (t1+(1:Int))) t2.1 t2.2))
       (.jump (.c1 x0 x1 (wr (x2+(1:Int))) x3 x4))))))))
  (.ret (x3,x4))
def Q:bA C:={PL with cb:=[(1,[0,2,3,4,10,83,84])],ca:=[],bV:=[]}
theorem e (self_:Self I A K):aW Pg C Q Tryz.f250 2 id st v o (tree self_):=fun J K x=>by cases x<;>kernel_rfl
theorem b (self_:Self I A K) (a0:List aB) (a1 a2:Int) (a3 a4:List Bool):aX Pg C Q Tryz.f250 2 id st v o (S a0 a1 a2 a3 a4) (begin self_ a0 a1 a2 a3 a4):=fun J K=>by kernel_rfl
def step (self_:Self I A K):Self I A K:=⟨fun i_=>(begin self_ i_.1 i_.2.1 i_.2.2.1 i_.2.2.2.1 i_.2.2.2.2).run (lp (tree self_)),fun i_ r h=>ah G mixed Q Tryz.func250 rfl (of_decide_eq_true (by kernel_rfl)) (by rfl) id st v o (fun _=>rfl) (tree self_) (e self_) (begin self_ i_.1 i_.2.1 i_.2.2.1 i_.2.2.2.1 i_.2.2.2.2) (b self_ i_.1 i_.2.1 i_.2.2.1 i_.2.2.2.1 i_.2.2.2.2) h⟩
def f (a0:List aB) (a1 a2:Int) (a3 a4:List Bool):Option A:=(Self.iter step 8).f (a0,a1,a2,a3,a4)
def told (a0:List aB) (a1 a2:Int) (a3 a4:List Bool):aa.Told A:=⟨f a0 a1 a2 a3 a4,fun r=>al Pg C 250 (S a0 a1 a2 a3 a4) 2 (v r) (o r),fun r h=>(Self.iter step 8).ok (a0,a1,a2,a3,a4) r h⟩
end aR
namespace dz
def S (a0:List aB) (a1 a2 a3:Int):List (PV U):=aa.start C 30 [.agg [.sl 204 a0,.int .i64 a1,.int .i64 a2,.int .i64 a3]] []
abbrev X:=Empty
def id:X→Nat:=fun _=>0
def st:X→List (PV U):=fun _=>[]
def begin (a0:List aB) (a1 a2 a3:Int):Tr X A:=
 .bH ((0:Int)≤(8:Int)∧(8:Int)≤(8:Int)∧(8:Int)*(1:Nat)≤room) (.call (bm.told a0) fun t1=> .ite t1
  (.call (cy.told a1 a2 a3) fun t2=> .ite t2
   (.bH ((0:Int)≤(8:Int)∧(8:Int)≤(8:Int)∧(8:Int)*(1:Nat)≤room) (.call (aR.told a0 (0:Int) (List.length a0:Int) (List.replicate (Int.toNat (8:Int)) false) (List.replicate (Int.toNat (8:Int)) false)) fun t3=> .call (cc.told a1 a2 a3 t3.2 t3.1) fun t4=> .call (cd.told t4.1) fun t5=> .ret t5))
   (.call (cd.told (List.replicate (Int.toNat (8:Int)) false)) fun t3=> .ret t3))
  (.call (cd.told (List.replicate (Int.toNat (8:Int)) false)) fun t2=> .ret t2))
def tree:X→Tr X A:=fun _=> .fail
def f (a0:List aB) (a1 a2 a3:Int):Option A:=(begin a0 a1 a2 a3).run (lp tree)
def Q:bA C:={PL with cb:=[],ca:=[],bV:=[]}
theorem e:aW Pg C Q Tryz.f229 0 id st v o tree:=fun J K x=>by cases x
theorem b (a0:List aB) (a1 a2 a3:Int):aX Pg C Q Tryz.f229 0 id st v o (S a0 a1 a2 a3) (begin a0 a1 a2 a3):=fun J K=>by kernel_rfl
def told (a0:List aB) (a1 a2 a3:Int):aa.Told A:=⟨f a0 a1 a2 a3,fun r=>al Pg C 229 (S a0 a1 a2 a3) 0 (v r) (o r),fun r h=>ah G mixed Q Tryz.func229 rfl (of_decide_eq_true (by kernel_rfl)) (by rfl) id st v o (fun _=>rfl) tree e (begin a0 a1 a2 a3) (b a0 a1 a2 a3) h⟩
end dz
namespace cr
def S (a0:List Int) (a1:Int):List (PV U):=aa.start C 18 [.sl 3 a0,.int .i64 a1] []
inductive X where
 | c2 (x0:List Int) (x1 x2:Int)
def id:X→Nat
 | .c2 .. =>2
def st:X→List (PV U)
 | .c2 x0 x1 x2=>iC 18 [(0,.sl 3 x0),(1,.int .i64 x1),(5,.int .i64 x2)]
def begin (a0:List Int) (a1:Int):Tr X A:=
 .jump (.c2 a0 a1 (0:Int))
def tree:X→Tr X A
 | .c2 x0 x1 x2=>
 .ite (decide (x2<(List.length x0:Int)))
  (.bH ((0:Int)≤x2∧x2<(List.length x0:Int)) (.ite (decide ((dh x0 x2)=x1))
   (.ret true)
   (.jump (.c2 x0 x1 (wr (x2+(1:Int)))))))
  (.ret false)
def f (a0:List Int) (a1:Int):Option A:=(begin a0 a1).run (lp tree)
def Q:bA C:={PL with cb:=[(2,[0,1,5])],ca:=[],bV:=[]}
theorem e:aW Pg C Q Tryz.f230 0 id st v o tree:=fun J K x=>by cases x<;>kernel_rfl
theorem b (a0:List Int) (a1:Int):aX Pg C Q Tryz.f230 0 id st v o (S a0 a1) (begin a0 a1):=fun J K=>by kernel_rfl
def told (a0:List Int) (a1:Int):aa.Told A:=⟨f a0 a1,fun r=>al Pg C 230 (S a0 a1) 0 (v r) (o r),fun r h=>ah G mixed Q Tryz.func230 rfl (of_decide_eq_true (by kernel_rfl)) (by rfl) id st v o (fun _=>rfl) tree e (begin a0 a1) (b a0 a1) h⟩
end cr
end
end Go.Proofs.YtmapddgocpkgeaaGreat.Ev
