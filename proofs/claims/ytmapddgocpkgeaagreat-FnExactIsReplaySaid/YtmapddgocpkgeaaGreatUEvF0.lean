/- Functions as trees, with their contracts. No conditions. -/
import Derived.Test.YtmapddgocpkgeaaGreatUEvH
namespace Go.Proofs.YtmapddgocpkgeaaGreat.Ev
open Go.Proofs.YtmapddgocpkgeaaGreat.aa Go.RowKit
set_option linter.unusedVariables false
set_option maxRecDepth 100000
noncomputable section
namespace gM
def S (a0:List ke) (a1:Int):List (PV U):=aa.start C 12 [.sl 249 a0,.int .i64 a1] []
abbrev X:=Empty
def id:X→Nat:=fun _=>0
def st:X→List (PV U):=fun _=>[]
def begin (a0:List ke) (a1:Int):Tr X A:=
 .ite (decide ((wr (a1-(List.length a0:Int)))<(0:Int)))
  (.ret ((-1:Int)))
  (.ret ((wr (a1-(List.length a0:Int)))))
def tree:X→Tr X A:=fun _=> .fail
def f (a0:List ke) (a1:Int):Option A:=(begin a0 a1).run (lp tree)
def Q:bA C:={PL with cb:=[],ca:=[],bV:=[]}
theorem e:aW Pg C Q Tryz.f191 0 id st v o tree:=fun J K x=>by cases x
theorem b (a0:List ke) (a1:Int):aX Pg C Q Tryz.f191 0 id st v o (S a0 a1) (begin a0 a1):=fun J K=>by kernel_rfl
def told (a0:List ke) (a1:Int):aa.Told A:=⟨f a0 a1,fun r=>al Pg C 191 (S a0 a1) 0 (v r) (o r),fun r h=>ah G mixed Q Tryz.func191 rfl (of_decide_eq_true (by kernel_rfl)) (by rfl) id st v o (fun _=>rfl) tree e (begin a0 a1) (b a0 a1) h⟩
end gM
namespace ij
def S (a0:List ke) (a1 a2 a3 a4:Int):List (PV U):=aa.start C 12 [.agg [.sl 249 a0,.int .i64 a1,.int .i64 a2,.int .i64 a3],.int .i64 a4] []
abbrev X:=Empty
def id:X→Nat:=fun _=>0
def st:X→List (PV U):=fun _=>[]
def begin (a0:List ke) (a1 a2 a3 a4:Int):Tr X A:=
 .call (gM.told a0 a4) fun t1=> .ite (decide (t1<(0:Int)))
  (.ret ((-1:Int)))
  (.ret t1)
def tree:X→Tr X A:=fun _=> .fail
def f (a0:List ke) (a1 a2 a3 a4:Int):Option A:=(begin a0 a1 a2 a3 a4).run (lp tree)
def Q:bA C:={PL with cb:=[],ca:=[],bV:=[]}
theorem e:aW Pg C Q Tryz.f153 0 id st v o tree:=fun J K x=>by cases x
theorem b (a0:List ke) (a1 a2 a3 a4:Int):aX Pg C Q Tryz.f153 0 id st v o (S a0 a1 a2 a3 a4) (begin a0 a1 a2 a3 a4):=fun J K=>by kernel_rfl
def told (a0:List ke) (a1 a2 a3 a4:Int):aa.Told A:=⟨f a0 a1 a2 a3 a4,fun r=>al Pg C 153 (S a0 a1 a2 a3 a4) 0 (v r) (o r),fun r h=>ah G mixed Q Tryz.func153 rfl (of_decide_eq_true (by kernel_rfl)) (by rfl) id st v o (fun _=>rfl) tree e (begin a0 a1 a2 a3 a4) (b a0 a1 a2 a3 a4) h⟩
end ij
namespace dg
def S (a0:List gd) (a1:Int):List (PV U):=aa.start C 27 [.sl 191 a0,.int .i64 a1] []
inductive X where
 | c5 (x0:List gd) (x1 x2:Int)
def id:X→Nat
 | .c5 .. =>5
def st:X→List (PV U)
 | .c5 x0 x1 x2=>iC 27 [(0,.sl 191 x0),(1,.int .i64 x1),(5,.int .i64 x2)]
def begin (a0:List gd) (a1:Int):Tr X A:=
 .ite (decide ((wr (a1-(List.length a0:Int)))<(0:Int)))
  (.ret ((-1:Int)))
  (.jump (.c5 a0 (wr (a1-(List.length a0:Int))) (0:Int)))
def tree:X→Tr X A
 | .c5 x0 x1 x2=>
 .ite (decide (x2<(List.length x0:Int)))
  (.bH ((0:Int)≤x2∧x2<(List.length x0:Int)) (.call (ij.told ((vx x0 x2).f0) ((vx x0 x2).f1.f0) ((vx x0 x2).f1.f1) ((vx x0 x2).f1.f2) x1) fun t1=> .ite (decide (t1<(0:Int)))
   (.ret ((-1:Int)))
   (.jump (.c5 x0 t1 (wr (x2+(1:Int)))))))
  (.ret x1)
def f (a0:List gd) (a1:Int):Option A:=(begin a0 a1).run (lp tree)
def Q:bA C:={PL with cb:=[(5,[0,1,5])],ca:=[],bV:=[]}
theorem e:aW Pg C Q Tryz.f109 0 id st v o tree:=fun J K x=>by cases x<;>kernel_rfl
theorem b (a0:List gd) (a1:Int):aX Pg C Q Tryz.f109 0 id st v o (S a0 a1) (begin a0 a1):=fun J K=>by kernel_rfl
def told (a0:List gd) (a1:Int):aa.Told A:=⟨f a0 a1,fun r=>al Pg C 109 (S a0 a1) 0 (v r) (o r),fun r h=>ah G mixed Q Tryz.func109 rfl (of_decide_eq_true (by kernel_rfl)) (by rfl) id st v o (fun _=>rfl) tree e (begin a0 a1) (b a0 a1) h⟩
end dg
namespace fk
def S (a0:List gd) (a1:Int):List (PV U):=aa.start C 12 [.agg [.sl 191 a0],.int .i64 a1] []
abbrev X:=Empty
def id:X→Nat:=fun _=>0
def st:X→List (PV U):=fun _=>[]
def begin (a0:List gd) (a1:Int):Tr X A:=
 .call (dg.told a0 a1) fun t1=> .ite (decide (t1<(0:Int)))
  (.ret ((-1:Int)))
  (.ret t1)
def tree:X→Tr X A:=fun _=> .fail
def f (a0:List gd) (a1:Int):Option A:=(begin a0 a1).run (lp tree)
def Q:bA C:={PL with cb:=[],ca:=[],bV:=[]}
theorem e:aW Pg C Q Tryz.f56 0 id st v o tree:=fun J K x=>by cases x
theorem b (a0:List gd) (a1:Int):aX Pg C Q Tryz.f56 0 id st v o (S a0 a1) (begin a0 a1):=fun J K=>by kernel_rfl
def told (a0:List gd) (a1:Int):aa.Told A:=⟨f a0 a1,fun r=>al Pg C 56 (S a0 a1) 0 (v r) (o r),fun r h=>ah G mixed Q Tryz.func56 rfl (of_decide_eq_true (by kernel_rfl)) (by rfl) id st v o (fun _=>rfl) tree e (begin a0 a1) (b a0 a1) h⟩
end fk
namespace fZ
def S (a0:List Int) (a1:Int):List (PV U):=aa.start C 12 [.sl 3 a0,.int .i64 a1] []
abbrev X:=Empty
def id:X→Nat:=fun _=>0
def st:X→List (PV U):=fun _=>[]
def begin (a0:List Int) (a1:Int):Tr X A:=
 .ite (decide ((wr (a1-(List.length a0:Int)))<(0:Int)))
  (.ret ((-1:Int)))
  (.ret ((wr (a1-(List.length a0:Int)))))
def tree:X→Tr X A:=fun _=> .fail
def f (a0:List Int) (a1:Int):Option A:=(begin a0 a1).run (lp tree)
def Q:bA C:={PL with cb:=[],ca:=[],bV:=[]}
theorem e:aW Pg C Q Tryz.f57 0 id st v o tree:=fun J K x=>by cases x
theorem b (a0:List Int) (a1:Int):aX Pg C Q Tryz.f57 0 id st v o (S a0 a1) (begin a0 a1):=fun J K=>by kernel_rfl
def told (a0:List Int) (a1:Int):aa.Told A:=⟨f a0 a1,fun r=>al Pg C 57 (S a0 a1) 0 (v r) (o r),fun r h=>ah G mixed Q Tryz.func57 rfl (of_decide_eq_true (by kernel_rfl)) (by rfl) id st v o (fun _=>rfl) tree e (begin a0 a1) (b a0 a1) h⟩
end fZ
namespace gn
def S (a0:List Int) (a1:Int):List (PV U):=aa.start C 12 [.agg [.sl 3 a0],.int .i64 a1] []
abbrev X:=Empty
def id:X→Nat:=fun _=>0
def st:X→List (PV U):=fun _=>[]
def begin (a0:List Int) (a1:Int):Tr X A:=
 .call (fZ.told a0 a1) fun t1=> .ite (decide (t1<(0:Int)))
  (.ret ((-1:Int)))
  (.ret t1)
def tree:X→Tr X A:=fun _=> .fail
def f (a0:List Int) (a1:Int):Option A:=(begin a0 a1).run (lp tree)
def Q:bA C:={PL with cb:=[],ca:=[],bV:=[]}
theorem e:aW Pg C Q Tryz.f110 0 id st v o tree:=fun J K x=>by cases x
theorem b (a0:List Int) (a1:Int):aX Pg C Q Tryz.f110 0 id st v o (S a0 a1) (begin a0 a1):=fun J K=>by kernel_rfl
def told (a0:List Int) (a1:Int):aa.Told A:=⟨f a0 a1,fun r=>al Pg C 110 (S a0 a1) 0 (v r) (o r),fun r h=>ah G mixed Q Tryz.func110 rfl (of_decide_eq_true (by kernel_rfl)) (by rfl) id st v o (fun _=>rfl) tree e (begin a0 a1) (b a0 a1) h⟩
end gn
namespace iu
def S (a0:Int) (a1:List Int) (a2:Int):List (PV U):=aa.start C 12 [.agg [.int .i64 a0,.sl 3 a1],.int .i64 a2] []
abbrev X:=Empty
def id:X→Nat:=fun _=>0
def st:X→List (PV U):=fun _=>[]
def begin (a0:Int) (a1:List Int) (a2:Int):Tr X A:=
 .call (gn.told a1 a2) fun t1=> .ite (decide (t1<(0:Int)))
  (.ret ((-1:Int)))
  (.ret t1)
def tree:X→Tr X A:=fun _=> .fail
def f (a0:Int) (a1:List Int) (a2:Int):Option A:=(begin a0 a1 a2).run (lp tree)
def Q:bA C:={PL with cb:=[],ca:=[],bV:=[]}
theorem e:aW Pg C Q Tryz.f58 0 id st v o tree:=fun J K x=>by cases x
theorem b (a0:Int) (a1:List Int) (a2:Int):aX Pg C Q Tryz.f58 0 id st v o (S a0 a1 a2) (begin a0 a1 a2):=fun J K=>by kernel_rfl
def told (a0:Int) (a1:List Int) (a2:Int):aa.Told A:=⟨f a0 a1 a2,fun r=>al Pg C 58 (S a0 a1 a2) 0 (v r) (o r),fun r h=>ah G mixed Q Tryz.func58 rfl (of_decide_eq_true (by kernel_rfl)) (by rfl) id st v o (fun _=>rfl) tree e (begin a0 a1 a2) (b a0 a1 a2) h⟩
end iu
namespace gW
def S (a0:List gd) (a1 a2:List Int) (a3 a4 a5 a6 a7 a8 a9 a10:Int) (a11:List Int) (a12 a13:Int):List (PV U):=aa.start C 30 [.agg [.sl 191 a0,.sl 3 a1,.sl 3 a2,.int .i64 a3,.int .i64 a4,.int .i64 a5,.int .i64 a6,.int .i64 a7,.int .i64 a8,.int .i64 a9,.int .i64 a10,.sl 3 a11,.int .i64 a12],.int .i64 a13] []
abbrev X:=Empty
def id:X→Nat:=fun _=>0
def st:X→List (PV U):=fun _=>[]
def begin (a0:List gd) (a1 a2:List Int) (a3 a4 a5 a6 a7 a8 a9 a10:Int) (a11:List Int) (a12 a13:Int):Tr X A:=
 .call (fk.told a0 a13) fun t1=> .ite (decide (t1<(0:Int)))
  (.ret ((-1:Int)))
  (.call (fZ.told a1 t1) fun t2=> .ite (decide (t2<(0:Int)))
   (.ret ((-1:Int)))
   (.call (fZ.told a2 t2) fun t3=> .ite (decide (t3<(0:Int)))
    (.ret ((-1:Int)))
    (.call (iu.told a10 a11 t3) fun t4=> .ite (decide (t4<(0:Int)))
     (.ret ((-1:Int)))
     (.ret t4))))
def tree:X→Tr X A:=fun _=> .fail
def f (a0:List gd) (a1 a2:List Int) (a3 a4 a5 a6 a7 a8 a9 a10:Int) (a11:List Int) (a12 a13:Int):Option A:=(begin a0 a1 a2 a3 a4 a5 a6 a7 a8 a9 a10 a11 a12 a13).run (lp tree)
def Q:bA C:={PL with cb:=[],ca:=[],bV:=[]}
theorem e:aW Pg C Q Tryz.f17 0 id st v o tree:=fun J K x=>by cases x
theorem b (a0:List gd) (a1 a2:List Int) (a3 a4 a5 a6 a7 a8 a9 a10:Int) (a11:List Int) (a12 a13:Int):aX Pg C Q Tryz.f17 0 id st v o (S a0 a1 a2 a3 a4 a5 a6 a7 a8 a9 a10 a11 a12 a13) (begin a0 a1 a2 a3 a4 a5 a6 a7 a8 a9 a10 a11 a12 a13):=fun J K=>by kernel_rfl
def told (a0:List gd) (a1 a2:List Int) (a3 a4 a5 a6 a7 a8 a9 a10:Int) (a11:List Int) (a12 a13:Int):aa.Told A:=⟨f a0 a1 a2 a3 a4 a5 a6 a7 a8 a9 a10 a11 a12 a13,fun r=>al Pg C 17 (S a0 a1 a2 a3 a4 a5 a6 a7 a8 a9 a10 a11 a12 a13) 0 (v r) (o r),fun r h=>ah G mixed Q Tryz.func17 rfl (of_decide_eq_true (by kernel_rfl)) (by rfl) id st v o (fun _=>rfl) tree e (begin a0 a1 a2 a3 a4 a5 a6 a7 a8 a9 a10 a11 a12 a13) (b a0 a1 a2 a3 a4 a5 a6 a7 a8 a9 a10 a11 a12 a13) h⟩
end gW
namespace jf
def S (a0 a1 a2:Int):List (PV U):=aa.start C 14 [.agg [.int .i64 a0,.int .i64 a1,.int .i64 a2]] []
abbrev X:=Empty
def id:X→Nat:=fun _=>0
def st:X→List (PV U):=fun _=>[]
def begin (a0 a1 a2:Int):Tr X A:=
 .ret (a0,a1,a2)
def tree:X→Tr X A:=fun _=> .fail
def f (a0 a1 a2:Int):Option A:=(begin a0 a1 a2).run (lp tree)
def Q:bA C:={PL with cb:=[],ca:=[],bV:=[]}
theorem e:aW Pg C Q Tryz.f200 0 id st v o tree:=fun J K x=>by cases x
theorem b (a0 a1 a2:Int):aX Pg C Q Tryz.f200 0 id st v o (S a0 a1 a2) (begin a0 a1 a2):=fun J K=>by kernel_rfl
def told (a0 a1 a2:Int):aa.Told A:=⟨f a0 a1 a2,fun r=>al Pg C 200 (S a0 a1 a2) 0 (v r) (o r),fun r h=>ah G mixed Q Tryz.func200 rfl (of_decide_eq_true (by kernel_rfl)) (by rfl) id st v o (fun _=>rfl) tree e (begin a0 a1 a2) (b a0 a1 a2) h⟩
end jf
namespace js
def S (a0 a1 a2 a3 a4 a5:Int):List (PV U):=aa.start C 18 [.agg [.int .i64 a0,.int .i64 a1,.int .i64 a2,.int .i64 a3,.int .i64 a4,.int .i64 a5]] []
abbrev X:=Empty
def id:X→Nat:=fun _=>0
def st:X→List (PV U):=fun _=>[]
def begin (a0 a1 a2 a3 a4 a5:Int):Tr X A:=
 .call (jf.told a3 a4 a5) fun t1=> .ret (a0,a1,a2,t1.1,t1.2.1,t1.2.2)
def tree:X→Tr X A:=fun _=> .fail
def f (a0 a1 a2 a3 a4 a5:Int):Option A:=(begin a0 a1 a2 a3 a4 a5).run (lp tree)
def Q:bA C:={PL with cb:=[],ca:=[],bV:=[]}
theorem e:aW Pg C Q Tryz.f236 0 id st v o tree:=fun J K x=>by cases x
theorem b (a0 a1 a2 a3 a4 a5:Int):aX Pg C Q Tryz.f236 0 id st v o (S a0 a1 a2 a3 a4 a5) (begin a0 a1 a2 a3 a4 a5):=fun J K=>by kernel_rfl
def told (a0 a1 a2 a3 a4 a5:Int):aa.Told A:=⟨f a0 a1 a2 a3 a4 a5,fun r=>al Pg C 236 (S a0 a1 a2 a3 a4 a5) 0 (v r) (o r),fun r h=>ah G mixed Q Tryz.func236 rfl (of_decide_eq_true (by kernel_rfl)) (by rfl) id st v o (fun _=>rfl) tree e (begin a0 a1 a2 a3 a4 a5) (b a0 a1 a2 a3 a4 a5) h⟩
end js
namespace dU
def S (a0:List ke):List (PV U):=aa.start C 23 [.sl 249 a0] []
inductive X where
 | c3 (x0:List ke) (x1:List aB) (x2:Int)
def id:X→Nat
 | .c3 .. =>3
def st:X→List (PV U)
 | .c3 x0 x1 x2=>iC 23 [(0,.sl 249 x0),(3,.own true 204 x1),(4,.int .i64 x2)]
def begin (a0:List ke):Tr X A:=
 .bH ((0:Int)≤(List.length a0:Int)∧(List.length a0:Int)≤(List.length a0:Int)∧(List.length a0:Int)*(48:Nat)≤room) (.jump (.c3 a0 (List.replicate (Int.toNat (List.length a0:Int)) Ak) (0:Int)))
def tree:X→Tr X A
 | .c3 x0 x1 x2=>
 .ite (decide (x2<(List.length x0:Int)))
  (.bH ((0:Int)≤x2∧x2<(List.length x0:Int)) (.call (js.told ((xF x0 x2).f0) ((xF x0 x2).f1) ((xF x0 x2).f2) ((xF x0 x2).f3.f0) ((xF x0 x2).f3.f1) ((xF x0 x2).f3.f2)) fun t1=> .bH ((0:Int)≤x2∧x2<(List.length x1:Int)) (.val ((List.set x1 (Int.toNat x2) (⟨t1.1,t1.2.1,t1.2.2.1,(⟨t1.2.2.2.1,t1.2.2.2.2.1,t1.2.2.2.2.2⟩:kP)⟩:aB)):List aB) fun v2=> .jump (.c3 x0 v2 (wr (x2+(1:Int)))))))
  (.ret x1)
def f (a0:List ke):Option A:=(begin a0).run (lp tree)
def Q:bA C:={PL with cb:=[(3,[0,3,4])],ca:=[],bV:=[]}
theorem e:aW Pg C Q Tryz.f199 0 id st v o tree:=fun J K x=>by cases x<;>kernel_rfl
theorem b (a0:List ke):aX Pg C Q Tryz.f199 0 id st v o (S a0) (begin a0):=fun J K=>by kernel_rfl
def told (a0:List ke):aa.Told A:=⟨f a0,fun r=>al Pg C 199 (S a0) 0 (v r) (o r),fun r h=>ah G mixed Q Tryz.func199 rfl (of_decide_eq_true (by kernel_rfl)) (by rfl) id st v o (fun _=>rfl) tree e (begin a0) (b a0) h⟩
end dU
namespace ig
def S (a0:List ke) (a1 a2 a3:Int):List (PV U):=aa.start C 13 [.agg [.sl 249 a0,.int .i64 a1,.int .i64 a2,.int .i64 a3]] []
abbrev X:=Empty
def id:X→Nat:=fun _=>0
def st:X→List (PV U):=fun _=>[]
def begin (a0:List ke) (a1 a2 a3:Int):Tr X A:=
 .call (dU.told a0) fun t1=> .call (jf.told a1 a2 a3) fun t2=> .ret (t1,t2.1,t2.2.1,t2.2.2)
def tree:X→Tr X A:=fun _=> .fail
def f (a0:List ke) (a1 a2 a3:Int):Option A:=(begin a0 a1 a2 a3).run (lp tree)
def Q:bA C:={PL with cb:=[],ca:=[],bV:=[]}
theorem e:aW Pg C Q Tryz.f163 0 id st v o tree:=fun J K x=>by cases x
theorem b (a0:List ke) (a1 a2 a3:Int):aX Pg C Q Tryz.f163 0 id st v o (S a0 a1 a2 a3) (begin a0 a1 a2 a3):=fun J K=>by kernel_rfl
def told (a0:List ke) (a1 a2 a3:Int):aa.Told A:=⟨f a0 a1 a2 a3,fun r=>al Pg C 163 (S a0 a1 a2 a3) 0 (v r) (o r),fun r h=>ah G mixed Q Tryz.func163 rfl (of_decide_eq_true (by kernel_rfl)) (by rfl) id st v o (fun _=>rfl) tree e (begin a0 a1 a2 a3) (b a0 a1 a2 a3) h⟩
end ig
namespace dX
def S (a0:List gd):List (PV U):=aa.start C 23 [.sl 191 a0] []
inductive X where
 | c3 (x0:List gd) (x1:List aC) (x2:Int)
def id:X→Nat
 | .c3 .. =>3
def st:X→List (PV U)
 | .c3 x0 x1 x2=>iC 23 [(0,.sl 191 x0),(3,.own true 164 x1),(4,.int .i64 x2)]
def begin (a0:List gd):Tr X A:=
 .bH ((0:Int)≤(List.length a0:Int)∧(List.length a0:Int)≤(List.length a0:Int)∧(List.length a0:Int)*(48:Nat)≤room) (.jump (.c3 a0 (List.replicate (Int.toNat (List.length a0:Int)) An) (0:Int)))
def tree:X→Tr X A
 | .c3 x0 x1 x2=>
 .ite (decide (x2<(List.length x0:Int)))
  (.bH ((0:Int)≤x2∧x2<(List.length x0:Int)) (.call (ig.told ((vx x0 x2).f0) ((vx x0 x2).f1.f0) ((vx x0 x2).f1.f1) ((vx x0 x2).f1.f2)) fun t1=> .bH ((0:Int)≤x2∧x2<(List.length x1:Int)) (.jump (.c3 x0 (List.set x1 (Int.toNat x2) (⟨t1.1,(⟨t1.2.1,t1.2.2.1,t1.2.2.2⟩:kP)⟩:aC)) (wr (x2+(1:Int)))))))
  (.ret x1)
def f (a0:List gd):Option A:=(begin a0).run (lp tree)
def Q:bA C:={PL with cb:=[(3,[0,3,4])],ca:=[],bV:=[]}
theorem e:aW Pg C Q Tryz.f121 0 id st v o tree:=fun J K x=>by cases x<;>kernel_rfl
theorem b (a0:List gd):aX Pg C Q Tryz.f121 0 id st v o (S a0) (begin a0):=fun J K=>by kernel_rfl
def told (a0:List gd):aa.Told A:=⟨f a0,fun r=>al Pg C 121 (S a0) 0 (v r) (o r),fun r h=>ah G mixed Q Tryz.func121 rfl (of_decide_eq_true (by kernel_rfl)) (by rfl) id st v o (fun _=>rfl) tree e (begin a0) (b a0) h⟩
end dX
namespace fw
def S (a0:List gd):List (PV U):=aa.start C 9 [.agg [.sl 191 a0]] []
abbrev X:=Empty
def id:X→Nat:=fun _=>0
def st:X→List (PV U):=fun _=>[]
def begin (a0:List gd):Tr X A:=
 .call (dX.told a0) fun t1=> .ret t1
def tree:X→Tr X A:=fun _=> .fail
def f (a0:List gd):Option A:=(begin a0).run (lp tree)
def Q:bA C:={PL with cb:=[],ca:=[],bV:=[]}
theorem e:aW Pg C Q Tryz.f63 0 id st v o tree:=fun J K x=>by cases x
theorem b (a0:List gd):aX Pg C Q Tryz.f63 0 id st v o (S a0) (begin a0):=fun J K=>by kernel_rfl
def told (a0:List gd):aa.Told A:=⟨f a0,fun r=>al Pg C 63 (S a0) 0 (v r) (o r),fun r h=>ah G mixed Q Tryz.func63 rfl (of_decide_eq_true (by kernel_rfl)) (by rfl) id st v o (fun _=>rfl) tree e (begin a0) (b a0) h⟩
end fw
namespace dA
def S (a0:List Int):List (PV U):=aa.start C 22 [.sl 3 a0] []
inductive X where
 | c3 (x0 x1:List Int) (x2:Int)
def id:X→Nat
 | .c3 .. =>3
def st:X→List (PV U)
 | .c3 x0 x1 x2=>iC 22 [(0,.sl 3 x0),(3,.own true 3 x1),(4,.int .i64 x2)]
def begin (a0:List Int):Tr X A:=
 .bH ((0:Int)≤(List.length a0:Int)∧(List.length a0:Int)≤(List.length a0:Int)∧(List.length a0:Int)*(8:Nat)≤room) (.jump (.c3 a0 (List.replicate (Int.toNat (List.length a0:Int)) (0:Int)) (0:Int)))
def tree:X→Tr X A
 | .c3 x0 x1 x2=>
 .ite (decide (x2<(List.length x0:Int)))
  (.bH ((0:Int)≤x2∧x2<(List.length x0:Int)) (.bH ((0:Int)≤x2∧x2<(List.length x1:Int)) (.jump (.c3 x0 (List.set x1 (Int.toNat x2) (dh x0 x2)) (wr (x2+(1:Int)))))))
  (.ret x1)
def f (a0:List Int):Option A:=(begin a0).run (lp tree)
def Q:bA C:={PL with cb:=[(3,[0,3,4])],ca:=[],bV:=[]}
theorem e:aW Pg C Q Tryz.f36 0 id st v o tree:=fun J K x=>by cases x<;>kernel_rfl
theorem b (a0:List Int):aX Pg C Q Tryz.f36 0 id st v o (S a0) (begin a0):=fun J K=>by kernel_rfl
def told (a0:List Int):aa.Told A:=⟨f a0,fun r=>al Pg C 36 (S a0) 0 (v r) (o r),fun r h=>ah G mixed Q Tryz.func36 rfl (of_decide_eq_true (by kernel_rfl)) (by rfl) id st v o (fun _=>rfl) tree e (begin a0) (b a0) h⟩
end dA
namespace iZ
def S (a0 a1 a2 a3:Int):List (PV U):=aa.start C 17 [.agg [.int .i64 a0,.int .i64 a1,.int .i64 a2,.int .i64 a3]] []
abbrev X:=Empty
def id:X→Nat:=fun _=>0
def st:X→List (PV U):=fun _=>[]
def begin (a0 a1 a2 a3:Int):Tr X A:=
 .ret (a0,a1,a2,a3)
def tree:X→Tr X A:=fun _=> .fail
def f (a0 a1 a2 a3:Int):Option A:=(begin a0 a1 a2 a3).run (lp tree)
def Q:bA C:={PL with cb:=[],ca:=[],bV:=[]}
theorem e:aW Pg C Q Tryz.f64 0 id st v o tree:=fun J K x=>by cases x
theorem b (a0 a1 a2 a3:Int):aX Pg C Q Tryz.f64 0 id st v o (S a0 a1 a2 a3) (begin a0 a1 a2 a3):=fun J K=>by kernel_rfl
def told (a0 a1 a2 a3:Int):aa.Told A:=⟨f a0 a1 a2 a3,fun r=>al Pg C 64 (S a0 a1 a2 a3) 0 (v r) (o r),fun r h=>ah G mixed Q Tryz.func64 rfl (of_decide_eq_true (by kernel_rfl)) (by rfl) id st v o (fun _=>rfl) tree e (begin a0 a1 a2 a3) (b a0 a1 a2 a3) h⟩
end iZ
namespace iN
def S (a0 a1:Int):List (PV U):=aa.start C 11 [.agg [.int .i64 a0,.int .i64 a1]] []
abbrev X:=Empty
def id:X→Nat:=fun _=>0
def st:X→List (PV U):=fun _=>[]
def begin (a0 a1:Int):Tr X A:=
 .ret (a0,a1)
def tree:X→Tr X A:=fun _=> .fail
def f (a0 a1:Int):Option A:=(begin a0 a1).run (lp tree)
def Q:bA C:={PL with cb:=[],ca:=[],bV:=[]}
theorem e:aW Pg C Q Tryz.f65 0 id st v o tree:=fun J K x=>by cases x
theorem b (a0 a1:Int):aX Pg C Q Tryz.f65 0 id st v o (S a0 a1) (begin a0 a1):=fun J K=>by kernel_rfl
def told (a0 a1:Int):aa.Told A:=⟨f a0 a1,fun r=>al Pg C 65 (S a0 a1) 0 (v r) (o r),fun r h=>ah G mixed Q Tryz.func65 rfl (of_decide_eq_true (by kernel_rfl)) (by rfl) id st v o (fun _=>rfl) tree e (begin a0 a1) (b a0 a1) h⟩
end iN
namespace gm
def S (a0:List Int):List (PV U):=aa.start C 9 [.agg [.sl 3 a0]] []
abbrev X:=Empty
def id:X→Nat:=fun _=>0
def st:X→List (PV U):=fun _=>[]
def begin (a0:List Int):Tr X A:=
 .call (dA.told a0) fun t1=> .ret t1
def tree:X→Tr X A:=fun _=> .fail
def f (a0:List Int):Option A:=(begin a0).run (lp tree)
def Q:bA C:={PL with cb:=[],ca:=[],bV:=[]}
theorem e:aW Pg C Q Tryz.f122 0 id st v o tree:=fun J K x=>by cases x
theorem b (a0:List Int):aX Pg C Q Tryz.f122 0 id st v o (S a0) (begin a0):=fun J K=>by kernel_rfl
def told (a0:List Int):aa.Told A:=⟨f a0,fun r=>al Pg C 122 (S a0) 0 (v r) (o r),fun r h=>ah G mixed Q Tryz.func122 rfl (of_decide_eq_true (by kernel_rfl)) (by rfl) id st v o (fun _=>rfl) tree e (begin a0) (b a0) h⟩
end gm
namespace iO
def S (a0:Int) (a1:List Int):List (PV U):=aa.start C 12 [.agg [.int .i64 a0,.sl 3 a1]] []
abbrev X:=Empty
def id:X→Nat:=fun _=>0
def st:X→List (PV U):=fun _=>[]
def begin (a0:Int) (a1:List Int):Tr X A:=
 .call (gm.told a1) fun t1=> .ret (a0,t1)
def tree:X→Tr X A:=fun _=> .fail
def f (a0:Int) (a1:List Int):Option A:=(begin a0 a1).run (lp tree)
def Q:bA C:={PL with cb:=[],ca:=[],bV:=[]}
theorem e:aW Pg C Q Tryz.f66 0 id st v o tree:=fun J K x=>by cases x
theorem b (a0:Int) (a1:List Int):aX Pg C Q Tryz.f66 0 id st v o (S a0 a1) (begin a0 a1):=fun J K=>by kernel_rfl
def told (a0:Int) (a1:List Int):aa.Told A:=⟨f a0 a1,fun r=>al Pg C 66 (S a0 a1) 0 (v r) (o r),fun r h=>ah G mixed Q Tryz.func66 rfl (of_decide_eq_true (by kernel_rfl)) (by rfl) id st v o (fun _=>rfl) tree e (begin a0 a1) (b a0 a1) h⟩
end iO
namespace dw
def S (a0:List gd) (a1 a2:List Int) (a3 a4 a5 a6 a7 a8 a9 a10:Int) (a11:List Int) (a12:Int):List (PV U):=aa.start C 35 [.agg [.sl 191 a0,.sl 3 a1,.sl 3 a2,.int .i64 a3,.int .i64 a4,.int .i64 a5,.int .i64 a6,.int .i64 a7,.int .i64 a8,.int .i64 a9,.int .i64 a10,.sl 3 a11,.int .i64 a12]] []
abbrev X:=Empty
def id:X→Nat:=fun _=>0
def st:X→List (PV U):=fun _=>[]
def begin (a0:List gd) (a1 a2:List Int) (a3 a4 a5 a6 a7 a8 a9 a10:Int) (a11:List Int) (a12:Int):Tr X A:=
 .call (fw.told a0) fun t1=> .call (dA.told a1) fun t2=> .call (dA.told a2) fun t3=> .call (iZ.told a4 a5 a6 a7) fun t4=> .call (iN.told a8 a9) fun t5=> .call (iO.told a10 a11) fun t6=> .ret (t1,t2,t3,a3,t4.1,t4.2.1,t4.2.2.1,t4.2.2.2,t5.1,t5.2,t6.1,t6.2,a12)
def tree:X→Tr X A:=fun _=> .fail
def f (a0:List gd) (a1 a2:List Int) (a3 a4 a5 a6 a7 a8 a9 a10:Int) (a11:List Int) (a12:Int):Option A:=(begin a0 a1 a2 a3 a4 a5 a6 a7 a8 a9 a10 a11 a12).run (lp tree)
def Q:bA C:={PL with cb:=[],ca:=[],bV:=[]}
theorem e:aW Pg C Q Tryz.f19 0 id st v o tree:=fun J K x=>by cases x
theorem b (a0:List gd) (a1 a2:List Int) (a3 a4 a5 a6 a7 a8 a9 a10:Int) (a11:List Int) (a12:Int):aX Pg C Q Tryz.f19 0 id st v o (S a0 a1 a2 a3 a4 a5 a6 a7 a8 a9 a10 a11 a12) (begin a0 a1 a2 a3 a4 a5 a6 a7 a8 a9 a10 a11 a12):=fun J K=>by kernel_rfl
def told (a0:List gd) (a1 a2:List Int) (a3 a4 a5 a6 a7 a8 a9 a10:Int) (a11:List Int) (a12:Int):aa.Told A:=⟨f a0 a1 a2 a3 a4 a5 a6 a7 a8 a9 a10 a11 a12,fun r=>al Pg C 19 (S a0 a1 a2 a3 a4 a5 a6 a7 a8 a9 a10 a11 a12) 0 (v r) (o r),fun r h=>ah G mixed Q Tryz.func19 rfl (of_decide_eq_true (by kernel_rfl)) (by rfl) id st v o (fun _=>rfl) tree e (begin a0 a1 a2 a3 a4 a5 a6 a7 a8 a9 a10 a11 a12) (b a0 a1 a2 a3 a4 a5 a6 a7 a8 a9 a10 a11 a12) h⟩
end dw
namespace gY
def S (a0 a1 a2:Int):List (PV U):=aa.start C 14 [.agg [.int .i64 a0,.int .i64 a1,.int .i64 a2]] []
abbrev X:=Empty
def id:X→Nat:=fun _=>0
def st:X→List (PV U):=fun _=>[]
def begin (a0 a1 a2:Int):Tr X A:=
 .ret (a0,a1,a2)
def tree:X→Tr X A:=fun _=> .fail
def f (a0 a1 a2:Int):Option A:=(begin a0 a1 a2).run (lp tree)
def Q:bA C:={PL with cb:=[],ca:=[],bV:=[]}
theorem e:aW Pg C Q Tryz.f24 0 id st v o tree:=fun J K x=>by cases x
theorem b (a0 a1 a2:Int):aX Pg C Q Tryz.f24 0 id st v o (S a0 a1 a2) (begin a0 a1 a2):=fun J K=>by kernel_rfl
def told (a0 a1 a2:Int):aa.Told A:=⟨f a0 a1 a2,fun r=>al Pg C 24 (S a0 a1 a2) 0 (v r) (o r),fun r h=>ah G mixed Q Tryz.func24 rfl (of_decide_eq_true (by kernel_rfl)) (by rfl) id st v o (fun _=>rfl) tree e (begin a0 a1 a2) (b a0 a1 a2) h⟩
end gY
namespace cJ
def S (a0:List aC):List (PV U):=aa.start C 34 [.agg [.sl 164 a0]] []
inductive X where
 | c3 (x0 x1 x2:List aC) (x3:Int)
 | c4 (x0 x1 x2:List aC) (x3:Int)
def id:X→Nat
 | .c3 .. =>3
 | .c4 .. =>4
def st:X→List (PV U)
 | .c3 x0 x1 x2 x3=>iC 34 [(1,.box [.sl 164 x0]),(2,.box [.own true 164 x1]),(3,.box [.own true 164 x2]),(4,.int .i64 x3)]
 | .c4 x0 x1 x2 x3=>iC 34 [(1,.box [.sl 164 x0]),(2,.box [.own true 164 x1]),(3,.box [.own true 164 x2]),(4,.int .i64 x3)]
def begin (a0:List aC):Tr X A:=
 .jump (.c3 a0 ([]:List aC) ([]:List aC) (0:Int))
def tree:X→Tr X A
 | .c3 x0 x1 x2 x3=>
 let u0_0:Tr X A:=(.last (.val ([(⟨(([]:List aB)++(bG x0 x3).f0),(⟨(bG x0 x3).f1.f0,(bG x0 x3).f1.f1,(bG x0 x3).f1.f2⟩:kP)⟩:aC)]:List aC) fun v1=> .last (.bH (((List.length x2:Int)+(List.length v1:Int))*(48:Nat)≤room) (.last (.jump (.c4 x0 x1 (x2++v1) x3))))));let u0_1:Tr X A:=(.last (u0_0));let u0_2:Tr X A:=(.bH (((List.length ([]:List aB):Int)+(List.length ((bG x0 x3).f0):Int))*(48:Nat)≤room) (u0_1));let u0_3:Tr X A:=(.last (u0_2));let u0_4:Tr X A:=(.last (u0_3));let u0_5:Tr X A:=(.both (u0_2) (u0_4));let u0_6:Tr X A:=(.both (u0_1) (.last (.both (u0_0) (u0_0))));let u0_7:Tr X A:=(.bH (((List.length ([]:List aB):Int)+(List.length ((bG x0 x3).f0):Int))*(48:Nat)≤room) (u0_6));let u0_8:Tr X A:=(.both (u0_5) (.last (u0_4)));let u0_9:Tr X A:=(.both (.bH (((List.length ([]:List aB):Int)+(List.length ((bG x0 x3).f0):Int))*(48:Nat)≤room) (.bH ((0:Int)≤x3∧x3<(List.length x0:Int)) (u0_1))) (.last (.bH ((0:Int)≤x3∧x3<(List.length x0:Int)) (u0_5))));let u0_10:Tr X A:=(.last (.both (u0_3) (.last (u0_7))));let u0_11:Tr X A:=(.both (u0_5) (.both (u0_7) (u0_10))); .ite (decide (x3<(List.length x0:Int)))
  (.bH ((0:Int)≤x3∧x3<(List.length x0:Int)) (.both (.both (u0_9)
    (.last (.bH ((0:Int)≤x3∧x3<(List.length x0:Int)) (u0_8))))
   (.both (.both (u0_9)
     (.both (.bH (((List.length ([]:List aB):Int)+(List.length ((bG x0 x3).f0):Int))*(48:Nat)≤room) (.bH ((0:Int)≤x3∧x3<(List.length x0:Int)) (u0_6)))
      (.last (.bH ((0:Int)≤x3∧x3<(List.length x0:Int)) (u0_11)))))
    (.last (.bH ((0:Int)≤x3∧x3<(List.length x0:Int)) (.both (u0_8)
     (.both (u0_11)
      (.last (.both (u0_4)
       (u0_10))))))))))
  (.ret x2)
 | .c4 x0 x1 x2 x3=>
 .jump (.c3 x0 x1 x2 (wr (x3+(1:Int))))
def f (a0:List aC):Option A:=(begin a0).run (lp tree)
def Q:bA C:={PL with cb:=[(3,[1,2,3,4]),(4,[1,2,3,4])],ca:=[(5,[9,16,17,18,20],(.take 0 [] (.take 3 [] (.take 5 [] (.take 10 [] (.take 12 [] (.take 4 [0,1,2,3,5,10,11,12,13,14,15] (.take 6 [] (.take 7 [] (.take 8 [0,1,2,3,4,5,6,7,10,11,12,13,14,15] (.alt 1 (.alt 2 (.alt 9 (.take 11 [0,1,2,3,4,5,6,7,8,9,10,12] (.take 13 [] (.take 14 [] (.take 15 [0,1,2,3,4,5,6,7,8,9,10,11,12,13,14] (.alt 16 (.alt 17 (.alt 18 (.take 19 [] (.alt 20 .done .nil)) .nil) .nil) .nil))))) (.alt 11 (.take 13 [] (.take 14 [] (.alt 9 (.take 15 [0,1,2,3,4,5,6,7,8,9,10,11,12,13,14] (.alt 16 (.alt 17 (.alt 18 (.take 19 [] (.alt 20 .done .nil)) .nil) .nil) .nil)) (.alt 15 (.alt 9 (.alt 16 (.alt 17 (.alt 18 (.take 19 [] (.alt 20 .done .nil)) .nil) .nil) .nil) .nil) .nil)))) .nil)) (.alt 11 (.take 13 [] (.take 14 [] (.alt 2 (.alt 9 (.take 15 [0,1,2,3,4,5,6,7,8,9,10,11,12,13,14] (.alt 16 (.alt 17 (.alt 18 (.take 19 [] (.alt 20 .done .nil)) .nil) .nil) .nil)) (.alt 15 (.alt 9 (.alt 16 (.alt 17 (.alt 18 (.take 19 [] (.alt 20 .done .nil)) .nil) .nil) .nil) .nil) .nil)) (.alt 15 (.alt 2 (.alt 9 (.alt 16 (.alt 17 (.alt 18 (.take 19 [] (.alt 20 .done .nil)) .nil) .nil) .nil) .nil) .nil) .nil)))) .nil)) (.alt 2 (.alt 1 (.alt 9 (.take 11 [0,1,2,3,4,5,6,7,8,9,10,12] (.take 13 [] (.take 14 [] (.take 15 [0,1,2,3,4,5,6,7,8,9,10,11,12,13,14] (.alt 16 (.alt 17 (.alt 18 (.take 19 [] (.alt 20 .done .nil)) .nil) .nil) .nil))))) (.alt 11 (.take 13 [] (.take 14 [] (.alt 9 (.take 15 [0,1,2,3,4,5,6,7,8,9,10,11,12,13,14] (.alt 16 (.alt 17 (.alt 18 (.take 19 [] (.alt 20 .done .nil)) .nil) .nil) .nil)) (.alt 15 (.alt 9 (.alt 16 (.alt 17 (.alt 18 (.take 19 [] (.alt 20 .done .nil)) .nil) .nil) .nil) .nil) .nil)))) .nil)) (.alt 9 (.take 11 [0,1,2,3,4,5,6,7,8,9,10,12] (.take 13 [] (.take 14 [] (.take 15 [0,1,2,3,4,5,6,7,8,9,10,11,12,13,14] (.alt 1 (.alt 16 (.alt 17 (.alt 18 (.take 19 [] (.alt 20 .done .nil)) .nil) .nil) .nil) (.alt 16 (.alt 1 (.alt 17 (.alt 18 (.take 19 [] (.alt 20 .done .nil)) .nil) .nil) (.alt 17 (.take 1 [0,2,3,4,5,6,7,8,9,10,11,12,13,14,15,16,17] (.alt 18 (.take 19 [] (.alt 20 .done .nil)) .nil)) .nil)) .nil)))))) (.alt 11 (.take 13 [] (.take 14 [] (.alt 1 (.alt 9 (.take 15 [0,1,2,3,4,5,6,7,8,9,10,11,12,13,14] (.alt 16 (.alt 17 (.alt 18 (.take 19 [] (.alt 20 .done .nil)) .nil) .nil) .nil)) (.alt 15 (.alt 9 (.alt 16 (.alt 17 (.alt 18 (.take 19 [] (.alt 20 .done .nil)) .nil) .nil) .nil) .nil) .nil)) (.alt 9 (.take 15 [0,1,2,3,4,5,6,7,8,9,10,11,12,13,14] (.alt 1 (.alt 16 (.alt 17 (.alt 18 (.take 19 [] (.alt 20 .done .nil)) .nil) .nil) .nil) (.alt 16 (.alt 1 (.alt 17 (.alt 18 (.take 19 [] (.alt 20 .done .nil)) .nil) .nil) (.alt 17 (.take 1 [0,2,3,4,5,6,7,8,9,10,11,12,13,14,15,16,17] (.alt 18 (.take 19 [] (.alt 20 .done .nil)) .nil)) .nil)) .nil))) (.alt 15 (.alt 1 (.alt 9 (.alt 16 (.alt 17 (.alt 18 (.take 19 [] (.alt 20 .done .nil)) .nil) .nil) .nil) .nil) (.alt 9 (.alt 1 (.alt 16 (.alt 17 (.alt 18 (.take 19 [] (.alt 20 .done .nil)) .nil) .nil) .nil) (.alt 16 (.alt 1 (.alt 17 (.alt 18 (.take 19 [] (.alt 20 .done .nil)) .nil) .nil) (.alt 17 (.take 1 [0,2,3,4,5,6,7,8,9,10,11,12,13,14,15,16,17] (.alt 18 (.take 19 [] (.alt 20 .done .nil)) .nil)) .nil)) .nil)) .nil)) .nil))))) .nil))) (.alt 11 (.take 13 [] (.take 14 [] (.alt 1 (.alt 2 (.alt 9 (.take 15 [0,1,2,3,4,5,6,7,8,9,10,11,12,13,14] (.alt 16 (.alt 17 (.alt 18 (.take 19 [] (.alt 20 .done .nil)) .nil) .nil) .nil)) (.alt 15 (.alt 9 (.alt 16 (.alt 17 (.alt 18 (.take 19 [] (.alt 20 .done .nil)) .nil) .nil) .nil) .nil) .nil)) (.alt 15 (.alt 2 (.alt 9 (.alt 16 (.alt 17 (.alt 18 (.take 19 [] (.alt 20 .done .nil)) .nil) .nil) .nil) .nil) .nil) .nil)) (.alt 2 (.alt 1 (.alt 9 (.take 15 [0,1,2,3,4,5,6,7,8,9,10,11,12,13,14] (.alt 16 (.alt 17 (.alt 18 (.take 19 [] (.alt 20 .done .nil)) .nil) .nil) .nil)) (.alt 15 (.alt 9 (.alt 16 (.alt 17 (.alt 18 (.take 19 [] (.alt 20 .done .nil)) .nil) .nil) .nil) .nil) .nil)) (.alt 9 (.take 15 [0,1,2,3,4,5,6,7,8,9,10,11,12,13,14] (.alt 1 (.alt 16 (.alt 17 (.alt 18 (.take 19 [] (.alt 20 .done .nil)) .nil) .nil) .nil) (.alt 16 (.alt 1 (.alt 17 (.alt 18 (.take 19 [] (.alt 20 .done .nil)) .nil) .nil) (.alt 17 (.take 1 [0,2,3,4,5,6,7,8,9,10,11,12,13,14,15,16,17] (.alt 18 (.take 19 [] (.alt 20 .done .nil)) .nil)) .nil)) .nil))) (.alt 15 (.alt 1 (.alt 9 (.alt 16 (.alt 17 (.alt 18 (.take 19 [] (.alt 20 .done .nil)) .nil) .nil) .nil) .nil) (.alt 9 (.alt 1 (.alt 16 (.alt 17 (.alt 18 (.take 19 [] (.alt 20 .done .nil)) .nil) .nil) .nil) (.alt 16 (.alt 1 (.alt 17 (.alt 18 (.take 19 [] (.alt 20 .done .nil)) .nil) .nil) (.alt 17 (.take 1 [0,2,3,4,5,6,7,8,9,10,11,12,13,14,15,16,17] (.alt 18 (.take 19 [] (.alt 20 .done .nil)) .nil)) .nil)) .nil)) .nil)) .nil))) (.alt 15 (.alt 1 (.alt 2 (.alt 9 (.alt 16 (.alt 17 (.alt 18 (.take 19 [] (.alt 20 .done .nil)) .nil) .nil) .nil) .nil) .nil) (.alt 2 (.alt 1 (.alt 9 (.alt 16 (.alt 17 (.alt 18 (.take 19 [] (.alt 20 .done .nil)) .nil) .nil) .nil) .nil) (.alt 9 (.alt 1 (.alt 16 (.alt 17 (.alt 18 (.take 19 [] (.alt 20 .done .nil)) .nil) .nil) .nil) (.alt 16 (.alt 1 (.alt 17 (.alt 18 (.take 19 [] (.alt 20 .done .nil)) .nil) .nil) (.alt 17 (.take 1 [0,2,3,4,5,6,7,8,9,10,11,12,13,14,15,16,17] (.alt 18 (.take 19 [] (.alt 20 .done .nil)) .nil)) .nil)) .nil)) .nil)) .nil)) .nil))))) .nil)))))))))))))],bV:=[]}
theorem e:aW Pg C Q Tryz.f116 0 id st v o tree:=fun J K x=>by cases x<;>kernel_rfl
theorem b (a0:List aC):aX Pg C Q Tryz.f116 0 id st v o (S a0) (begin a0):=fun J K=>by kernel_rfl
def told (a0:List aC):aa.Told A:=⟨f a0,fun r=>al Pg C 116 (S a0) 0 (v r) (o r),fun r h=>ah G mixed Q Tryz.func116 rfl (of_decide_eq_true (by kernel_rfl)) (by rfl) id st v o (fun _=>rfl) tree e (begin a0) (b a0) h⟩
end cJ
namespace fG
def S (a0:Int) (a1:List Int):List (PV U):=aa.start C 12 [.agg [.int .i64 a0,.sl 3 a1]] []
abbrev X:=Empty
def id:X→Nat:=fun _=>0
def st:X→List (PV U):=fun _=>[]
def begin (a0:Int) (a1:List Int):Tr X A:=
 let u0_0:Tr X A:=(.last (.bH (((List.length ([]:List Int):Int)+(List.length a1:Int))*(8:Nat)≤room) (.last (.last (.last (.ret (a0,(([]:List Int)++a1)))))))); .both (.last (u0_0))
  (.last (.both (u0_0)
   (.last (.bH (((List.length ([]:List Int):Int)+(List.length a1:Int))*(8:Nat)≤room) (.both (.last (.last (.last (.ret (a0,(([]:List Int)++a1))))))
    (.last (.last (.last (.ret (a0,(([]:List Int)++a1)))))))))))
def tree:X→Tr X A:=fun _=> .fail
def f (a0:Int) (a1:List Int):Option A:=(begin a0 a1).run (lp tree)
def Q:bA C:={PL with cb:=[],ca:=[(1,[6,7,8,9],(.take 0 [] (.take 3 [] (.take 4 [] (.take 5 [0,1,2,3,4] (.alt 1 (.alt 2 (.alt 6 (.alt 7 (.alt 8 (.alt 9 .done .nil) .nil) .nil) .nil) .nil) (.alt 2 (.alt 1 (.alt 6 (.alt 7 (.alt 8 (.alt 9 .done .nil) .nil) .nil) .nil) (.alt 6 (.alt 1 (.alt 7 (.alt 8 (.alt 9 .done .nil) .nil) .nil) (.alt 7 (.take 1 [0,2,3,4,5,6,7] (.alt 8 (.alt 9 .done .nil) .nil)) .nil)) .nil)) .nil)))))))],bV:=[]}
theorem e:aW Pg C Q Tryz.f117 0 id st v o tree:=fun J K x=>by cases x
theorem b (a0:Int) (a1:List Int):aX Pg C Q Tryz.f117 0 id st v o (S a0 a1) (begin a0 a1):=fun J K=>by kernel_rfl
def told (a0:Int) (a1:List Int):aa.Told A:=⟨f a0 a1,fun r=>al Pg C 117 (S a0 a1) 0 (v r) (o r),fun r h=>ah G mixed Q Tryz.func117 rfl (of_decide_eq_true (by kernel_rfl)) (by rfl) id st v o (fun _=>rfl) tree e (begin a0 a1) (b a0 a1) h⟩
end fG
namespace aS
def S (a0:List aC) (a1 a2:List Int) (a3 a4 a5 a6 a7 a8 a9 a10:Int) (a11:List Int) (a12:Int):List (PV U):=aa.start C 22 [.agg [.sl 164 a0,.sl 3 a1,.sl 3 a2,.int .i64 a3,.int .i64 a4,.int .i64 a5,.int .i64 a6,.int .i64 a7,.int .i64 a8,.int .i64 a9,.int .i64 a10,.sl 3 a11,.int .i64 a12]] []
abbrev X:=Empty
def id:X→Nat:=fun _=>0
def st:X→List (PV U):=fun _=>[]
def begin (a0:List aC) (a1 a2:List Int) (a3 a4 a5 a6 a7 a8 a9 a10:Int) (a11:List Int) (a12:Int):Tr X A:=
 .call (cJ.told a0) fun t1=> .bH (((List.length ([]:List Int):Int)+(List.length a1:Int))*(8:Nat)≤room) (.bH (((List.length ([]:List Int):Int)+(List.length a2:Int))*(8:Nat)≤room) (.call (fG.told a10 a11) fun t2=> .ret (t1,(([]:List Int)++a1),(([]:List Int)++a2),a3,a4,a5,a6,a7,a8,a9,t2.1,t2.2,a12)))
def tree:X→Tr X A:=fun _=> .fail
def f (a0:List aC) (a1 a2:List Int) (a3 a4 a5 a6 a7 a8 a9 a10:Int) (a11:List Int) (a12:Int):Option A:=(begin a0 a1 a2 a3 a4 a5 a6 a7 a8 a9 a10 a11 a12).run (lp tree)
def Q:bA C:={PL with cb:=[],ca:=[],bV:=[]}
theorem e:aW Pg C Q Tryz.f61 0 id st v o tree:=fun J K x=>by cases x
theorem b (a0:List aC) (a1 a2:List Int) (a3 a4 a5 a6 a7 a8 a9 a10:Int) (a11:List Int) (a12:Int):aX Pg C Q Tryz.f61 0 id st v o (S a0 a1 a2 a3 a4 a5 a6 a7 a8 a9 a10 a11 a12) (begin a0 a1 a2 a3 a4 a5 a6 a7 a8 a9 a10 a11 a12):=fun J K=>by kernel_rfl
def told (a0:List aC) (a1 a2:List Int) (a3 a4 a5 a6 a7 a8 a9 a10:Int) (a11:List Int) (a12:Int):aa.Told A:=⟨f a0 a1 a2 a3 a4 a5 a6 a7 a8 a9 a10 a11 a12,fun r=>al Pg C 61 (S a0 a1 a2 a3 a4 a5 a6 a7 a8 a9 a10 a11 a12) 0 (v r) (o r),fun r h=>ah G mixed Q Tryz.func61 rfl (of_decide_eq_true (by kernel_rfl)) (by rfl) id st v o (fun _=>rfl) tree e (begin a0 a1 a2 a3 a4 a5 a6 a7 a8 a9 a10 a11 a12) (b a0 a1 a2 a3 a4 a5 a6 a7 a8 a9 a10 a11 a12) h⟩
end aS
namespace fX
def S (a0 a1 a2 a3 a4 a5:Int):List (PV U):=aa.start C 37 [.agg [.int .i64 a0,.int .i64 a1,.int .i64 a2,.int .i64 a3,.int .i64 a4,.int .i64 a5]] []
inductive X where
 | Dz (x0 x1 x2 x3 x4 x5 x6 x7 x8 x9 x10 x11:Int)
def id:X→Nat
 | .Dz .. =>14
def st:X→List (PV U)
 | .Dz x0 x1 x2 x3 x4 x5 x6 x7 x8 x9 x10 x11=>iC 37 [(2,.box [.int .i64 x0,.int .i64 x1,.int .i64 x2,.int .i64 x3,.int .i64 x4,.int .i64 x5]),(3,.box [.int .i64 x6,.int .i64 x7,.int .i64 x8,.int .i64 x9,.int .i64 x10,.int .i64 x11])]
def begin (a0 a1 a2 a3 a4 a5:Int):Tr X A:=
 let u0_0:Tr X A:=(.jump (.Dz (0:Int) (0:Int) (0:Int) (0:Int) (0:Int) (0:Int) a0 (0:Int) (0:Int) a3 a4 a5));let u0_1:Tr X A:=(.ite (decide (a0=(5:Int))) (.jump (.Dz (0:Int) (0:Int) (0:Int) (0:Int) (0:Int) (0:Int) a0 (0:Int) a2 (0:Int) (0:Int) (0:Int))) (.jump (.Dz (0:Int) (0:Int) (0:Int) (0:Int) (0:Int) (0:Int) a0 (0:Int) (0:Int) (0:Int) (0:Int) (0:Int)))); .ite (decide (a0=(1:Int)))
  (.jump (.Dz (0:Int) (0:Int) (0:Int) (0:Int) (0:Int) (0:Int) a0 a1 (0:Int) a3 a4 a5))
  (.ite (decide (a0=(2:Int)))
   (.jump (.Dz (0:Int) (0:Int) (0:Int) (0:Int) (0:Int) (0:Int) a0 a1 a2 (0:Int) (0:Int) (0:Int)))
   (.ite (decide (a0=(3:Int)))
    (.ite (decide (a0=(3:Int)))
     (u0_0)
     (u0_1))
    (.ite (decide (a0=(4:Int)))
     (u0_0)
     (u0_1))))
def tree:X→Tr X A
 | .Dz x0 x1 x2 x3 x4 x5 x6 x7 x8 x9 x10 x11=>
 .ret (x6,x7,x8,x9,x10,x11)
def f (a0 a1 a2 a3 a4 a5:Int):Option A:=(begin a0 a1 a2 a3 a4 a5).run (lp tree)
def Q:bA C:={PL with cb:=[(14,[2,3])],ca:=[],bV:=[]}
theorem e:aW Pg C Q Tryz.f238 0 id st v o tree:=fun J K x=>by cases x<;>kernel_rfl
theorem b (a0 a1 a2 a3 a4 a5:Int):aX Pg C Q Tryz.f238 0 id st v o (S a0 a1 a2 a3 a4 a5) (begin a0 a1 a2 a3 a4 a5):=fun J K=>by kernel_rfl
def told (a0 a1 a2 a3 a4 a5:Int):aa.Told A:=⟨f a0 a1 a2 a3 a4 a5,fun r=>al Pg C 238 (S a0 a1 a2 a3 a4 a5) 0 (v r) (o r),fun r h=>ah G mixed Q Tryz.func238 rfl (of_decide_eq_true (by kernel_rfl)) (by rfl) id st v o (fun _=>rfl) tree e (begin a0 a1 a2 a3 a4 a5) (b a0 a1 a2 a3 a4 a5) h⟩
end fX
namespace aG
def S (a0 a1 a2:Int):List (PV U):=aa.start C 15 [.int .i64 a0,.int .i64 a1,.int .i64 a2] []
abbrev X:=Empty
def id:X→Nat:=fun _=>0
def st:X→List (PV U):=fun _=>[]
def begin (a0 a1 a2:Int):Tr X A:=
 .ite (decide (a0≥a1))
  (.ret ((decide (a0≤a2))))
  (.ret false)
def tree:X→Tr X A:=fun _=> .fail
def f (a0 a1 a2:Int):Option A:=(begin a0 a1 a2).run (lp tree)
def Q:bA C:={PL with cb:=[],ca:=[],bV:=[]}
theorem e:aW Pg C Q Tryz.f60 0 id st v o tree:=fun J K x=>by cases x
theorem b (a0 a1 a2:Int):aX Pg C Q Tryz.f60 0 id st v o (S a0 a1 a2) (begin a0 a1 a2):=fun J K=>by kernel_rfl
def told (a0 a1 a2:Int):aa.Told A:=⟨f a0 a1 a2,fun r=>al Pg C 60 (S a0 a1 a2) 0 (v r) (o r),fun r h=>ah G mixed Q Tryz.func60 rfl (of_decide_eq_true (by kernel_rfl)) (by rfl) id st v o (fun _=>rfl) tree e (begin a0 a1 a2) (b a0 a1 a2) h⟩
end aG
namespace ga
def S (a0:Int):List (PV U):=aa.start C 5 [.int .i64 a0] []
abbrev X:=Empty
def id:X→Nat:=fun _=>0
def st:X→List (PV U):=fun _=>[]
def begin (a0:Int):Tr X A:=
 .call (aG.told a0 (-8:Int) (999:Int)) fun t1=> .ret t1
def tree:X→Tr X A:=fun _=> .fail
def f (a0:Int):Option A:=(begin a0).run (lp tree)
def Q:bA C:={PL with cb:=[],ca:=[],bV:=[]}
theorem e:aW Pg C Q Tryz.f208 0 id st v o tree:=fun J K x=>by cases x
theorem b (a0:Int):aX Pg C Q Tryz.f208 0 id st v o (S a0) (begin a0):=fun J K=>by kernel_rfl
def told (a0:Int):aa.Told A:=⟨f a0,fun r=>al Pg C 208 (S a0) 0 (v r) (o r),fun r h=>ah G mixed Q Tryz.func208 rfl (of_decide_eq_true (by kernel_rfl)) (by rfl) id st v o (fun _=>rfl) tree e (begin a0) (b a0) h⟩
end ga
namespace cy
def S (a0 a1 a2:Int):List (PV U):=aa.start C 16 [.agg [.int .i64 a0,.int .i64 a1,.int .i64 a2]] []
abbrev X:=Empty
def id:X→Nat:=fun _=>0
def st:X→List (PV U):=fun _=>[]
def begin (a0 a1 a2:Int):Tr X A:=
 .call (aG.told a0 (1:Int) (7:Int)) fun t1=> .ite t1
  (.call (ga.told a1) fun t2=> .ite t2
   (.call (ga.told a2) fun t3=> .ret t3)
   (.ret false))
  (.ret false)
def tree:X→Tr X A:=fun _=> .fail
def f (a0 a1 a2:Int):Option A:=(begin a0 a1 a2).run (lp tree)
def Q:bA C:={PL with cb:=[],ca:=[],bV:=[]}
theorem e:aW Pg C Q Tryz.f174 0 id st v o tree:=fun J K x=>by cases x
theorem b (a0 a1 a2:Int):aX Pg C Q Tryz.f174 0 id st v o (S a0 a1 a2) (begin a0 a1 a2):=fun J K=>by kernel_rfl
def told (a0 a1 a2:Int):aa.Told A:=⟨f a0 a1 a2,fun r=>al Pg C 174 (S a0 a1 a2) 0 (v r) (o r),fun r h=>ah G mixed Q Tryz.func174 rfl (of_decide_eq_true (by kernel_rfl)) (by rfl) id st v o (fun _=>rfl) tree e (begin a0 a1 a2) (b a0 a1 a2) h⟩
end cy
namespace iv
def S (a0 a1 a2 a3 a4 a5:Int):List (PV U):=aa.start C 43 [.agg [.int .i64 a0,.int .i64 a1,.int .i64 a2,.int .i64 a3,.int .i64 a4,.int .i64 a5]] []
abbrev X:=Empty
def id:X→Nat:=fun _=>0
def st:X→List (PV U):=fun _=>[]
def begin (a0 a1 a2 a3 a4 a5:Int):Tr X A:=
 .last (.call (fX.told a0 a1 a2 a3 a4 a5) fun t1=> .last (.val ((!(decide (a0=t1.1)&&(decide (a1=t1.2.1)&&(decide (a2=t1.2.2.1)&&(decide (a3=t1.2.2.2.1)&&(decide (a4=t1.2.2.2.2.1)&&(decide (a5=t1.2.2.2.2.2)&&true))))))):Bool) fun v2=>let u2_0:Tr X A:=(.call (cy.told a3 a4 a5) fun t3=> .ret t3);let u2_1:Tr X A:=(.ite (decide (a0=(5:Int))) (.call (aG.told a2 (1:Int) (5:Int)) fun t3=> .ret t3) (.ret ((decide (a0=(6:Int)))))); .ite v2
  (.ret false)
  (.ite (decide (a0=(1:Int)))
   (.call (aG.told a1 (0:Int) (7:Int)) fun t3=> .ite t3
    (.call (cy.told a3 a4 a5) fun t4=> .ret t4)
    (.ret false))
   (.ite (decide (a0=(2:Int)))
    (.call (aG.told a1 (0:Int) (7:Int)) fun t3=> .ite t3
     (.call (aG.told a2 (0:Int) (3:Int)) fun t4=> .ret t4)
     (.ret false))
    (.ite (decide (a0=(3:Int)))
     (.ite (decide (a0=(3:Int)))
      (u2_0)
      (u2_1))
     (.ite (decide (a0=(4:Int)))
      (u2_0)
      (u2_1)))))))
def tree:X→Tr X A:=fun _=> .fail
def f (a0 a1 a2 a3 a4 a5:Int):Option A:=(begin a0 a1 a2 a3 a4 a5).run (lp tree)
def Q:bA C:={PL with cb:=[],ca:=[(1,[],(.take 0 [1,2] (.take 1 [0] (.alt 2 (.alt 3 .done .nil) .nil))))],bV:=[]}
theorem e:aW Pg C Q Tryz.f207 0 id st v o tree:=fun J K x=>by cases x
theorem b (a0 a1 a2 a3 a4 a5:Int):aX Pg C Q Tryz.f207 0 id st v o (S a0 a1 a2 a3 a4 a5) (begin a0 a1 a2 a3 a4 a5):=fun J K=>by kernel_rfl
def told (a0 a1 a2 a3 a4 a5:Int):aa.Told A:=⟨f a0 a1 a2 a3 a4 a5,fun r=>al Pg C 207 (S a0 a1 a2 a3 a4 a5) 0 (v r) (o r),fun r h=>ah G mixed Q Tryz.func207 rfl (of_decide_eq_true (by kernel_rfl)) (by rfl) id st v o (fun _=>rfl) tree e (begin a0 a1 a2 a3 a4 a5) (b a0 a1 a2 a3 a4 a5) h⟩
end iv
namespace bm
def S (a0:List aB):List (PV U):=aa.start C 41 [.sl 204 a0] []
inductive X where
 | c3 (x0:List aB) (x1 x2:Int)
def id:X→Nat
 | .c3 .. =>3
def st:X→List (PV U)
 | .c3 x0 x1 x2=>iC 41 [(0,.sl 204 x0),(3,.int .i64 x1),(4,.int .i64 x2)]
def begin (a0:List aB):Tr X A:=
 .jump (.c3 a0 (0:Int) (0:Int))
def tree:X→Tr X A
 | .c3 x0 x1 x2=>
 .ite (decide (x2<(List.length x0:Int)))
  (.bH ((0:Int)≤x2∧x2<(List.length x0:Int)) (.call (iv.told ((aw x0 x2).f0) ((aw x0 x2).f1) ((aw x0 x2).f2) ((aw x0 x2).f3.f0) ((aw x0 x2).f3.f1) ((aw x0 x2).f3.f2)) fun t1=>let u1_0:Tr X A:=(.call (aG.told (wr (x1+(1:Int))) (0:Int) (3:Int)) fun t2=> .ite (!t2) (.ret false) (.jump (.c3 x0 (wr (x1+(1:Int))) (wr (x2+(1:Int))))));let u1_1:Tr X A:=(.ite (decide ((aw x0 x2).f0=(6:Int))) (.call (aG.told (wr (x1-(1:Int))) (0:Int) (3:Int)) fun t2=> .ite (!t2) (.ret false) (.jump (.c3 x0 (wr (x1-(1:Int))) (wr (x2+(1:Int)))))) (.call (aG.told x1 (0:Int) (3:Int)) fun t2=> .ite (!t2) (.ret false) (.jump (.c3 x0 x1 (wr (x2+(1:Int))))))); .ite (!t1)
   (.ret false)
   (.bH ((0:Int)≤x2∧x2<(List.length x0:Int)) (.ite (decide ((aw x0 x2).f0=(4:Int)))
    (.ite (decide ((aw x0 x2).f0=(4:Int)))
     (u1_0)
     (u1_1))
    (.ite (decide ((aw x0 x2).f0=(5:Int)))
     (u1_0)
     (u1_1))))))
  (.ite (decide (x1=(0:Int)))
   (.ret ((decide ((List.length x0:Int)≤(24:Int)))))
   (.ret false))
def f (a0:List aB):Option A:=(begin a0).run (lp tree)
def Q:bA C:={PL with cb:=[(3,[0,3,4,37,38,39])],ca:=[],bV:=[]}
theorem e:aW Pg C Q Tryz.f173 0 id st v o tree:=fun J K x=>by cases x<;>kernel_rfl
theorem b (a0:List aB):aX Pg C Q Tryz.f173 0 id st v o (S a0) (begin a0):=fun J K=>by kernel_rfl
def told (a0:List aB):aa.Told A:=⟨f a0,fun r=>al Pg C 173 (S a0) 0 (v r) (o r),fun r h=>ah G mixed Q Tryz.func173 rfl (of_decide_eq_true (by kernel_rfl)) (by rfl) id st v o (fun _=>rfl) tree e (begin a0) (b a0) h⟩
end bm
namespace dd
def S (a0:List aC):List (PV U):=aa.start C 33 [.agg [.sl 164 a0]] []
inductive X where
 | c2 (x0:List aC) (x1:Int)
def id:X→Nat
 | .c2 .. =>2
def st:X→List (PV U)
 | .c2 x0 x1=>iC 33 [(1,.box [.sl 164 x0]),(3,.int .i64 x1)]
def begin (a0:List aC):Tr X A:=
 .jump (.c2 a0 (0:Int))
def tree:X→Tr X A
 | .c2 x0 x1=>
 .ite (decide (x1<(List.length x0:Int)))
  (.bH ((0:Int)≤x1∧x1<(List.length x0:Int)) (.call (bm.told ((bG x0 x1).f0)) fun t1=> .ite (!t1)
   (.ret false)
   (.bH ((0:Int)≤x1∧x1<(List.length x0:Int)) (.call (cy.told ((bG x0 x1).f1.f0) ((bG x0 x1).f1.f1) ((bG x0 x1).f1.f2)) fun t2=> .ite (!t2)
    (.ret false)
    (.jump (.c2 x0 (wr (x1+(1:Int)))))))))
  (.call (aG.told (List.length x0:Int) (1:Int) (6:Int)) fun t1=> .ret t1)
def f (a0:List aC):Option A:=(begin a0).run (lp tree)
def Q:bA C:={PL with cb:=[(2,[1,3])],ca:=[],bV:=[]}
theorem e:aW Pg C Q Tryz.f141 0 id st v o tree:=fun J K x=>by cases x<;>kernel_rfl
theorem b (a0:List aC):aX Pg C Q Tryz.f141 0 id st v o (S a0) (begin a0):=fun J K=>by kernel_rfl
def told (a0:List aC):aa.Told A:=⟨f a0,fun r=>al Pg C 141 (S a0) 0 (v r) (o r),fun r h=>ah G mixed Q Tryz.func141 rfl (of_decide_eq_true (by kernel_rfl)) (by rfl) id st v o (fun _=>rfl) tree e (begin a0) (b a0) h⟩
end dd
namespace bU
def S (a0 a1 a2:Int):List (PV U):=aa.start C 27 [.int .i64 a0,.int .i64 a1,.int .i64 a2] []
abbrev X:=Empty
def id:X→Nat:=fun _=>0
def st:X→List (PV U):=fun _=>[]
def begin (a0 a1 a2:Int):Tr X A:=
 .call (aG.told a0 (0:Int) (5:Int)) fun t1=> .ite (!t1)
  (.ret ((-1:Int)))
  (.call (aG.told a1 (0:Int) (8:Int)) fun t2=> .ite (!t2)
   (.ret ((-1:Int)))
   (.call (aG.told a2 (0:Int) (24:Int)) fun t3=> .ite (!t3)
    (.ret ((-1:Int)))
    (.ret ((wr (a0+(wr ((8:Int)*(wr (a1+(wr ((16:Int)*a2))))))))))))
def tree:X→Tr X A:=fun _=> .fail
def f (a0 a1 a2:Int):Option A:=(begin a0 a1 a2).run (lp tree)
def Q:bA C:={PL with cb:=[],ca:=[],bV:=[]}
theorem e:aW Pg C Q Tryz.f192 0 id st v o tree:=fun J K x=>by cases x
theorem b (a0 a1 a2:Int):aX Pg C Q Tryz.f192 0 id st v o (S a0 a1 a2) (begin a0 a1 a2):=fun J K=>by kernel_rfl
def told (a0 a1 a2:Int):aa.Told A:=⟨f a0 a1 a2,fun r=>al Pg C 192 (S a0 a1 a2) 0 (v r) (o r),fun r h=>ah G mixed Q Tryz.func192 rfl (of_decide_eq_true (by kernel_rfl)) (by rfl) id st v o (fun _=>rfl) tree e (begin a0 a1 a2) (b a0 a1 a2) h⟩
end bU
namespace bB
def S (a0:Int):List (PV U):=aa.start C 30 [.int .i64 a0] []
abbrev X:=Empty
def id:X→Nat:=fun _=>0
def st:X→List (PV U):=fun _=>[]
def begin (a0:Int):Tr X A:=
 .ite (decide (a0<(0:Int)))
  (.ret ((-1:Int),(-1:Int),(-1:Int)))
  (.ite (decide (a0>(100000:Int)))
   (.ret ((-1:Int),(-1:Int),(-1:Int)))
   (.bH ((8:Int)≠0) (.bH ((8:Int)≠0) (.bH ((16:Int)≠0) (.bH ((128:Int)≠0) (.call (bU.told (Int.tmod a0 (8:Int)) (Int.tmod (wr (Int.tdiv a0 (8:Int))) (16:Int)) (wr (Int.tdiv a0 (128:Int)))) fun t1=> .ite (!decide (t1=a0))
    (.ret ((-1:Int),(-1:Int),(-1:Int)))
    (.ret ((Int.tmod a0 (8:Int)),(Int.tmod (wr (Int.tdiv a0 (8:Int))) (16:Int)),(wr (Int.tdiv a0 (128:Int)))))))))))
def tree:X→Tr X A:=fun _=> .fail
def f (a0:Int):Option A:=(begin a0).run (lp tree)
def Q:bA C:={PL with cb:=[],ca:=[],bV:=[]}
theorem e:aW Pg C Q Tryz.f154 0 id st v o tree:=fun J K x=>by cases x
theorem b (a0:Int):aX Pg C Q Tryz.f154 0 id st v o (S a0) (begin a0):=fun J K=>by kernel_rfl
def told (a0:Int):aa.Told A:=⟨f a0,fun r=>al Pg C 154 (S a0) 0 (v r) (o r),fun r h=>ah G mixed Q Tryz.func154 rfl (of_decide_eq_true (by kernel_rfl)) (by rfl) id st v o (fun _=>rfl) tree e (begin a0) (b a0) h⟩
end bB
namespace ek
def S (a0:Int):List (PV U):=aa.start C 5 [.int .i64 a0] []
abbrev X:=Empty
def id:X→Nat:=fun _=>0
def st:X→List (PV U):=fun _=>[]
def begin (a0:Int):Tr X A:=
 .call (aG.told a0 (-1000000:Int) (1000000:Int)) fun t1=> .ret t1
def tree:X→Tr X A:=fun _=> .fail
def f (a0:Int):Option A:=(begin a0).run (lp tree)
def Q:bA C:={PL with cb:=[],ca:=[],bV:=[]}
theorem e:aW Pg C Q Tryz.f129 0 id st v o tree:=fun J K x=>by cases x
theorem b (a0:Int):aX Pg C Q Tryz.f129 0 id st v o (S a0) (begin a0):=fun J K=>by kernel_rfl
def told (a0:Int):aa.Told A:=⟨f a0,fun r=>al Pg C 129 (S a0) 0 (v r) (o r),fun r h=>ah G mixed Q Tryz.func129 rfl (of_decide_eq_true (by kernel_rfl)) (by rfl) id st v o (fun _=>rfl) tree e (begin a0) (b a0) h⟩
end ek
namespace cw
def S (a0:List Int):List (PV U):=aa.start C 16 [.sl 3 a0] []
inductive X where
 | c2 (x0:List Int) (x1:Int)
def id:X→Nat
 | .c2 .. =>2
def st:X→List (PV U)
 | .c2 x0 x1=>iC 16 [(0,.sl 3 x0),(3,.int .i64 x1)]
def begin (a0:List Int):Tr X A:=
 .jump (.c2 a0 (0:Int))
def tree:X→Tr X A
 | .c2 x0 x1=>
 .ite (decide (x1<(List.length x0:Int)))
  (.bH ((0:Int)≤x1∧x1<(List.length x0:Int)) (.call (ek.told (dh x0 x1)) fun t1=> .ite (!t1)
   (.ret false)
   (.jump (.c2 x0 (wr (x1+(1:Int)))))))
  (.ret true)
def f (a0:List Int):Option A:=(begin a0).run (lp tree)
def Q:bA C:={PL with cb:=[(2,[0,3])],ca:=[],bV:=[]}
theorem e:aW Pg C Q Tryz.f113 0 id st v o tree:=fun J K x=>by cases x<;>kernel_rfl
theorem b (a0:List Int):aX Pg C Q Tryz.f113 0 id st v o (S a0) (begin a0):=fun J K=>by kernel_rfl
def told (a0:List Int):aa.Told A:=⟨f a0,fun r=>al Pg C 113 (S a0) 0 (v r) (o r),fun r h=>ah G mixed Q Tryz.func113 rfl (of_decide_eq_true (by kernel_rfl)) (by rfl) id st v o (fun _=>rfl) tree e (begin a0) (b a0) h⟩
end cw
namespace eY
def S (a0:List aC) (a1:List Int):List (PV U):=aa.start C 72 [.agg [.sl 164 a0],.sl 3 a1] []
inductive X where
 | c7 (x0:List Int) (x1 x2:Int)
def id:X→Nat
 | .c7 .. =>7
def st:X→List (PV U)
 | .c7 x0 x1 x2=>iC 72 [(1,.sl 3 x0),(6,.int .i64 x1),(8,.int .i64 x2)]
def begin (a0:List aC) (a1:List Int):Tr X A:=
 .call (dd.told a0) fun t1=> .ite (!t1)
  (.ret false)
  (.ite (!decide ((List.length a1:Int)=(49:Int)))
   (.ret false)
   (.bH ((0:Int)≤(8:Int)∧(8:Int)<(List.length a1:Int)) (.call (bB.told (dh a1 (8:Int))) fun t2=> .ite (decide (t2.1<(0:Int)))
    (.ret false)
    (.ite (decide (t2.1≥(List.length a0:Int)))
     (.ret false)
     (.bH ((0:Int)≤(0:Int)∧(0:Int)≤(8:Int)∧(8:Int)≤(List.length a1:Int)) (.call (cw.told (List.take (Int.toNat (8:Int)) a1)) fun t3=> .ite (!t3)
      (.ret false)
      (.bH ((0:Int)≤(25:Int)∧(25:Int)≤(wr ((25:Int)+t2.2.2))∧(wr ((25:Int)+t2.2.2))≤(List.length a1:Int)) (.call (cw.told (List.drop (Int.toNat (25:Int)) (List.take (Int.toNat (wr ((25:Int)+t2.2.2))) a1))) fun t4=> .ite (!t4)
       (.ret false)
       (.jump (.c7 a1 t2.2.1 (0:Int)))))))))))
def tree:X→Tr X A
 | .c7 x0 x1 x2=>
 .ite (decide (x2<x1))
  (.bH ((0:Int)≤(wr ((9:Int)+(wr ((2:Int)*x2))))∧(wr ((9:Int)+(wr ((2:Int)*x2))))<(List.length x0:Int)) (.call (aG.told (dh x0 (wr ((9:Int)+(wr ((2:Int)*x2))))) (0:Int) (7:Int)) fun t1=> .ite (!t1)
   (.ret false)
   (.bH ((0:Int)≤(wr ((wr ((9:Int)+(wr ((2:Int)*x2))))+(1:Int)))∧(wr ((wr ((9:Int)+(wr ((2:Int)*x2))))+(1:Int)))<(List.length x0:Int)) (.call (ek.told (dh x0 (wr ((wr ((9:Int)+(wr ((2:Int)*x2))))+(1:Int))))) fun t2=> .ite (!t2)
    (.ret false)
    (.jump (.c7 x0 x1 (wr (x2+(1:Int)))))))))
  (.ret true)
def f (a0:List aC) (a1:List Int):Option A:=(begin a0 a1).run (lp tree)
def Q:bA C:={PL with cb:=[(7,[1,6,8])],ca:=[],bV:=[]}
theorem e:aW Pg C Q Tryz.f111 0 id st v o tree:=fun J K x=>by cases x<;>kernel_rfl
theorem b (a0:List aC) (a1:List Int):aX Pg C Q Tryz.f111 0 id st v o (S a0 a1) (begin a0 a1):=fun J K=>by kernel_rfl
def told (a0:List aC) (a1:List Int):aa.Told A:=⟨f a0 a1,fun r=>al Pg C 111 (S a0 a1) 0 (v r) (o r),fun r h=>ah G mixed Q Tryz.func111 rfl (of_decide_eq_true (by kernel_rfl)) (by rfl) id st v o (fun _=>rfl) tree e (begin a0 a1) (b a0 a1) h⟩
end eY
end
end Go.Proofs.YtmapddgocpkgeaaGreat.Ev
