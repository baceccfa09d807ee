/- Functions as trees, with their contracts. No conditions. -/
import Derived.Test.YtmapddgocpkgeaaGreatTEvH
namespace Go.Proofs.YtmapddgocpkgeaaGreat.Ev
open Go.Proofs.YtmapddgocpkgeaaGreat.aa Go.RowKit
set_option linter.unusedVariables false
set_option maxRecDepth 100000
noncomputable section
namespace fu
def S (a0:List iE) (a1:Int):List (PV U):=aa.start C 12 [.sl 249 a0,.int .i64 a1] []
abbrev X:=Empty
def id:X→Nat:=fun _=>0
def st:X→List (PV U):=fun _=>[]
def begin (a0:List iE) (a1:Int):Tr X A:=
 .ite (decide ((wr (a1-(List.length a0:Int)))<(0:Int)))
  (.ret ((-1:Int)))
  (.ret ((wr (a1-(List.length a0:Int)))))
def tree:X→Tr X A:=fun _=> .fail
def f (a0:List iE) (a1:Int):Option A:=(begin a0 a1).run (lp tree)
def Q:aE C:={PL with aU:=[],aT:=[],aQ:=[]}
theorem e:ay Pg C Q Tryz.f191 0 id st v o tree:=fun J K x=>by cases x
theorem b (a0:List iE) (a1:Int):ax Pg C Q Tryz.f191 0 id st v o (S a0 a1) (begin a0 a1):=fun J K=>by kernel_rfl
def told (a0:List iE) (a1:Int):aa.Told A:=⟨f a0 a1,fun r=>af Pg C 191 (S a0 a1) 0 (v r) (o r),fun r h=>ae G mixed Q Tryz.func191 rfl (of_decide_eq_true (by kernel_rfl)) (by rfl) id st v o (fun _=>rfl) tree e (begin a0 a1) (b a0 a1) h⟩
end fu
namespace fU
def S (a0:List iE) (a1 a2 a3 a4:Int):List (PV U):=aa.start C 12 [.agg [.sl 249 a0,.int .i64 a1,.int .i64 a2,.int .i64 a3],.int .i64 a4] []
abbrev X:=Empty
def id:X→Nat:=fun _=>0
def st:X→List (PV U):=fun _=>[]
def begin (a0:List iE) (a1 a2 a3 a4:Int):Tr X A:=
 .call (fu.told a0 a4) fun t1=> .ite (decide (t1<(0:Int)))
  (.ret ((-1:Int)))
  (.ret t1)
def tree:X→Tr X A:=fun _=> .fail
def f (a0:List iE) (a1 a2 a3 a4:Int):Option A:=(begin a0 a1 a2 a3 a4).run (lp tree)
def Q:aE C:={PL with aU:=[],aT:=[],aQ:=[]}
theorem e:ay Pg C Q Tryz.f153 0 id st v o tree:=fun J K x=>by cases x
theorem b (a0:List iE) (a1 a2 a3 a4:Int):ax Pg C Q Tryz.f153 0 id st v o (S a0 a1 a2 a3 a4) (begin a0 a1 a2 a3 a4):=fun J K=>by kernel_rfl
def told (a0:List iE) (a1 a2 a3 a4:Int):aa.Told A:=⟨f a0 a1 a2 a3 a4,fun r=>af Pg C 153 (S a0 a1 a2 a3 a4) 0 (v r) (o r),fun r h=>ae G mixed Q Tryz.func153 rfl (of_decide_eq_true (by kernel_rfl)) (by rfl) id st v o (fun _=>rfl) tree e (begin a0 a1 a2 a3 a4) (b a0 a1 a2 a3 a4) h⟩
end fU
namespace db
def S (a0:List fK) (a1:Int):List (PV U):=aa.start C 27 [.sl 191 a0,.int .i64 a1] []
inductive X where
 | c5 (x0:List fK) (x1 x2:Int)
def id:X→Nat
 | .c5 .. =>5
def st:X→List (PV U)
 | .c5 x0 x1 x2=>eH 27 [(0,.sl 191 x0),(1,.int .i64 x1),(5,.int .i64 x2)]
def begin (a0:List fK) (a1:Int):Tr X A:=
 .ite (decide ((wr (a1-(List.length a0:Int)))<(0:Int)))
  (.ret ((-1:Int)))
  (.jump (.c5 a0 (wr (a1-(List.length a0:Int))) (0:Int)))
def tree:X→Tr X A
 | .c5 x0 x1 x2=>
 .ite (decide (x2<(List.length x0:Int)))
  (.aG ((0:Int)≤x2∧x2<(List.length x0:Int)) (.call (fU.told ((nT x0 x2).f0) ((nT x0 x2).f1.f0) ((nT x0 x2).f1.f1) ((nT x0 x2).f1.f2) x1) fun t1=> .ite (decide (t1<(0:Int)))
   (.ret ((-1:Int)))
   (.jump (.c5 x0 t1 (wr (x2+(1:Int)))))))
  (.ret x1)
def f (a0:List fK) (a1:Int):Option A:=(begin a0 a1).run (lp tree)
def Q:aE C:={PL with aU:=[(5,[0,1,5])],aT:=[],aQ:=[]}
theorem e:ay Pg C Q Tryz.f109 0 id st v o tree:=fun J K x=>by cases x<;>kernel_rfl
theorem b (a0:List fK) (a1:Int):ax Pg C Q Tryz.f109 0 id st v o (S a0 a1) (begin a0 a1):=fun J K=>by kernel_rfl
def told (a0:List fK) (a1:Int):aa.Told A:=⟨f a0 a1,fun r=>af Pg C 109 (S a0 a1) 0 (v r) (o r),fun r h=>ae G mixed Q Tryz.func109 rfl (of_decide_eq_true (by kernel_rfl)) (by rfl) id st v o (fun _=>rfl) tree e (begin a0 a1) (b a0 a1) h⟩
end db
namespace dQ
def S (a0:List fK) (a1:Int):List (PV U):=aa.start C 12 [.agg [.sl 191 a0],.int .i64 a1] []
abbrev X:=Empty
def id:X→Nat:=fun _=>0
def st:X→List (PV U):=fun _=>[]
def begin (a0:List fK) (a1:Int):Tr X A:=
 .call (db.told a0 a1) fun t1=> .ite (decide (t1<(0:Int)))
  (.ret ((-1:Int)))
  (.ret t1)
def tree:X→Tr X A:=fun _=> .fail
def f (a0:List fK) (a1:Int):Option A:=(begin a0 a1).run (lp tree)
def Q:aE C:={PL with aU:=[],aT:=[],aQ:=[]}
theorem e:ay Pg C Q Tryz.f56 0 id st v o tree:=fun J K x=>by cases x
theorem b (a0:List fK) (a1:Int):ax Pg C Q Tryz.f56 0 id st v o (S a0 a1) (begin a0 a1):=fun J K=>by kernel_rfl
def told (a0:List fK) (a1:Int):aa.Told A:=⟨f a0 a1,fun r=>af Pg C 56 (S a0 a1) 0 (v r) (o r),fun r h=>ae G mixed Q Tryz.func56 rfl (of_decide_eq_true (by kernel_rfl)) (by rfl) id st v o (fun _=>rfl) tree e (begin a0 a1) (b a0 a1) h⟩
end dQ
namespace eS
def S (a0:List Int) (a1:Int):List (PV U):=aa.start C 12 [.sl 3 a0,.int .i64 a1] []
abbrev X:=Empty
def id:X→Nat:=fun _=>0
def st:X→List (PV U):=fun _=>[]
def begin (a0:List Int) (a1:Int):Tr X A:=
 .ite (decide ((wr (a1-(List.length a0:Int)))<(0:Int)))
  (.ret ((-1:Int)))
  (.ret ((wr (a1-(List.length a0:Int)))))
def tree:X→Tr X A:=fun _=> .fail
def f (a0:List Int) (a1:Int):Option A:=(begin a0 a1).run (lp tree)
def Q:aE C:={PL with aU:=[],aT:=[],aQ:=[]}
theorem e:ay Pg C Q Tryz.f57 0 id st v o tree:=fun J K x=>by cases x
theorem b (a0:List Int) (a1:Int):ax Pg C Q Tryz.f57 0 id st v o (S a0 a1) (begin a0 a1):=fun J K=>by kernel_rfl
def told (a0:List Int) (a1:Int):aa.Told A:=⟨f a0 a1,fun r=>af Pg C 57 (S a0 a1) 0 (v r) (o r),fun r h=>ae G mixed Q Tryz.func57 rfl (of_decide_eq_true (by kernel_rfl)) (by rfl) id st v o (fun _=>rfl) tree e (begin a0 a1) (b a0 a1) h⟩
end eS
namespace eF
def S (a0:List Int) (a1:Int):List (PV U):=aa.start C 12 [.agg [.sl 3 a0],.int .i64 a1] []
abbrev X:=Empty
def id:X→Nat:=fun _=>0
def st:X→List (PV U):=fun _=>[]
def begin (a0:List Int) (a1:Int):Tr X A:=
 .call (eS.told a0 a1) fun t1=> .ite (decide (t1<(0:Int)))
  (.ret ((-1:Int)))
  (.ret t1)
def tree:X→Tr X A:=fun _=> .fail
def f (a0:List Int) (a1:Int):Option A:=(begin a0 a1).run (lp tree)
def Q:aE C:={PL with aU:=[],aT:=[],aQ:=[]}
theorem e:ay Pg C Q Tryz.f110 0 id st v o tree:=fun J K x=>by cases x
theorem b (a0:List Int) (a1:Int):ax Pg C Q Tryz.f110 0 id st v o (S a0 a1) (begin a0 a1):=fun J K=>by kernel_rfl
def told (a0:List Int) (a1:Int):aa.Told A:=⟨f a0 a1,fun r=>af Pg C 110 (S a0 a1) 0 (v r) (o r),fun r h=>ae G mixed Q Tryz.func110 rfl (of_decide_eq_true (by kernel_rfl)) (by rfl) id st v o (fun _=>rfl) tree e (begin a0 a1) (b a0 a1) h⟩
end eF
namespace fV
def S (a0:Int) (a1:List Int) (a2:Int):List (PV U):=aa.start C 12 [.agg [.int .i64 a0,.sl 3 a1],.int .i64 a2] []
abbrev X:=Empty
def id:X→Nat:=fun _=>0
def st:X→List (PV U):=fun _=>[]
def begin (a0:Int) (a1:List Int) (a2:Int):Tr X A:=
 .call (eF.told a1 a2) fun t1=> .ite (decide (t1<(0:Int)))
  (.ret ((-1:Int)))
  (.ret t1)
def tree:X→Tr X A:=fun _=> .fail
def f (a0:Int) (a1:List Int) (a2:Int):Option A:=(begin a0 a1 a2).run (lp tree)
def Q:aE C:={PL with aU:=[],aT:=[],aQ:=[]}
theorem e:ay Pg C Q Tryz.f58 0 id st v o tree:=fun J K x=>by cases x
theorem b (a0:Int) (a1:List Int) (a2:Int):ax Pg C Q Tryz.f58 0 id st v o (S a0 a1 a2) (begin a0 a1 a2):=fun J K=>by kernel_rfl
def told (a0:Int) (a1:List Int) (a2:Int):aa.Told A:=⟨f a0 a1 a2,fun r=>af Pg C 58 (S a0 a1 a2) 0 (v r) (o r),fun r h=>ae G mixed Q Tryz.func58 rfl (of_decide_eq_true (by kernel_rfl)) (by rfl) id st v o (fun _=>rfl) tree e (begin a0 a1 a2) (b a0 a1 a2) h⟩
end fV
namespace fS
def S (a0:List fK) (a1 a2:List Int) (a3 a4 a5 a6 a7 a8 a9 a10:Int) (a11:List Int) (a12 a13:Int):List (PV U):=aa.start C 30 [.agg [.sl 191 a0,.sl 3 a1,.sl 3 a2,.int .i64 a3,.int .i64 a4,.int .i64 a5,.int .i64 a6,.int .i64 a7,.int .i64 a8,.int .i64 a9,.int .i64 a10,.sl 3 a11,.int .i64 a12],.int .i64 a13] []
abbrev X:=Empty
def id:X→Nat:=fun _=>0
def st:X→List (PV U):=fun _=>[]
def begin (a0:List fK) (a1 a2:List Int) (a3 a4 a5 a6 a7 a8 a9 a10:Int) (a11:List Int) (a12 a13:Int):Tr X A:=
 .call (dQ.told a0 a13) fun t1=> .ite (decide (t1<(0:Int)))
  (.ret ((-1:Int)))
  (.call (eS.told a1 t1) fun t2=> .ite (decide (t2<(0:Int)))
   (.ret ((-1:Int)))
   (.call (eS.told a2 t2) fun t3=> .ite (decide (t3<(0:Int)))
    (.ret ((-1:Int)))
    (.call (fV.told a10 a11 t3) fun t4=> .ite (decide (t4<(0:Int)))
     (.ret ((-1:Int)))
     (.ret t4))))
def tree:X→Tr X A:=fun _=> .fail
def f (a0:List fK) (a1 a2:List Int) (a3 a4 a5 a6 a7 a8 a9 a10:Int) (a11:List Int) (a12 a13:Int):Option A:=(begin a0 a1 a2 a3 a4 a5 a6 a7 a8 a9 a10 a11 a12 a13).run (lp tree)
def Q:aE C:={PL with aU:=[],aT:=[],aQ:=[]}
theorem e:ay Pg C Q Tryz.f17 0 id st v o tree:=fun J K x=>by cases x
theorem b (a0:List fK) (a1 a2:List Int) (a3 a4 a5 a6 a7 a8 a9 a10:Int) (a11:List Int) (a12 a13:Int):ax Pg C Q Tryz.f17 0 id st v o (S a0 a1 a2 a3 a4 a5 a6 a7 a8 a9 a10 a11 a12 a13) (begin a0 a1 a2 a3 a4 a5 a6 a7 a8 a9 a10 a11 a12 a13):=fun J K=>by kernel_rfl
def told (a0:List fK) (a1 a2:List Int) (a3 a4 a5 a6 a7 a8 a9 a10:Int) (a11:List Int) (a12 a13:Int):aa.Told A:=⟨f a0 a1 a2 a3 a4 a5 a6 a7 a8 a9 a10 a11 a12 a13,fun r=>af Pg C 17 (S a0 a1 a2 a3 a4 a5 a6 a7 a8 a9 a10 a11 a12 a13) 0 (v r) (o r),fun r h=>ae G mixed Q Tryz.func17 rfl (of_decide_eq_true (by kernel_rfl)) (by rfl) id st v o (fun _=>rfl) tree e (begin a0 a1 a2 a3 a4 a5 a6 a7 a8 a9 a10 a11 a12 a13) (b a0 a1 a2 a3 a4 a5 a6 a7 a8 a9 a10 a11 a12 a13) h⟩
end fS
namespace gm
def S (a0 a1 a2:Int):List (PV U):=aa.start C 14 [.agg [.int .i64 a0,.int .i64 a1,.int .i64 a2]] []
abbrev X:=Empty
def id:X→Nat:=fun _=>0
def st:X→List (PV U):=fun _=>[]
def begin (a0 a1 a2:Int):Tr X A:=
 .ret (a0,a1,a2)
def tree:X→Tr X A:=fun _=> .fail
def f (a0 a1 a2:Int):Option A:=(begin a0 a1 a2).run (lp tree)
def Q:aE C:={PL with aU:=[],aT:=[],aQ:=[]}
theorem e:ay Pg C Q Tryz.f200 0 id st v o tree:=fun J K x=>by cases x
theorem b (a0 a1 a2:Int):ax Pg C Q Tryz.f200 0 id st v o (S a0 a1 a2) (begin a0 a1 a2):=fun J K=>by kernel_rfl
def told (a0 a1 a2:Int):aa.Told A:=⟨f a0 a1 a2,fun r=>af Pg C 200 (S a0 a1 a2) 0 (v r) (o r),fun r h=>ae G mixed Q Tryz.func200 rfl (of_decide_eq_true (by kernel_rfl)) (by rfl) id st v o (fun _=>rfl) tree e (begin a0 a1 a2) (b a0 a1 a2) h⟩
end gm
namespace gB
def S (a0 a1 a2 a3 a4 a5:Int):List (PV U):=aa.start C 18 [.agg [.int .i64 a0,.int .i64 a1,.int .i64 a2,.int .i64 a3,.int .i64 a4,.int .i64 a5]] []
abbrev X:=Empty
def id:X→Nat:=fun _=>0
def st:X→List (PV U):=fun _=>[]
def begin (a0 a1 a2 a3 a4 a5:Int):Tr X A:=
 .call (gm.told a3 a4 a5) fun t1=> .ret (a0,a1,a2,t1.1,t1.2.1,t1.2.2)
def tree:X→Tr X A:=fun _=> .fail
def f (a0 a1 a2 a3 a4 a5:Int):Option A:=(begin a0 a1 a2 a3 a4 a5).run (lp tree)
def Q:aE C:={PL with aU:=[],aT:=[],aQ:=[]}
theorem e:ay Pg C Q Tryz.f236 0 id st v o tree:=fun J K x=>by cases x
theorem b (a0 a1 a2 a3 a4 a5:Int):ax Pg C Q Tryz.f236 0 id st v o (S a0 a1 a2 a3 a4 a5) (begin a0 a1 a2 a3 a4 a5):=fun J K=>by kernel_rfl
def told (a0 a1 a2 a3 a4 a5:Int):aa.Told A:=⟨f a0 a1 a2 a3 a4 a5,fun r=>af Pg C 236 (S a0 a1 a2 a3 a4 a5) 0 (v r) (o r),fun r h=>ae G mixed Q Tryz.func236 rfl (of_decide_eq_true (by kernel_rfl)) (by rfl) id st v o (fun _=>rfl) tree e (begin a0 a1 a2 a3 a4 a5) (b a0 a1 a2 a3 a4 a5) h⟩
end gB
namespace dF
def S (a0:List iE):List (PV U):=aa.start C 23 [.sl 249 a0] []
inductive X where
 | c3 (x0:List iE) (x1:List aq) (x2:Int)
def id:X→Nat
 | .c3 .. =>3
def st:X→List (PV U)
 | .c3 x0 x1 x2=>eH 23 [(0,.sl 249 x0),(3,.own true 204 x1),(4,.int .i64 x2)]
def begin (a0:List iE):Tr X A:=
 .aG ((0:Int)≤(List.length a0:Int)∧(List.length a0:Int)≤(List.length a0:Int)∧(List.length a0:Int)*(48:Nat)≤room) (.jump (.c3 a0 (List.replicate (Int.toNat (List.length a0:Int)) Ad) (0:Int)))
def tree:X→Tr X A
 | .c3 x0 x1 x2=>
 .ite (decide (x2<(List.length x0:Int)))
  (.aG ((0:Int)≤x2∧x2<(List.length x0:Int)) (.call (gB.told ((rD x0 x2).f0) ((rD x0 x2).f1) ((rD x0 x2).f2) ((rD x0 x2).f3.f0) ((rD x0 x2).f3.f1) ((rD x0 x2).f3.f2)) fun t1=> .aG ((0:Int)≤x2∧x2<(List.length x1:Int)) (.val ((List.set x1 (Int.toNat x2) (⟨t1.1,t1.2.1,t1.2.2.1,(⟨t1.2.2.2.1,t1.2.2.2.2.1,t1.2.2.2.2.2⟩:iQ)⟩:aq)):List aq) fun v2=> .jump (.c3 x0 v2 (wr (x2+(1:Int)))))))
  (.ret x1)
def f (a0:List iE):Option A:=(begin a0).run (lp tree)
def Q:aE C:={PL with aU:=[(3,[0,3,4])],aT:=[],aQ:=[]}
theorem e:ay Pg C Q Tryz.f199 0 id st v o tree:=fun J K x=>by cases x<;>kernel_rfl
theorem b (a0:List iE):ax Pg C Q Tryz.f199 0 id st v o (S a0) (begin a0):=fun J K=>by kernel_rfl
def told (a0:List iE):aa.Told A:=⟨f a0,fun r=>af Pg C 199 (S a0) 0 (v r) (o r),fun r h=>ae G mixed Q Tryz.func199 rfl (of_decide_eq_true (by kernel_rfl)) (by rfl) id st v o (fun _=>rfl) tree e (begin a0) (b a0) h⟩
end dF
namespace fO
def S (a0:List iE) (a1 a2 a3:Int):List (PV U):=aa.start C 13 [.agg [.sl 249 a0,.int .i64 a1,.int .i64 a2,.int .i64 a3]] []
abbrev X:=Empty
def id:X→Nat:=fun _=>0
def st:X→List (PV U):=fun _=>[]
def begin (a0:List iE) (a1 a2 a3:Int):Tr X A:=
 .call (dF.told a0) fun t1=> .call (gm.told a1 a2 a3) fun t2=> .ret (t1,t2.1,t2.2.1,t2.2.2)
def tree:X→Tr X A:=fun _=> .fail
def f (a0:List iE) (a1 a2 a3:Int):Option A:=(begin a0 a1 a2 a3).run (lp tree)
def Q:aE C:={PL with aU:=[],aT:=[],aQ:=[]}
theorem e:ay Pg C Q Tryz.f163 0 id st v o tree:=fun J K x=>by cases x
theorem b (a0:List iE) (a1 a2 a3:Int):ax Pg C Q Tryz.f163 0 id st v o (S a0 a1 a2 a3) (begin a0 a1 a2 a3):=fun J K=>by kernel_rfl
def told (a0:List iE) (a1 a2 a3:Int):aa.Told A:=⟨f a0 a1 a2 a3,fun r=>af Pg C 163 (S a0 a1 a2 a3) 0 (v r) (o r),fun r h=>ae G mixed Q Tryz.func163 rfl (of_decide_eq_true (by kernel_rfl)) (by rfl) id st v o (fun _=>rfl) tree e (begin a0 a1 a2 a3) (b a0 a1 a2 a3) h⟩
end fO
namespace dM
def S (a0:List fK):List (PV U):=aa.start C 23 [.sl 191 a0] []
inductive X where
 | c3 (x0:List fK) (x1:List az) (x2:Int)
def id:X→Nat
 | .c3 .. =>3
def st:X→List (PV U)
 | .c3 x0 x1 x2=>eH 23 [(0,.sl 191 x0),(3,.own true 164 x1),(4,.int .i64 x2)]
def begin (a0:List fK):Tr X A:=
 .aG ((0:Int)≤(List.length a0:Int)∧(List.length a0:Int)≤(List.length a0:Int)∧(List.length a0:Int)*(48:Nat)≤room) (.jump (.c3 a0 (List.replicate (Int.toNat (List.length a0:Int)) Ab) (0:Int)))
def tree:X→Tr X A
 | .c3 x0 x1 x2=>
 .ite (decide (x2<(List.length x0:Int)))
  (.aG ((0:Int)≤x2∧x2<(List.length x0:Int)) (.call (fO.told ((nT x0 x2).f0) ((nT x0 x2).f1.f0) ((nT x0 x2).f1.f1) ((nT x0 x2).f1.f2)) fun t1=> .aG ((0:Int)≤x2∧x2<(List.length x1:Int)) (.jump (.c3 x0 (List.set x1 (Int.toNat x2) (⟨t1.1,(⟨t1.2.1,t1.2.2.1,t1.2.2.2⟩:iQ)⟩:az)) (wr (x2+(1:Int)))))))
  (.ret x1)
def f (a0:List fK):Option A:=(begin a0).run (lp tree)
def Q:aE C:={PL with aU:=[(3,[0,3,4])],aT:=[],aQ:=[]}
theorem e:ay Pg C Q Tryz.f121 0 id st v o tree:=fun J K x=>by cases x<;>kernel_rfl
theorem b (a0:List fK):ax Pg C Q Tryz.f121 0 id st v o (S a0) (begin a0):=fun J K=>by kernel_rfl
def told (a0:List fK):aa.Told A:=⟨f a0,fun r=>af Pg C 121 (S a0) 0 (v r) (o r),fun r h=>ae G mixed Q Tryz.func121 rfl (of_decide_eq_true (by kernel_rfl)) (by rfl) id st v o (fun _=>rfl) tree e (begin a0) (b a0) h⟩
end dM
namespace dL
def S (a0:List fK):List (PV U):=aa.start C 9 [.agg [.sl 191 a0]] []
abbrev X:=Empty
def id:X→Nat:=fun _=>0
def st:X→List (PV U):=fun _=>[]
def begin (a0:List fK):Tr X A:=
 .call (dM.told a0) fun t1=> .ret t1
def tree:X→Tr X A:=fun _=> .fail
def f (a0:List fK):Option A:=(begin a0).run (lp tree)
def Q:aE C:={PL with aU:=[],aT:=[],aQ:=[]}
theorem e:ay Pg C Q Tryz.f63 0 id st v o tree:=fun J K x=>by cases x
theorem b (a0:List fK):ax Pg C Q Tryz.f63 0 id st v o (S a0) (begin a0):=fun J K=>by kernel_rfl
def told (a0:List fK):aa.Told A:=⟨f a0,fun r=>af Pg C 63 (S a0) 0 (v r) (o r),fun r h=>ae G mixed Q Tryz.func63 rfl (of_decide_eq_true (by kernel_rfl)) (by rfl) id st v o (fun _=>rfl) tree e (begin a0) (b a0) h⟩
end dL
namespace dC
def S (a0:List Int):List (PV U):=aa.start C 22 [.sl 3 a0] []
inductive X where
 | c3 (x0 x1:List Int) (x2:Int)
def id:X→Nat
 | .c3 .. =>3
def st:X→List (PV U)
 | .c3 x0 x1 x2=>eH 22 [(0,.sl 3 x0),(3,.own true 3 x1),(4,.int .i64 x2)]
def begin (a0:List Int):Tr X A:=
 .aG ((0:Int)≤(List.length a0:Int)∧(List.length a0:Int)≤(List.length a0:Int)∧(List.length a0:Int)*(8:Nat)≤room) (.jump (.c3 a0 (List.replicate (Int.toNat (List.length a0:Int)) (0:Int)) (0:Int)))
def tree:X→Tr X A
 | .c3 x0 x1 x2=>
 .ite (decide (x2<(List.length x0:Int)))
  (.aG ((0:Int)≤x2∧x2<(List.length x0:Int)) (.aG ((0:Int)≤x2∧x2<(List.length x1:Int)) (.jump (.c3 x0 (List.set x1 (Int.toNat x2) (eG x0 x2)) (wr (x2+(1:Int)))))))
  (.ret x1)
def f (a0:List Int):Option A:=(begin a0).run (lp tree)
def Q:aE C:={PL with aU:=[(3,[0,3,4])],aT:=[],aQ:=[]}
theorem e:ay Pg C Q Tryz.f36 0 id st v o tree:=fun J K x=>by cases x<;>kernel_rfl
theorem b (a0:List Int):ax Pg C Q Tryz.f36 0 id st v o (S a0) (begin a0):=fun J K=>by kernel_rfl
def told (a0:List Int):aa.Told A:=⟨f a0,fun r=>af Pg C 36 (S a0) 0 (v r) (o r),fun r h=>ae G mixed Q Tryz.func36 rfl (of_decide_eq_true (by kernel_rfl)) (by rfl) id st v o (fun _=>rfl) tree e (begin a0) (b a0) h⟩
end dC
namespace ga
def S (a0 a1 a2 a3:Int):List (PV U):=aa.start C 17 [.agg [.int .i64 a0,.int .i64 a1,.int .i64 a2,.int .i64 a3]] []
abbrev X:=Empty
def id:X→Nat:=fun _=>0
def st:X→List (PV U):=fun _=>[]
def begin (a0 a1 a2 a3:Int):Tr X A:=
 .ret (a0,a1,a2,a3)
def tree:X→Tr X A:=fun _=> .fail
def f (a0 a1 a2 a3:Int):Option A:=(begin a0 a1 a2 a3).run (lp tree)
def Q:aE C:={PL with aU:=[],aT:=[],aQ:=[]}
theorem e:ay Pg C Q Tryz.f64 0 id st v o tree:=fun J K x=>by cases x
theorem b (a0 a1 a2 a3:Int):ax Pg C Q Tryz.f64 0 id st v o (S a0 a1 a2 a3) (begin a0 a1 a2 a3):=fun J K=>by kernel_rfl
def told (a0 a1 a2 a3:Int):aa.Told A:=⟨f a0 a1 a2 a3,fun r=>af Pg C 64 (S a0 a1 a2 a3) 0 (v r) (o r),fun r h=>ae G mixed Q Tryz.func64 rfl (of_decide_eq_true (by kernel_rfl)) (by rfl) id st v o (fun _=>rfl) tree e (begin a0 a1 a2 a3) (b a0 a1 a2 a3) h⟩
end ga
namespace gl
def S (a0 a1:Int):List (PV U):=aa.start C 11 [.agg [.int .i64 a0,.int .i64 a1]] []
abbrev X:=Empty
def id:X→Nat:=fun _=>0
def st:X→List (PV U):=fun _=>[]
def begin (a0 a1:Int):Tr X A:=
 .ret (a0,a1)
def tree:X→Tr X A:=fun _=> .fail
def f (a0 a1:Int):Option A:=(begin a0 a1).run (lp tree)
def Q:aE C:={PL with aU:=[],aT:=[],aQ:=[]}
theorem e:ay Pg C Q Tryz.f65 0 id st v o tree:=fun J K x=>by cases x
theorem b (a0 a1:Int):ax Pg C Q Tryz.f65 0 id st v o (S a0 a1) (begin a0 a1):=fun J K=>by kernel_rfl
def told (a0 a1:Int):aa.Told A:=⟨f a0 a1,fun r=>af Pg C 65 (S a0 a1) 0 (v r) (o r),fun r h=>ae G mixed Q Tryz.func65 rfl (of_decide_eq_true (by kernel_rfl)) (by rfl) id st v o (fun _=>rfl) tree e (begin a0 a1) (b a0 a1) h⟩
end gl
namespace eD
def S (a0:List Int):List (PV U):=aa.start C 9 [.agg [.sl 3 a0]] []
abbrev X:=Empty
def id:X→Nat:=fun _=>0
def st:X→List (PV U):=fun _=>[]
def begin (a0:List Int):Tr X A:=
 .call (dC.told a0) fun t1=> .ret t1
def tree:X→Tr X A:=fun _=> .fail
def f (a0:List Int):Option A:=(begin a0).run (lp tree)
def Q:aE C:={PL with aU:=[],aT:=[],aQ:=[]}
theorem e:ay Pg C Q Tryz.f122 0 id st v o tree:=fun J K x=>by cases x
theorem b (a0:List Int):ax Pg C Q Tryz.f122 0 id st v o (S a0) (begin a0):=fun J K=>by kernel_rfl
def told (a0:List Int):aa.Told A:=⟨f a0,fun r=>af Pg C 122 (S a0) 0 (v r) (o r),fun r h=>ae G mixed Q Tryz.func122 rfl (of_decide_eq_true (by kernel_rfl)) (by rfl) id st v o (fun _=>rfl) tree e (begin a0) (b a0) h⟩
end eD
namespace gk
def S (a0:Int) (a1:List Int):List (PV U):=aa.start C 12 [.agg [.int .i64 a0,.sl 3 a1]] []
abbrev X:=Empty
def id:X→Nat:=fun _=>0
def st:X→List (PV U):=fun _=>[]
def begin (a0:Int) (a1:List Int):Tr X A:=
 .call (eD.told a1) fun t1=> .ret (a0,t1)
def tree:X→Tr X A:=fun _=> .fail
def f (a0:Int) (a1:List Int):Option A:=(begin a0 a1).run (lp tree)
def Q:aE C:={PL with aU:=[],aT:=[],aQ:=[]}
theorem e:ay Pg C Q Tryz.f66 0 id st v o tree:=fun J K x=>by cases x
theorem b (a0:Int) (a1:List Int):ax Pg C Q Tryz.f66 0 id st v o (S a0 a1) (begin a0 a1):=fun J K=>by kernel_rfl
def told (a0:Int) (a1:List Int):aa.Told A:=⟨f a0 a1,fun r=>af Pg C 66 (S a0 a1) 0 (v r) (o r),fun r h=>ae G mixed Q Tryz.func66 rfl (of_decide_eq_true (by kernel_rfl)) (by rfl) id st v o (fun _=>rfl) tree e (begin a0 a1) (b a0 a1) h⟩
end gk
namespace eQ
def S (a0:List fK) (a1 a2:List Int) (a3 a4 a5 a6 a7 a8 a9 a10:Int) (a11:List Int) (a12:Int):List (PV U):=aa.start C 35 [.agg [.sl 191 a0,.sl 3 a1,.sl 3 a2,.int .i64 a3,.int .i64 a4,.int .i64 a5,.int .i64 a6,.int .i64 a7,.int .i64 a8,.int .i64 a9,.int .i64 a10,.sl 3 a11,.int .i64 a12]] []
abbrev X:=Empty
def id:X→Nat:=fun _=>0
def st:X→List (PV U):=fun _=>[]
def begin (a0:List fK) (a1 a2:List Int) (a3 a4 a5 a6 a7 a8 a9 a10:Int) (a11:List Int) (a12:Int):Tr X A:=
 .call (dL.told a0) fun t1=> .call (dC.told a1) fun t2=> .call (dC.told a2) fun t3=> .call (ga.told a4 a5 a6 a7) fun t4=> .call (gl.told a8 a9) fun t5=> .call (gk.told a10 a11) fun t6=> .ret (t1,t2,t3,a3,t4.1,t4.2.1,t4.2.2.1,t4.2.2.2,t5.1,t5.2,t6.1,t6.2,a12)
def tree:X→Tr X A:=fun _=> .fail
def f (a0:List fK) (a1 a2:List Int) (a3 a4 a5 a6 a7 a8 a9 a10:Int) (a11:List Int) (a12:Int):Option A:=(begin a0 a1 a2 a3 a4 a5 a6 a7 a8 a9 a10 a11 a12).run (lp tree)
def Q:aE C:={PL with aU:=[],aT:=[],aQ:=[]}
theorem e:ay Pg C Q Tryz.f19 0 id st v o tree:=fun J K x=>by cases x
theorem b (a0:List fK) (a1 a2:List Int) (a3 a4 a5 a6 a7 a8 a9 a10:Int) (a11:List Int) (a12:Int):ax Pg C Q Tryz.f19 0 id st v o (S a0 a1 a2 a3 a4 a5 a6 a7 a8 a9 a10 a11 a12) (begin a0 a1 a2 a3 a4 a5 a6 a7 a8 a9 a10 a11 a12):=fun J K=>by kernel_rfl
def told (a0:List fK) (a1 a2:List Int) (a3 a4 a5 a6 a7 a8 a9 a10:Int) (a11:List Int) (a12:Int):aa.Told A:=⟨f a0 a1 a2 a3 a4 a5 a6 a7 a8 a9 a10 a11 a12,fun r=>af Pg C 19 (S a0 a1 a2 a3 a4 a5 a6 a7 a8 a9 a10 a11 a12) 0 (v r) (o r),fun r h=>ae G mixed Q Tryz.func19 rfl (of_decide_eq_true (by kernel_rfl)) (by rfl) id st v o (fun _=>rfl) tree e (begin a0 a1 a2 a3 a4 a5 a6 a7 a8 a9 a10 a11 a12) (b a0 a1 a2 a3 a4 a5 a6 a7 a8 a9 a10 a11 a12) h⟩
end eQ
namespace eM
def S (a0 a1 a2 a3 a4 a5:Int):List (PV U):=aa.start C 37 [.agg [.int .i64 a0,.int .i64 a1,.int .i64 a2,.int .i64 a3,.int .i64 a4,.int .i64 a5]] []
inductive X where
 | Bw (x0 x1 x2 x3 x4 x5 x6 x7 x8 x9 x10 x11:Int)
def id:X→Nat
 | .Bw .. =>14
def st:X→List (PV U)
 | .Bw x0 x1 x2 x3 x4 x5 x6 x7 x8 x9 x10 x11=>eH 37 [(2,.box [.int .i64 x0,.int .i64 x1,.int .i64 x2,.int .i64 x3,.int .i64 x4,.int .i64 x5]),(3,.box [.int .i64 x6,.int .i64 x7,.int .i64 x8,.int .i64 x9,.int .i64 x10,.int .i64 x11])]
def begin (a0 a1 a2 a3 a4 a5:Int):Tr X A:=
 let u0_0:Tr X A:=(.jump (.Bw (0:Int) (0:Int) (0:Int) (0:Int) (0:Int) (0:Int) a0 (0:Int) (0:Int) a3 a4 a5));let u0_1:Tr X A:=(.ite (decide (a0=(5:Int))) (.jump (.Bw (0:Int) (0:Int) (0:Int) (0:Int) (0:Int) (0:Int) a0 (0:Int) a2 (0:Int) (0:Int) (0:Int))) (.jump (.Bw (0:Int) (0:Int) (0:Int) (0:Int) (0:Int) (0:Int) a0 (0:Int) (0:Int) (0:Int) (0:Int) (0:Int)))); .ite (decide (a0=(1:Int)))
  (.jump (.Bw (0:Int) (0:Int) (0:Int) (0:Int) (0:Int) (0:Int) a0 a1 (0:Int) a3 a4 a5))
  (.ite (decide (a0=(2:Int)))
   (.jump (.Bw (0:Int) (0:Int) (0:Int) (0:Int) (0:Int) (0:Int) a0 a1 a2 (0:Int) (0:Int) (0:Int)))
   (.ite (decide (a0=(3:Int)))
    (.ite (decide (a0=(3:Int)))
     (u0_0)
     (u0_1))
    (.ite (decide (a0=(4:Int)))
     (u0_0)
     (u0_1))))
def tree:X→Tr X A
 | .Bw x0 x1 x2 x3 x4 x5 x6 x7 x8 x9 x10 x11=>
 .ret (x6,x7,x8,x9,x10,x11)
def f (a0 a1 a2 a3 a4 a5:Int):Option A:=(begin a0 a1 a2 a3 a4 a5).run (lp tree)
def Q:aE C:={PL with aU:=[(14,[2,3])],aT:=[],aQ:=[]}
theorem e:ay Pg C Q Tryz.f238 0 id st v o tree:=fun J K x=>by cases x<;>kernel_rfl
theorem b (a0 a1 a2 a3 a4 a5:Int):ax Pg C Q Tryz.f238 0 id st v o (S a0 a1 a2 a3 a4 a5) (begin a0 a1 a2 a3 a4 a5):=fun J K=>by kernel_rfl
def told (a0 a1 a2 a3 a4 a5:Int):aa.Told A:=⟨f a0 a1 a2 a3 a4 a5,fun r=>af Pg C 238 (S a0 a1 a2 a3 a4 a5) 0 (v r) (o r),fun r h=>ae G mixed Q Tryz.func238 rfl (of_decide_eq_true (by kernel_rfl)) (by rfl) id st v o (fun _=>rfl) tree e (begin a0 a1 a2 a3 a4 a5) (b a0 a1 a2 a3 a4 a5) h⟩
end eM
namespace aH
def S (a0 a1 a2:Int):List (PV U):=aa.start C 15 [.int .i64 a0,.int .i64 a1,.int .i64 a2] []
abbrev X:=Empty
def id:X→Nat:=fun _=>0
def st:X→List (PV U):=fun _=>[]
def begin (a0 a1 a2:Int):Tr X A:=
 .ite (decide (a0≥a1))
  (.ret ((decide (a0≤a2))))
  (.ret false)
def tree:X→Tr X A:=fun _=> .fail
def f (a0 a1 a2:Int):Option A:=(begin a0 a1 a2).run (lp tree)
def Q:aE C:={PL with aU:=[],aT:=[],aQ:=[]}
theorem e:ay Pg C Q Tryz.f60 0 id st v o tree:=fun J K x=>by cases x
theorem b (a0 a1 a2:Int):ax Pg C Q Tryz.f60 0 id st v o (S a0 a1 a2) (begin a0 a1 a2):=fun J K=>by kernel_rfl
def told (a0 a1 a2:Int):aa.Told A:=⟨f a0 a1 a2,fun r=>af Pg C 60 (S a0 a1 a2) 0 (v r) (o r),fun r h=>ae G mixed Q Tryz.func60 rfl (of_decide_eq_true (by kernel_rfl)) (by rfl) id st v o (fun _=>rfl) tree e (begin a0 a1 a2) (b a0 a1 a2) h⟩
end aH
namespace dN
def S (a0:Int):List (PV U):=aa.start C 5 [.int .i64 a0] []
abbrev X:=Empty
def id:X→Nat:=fun _=>0
def st:X→List (PV U):=fun _=>[]
def begin (a0:Int):Tr X A:=
 .call (aH.told a0 (-8:Int) (999:Int)) fun t1=> .ret t1
def tree:X→Tr X A:=fun _=> .fail
def f (a0:Int):Option A:=(begin a0).run (lp tree)
def Q:aE C:={PL with aU:=[],aT:=[],aQ:=[]}
theorem e:ay Pg C Q Tryz.f208 0 id st v o tree:=fun J K x=>by cases x
theorem b (a0:Int):ax Pg C Q Tryz.f208 0 id st v o (S a0) (begin a0):=fun J K=>by kernel_rfl
def told (a0:Int):aa.Told A:=⟨f a0,fun r=>af Pg C 208 (S a0) 0 (v r) (o r),fun r h=>ae G mixed Q Tryz.func208 rfl (of_decide_eq_true (by kernel_rfl)) (by rfl) id st v o (fun _=>rfl) tree e (begin a0) (b a0) h⟩
end dN
namespace cf
def S (a0 a1 a2:Int):List (PV U):=aa.start C 16 [.agg [.int .i64 a0,.int .i64 a1,.int .i64 a2]] []
abbrev X:=Empty
def id:X→Nat:=fun _=>0
def st:X→List (PV U):=fun _=>[]
def begin (a0 a1 a2:Int):Tr X A:=
 .call (aH.told a0 (1:Int) (7:Int)) fun t1=> .ite t1
  (.call (dN.told a1) fun t2=> .ite t2
   (.call (dN.told a2) fun t3=> .ret t3)
   (.ret false))
  (.ret false)
def tree:X→Tr X A:=fun _=> .fail
def f (a0 a1 a2:Int):Option A:=(begin a0 a1 a2).run (lp tree)
def Q:aE C:={PL with aU:=[],aT:=[],aQ:=[]}
theorem e:ay Pg C Q Tryz.f174 0 id st v o tree:=fun J K x=>by cases x
theorem b (a0 a1 a2:Int):ax Pg C Q Tryz.f174 0 id st v o (S a0 a1 a2) (begin a0 a1 a2):=fun J K=>by kernel_rfl
def told (a0 a1 a2:Int):aa.Told A:=⟨f a0 a1 a2,fun r=>af Pg C 174 (S a0 a1 a2) 0 (v r) (o r),fun r h=>ae G mixed Q Tryz.func174 rfl (of_decide_eq_true (by kernel_rfl)) (by rfl) id st v o (fun _=>rfl) tree e (begin a0 a1 a2) (b a0 a1 a2) h⟩
end cf
namespace fQ
def S (a0 a1 a2 a3 a4 a5:Int):List (PV U):=aa.start C 43 [.agg [.int .i64 a0,.int .i64 a1,.int .i64 a2,.int .i64 a3,.int .i64 a4,.int .i64 a5]] []
abbrev X:=Empty
def id:X→Nat:=fun _=>0
def st:X→List (PV U):=fun _=>[]
def begin (a0 a1 a2 a3 a4 a5:Int):Tr X A:=
 .last (.call (eM.told a0 a1 a2 a3 a4 a5) fun t1=> .last (.val ((!(decide (a0=t1.1)&&(decide (a1=t1.2.1)&&(decide (a2=t1.2.2.1)&&(decide (a3=t1.2.2.2.1)&&(decide (a4=t1.2.2.2.2.1)&&(decide (a5=t1.2.2.2.2.2)&&true))))))):Bool) fun v2=>let u2_0:Tr X A:=(.call (cf.told a3 a4 a5) fun t3=> .ret t3);let u2_1:Tr X A:=(.ite (decide (a0=(5:Int))) (.call (aH.told a2 (1:Int) (5:Int)) fun t3=> .ret t3) (.ret ((decide (a0=(6:Int)))))); .ite v2
  (.ret false)
  (.ite (decide (a0=(1:Int)))
   (.call (aH.told a1 (0:Int) (7:Int)) fun t3=> .ite t3
    (.call (cf.told a3 a4 a5) fun t4=> .ret t4)
    (.ret false))
   (.ite (decide (a0=(2:Int)))
    (.call (aH.told a1 (0:Int) (7:Int)) fun t3=> .ite t3
     (.call (aH.told a2 (0:Int) (3:Int)) fun t4=> .ret t4)
     (.ret false))
    (.ite (decide (a0=(3:Int)))
     (.ite (decide (a0=(3:Int)))
      (u2_0)
      (u2_1))
     (.ite (decide (a0=(4:Int)))
      (u2_0)
      (u2_1)))))))
def tree:X→Tr X A:=fun _=> .fail
def f (a0 a1 a2 a3 a4 a5:Int):Option A:=(begin a0 a1 a2 a3 a4 a5).run (lp tree)
def Q:aE C:={PL with aU:=[],aT:=[(1,[],(.take 0 [1,2] (.take 1 [0] (.alt 2 (.alt 3 .done .nil) .nil))))],aQ:=[]}
theorem e:ay Pg C Q Tryz.f207 0 id st v o tree:=fun J K x=>by cases x
theorem b (a0 a1 a2 a3 a4 a5:Int):ax Pg C Q Tryz.f207 0 id st v o (S a0 a1 a2 a3 a4 a5) (begin a0 a1 a2 a3 a4 a5):=fun J K=>by kernel_rfl
def told (a0 a1 a2 a3 a4 a5:Int):aa.Told A:=⟨f a0 a1 a2 a3 a4 a5,fun r=>af Pg C 207 (S a0 a1 a2 a3 a4 a5) 0 (v r) (o r),fun r h=>ae G mixed Q Tryz.func207 rfl (of_decide_eq_true (by kernel_rfl)) (by rfl) id st v o (fun _=>rfl) tree e (begin a0 a1 a2 a3 a4 a5) (b a0 a1 a2 a3 a4 a5) h⟩
end fQ
namespace bt
def S (a0:List aq):List (PV U):=aa.start C 41 [.sl 204 a0] []
inductive X where
 | c3 (x0:List aq) (x1 x2:Int)
def id:X→Nat
 | .c3 .. =>3
def st:X→List (PV U)
 | .c3 x0 x1 x2=>eH 41 [(0,.sl 204 x0),(3,.int .i64 x1),(4,.int .i64 x2)]
def begin (a0:List aq):Tr X A:=
 .jump (.c3 a0 (0:Int) (0:Int))
def tree:X→Tr X A
 | .c3 x0 x1 x2=>
 .ite (decide (x2<(List.length x0:Int)))
  (.aG ((0:Int)≤x2∧x2<(List.length x0:Int)) (.call (fQ.told ((ah x0 x2).f0) ((ah x0 x2).f1) ((ah x0 x2).f2) ((ah x0 x2).f3.f0) ((ah x0 x2).f3.f1) ((ah x0 x2).f3.f2)) fun t1=>let u1_0:Tr X A:=(.call (aH.told (wr (x1+(1:Int))) (0:Int) (3:Int)) fun t2=> .ite (!t2) (.ret false) (.jump (.c3 x0 (wr (x1+(1:Int))) (wr (x2+(1:Int))))));let u1_1:Tr X A:=(.ite (decide ((ah x0 x2).f0=(6:Int))) (.call (aH.told (wr (x1-(1:Int))) (0:Int) (3:Int)) fun t2=> .ite (!t2) (.ret false) (.jump (.c3 x0 (wr (x1-(1:Int))) (wr (x2+(1:Int)))))) (.call (aH.told x1 (0:Int) (3:Int)) fun t2=> .ite (!t2) (.ret false) (.jump (.c3 x0 x1 (wr (x2+(1:Int))))))); .ite (!t1)
   (.ret false)
   (.aG ((0:Int)≤x2∧x2<(List.length x0:Int)) (.ite (decide ((ah x0 x2).f0=(4:Int)))
    (.ite (decide ((ah x0 x2).f0=(4:Int)))
     (u1_0)
     (u1_1))
    (.ite (decide ((ah x0 x2).f0=(5:Int)))
     (u1_0)
     (u1_1))))))
  (.ite (decide (x1=(0:Int)))
   (.ret ((decide ((List.length x0:Int)≤(24:Int)))))
   (.ret false))
def f (a0:List aq):Option A:=(begin a0).run (lp tree)
def Q:aE C:={PL with aU:=[(3,[0,3,4,37,38,39])],aT:=[],aQ:=[]}
theorem e:ay Pg C Q Tryz.f173 0 id st v o tree:=fun J K x=>by cases x<;>kernel_rfl
theorem b (a0:List aq):ax Pg C Q Tryz.f173 0 id st v o (S a0) (begin a0):=fun J K=>by kernel_rfl
def told (a0:List aq):aa.Told A:=⟨f a0,fun r=>af Pg C 173 (S a0) 0 (v r) (o r),fun r h=>ae G mixed Q Tryz.func173 rfl (of_decide_eq_true (by kernel_rfl)) (by rfl) id st v o (fun _=>rfl) tree e (begin a0) (b a0) h⟩
end bt
namespace cO
def S (a0:List az):List (PV U):=aa.start C 33 [.agg [.sl 164 a0]] []
inductive X where
 | c2 (x0:List az) (x1:Int)
def id:X→Nat
 | .c2 .. =>2
def st:X→List (PV U)
 | .c2 x0 x1=>eH 33 [(1,.box [.sl 164 x0]),(3,.int .i64 x1)]
def begin (a0:List az):Tr X A:=
 .jump (.c2 a0 (0:Int))
def tree:X→Tr X A
 | .c2 x0 x1=>
 .ite (decide (x1<(List.length x0:Int)))
  (.aG ((0:Int)≤x1∧x1<(List.length x0:Int)) (.call (bt.told ((aV x0 x1).f0)) fun t1=> .ite (!t1)
   (.ret false)
   (.aG ((0:Int)≤x1∧x1<(List.length x0:Int)) (.call (cf.told ((aV x0 x1).f1.f0) ((aV x0 x1).f1.f1) ((aV x0 x1).f1.f2)) fun t2=> .ite (!t2)
    (.ret false)
    (.jump (.c2 x0 (wr (x1+(1:Int)))))))))
  (.call (aH.told (List.length x0:Int) (1:Int) (6:Int)) fun t1=> .ret t1)
def f (a0:List az):Option A:=(begin a0).run (lp tree)
def Q:aE C:={PL with aU:=[(2,[1,3])],aT:=[],aQ:=[]}
theorem e:ay Pg C Q Tryz.f141 0 id st v o tree:=fun J K x=>by cases x<;>kernel_rfl
theorem b (a0:List az):ax Pg C Q Tryz.f141 0 id st v o (S a0) (begin a0):=fun J K=>by kernel_rfl
def told (a0:List az):aa.Told A:=⟨f a0,fun r=>af Pg C 141 (S a0) 0 (v r) (o r),fun r h=>ae G mixed Q Tryz.func141 rfl (of_decide_eq_true (by kernel_rfl)) (by rfl) id st v o (fun _=>rfl) tree e (begin a0) (b a0) h⟩
end cO
namespace bu
def S (a0 a1 a2:Int):List (PV U):=aa.start C 27 [.int .i64 a0,.int .i64 a1,.int .i64 a2] []
abbrev X:=Empty
def id:X→Nat:=fun _=>0
def st:X→List (PV U):=fun _=>[]
def begin (a0 a1 a2:Int):Tr X A:=
 .call (aH.told a0 (0:Int) (5:Int)) fun t1=> .ite (!t1)
  (.ret ((-1:Int)))
  (.call (aH.told a1 (0:Int) (8:Int)) fun t2=> .ite (!t2)
   (.ret ((-1:Int)))
   (.call (aH.told a2 (0:Int) (24:Int)) fun t3=> .ite (!t3)
    (.ret ((-1:Int)))
    (.ret ((wr (a0+(wr ((8:Int)*(wr (a1+(wr ((16:Int)*a2))))))))))))
def tree:X→Tr X A:=fun _=> .fail
def f (a0 a1 a2:Int):Option A:=(begin a0 a1 a2).run (lp tree)
def Q:aE C:={PL with aU:=[],aT:=[],aQ:=[]}
theorem e:ay Pg C Q Tryz.f192 0 id st v o tree:=fun J K x=>by cases x
theorem b (a0 a1 a2:Int):ax Pg C Q Tryz.f192 0 id st v o (S a0 a1 a2) (begin a0 a1 a2):=fun J K=>by kernel_rfl
def told (a0 a1 a2:Int):aa.Told A:=⟨f a0 a1 a2,fun r=>af Pg C 192 (S a0 a1 a2) 0 (v r) (o r),fun r h=>ae G mixed Q Tryz.func192 rfl (of_decide_eq_true (by kernel_rfl)) (by rfl) id st v o (fun _=>rfl) tree e (begin a0 a1 a2) (b a0 a1 a2) h⟩
end bu
namespace bg
def S (a0:Int):List (PV U):=aa.start C 30 [.int .i64 a0] []
abbrev X:=Empty
def id:X→Nat:=fun _=>0
def st:X→List (PV U):=fun _=>[]
def begin (a0:Int):Tr X A:=
 .ite (decide (a0<(0:Int)))
  (.ret ((-1:Int),(-1:Int),(-1:Int)))
  (.ite (decide (a0>(100000:Int)))
   (.ret ((-1:Int),(-1:Int),(-1:Int)))
   (.aG ((8:Int)≠0) (.aG ((8:Int)≠0) (.aG ((16:Int)≠0) (.aG ((128:Int)≠0) (.call (bu.told (Int.tmod a0 (8:Int)) (Int.tmod (wr (Int.tdiv a0 (8:Int))) (16:Int)) (wr (Int.tdiv a0 (128:Int)))) fun t1=> .ite (!decide (t1=a0))
    (.ret ((-1:Int),(-1:Int),(-1:Int)))
    (.ret ((Int.tmod a0 (8:Int)),(Int.tmod (wr (Int.tdiv a0 (8:Int))) (16:Int)),(wr (Int.tdiv a0 (128:Int)))))))))))
def tree:X→Tr X A:=fun _=> .fail
def f (a0:Int):Option A:=(begin a0).run (lp tree)
def Q:aE C:={PL with aU:=[],aT:=[],aQ:=[]}
theorem e:ay Pg C Q Tryz.f154 0 id st v o tree:=fun J K x=>by cases x
theorem b (a0:Int):ax Pg C Q Tryz.f154 0 id st v o (S a0) (begin a0):=fun J K=>by kernel_rfl
def told (a0:Int):aa.Told A:=⟨f a0,fun r=>af Pg C 154 (S a0) 0 (v r) (o r),fun r h=>ae G mixed Q Tryz.func154 rfl (of_decide_eq_true (by kernel_rfl)) (by rfl) id st v o (fun _=>rfl) tree e (begin a0) (b a0) h⟩
end bg
namespace eA
def S (a0:Int):List (PV U):=aa.start C 5 [.int .i64 a0] []
abbrev X:=Empty
def id:X→Nat:=fun _=>0
def st:X→List (PV U):=fun _=>[]
def begin (a0:Int):Tr X A:=
 .call (aH.told a0 (-1000000:Int) (1000000:Int)) fun t1=> .ret t1
def tree:X→Tr X A:=fun _=> .fail
def f (a0:Int):Option A:=(begin a0).run (lp tree)
def Q:aE C:={PL with aU:=[],aT:=[],aQ:=[]}
theorem e:ay Pg C Q Tryz.f129 0 id st v o tree:=fun J K x=>by cases x
theorem b (a0:Int):ax Pg C Q Tryz.f129 0 id st v o (S a0) (begin a0):=fun J K=>by kernel_rfl
def told (a0:Int):aa.Told A:=⟨f a0,fun r=>af Pg C 129 (S a0) 0 (v r) (o r),fun r h=>ae G mixed Q Tryz.func129 rfl (of_decide_eq_true (by kernel_rfl)) (by rfl) id st v o (fun _=>rfl) tree e (begin a0) (b a0) h⟩
end eA
namespace bX
def S (a0:List Int):List (PV U):=aa.start C 16 [.sl 3 a0] []
inductive X where
 | c2 (x0:List Int) (x1:Int)
def id:X→Nat
 | .c2 .. =>2
def st:X→List (PV U)
 | .c2 x0 x1=>eH 16 [(0,.sl 3 x0),(3,.int .i64 x1)]
def begin (a0:List Int):Tr X A:=
 .jump (.c2 a0 (0:Int))
def tree:X→Tr X A
 | .c2 x0 x1=>
 .ite (decide (x1<(List.length x0:Int)))
  (.aG ((0:Int)≤x1∧x1<(List.length x0:Int)) (.call (eA.told (eG x0 x1)) fun t1=> .ite (!t1)
   (.ret false)
   (.jump (.c2 x0 (wr (x1+(1:Int)))))))
  (.ret true)
def f (a0:List Int):Option A:=(begin a0).run (lp tree)
def Q:aE C:={PL with aU:=[(2,[0,3])],aT:=[],aQ:=[]}
theorem e:ay Pg C Q Tryz.f113 0 id st v o tree:=fun J K x=>by cases x<;>kernel_rfl
theorem b (a0:List Int):ax Pg C Q Tryz.f113 0 id st v o (S a0) (begin a0):=fun J K=>by kernel_rfl
def told (a0:List Int):aa.Told A:=⟨f a0,fun r=>af Pg C 113 (S a0) 0 (v r) (o r),fun r h=>ae G mixed Q Tryz.func113 rfl (of_decide_eq_true (by kernel_rfl)) (by rfl) id st v o (fun _=>rfl) tree e (begin a0) (b a0) h⟩
end bX
namespace fj
def S (a0:List az) (a1:List Int):List (PV U):=aa.start C 72 [.agg [.sl 164 a0],.sl 3 a1] []
inductive X where
 | c7 (x0:List Int) (x1 x2:Int)
def id:X→Nat
 | .c7 .. =>7
def st:X→List (PV U)
 | .c7 x0 x1 x2=>eH 72 [(1,.sl 3 x0),(6,.int .i64 x1),(8,.int .i64 x2)]
def begin (a0:List az) (a1:List Int):Tr X A:=
 .call (cO.told a0) fun t1=> .ite (!t1)
  (.ret false)
  (.ite (!decide ((List.length a1:Int)=(49:Int)))
   (.ret false)
   (.aG ((0:Int)≤(8:Int)∧(8:Int)<(List.length a1:Int)) (.call (bg.told (eG a1 (8:Int))) fun t2=> .ite (decide (t2.1<(0:Int)))
    (.ret false)
    (.ite (decide (t2.1≥(List.length a0:Int)))
     (.ret false)
     (.aG ((0:Int)≤(0:Int)∧(0:Int)≤(8:Int)∧(8:Int)≤(List.length a1:Int)) (.call (bX.told (List.take (Int.toNat (8:Int)) a1)) fun t3=> .ite (!t3)
      (.ret false)
      (.aG ((0:Int)≤(25:Int)∧(25:Int)≤(wr ((25:Int)+t2.2.2))∧(wr ((25:Int)+t2.2.2))≤(List.length a1:Int)) (.call (bX.told (List.drop (Int.toNat (25:Int)) (List.take (Int.toNat (wr ((25:Int)+t2.2.2))) a1))) fun t4=> .ite (!t4)
       (.ret false)
       (.jump (.c7 a1 t2.2.1 (0:Int)))))))))))
def tree:X→Tr X A
 | .c7 x0 x1 x2=>
 .ite (decide (x2<x1))
  (.aG ((0:Int)≤(wr ((9:Int)+(wr ((2:Int)*x2))))∧(wr ((9:Int)+(wr ((2:Int)*x2))))<(List.length x0:Int)) (.call (aH.told (eG x0 (wr ((9:Int)+(wr ((2:Int)*x2))))) (0:Int) (7:Int)) fun t1=> .ite (!t1)
   (.ret false)
   (.aG ((0:Int)≤(wr ((wr ((9:Int)+(wr ((2:Int)*x2))))+(1:Int)))∧(wr ((wr ((9:Int)+(wr ((2:Int)*x2))))+(1:Int)))<(List.length x0:Int)) (.call (eA.told (eG x0 (wr ((wr ((9:Int)+(wr ((2:Int)*x2))))+(1:Int))))) fun t2=> .ite (!t2)
    (.ret false)
    (.jump (.c7 x0 x1 (wr (x2+(1:Int)))))))))
  (.ret true)
def f (a0:List az) (a1:List Int):Option A:=(begin a0 a1).run (lp tree)
def Q:aE C:={PL with aU:=[(7,[1,6,8])],aT:=[],aQ:=[]}
theorem e:ay Pg C Q Tryz.f111 0 id st v o tree:=fun J K x=>by cases x<;>kernel_rfl
theorem b (a0:List az) (a1:List Int):ax Pg C Q Tryz.f111 0 id st v o (S a0 a1) (begin a0 a1):=fun J K=>by kernel_rfl
def told (a0:List az) (a1:List Int):aa.Told A:=⟨f a0 a1,fun r=>af Pg C 111 (S a0 a1) 0 (v r) (o r),fun r h=>ae G mixed Q Tryz.func111 rfl (of_decide_eq_true (by kernel_rfl)) (by rfl) id st v o (fun _=>rfl) tree e (begin a0 a1) (b a0 a1) h⟩
end fj
namespace fl
def S (a0 a1 a2 a3:Int):List (PV U):=aa.start C 25 [.agg [.int .i64 a0,.int .i64 a1,.int .i64 a2,.int .i64 a3]] []
abbrev X:=Empty
def id:X→Nat:=fun _=>0
def st:X→List (PV U):=fun _=>[]
def begin (a0 a1 a2 a3:Int):Tr X A:=
 .call (aH.told a1 (1:Int) (5000:Int)) fun t1=> .ite t1
  (.call (aH.told a0 (0:Int) a1) fun t2=> .ite t2
   (.call (aH.told a2 (1:Int) a1) fun t3=> .ite t3
    (.call (aH.told a3 (0:Int) (100:Int)) fun t4=> .ret t4)
    (.ret false))
   (.ret false))
  (.ret false)
def tree:X→Tr X A:=fun _=> .fail
def f (a0 a1 a2 a3:Int):Option A:=(begin a0 a1 a2 a3).run (lp tree)
def Q:aE C:={PL with aU:=[],aT:=[],aQ:=[]}
theorem e:ay Pg C Q Tryz.f112 0 id st v o tree:=fun J K x=>by cases x
theorem b (a0 a1 a2 a3:Int):ax Pg C Q Tryz.f112 0 id st v o (S a0 a1 a2 a3) (begin a0 a1 a2 a3):=fun J K=>by kernel_rfl
def told (a0 a1 a2 a3:Int):aa.Told A:=⟨f a0 a1 a2 a3,fun r=>af Pg C 112 (S a0 a1 a2 a3) 0 (v r) (o r),fun r h=>ae G mixed Q Tryz.func112 rfl (of_decide_eq_true (by kernel_rfl)) (by rfl) id st v o (fun _=>rfl) tree e (begin a0 a1 a2 a3) (b a0 a1 a2 a3) h⟩
end fl
namespace ff
def S (a0 a1:Int):List (PV U):=aa.start C 18 [.agg [.int .i64 a0,.int .i64 a1]] []
abbrev X:=Empty
def id:X→Nat:=fun _=>0
def st:X→List (PV U):=fun _=>[]
def begin (a0 a1:Int):Tr X A:=
 .ite (decide (a0≥(0:Int)))
  (.ite (decide (a0≤a1))
   (.ret ((decide (a1≤(1000000:Int)))))
   (.ret false))
  (.ret false)
def tree:X→Tr X A:=fun _=> .fail
def f (a0 a1:Int):Option A:=(begin a0 a1).run (lp tree)
def Q:aE C:={PL with aU:=[],aT:=[],aQ:=[]}
theorem e:ay Pg C Q Tryz.f114 0 id st v o tree:=fun J K x=>by cases x
theorem b (a0 a1:Int):ax Pg C Q Tryz.f114 0 id st v o (S a0 a1) (begin a0 a1):=fun J K=>by kernel_rfl
def told (a0 a1:Int):aa.Told A:=⟨f a0 a1,fun r=>af Pg C 114 (S a0 a1) 0 (v r) (o r),fun r h=>ae G mixed Q Tryz.func114 rfl (of_decide_eq_true (by kernel_rfl)) (by rfl) id st v o (fun _=>rfl) tree e (begin a0 a1) (b a0 a1) h⟩
end ff
namespace fm
def S (a0:List Int):List (PV U):=aa.start C 27 [.sl 3 a0] []
abbrev X:=Empty
def id:X→Nat:=fun _=>0
def st:X→List (PV U):=fun _=>[]
def begin (a0:List Int):Tr X A:=
 .ite (!decide ((List.length a0:Int)=(49:Int)))
  (.ret (([]:List Int)))
  (.aG ((0:Int)≤(8:Int)∧(8:Int)<(List.length a0:Int)) (.call (bg.told (eG a0 (8:Int))) fun t1=> .ite (decide (t1.2.2<(0:Int)))
   (.ret (([]:List Int)))
   (.aG ((0:Int)≤(25:Int)∧(25:Int)≤(wr ((25:Int)+t1.2.2))∧(wr ((25:Int)+t1.2.2))≤(List.length a0:Int)) (.aG (((List.length ([]:List Int):Int)+(List.length (List.drop (Int.toNat (25:Int)) (List.take (Int.toNat (wr ((25:Int)+t1.2.2))) a0)):Int))*(8:Nat)≤room) (.val ((([]:List Int)++(List.drop (Int.toNat (25:Int)) (List.take (Int.toNat (wr ((25:Int)+t1.2.2))) a0))):List Int) fun v2=> .ret v2)))))
def tree:X→Tr X A:=fun _=> .fail
def f (a0:List Int):Option A:=(begin a0).run (lp tree)
def Q:aE C:={PL with aU:=[],aT:=[],aQ:=[]}
theorem e:ay Pg C Q Tryz.f156 0 id st v o tree:=fun J K x=>by cases x
theorem b (a0:List Int):ax Pg C Q Tryz.f156 0 id st v o (S a0) (begin a0):=fun J K=>by kernel_rfl
def told (a0:List Int):aa.Told A:=⟨f a0,fun r=>af Pg C 156 (S a0) 0 (v r) (o r),fun r h=>ae G mixed Q Tryz.func156 rfl (of_decide_eq_true (by kernel_rfl)) (by rfl) id st v o (fun _=>rfl) tree e (begin a0) (b a0) h⟩
end fm
namespace bN
def S (a0 a1:List Int):List (PV U):=aa.start C 27 [.sl 3 a0,.sl 3 a1] []
inductive X where
 | c2 (x0 x1:List Int) (x2:Int)
def id:X→Nat
 | .c2 .. =>2
def st:X→List (PV U)
 | .c2 x0 x1 x2=>eH 27 [(0,.sl 3 x0),(1,.sl 3 x1),(5,.int .i64 x2)]
def begin (a0 a1:List Int):Tr X A:=
 .jump (.c2 a0 a1 (0:Int))
def tree:X→Tr X A
 | .c2 x0 x1 x2=>
 .ite (decide (x2<(List.length x0:Int)))
  (.ite (decide (x2≥(List.length x1:Int)))
   (.ret false)
   (.aG ((0:Int)≤x2∧x2<(List.length x0:Int)) (.aG ((0:Int)≤x2∧x2<(List.length x1:Int)) (.ite (!decide ((eG x0 x2)=(eG x1 x2)))
    (.ret false)
    (.jump (.c2 x0 x1 (wr (x2+(1:Int)))))))))
  (.ret true)
def f (a0 a1:List Int):Option A:=(begin a0 a1).run (lp tree)
def Q:aE C:={PL with aU:=[(2,[0,1,5])],aT:=[(4,[],(.take 0 [] (.take 1 [] (.take 2 [] (.take 3 [] (.take 4 [] (.take 5 [] (.take 6 [] (.take 7 [] (.take 9 [] (.take 10 [] (.take 11 [] (.take 8 [0,1,2,3,4,5,6,7,9,10,11,12] (.take 12 [0,1,2,3,4,5,6,7,8,9,10,11] (.take 13 [] (.take 14 [] .done))))))))))))))))],aQ:=[]}
theorem e:ay Pg C Q Tryz.f155 0 id st v o tree:=fun J K x=>by cases x<;>kernel_rfl
theorem b (a0 a1:List Int):ax Pg C Q Tryz.f155 0 id st v o (S a0 a1) (begin a0 a1):=fun J K=>by kernel_rfl
def told (a0 a1:List Int):aa.Told A:=⟨f a0 a1,fun r=>af Pg C 155 (S a0 a1) 0 (v r) (o r),fun r h=>ae G mixed Q Tryz.func155 rfl (of_decide_eq_true (by kernel_rfl)) (by rfl) id st v o (fun _=>rfl) tree e (begin a0 a1) (b a0 a1) h⟩
end bN
namespace fW
def S (a0:List Int) (a1:Int) (a2:List Int):List (PV U):=aa.start C 20 [.sl 3 a0,.agg [.int .i64 a1,.sl 3 a2]] []
abbrev X:=Empty
def id:X→Nat:=fun _=>0
def st:X→List (PV U):=fun _=>[]
def begin (a0:List Int) (a1:Int) (a2:List Int):Tr X A:=
 .last (.call (aH.told a1 (0:Int) (List.length a2:Int)) fun t1=> .ite t1
  (.last (.call (fm.told a0) fun t2=> .last (.call (bN.told a2 t2) fun t3=> .ret t3)))
  (.last (.last (.ret false))))
def tree:X→Tr X A:=fun _=> .fail
def f (a0:List Int) (a1:Int) (a2:List Int):Option A:=(begin a0 a1 a2).run (lp tree)
def Q:aE C:={PL with aU:=[],aT:=[(1,[],(.take 0 [] (.take 2 [] (.take 3 [] (.take 1 [0,2,3,4,5] (.take 4 [0,1,2,3] (.take 5 [] (.alt 6 (.take 7 [] (.take 8 [] (.take 9 [] (.take 11 [] (.take 10 [0,1,2,3,4,5,6,7,8,9,11,12] (.alt 12 (.alt 13 (.take 14 [] (.take 15 [] .done)) .nil) .nil)))))) .nil))))))))],aQ:=[]}
theorem e:ay Pg C Q Tryz.f115 0 id st v o tree:=fun J K x=>by cases x
theorem b (a0:List Int) (a1:Int) (a2:List Int):ax Pg C Q Tryz.f115 0 id st v o (S a0 a1 a2) (begin a0 a1 a2):=fun J K=>by kernel_rfl
def told (a0:List Int) (a1:Int) (a2:List Int):aa.Told A:=⟨f a0 a1 a2,fun r=>af Pg C 115 (S a0 a1 a2) 0 (v r) (o r),fun r h=>ae G mixed Q Tryz.func115 rfl (of_decide_eq_true (by kernel_rfl)) (by rfl) id st v o (fun _=>rfl) tree e (begin a0 a1 a2) (b a0 a1 a2) h⟩
end fW
namespace eP
def S (a0:List az) (a1 a2:List Int) (a3 a4 a5 a6 a7 a8 a9 a10:Int) (a11:List Int) (a12:Int):List (PV U):=aa.start C 40 [.agg [.sl 164 a0,.sl 3 a1,.sl 3 a2,.int .i64 a3,.int .i64 a4,.int .i64 a5,.int .i64 a6,.int .i64 a7,.int .i64 a8,.int .i64 a9,.int .i64 a10,.sl 3 a11,.int .i64 a12]] []
abbrev X:=Empty
def id:X→Nat:=fun _=>0
def st:X→List (PV U):=fun _=>[]
def begin (a0:List az) (a1 a2:List Int) (a3 a4 a5 a6 a7 a8 a9 a10:Int) (a11:List Int) (a12:Int):Tr X A:=
 .call (fj.told a0 a1) fun t1=> .ite t1
  (.call (fl.told a4 a5 a6 a7) fun t2=> .ite t2
   (.call (bX.told a2) fun t3=> .ite t3
    (.call (aH.told a3 (0:Int) (400000:Int)) fun t4=> .ite t4
     (.call (ff.told a8 a9) fun t5=> .ite t5
      (.call (fW.told a1 a10 a11) fun t6=> .ite t6
       (.call (aH.told a12 (0:Int) (100000:Int)) fun t7=> .ret t7)
       (.ret false))
      (.ret false))
     (.ret false))
    (.ret false))
   (.ret false))
  (.ret false)
def tree:X→Tr X A:=fun _=> .fail
def f (a0:List az) (a1 a2:List Int) (a3 a4 a5 a6 a7 a8 a9 a10:Int) (a11:List Int) (a12:Int):Option A:=(begin a0 a1 a2 a3 a4 a5 a6 a7 a8 a9 a10 a11 a12).run (lp tree)
def Q:aE C:={PL with aU:=[],aT:=[],aQ:=[]}
theorem e:ay Pg C Q Tryz.f59 0 id st v o tree:=fun J K x=>by cases x
theorem b (a0:List az) (a1 a2:List Int) (a3 a4 a5 a6 a7 a8 a9 a10:Int) (a11:List Int) (a12:Int):ax Pg C Q Tryz.f59 0 id st v o (S a0 a1 a2 a3 a4 a5 a6 a7 a8 a9 a10 a11 a12) (begin a0 a1 a2 a3 a4 a5 a6 a7 a8 a9 a10 a11 a12):=fun J K=>by kernel_rfl
def told (a0:List az) (a1 a2:List Int) (a3 a4 a5 a6 a7 a8 a9 a10:Int) (a11:List Int) (a12:Int):aa.Told A:=⟨f a0 a1 a2 a3 a4 a5 a6 a7 a8 a9 a10 a11 a12,fun r=>af Pg C 59 (S a0 a1 a2 a3 a4 a5 a6 a7 a8 a9 a10 a11 a12) 0 (v r) (o r),fun r h=>ae G mixed Q Tryz.func59 rfl (of_decide_eq_true (by kernel_rfl)) (by rfl) id st v o (fun _=>rfl) tree e (begin a0 a1 a2 a3 a4 a5 a6 a7 a8 a9 a10 a11 a12) (b a0 a1 a2 a3 a4 a5 a6 a7 a8 a9 a10 a11 a12) h⟩
end eP
end
end Go.Proofs.YtmapddgocpkgeaaGreat.Ev
