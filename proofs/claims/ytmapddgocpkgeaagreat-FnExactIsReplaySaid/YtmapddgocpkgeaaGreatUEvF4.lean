/- Functions as trees, with their contracts. No conditions. -/
import Derived.Test.YtmapddgocpkgeaaGreatUEvF3
namespace Go.Proofs.YtmapddgocpkgeaaGreat.Ev
open Go.Proofs.YtmapddgocpkgeaaGreat.aa Go.RowKit
set_option linter.unusedVariables false
set_option maxRecDepth 100000
noncomputable section
namespace ba
def S (a0:Int):List (PV U):=aa.start C 5 [.int .i64 a0] []
abbrev X:=Empty
def id:X→Nat:=fun _=>0
def st:X→List (PV U):=fun _=>[]
def begin (a0:Int):Tr X A:=
 .call (aI.told a0 (0:Int) (1000:Int)) fun t1=> .ret t1
def tree:X→Tr X A:=fun _=> .fail
def f (a0:Int):Option A:=(begin a0).run (lp tree)
def Q:bA C:={PL with cb:=[],ca:=[],bV:=[]}
theorem e:aW Pg C Q Tryz.f42 0 id st v o tree:=fun J K x=>by cases x
theorem b (a0:Int):aX Pg C Q Tryz.f42 0 id st v o (S a0) (begin a0):=fun J K=>by kernel_rfl
def told (a0:Int):aa.Told A:=⟨f a0,fun r=>al Pg C 42 (S a0) 0 (v r) (o r),fun r h=>ah G mixed Q Tryz.func42 rfl (of_decide_eq_true (by kernel_rfl)) (by rfl) id st v o (fun _=>rfl) tree e (begin a0) (b a0) h⟩
end ba
namespace eZ
def S (a0 a1 a2:Int):List (PV U):=aa.start C 60 [.agg [.int .i64 a0,.int .i64 a1,.int .i64 a2]] []
abbrev X:=Empty
def id:X→Nat:=fun _=>0
def st:X→List (PV U):=fun _=>[]
def begin (a0 a1 a2:Int):Tr X A:=
 .ite (decide (a0=(1:Int)))
  (.call (aI.told a1 (1:Int) (50:Int)) fun t1=> .ite t1
   (.call (ba.told a2) fun t2=> .ret t2)
   (.ret false))
  (.ite (decide (a0=(2:Int)))
   (.ite (decide (a1≥(0:Int)))
    (.ite (decide (a1≤a2))
     (.ret ((decide (a2≤(10000:Int)))))
     (.ret false))
    (.ret false))
   (.ite (decide (a0=(3:Int)))
    (.call (aI.told a1 (0:Int) (24:Int)) fun t1=> .ite t1
     (.call (aI.told a2 (0:Int) (1:Int)) fun t2=> .ret t2)
     (.ret false))
    (.ite (decide (a0=(4:Int)))
     (.call (ck.told a1 a2) fun t1=> .ret t1)
     (.ite (decide (a0=(5:Int)))
      (.call (dD.told a1) fun t1=> .ite t1
       (.ret ((decide (a2=(0:Int)))))
       (.ret false))
      (.ret false)))))
def tree:X→Tr X A:=fun _=> .fail
def f (a0 a1 a2:Int):Option A:=(begin a0 a1 a2).run (lp tree)
def Q:bA C:={PL with cb:=[],ca:=[],bV:=[]}
theorem e:aW Pg C Q Tryz.f82 0 id st v o tree:=fun J K x=>by cases x
theorem b (a0 a1 a2:Int):aX Pg C Q Tryz.f82 0 id st v o (S a0 a1 a2) (begin a0 a1 a2):=fun J K=>by kernel_rfl
def told (a0 a1 a2:Int):aa.Told A:=⟨f a0 a1 a2,fun r=>al Pg C 82 (S a0 a1 a2) 0 (v r) (o r),fun r h=>ah G mixed Q Tryz.func82 rfl (of_decide_eq_true (by kernel_rfl)) (by rfl) id st v o (fun _=>rfl) tree e (begin a0 a1 a2) (b a0 a1 a2) h⟩
end eZ
namespace cm
def S (a0 a1 a2:Int):List (PV U):=aa.start C 16 [.int .i64 a0,.int .i64 a1,.int .i64 a2] []
abbrev X:=Empty
def id:X→Nat:=fun _=>0
def st:X→List (PV U):=fun _=>[]
def begin (a0 a1 a2:Int):Tr X A:=
 .ite (decide (a2<a1))
  (.ret a1)
  (.ret ((if a2<(if a1>a0 then a1 else a0)then a2 else(if a1>a0 then a1 else a0))))
def tree:X→Tr X A:=fun _=> .fail
def f (a0 a1 a2:Int):Option A:=(begin a0 a1 a2).run (lp tree)
def Q:bA C:={PL with cb:=[],ca:=[],bV:=[]}
theorem e:aW Pg C Q Tryz.f97 0 id st v o tree:=fun J K x=>by cases x
theorem b (a0 a1 a2:Int):aX Pg C Q Tryz.f97 0 id st v o (S a0 a1 a2) (begin a0 a1 a2):=fun J K=>by kernel_rfl
def told (a0 a1 a2:Int):aa.Told A:=⟨f a0 a1 a2,fun r=>al Pg C 97 (S a0 a1 a2) 0 (v r) (o r),fun r h=>ah G mixed Q Tryz.func97 rfl (of_decide_eq_true (by kernel_rfl)) (by rfl) id st v o (fun _=>rfl) tree e (begin a0 a1 a2) (b a0 a1 a2) h⟩
end cm
namespace dF
def S (a0:Int) (a1:List aC) (a2 a3:List Int) (a4 a5 a6 a7 a8 a9 a10 a11:Int) (a12:List Int) (a13:Int):List (PV U):=aa.start C 23 [.ptr 23 4,.int .i64 a0] [.box [.own true 164 a1,.own true 3 a2,.own true 3 a3,.int .i64 a4,.int .i64 a5,.int .i64 a6,.int .i64 a7,.int .i64 a8,.int .i64 a9,.int .i64 a10,.int .i64 a11,.own true 3 a12,.int .i64 a13]]
abbrev X:=Empty
def id:X→Nat:=fun _=>0
def st:X→List (PV U):=fun _=>[]
def begin (a0:Int) (a1:List aC) (a2 a3:List Int) (a4 a5 a6 a7 a8 a9 a10 a11:Int) (a12:List Int) (a13:Int):Tr X A:=
 .last (.call (cm.told (wr ((wr (a5+a0))-a8)) (0:Int) a6) fun t1=> .last (.ret (a1,a2,a3,a4,t1,a6,a7,a8,a9,a10,a11,a12,a13)))
def tree:X→Tr X A:=fun _=> .fail
def f (a0:Int) (a1:List aC) (a2 a3:List Int) (a4 a5 a6 a7 a8 a9 a10 a11:Int) (a12:List Int) (a13:Int):Option A:=(begin a0 a1 a2 a3 a4 a5 a6 a7 a8 a9 a10 a11 a12 a13).run (lp tree)
def Q:bA C:={PL with cb:=[],ca:=[(0,[19],(.take 0 [] (.take 1 [] (.take 2 [] (.take 3 [] (.take 5 [] (.take 7 [] (.take 8 [] (.take 9 [] (.take 12 [] (.take 13 [] (.take 14 [] (.take 4 [0,1,2,3,5,7,8,9,10,12,13,14,15] (.take 6 [] (.take 10 [0,1,2,3,4,5,6,7,8,9,12,13,14,15] (.take 11 [] (.take 15 [0,1,2,3,4,5,6,7,8,9,10,11,12,13,14] (.alt 16 (.take 17 [] (.take 18 [] (.alt 19 .done .nil))) .nil))))))))))))))))))],bV:=[]}
theorem e:aW Pg C Q Tryz.f43 1 id st v o tree:=fun J K x=>by cases x
theorem b (a0:Int) (a1:List aC) (a2 a3:List Int) (a4 a5 a6 a7 a8 a9 a10 a11:Int) (a12:List Int) (a13:Int):aX Pg C Q Tryz.f43 1 id st v o (S a0 a1 a2 a3 a4 a5 a6 a7 a8 a9 a10 a11 a12 a13) (begin a0 a1 a2 a3 a4 a5 a6 a7 a8 a9 a10 a11 a12 a13):=fun J K=>by kernel_rfl
def told (a0:Int) (a1:List aC) (a2 a3:List Int) (a4 a5 a6 a7 a8 a9 a10 a11:Int) (a12:List Int) (a13:Int):aa.Told A:=⟨f a0 a1 a2 a3 a4 a5 a6 a7 a8 a9 a10 a11 a12 a13,fun r=>al Pg C 43 (S a0 a1 a2 a3 a4 a5 a6 a7 a8 a9 a10 a11 a12 a13) 1 (v r) (o r),fun r h=>ah G mixed Q Tryz.func43 rfl (of_decide_eq_true (by kernel_rfl)) (by rfl) id st v o (fun _=>rfl) tree e (begin a0 a1 a2 a3 a4 a5 a6 a7 a8 a9 a10 a11 a12 a13) (b a0 a1 a2 a3 a4 a5 a6 a7 a8 a9 a10 a11 a12 a13) h⟩
end dF
namespace cF
def S (a0 a1 a2 a3:Int):List (PV U):=aa.start C 29 [.agg [.int .i64 a0,.int .i64 a1],.int .i64 a2,.int .i64 a3] []
abbrev X:=Empty
def id:X→Nat:=fun _=>0
def st:X→List (PV U):=fun _=>[]
def begin (a0 a1 a2 a3:Int):Tr X A:=
 .call (ck.told a0 a1) fun t1=> .ite (!t1)
  (.ret (a0,a1))
  (.call (ck.told a2 a3) fun t2=> .ite (!t2)
   (.ret (a0,a1))
   (.ret ((if(wr (a0+a2))<(1000000:Int)then(wr (a0+a2))else(1000000:Int)),(if(wr (a1+a3))<(1000000:Int)then(wr (a1+a3))else(1000000:Int)))))
def tree:X→Tr X A:=fun _=> .fail
def f (a0 a1 a2 a3:Int):Option A:=(begin a0 a1 a2 a3).run (lp tree)
def Q:bA C:={PL with cb:=[],ca:=[],bV:=[]}
theorem e:aW Pg C Q Tryz.f98 0 id st v o tree:=fun J K x=>by cases x
theorem b (a0 a1 a2 a3:Int):aX Pg C Q Tryz.f98 0 id st v o (S a0 a1 a2 a3) (begin a0 a1 a2 a3):=fun J K=>by kernel_rfl
def told (a0 a1 a2 a3:Int):aa.Told A:=⟨f a0 a1 a2 a3,fun r=>al Pg C 98 (S a0 a1 a2 a3) 0 (v r) (o r),fun r h=>ah G mixed Q Tryz.func98 rfl (of_decide_eq_true (by kernel_rfl)) (by rfl) id st v o (fun _=>rfl) tree e (begin a0 a1 a2 a3) (b a0 a1 a2 a3) h⟩
end cF
namespace gD
def S (a0 a1 a2:Int):List (PV U):=aa.start C 9 [.agg [.int .i64 a0,.int .i64 a1],.int .i64 a2] []
abbrev X:=Empty
def id:X→Nat:=fun _=>0
def st:X→List (PV U):=fun _=>[]
def begin (a0 a1 a2:Int):Tr X A:=
 .call (cF.told a0 a1 a2 a2) fun t1=> .ret (t1.1,t1.2)
def tree:X→Tr X A:=fun _=> .fail
def f (a0 a1 a2:Int):Option A:=(begin a0 a1 a2).run (lp tree)
def Q:bA C:={PL with cb:=[],ca:=[],bV:=[]}
theorem e:aW Pg C Q Tryz.f44 0 id st v o tree:=fun J K x=>by cases x
theorem b (a0 a1 a2:Int):aX Pg C Q Tryz.f44 0 id st v o (S a0 a1 a2) (begin a0 a1 a2):=fun J K=>by kernel_rfl
def told (a0 a1 a2:Int):aa.Told A:=⟨f a0 a1 a2,fun r=>al Pg C 44 (S a0 a1 a2) 0 (v r) (o r),fun r h=>ah G mixed Q Tryz.func44 rfl (of_decide_eq_true (by kernel_rfl)) (by rfl) id st v o (fun _=>rfl) tree e (begin a0 a1 a2) (b a0 a1 a2) h⟩
end gD
namespace bu
def S (a0:List Int):List (PV U):=aa.start C 57 [.sl 3 a0] []
inductive X where
 | c8 (x0:List Int) (x1 x2:Int) (x3:List fL) (x4:Int)
def id:X→Nat
 | .c8 .. =>8
def st:X→List (PV U)
 | .c8 x0 x1 x2 x3 x4=>iC 57 [(0,.sl 3 x0),(3,.int .i64 x1),(5,.int .i64 x2),(6,.own true 173 x3),(7,.int .i64 x4)]
def begin (a0:List Int):Tr X A:=
 .ite (!decide ((List.length a0:Int)=(49:Int)))
  (.ret (([]:List fL)))
  (.bH ((0:Int)≤(8:Int)∧(8:Int)<(List.length a0:Int)) (.call (bC.told (dh a0 (8:Int))) fun t1=> .ite (decide (t1.2.1<(1:Int)))
   (.ret (([]:List fL)))
   (.jump (.c8 a0 t1.1 t1.2.2 ([]:List fL) (wr (t1.2.1-(1:Int)))))))
def tree:X→Tr X A
 | .c8 x0 x1 x2 x3 x4=>
 .ite (decide (x4≥(0:Int)))
  (.bH ((0:Int)≤(wr ((9:Int)+(wr ((2:Int)*x4))))∧(wr ((9:Int)+(wr ((2:Int)*x4))))<(List.length x0:Int)) (.call (dR.told (dh x0 (wr ((9:Int)+(wr ((2:Int)*x4)))))) fun t1=> .ite (!t1)
   (.ret (([]:List fL)))
   (.bH ((0:Int)≤(wr ((wr ((9:Int)+(wr ((2:Int)*x4))))+(1:Int)))∧(wr ((wr ((9:Int)+(wr ((2:Int)*x4))))+(1:Int)))<(List.length x0:Int)) (.val ([(⟨(dh x0 (wr ((9:Int)+(wr ((2:Int)*x4))))),(dh x0 (wr ((wr ((9:Int)+(wr ((2:Int)*x4))))+(1:Int))))⟩:fL)]:List fL) fun v2=> .bH (((List.length x3:Int)+(List.length v2:Int))*(16:Nat)≤room) (.jump (.c8 x0 x1 x2 (x3++v2) (wr (x4-(1:Int)))))))))
  (.call (bQ.told x1 (0:Int) x2) fun t1=> .bH (((List.length x3:Int)+(List.length ([(⟨(8:Int),t1⟩:fL)]):Int))*(16:Nat)≤room) (.ret ((x3++[(⟨(8:Int),t1⟩:fL)]))))
def f (a0:List Int):Option A:=(begin a0).run (lp tree)
def Q:bA C:={PL with cb:=[(8,[0,3,5,6,7])],ca:=[],bV:=[]}
theorem e:aW Pg C Q Tryz.f143 0 id st v o tree:=fun J K x=>by cases x<;>kernel_rfl
theorem b (a0:List Int):aX Pg C Q Tryz.f143 0 id st v o (S a0) (begin a0):=fun J K=>by kernel_rfl
def told (a0:List Int):aa.Told A:=⟨f a0,fun r=>al Pg C 143 (S a0) 0 (v r) (o r),fun r h=>ah G mixed Q Tryz.func143 rfl (of_decide_eq_true (by kernel_rfl)) (by rfl) id st v o (fun _=>rfl) tree e (begin a0) (b a0) h⟩
end bu
namespace aO
def S (a0:Int) (a1:List Int) (a2:Int) (a3:List (List Int)) (a4:Int):List (PV U):=aa.start C 19 [.ptr 19 0,.int .i64 a0] [.box [.own true 3 a1,.int .i64 a2,.own true 27 a3,.int .i64 a4]]
abbrev X:=Empty
def id:X→Nat:=fun _=>0
def st:X→List (PV U):=fun _=>[]
def begin (a0:Int) (a1:List Int) (a2:Int) (a3:List (List Int)) (a4:Int):Tr X A:=
 .ite (decide (a4<a0))
  (.ret (false,a1,a2,a3,a4))
  (.ret (true,a1,a2,a3,(wr (a4-a0))))
def tree:X→Tr X A:=fun _=> .fail
def f (a0:Int) (a1:List Int) (a2:Int) (a3:List (List Int)) (a4:Int):Option A:=(begin a0 a1 a2 a3 a4).run (lp tree)
def Q:bA C:={PL with cb:=[],ca:=[],bV:=[]}
theorem e:aW Pg C Q Tryz.f144 1 id st v o tree:=fun J K x=>by cases x
theorem b (a0:Int) (a1:List Int) (a2:Int) (a3:List (List Int)) (a4:Int):aX Pg C Q Tryz.f144 1 id st v o (S a0 a1 a2 a3 a4) (begin a0 a1 a2 a3 a4):=fun J K=>by kernel_rfl
def told (a0:Int) (a1:List Int) (a2:Int) (a3:List (List Int)) (a4:Int):aa.Told A:=⟨f a0 a1 a2 a3 a4,fun r=>al Pg C 144 (S a0 a1 a2 a3 a4) 1 (v r) (o r),fun r h=>ah G mixed Q Tryz.func144 rfl (of_decide_eq_true (by kernel_rfl)) (by rfl) id st v o (fun _=>rfl) tree e (begin a0 a1 a2 a3 a4) (b a0 a1 a2 a3 a4) h⟩
end aO
namespace aH
def S (a0:List Int) (a1:Int) (a2:List (List Int)) (a3:Int):List (PV U):=aa.start C 28 [.ptr 28 0] [.box [.own true 3 a0,.int .i64 a1,.own true 27 a2,.int .i64 a3]]
inductive X where
 | c2 (x0:List fL) (x1 x2:Int) (x3:List Int) (x4:Int) (x5:List (List Int)) (x6:Int)
def id:X→Nat
 | .c2 .. =>2
def st:X→List (PV U)
 | .c2 x0 x1 x2 x3 x4 x5 x6=>iC 29 [(0,.ptr 28 0),(9,.own true 173 x0),(10,.int .i64 x1),(11,.int .i64 x2),(28,.box [.own true 3 x3,.int .i64 x4,.own true 27 x5,.int .i64 x6])]
def begin (a0:List Int) (a1:Int) (a2:List (List Int)) (a3:Int):Tr X A:=
 .call (bu.told a0) fun t1=> .jump (.c2 t1 (List.length t1:Int) (0:Int) a0 a1 a2 a3)
def tree:X→Tr X A
 | .c2 x0 x1 x2 x3 x4 x5 x6=>
 .ite (decide (x2<x1))
  (.bH ((0:Int)≤x2∧x2<(List.length x0:Int)) (.call (aO.told (3:Int) x3 x4 x5 x6) fun t1=> .ite (!t1.1)
   (.ret (false,t1.2.1,t1.2.2.1,t1.2.2.2.1,t1.2.2.2.2))
   (.bH ((0:Int)≤(tY x0 x2).f0∧(tY x0 x2).f0<(List.length t1.2.1:Int)) (.last (.jump (.c2 x0 x1 (wr (x2+(1:Int))) (List.set t1.2.1 (Int.toNat ((tY x0 x2).f0)) ((tY x0 x2).f1)) t1.2.2.1 t1.2.2.2.1 t1.2.2.2.2))))))
  (.ret (true,x3,x4,x5,x6))
def f (a0:List Int) (a1:Int) (a2:List (List Int)) (a3:Int):Option A:=(begin a0 a1 a2 a3).run (lp tree)
def Q:bA C:={PL with cb:=[(2,[0,9,10,11,28])],ca:=[(6,[9],(.take 0 [] (.take 1 [] (.take 2 [] (.take 4 [] (.take 6 [] (.take 3 [0,1,2,4,5,6,7] (.take 5 [0,1,2,3,4,6,7] (.take 7 [0,1,2,3,4,5,6] (.take 8 [] (.alt 9 .done .nil)))))))))))],bV:=[]}
theorem e:aW Pg C Q Tryz.f99 1 id st v o tree:=fun J K x=>by cases x<;>kernel_rfl
theorem b (a0:List Int) (a1:Int) (a2:List (List Int)) (a3:Int):aX Pg C Q Tryz.f99 1 id st v o (S a0 a1 a2 a3) (begin a0 a1 a2 a3):=fun J K=>by kernel_rfl
def told (a0:List Int) (a1:Int) (a2:List (List Int)) (a3:Int):aa.Told A:=⟨f a0 a1 a2 a3,fun r=>al Pg C 99 (S a0 a1 a2 a3) 1 (v r) (o r),fun r h=>ah G mixed Q Tryz.func99 rfl (of_decide_eq_true (by kernel_rfl)) (by rfl) id st v o (fun _=>rfl) tree e (begin a0 a1 a2 a3) (b a0 a1 a2 a3) h⟩
end aH
namespace fQ
def S (a0:List Int):List (PV U):=aa.start C 9 [.sl 3 a0] []
abbrev X:=Empty
def id:X→Nat:=fun _=>0
def st:X→List (PV U):=fun _=>[]
def begin (a0:List Int):Tr X A:=
 .ite (!decide ((List.length a0:Int)=(49:Int)))
  (.ret (([]:List Int)))
  (.bH ((0:Int)≤(0:Int)∧(0:Int)≤(8:Int)∧(8:Int)≤(List.length a0:Int)) (.call (aT.told (List.take (Int.toNat (8:Int)) a0)) fun t1=> .ret t1))
def tree:X→Tr X A:=fun _=> .fail
def f (a0:List Int):Option A:=(begin a0).run (lp tree)
def Q:bA C:={PL with cb:=[],ca:=[],bV:=[]}
theorem e:aW Pg C Q Tryz.f176 0 id st v o tree:=fun J K x=>by cases x
theorem b (a0:List Int):aX Pg C Q Tryz.f176 0 id st v o (S a0) (begin a0):=fun J K=>by kernel_rfl
def told (a0:List Int):aa.Told A:=⟨f a0,fun r=>al Pg C 176 (S a0) 0 (v r) (o r),fun r h=>ah G mixed Q Tryz.func176 rfl (of_decide_eq_true (by kernel_rfl)) (by rfl) id st v o (fun _=>rfl) tree e (begin a0) (b a0) h⟩
end fQ
namespace slices_Sort_int
def S (a0:List Int):List (PV U):=aa.start C 1 [.nj (1,[])] [.own true 3 a0]
noncomputable def f (a0:List Int):Option A:=if(a0.length:Int)<4611686018427387904 then some (a0.mergeSort fun x y=>decide (x≤y))else none
def told (a0:List Int):aa.Told A:=⟨f a0,fun r=>al Pg C 259 (S a0) 1 (v r) (o r),fun r h=>by
 unfold f at h;split at h
 ·rename_i hl;cases h;exact Cm (C:=C) (e:=3) ⟨_,Tryz.func259,rfl,rfl⟩ (fun x:Int=>x) (fun _=>rfl) (fun blk off cap zs w=>Go.Proofs.Tryz.CY blk off cap zs w) (fun p cap w=>Go.Proofs.Tryz.C3 p cap w) (show List.length (α:=Int) a0<4611686018427387904 from by omega) (show List.map (fun x:Int=>x) (List.mergeSort (α:=Int) a0 fun x y=>decide (x≤y))=List.mergeSort (α:=Int) (List.map (fun x:Int=>x) a0) fun x y=>decide (x≤y)from by simp)
 ·cases h⟩
end slices_Sort_int
namespace slices_Compact_int
def S (a0:List Int):List (PV U):=aa.start C 1 [.own true 3 a0] []
def f (a0:List Int):Option A:=some (Lib.compact a0)
def told (a0:List Int):aa.Told A:=⟨f a0,fun r=>al Pg C 260 (S a0) 0 (v r) (o r),fun r h=>by
 cases h;exact Ai (C:=C) (e:=3) ⟨_,Tryz.func260,rfl,rfl⟩ (fun x:Int=>x) (fun _=>rfl) (fun blk off cap zs w=>Go.Proofs.Tryz.A6 blk off cap zs w) (fun p cap w=>Go.Proofs.Tryz.AN p cap w) (show List.map (fun x:Int=>x) (Lib.compact (α:=Int) a0)=Lib.compact (α:=Int) (List.map (fun x:Int=>x) a0)from by simp)⟩
end slices_Compact_int
namespace cK
def S (a0 a1 a2:Int):List (PV U):=aa.start C 32 [.agg [.int .i64 a0,.int .i64 a1,.int .i64 a2]] []
inductive X where
 | c5 (x0 x1:List Int) (x2 x3:Int)
def id:X→Nat
 | .c5 .. =>5
def st:X→List (PV U)
 | .c5 x0 x1 x2 x3=>iC 32 [(3,.own true 3 x0),(14,.own true 3 x1),(15,.int .i64 x2),(16,.int .i64 x3)]
def begin (a0 a1 a2:Int):Tr X A:=
 .call (cV.told a0 a1 a2) fun t1=> .ite (!t1)
  (.ret (([]:List Int)))
  (.jump (.c5 ([]:List Int) ([a1,a2]) (List.length ([a1,a2]):Int) (0:Int)))
def tree:X→Tr X A
 | .c5 x0 x1 x2 x3=>
 .ite (decide (x3<x2))
  (.bH ((0:Int)≤x3∧x3<(List.length x1:Int)) (.ite (decide ((dh x1 x3)<(0:Int)))
   (.bH (((List.length x0:Int)+(List.length ([(wr ((-1:Int)-(dh x1 x3)))]):Int))*(8:Nat)≤room) (.jump (.c5 (x0++[(wr ((-1:Int)-(dh x1 x3)))]) x1 x2 (wr (x3+(1:Int))))))
   (.jump (.c5 x0 x1 x2 (wr (x3+(1:Int)))))))
  (.call (slices_Sort_int.told x0) fun t1=> .call (slices_Compact_int.told t1) fun t2=> .ret t2)
def f (a0 a1 a2:Int):Option A:=(begin a0 a1 a2).run (lp tree)
def Q:bA C:={PL with cb:=[(5,[3,14,15,16])],ca:=[],bV:=[]}
theorem e:aW Pg C Q Tryz.f258 0 id st v o tree:=fun J K x=>by cases x<;>kernel_rfl
theorem b (a0 a1 a2:Int):aX Pg C Q Tryz.f258 0 id st v o (S a0 a1 a2) (begin a0 a1 a2):=fun J K=>by kernel_rfl
def told (a0 a1 a2:Int):aa.Told A:=⟨f a0 a1 a2,fun r=>al Pg C 258 (S a0 a1 a2) 0 (v r) (o r),fun r h=>ah G mixed Q Tryz.func258 rfl (of_decide_eq_true (by kernel_rfl)) (by rfl) id st v o (fun _=>rfl) tree e (begin a0 a1 a2) (b a0 a1 a2) h⟩
end cK
namespace bn
def S (a0 a1 a2:Int) (a3 a4 a5 a6 a7 a8 a9 a10 a11 a12 a13 a14 a15 a16 a17 a18:Bool):List (PV U):=aa.start C 26 [.ptr 26 0,.agg [.int .i64 a0,.int .i64 a1,.int .i64 a2]] [.box [.bool a3,.bool a4,.bool a5,.bool a6,.bool a7,.bool a8,.bool a9,.bool a10,.bool a11,.bool a12,.bool a13,.bool a14,.bool a15,.bool a16,.bool a17,.bool a18]]
inductive X where
 | c2 (x0:List Int) (x1 x2:Int) (x3 x4 x5 x6 x7 x8 x9 x10 x11 x12 x13 x14 x15 x16 x17 x18:Bool)
 | c5 (x0:Int) (x1:List Int) (x2 x3:Int) (x4 x5 x6 x7 x8 x9 x10 x11 x12 x13 x14 x15 x16 x17 x18 x19:Bool)
 | c6 (x0:List Int) (x1 x2:Int) (x3 x4 x5 x6 x7 x8 x9 x10 x11 x12 x13 x14 x15 x16 x17 x18:Bool)
def id:X→Nat
 | .c2 .. =>2
 | .c5 .. =>5
 | .c6 .. =>6
def st:X→List (PV U)
 | .c2 x0 x1 x2 x3 x4 x5 x6 x7 x8 x9 x10 x11 x12 x13 x14 x15 x16 x17 x18=>iC 27 [(0,.ptr 26 0),(7,.own true 3 x0),(8,.int .i64 x1),(9,.int .i64 x2),(26,.box [.bool x3,.bool x4,.bool x5,.bool x6,.bool x7,.bool x8,.bool x9,.bool x10,.bool x11,.bool x12,.bool x13,.bool x14,.bool x15,.bool x16,.bool x17,.bool x18])]
 | .c5 x0 x1 x2 x3 x4 x5 x6 x7 x8 x9 x10 x11 x12 x13 x14 x15 x16 x17 x18 x19=>iC 27 [(0,.ptr 26 0),(5,.int .i64 x0),(7,.own true 3 x1),(8,.int .i64 x2),(9,.int .i64 x3),(26,.box [.bool x4,.bool x5,.bool x6,.bool x7,.bool x8,.bool x9,.bool x10,.bool x11,.bool x12,.bool x13,.bool x14,.bool x15,.bool x16,.bool x17,.bool x18,.bool x19])]
 | .c6 x0 x1 x2 x3 x4 x5 x6 x7 x8 x9 x10 x11 x12 x13 x14 x15 x16 x17 x18=>iC 27 [(0,.ptr 26 0),(7,.own true 3 x0),(8,.int .i64 x1),(9,.int .i64 x2),(26,.box [.bool x3,.bool x4,.bool x5,.bool x6,.bool x7,.bool x8,.bool x9,.bool x10,.bool x11,.bool x12,.bool x13,.bool x14,.bool x15,.bool x16,.bool x17,.bool x18])]
def begin (a0 a1 a2:Int) (a3 a4 a5 a6 a7 a8 a9 a10 a11 a12 a13 a14 a15 a16 a17 a18:Bool):Tr X A:=
 .call (cK.told a0 a1 a2) fun t1=> .jump (.c2 t1 (List.length t1:Int) (0:Int) a3 a4 a5 a6 a7 a8 a9 a10 a11 a12 a13 a14 a15 a16 a17 a18)
def tree:X→Tr X A
 | .c2 x0 x1 x2 x3 x4 x5 x6 x7 x8 x9 x10 x11 x12 x13 x14 x15 x16 x17 x18=>
 let u0_0:Tr X A:=(.jump (.c6 x0 x1 x2 x3 x4 x5 x6 x7 x8 x9 x10 x11 x12 x13 x14 x15 x16 x17 x18));let u0_1:Tr X A:=(.jump (.c5 (dh x0 x2) x0 x1 x2 x3 x4 x5 x6 x7 x8 x9 x10 x11 x12 x13 x14 x15 x16 x17 x18)); .ite (decide (x2<x1))
  (.bH ((0:Int)≤x2∧x2<(List.length x0:Int)) (.ite (decide ((dh x0 x2)=(0:Int)))
   (.ite (!x3)
    (u0_1)
    (u0_0))
   (.ite (decide ((dh x0 x2)=(1:Int)))
    (.ite (!x4)
     (u0_1)
     (u0_0))
    (.ite (decide ((dh x0 x2)=(2:Int)))
     (.ite (!x5)
      (u0_1)
      (u0_0))
     (.ite (decide ((dh x0 x2)=(3:Int)))
      (.ite (!x6)
       (u0_1)
       (u0_0))
      (.ite (decide ((dh x0 x2)=(4:Int)))
       (.ite (!x7)
        (u0_1)
        (u0_0))
       (.ite (decide ((dh x0 x2)=(5:Int)))
        (.ite (!x8)
         (u0_1)
         (u0_0))
        (.ite (decide ((dh x0 x2)=(6:Int)))
         (.ite (!x9)
          (u0_1)
          (u0_0))
         (.ite (decide ((dh x0 x2)=(7:Int)))
          (.ite (!x10)
           (u0_1)
           (u0_0))
          (.fail))))))))))
  (.ret (x3,x4,x5,x6,x7,x8,x9,x10,x11,x12,x13,x14,x15,x16,x17,x18))
 | .c5 x0 x1 x2 x3 x4 x5 x6 x7 x8 x9 x10 x11 x12 x13 x14 x15 x16 x17 x18 x19=>
 .ite (decide (x0=(0:Int)))
  (.jump (.c6 x1 x2 x3 x4 x5 x6 x7 x8 x9 x10 x11 true x13 x14 x15 x16 x17 x18 x19))
  (.ite (decide (x0=(1:Int)))
   (.jump (.c6 x1 x2 x3 x4 x5 x6 x7 x8 x9 x10 x11 x12 true x14 x15 x16 x17 x18 x19))
   (.ite (decide (x0=(2:Int)))
    (.jump (.c6 x1 x2 x3 x4 x5 x6 x7 x8 x9 x10 x11 x12 x13 true x15 x16 x17 x18 x19))
    (.ite (decide (x0=(3:Int)))
     (.jump (.c6 x1 x2 x3 x4 x5 x6 x7 x8 x9 x10 x11 x12 x13 x14 true x16 x17 x18 x19))
     (.ite (decide (x0=(4:Int)))
      (.jump (.c6 x1 x2 x3 x4 x5 x6 x7 x8 x9 x10 x11 x12 x13 x14 x15 true x17 x18 x19))
      (.ite (decide (x0=(5:Int)))
       (.jump (.c6 x1 x2 x3 x4 x5 x6 x7 x8 x9 x10 x11 x12 x13 x14 x15 x16 true x18 x19))
       (.ite (decide (x0=(6:Int)))
        (.jump (.c6 x1 x2 x3 x4 x5 x6 x7 x8 x9 x10 x11 x12 x13 x14 x15 x16 x17 true x19))
        (.ite (decide (x0=(7:Int)))
         (.jump (.c6 x1 x2 x3 x4 x5 x6 x7 x8 x9 x10 x11 x12 x13 x14 x15 x16 x17 x18 true))
         (.fail))))))))
 | .c6 x0 x1 x2 x3 x4 x5 x6 x7 x8 x9 x10 x11 x12 x13 x14 x15 x16 x17 x18=>
 .jump (.c2 x0 x1 (wr (x2+(1:Int))) x3 x4 x5 x6 x7 x8 x9 x10 x11 x12 x13 x14 x15 x16 x17 x18)
def f (a0 a1 a2:Int) (a3 a4 a5 a6 a7 a8 a9 a10 a11 a12 a13 a14 a15 a16 a17 a18:Bool):Option A:=(begin a0 a1 a2 a3 a4 a5 a6 a7 a8 a9 a10 a11 a12 a13 a14 a15 a16 a17 a18).run (lp tree)
def Q:bA C:={PL with cb:=[(2,[0,7,8,9,26]),(5,[0,5,7,8,9,26]),(6,[0,7,8,9,26])],ca:=[],bV:=[]}
theorem e:aW Pg C Q Tryz.f240 1 id st v o tree:=fun J K x=>by cases x<;>kernel_rfl
theorem b (a0 a1 a2:Int) (a3 a4 a5 a6 a7 a8 a9 a10 a11 a12 a13 a14 a15 a16 a17 a18:Bool):aX Pg C Q Tryz.f240 1 id st v o (S a0 a1 a2 a3 a4 a5 a6 a7 a8 a9 a10 a11 a12 a13 a14 a15 a16 a17 a18) (begin a0 a1 a2 a3 a4 a5 a6 a7 a8 a9 a10 a11 a12 a13 a14 a15 a16 a17 a18):=fun J K=>by kernel_rfl
def told (a0 a1 a2:Int) (a3 a4 a5 a6 a7 a8 a9 a10 a11 a12 a13 a14 a15 a16 a17 a18:Bool):aa.Told A:=⟨f a0 a1 a2 a3 a4 a5 a6 a7 a8 a9 a10 a11 a12 a13 a14 a15 a16 a17 a18,fun r=>al Pg C 240 (S a0 a1 a2 a3 a4 a5 a6 a7 a8 a9 a10 a11 a12 a13 a14 a15 a16 a17 a18) 1 (v r) (o r),fun r h=>ah G mixed Q Tryz.func240 rfl (of_decide_eq_true (by kernel_rfl)) (by rfl) id st v o (fun _=>rfl) tree e (begin a0 a1 a2 a3 a4 a5 a6 a7 a8 a9 a10 a11 a12 a13 a14 a15 a16 a17 a18) (b a0 a1 a2 a3 a4 a5 a6 a7 a8 a9 a10 a11 a12 a13 a14 a15 a16 a17 a18) h⟩
end bn
namespace cz
def S (a0:List aB) (a1:Int):List (PV U):=aa.start C 33 [.sl 204 a0,.int .i64 a1] []
inductive X where
 | c3 (x0:List aB) (x1 x2:Int)
def id:X→Nat
 | .c3 .. =>3
def st:X→List (PV U)
 | .c3 x0 x1 x2=>iC 33 [(0,.sl 204 x0),(5,.int .i64 x1),(6,.int .i64 x2)]
def begin (a0:List aB) (a1:Int):Tr X A:=
 .jump (.c3 a0 (0:Int) a1)
def tree:X→Tr X A
 | .c3 x0 x1 x2=>
 .ite (decide (x2<(List.length x0:Int)))
  (.bH ((0:Int)≤x2∧x2<(List.length x0:Int)) (.call (bS.told ((aw x0 x2).f0)) fun t1=> .ite t1
   (.bH ((0:Int)≤x2∧x2<(List.length x0:Int)) (.ite (decide ((aw x0 x2).f0=(6:Int)))
    (.ite (decide ((wr ((wr (x1+(1:Int)))-(1:Int)))=(0:Int)))
     (.ret x2)
     (.jump (.c3 x0 (wr ((wr (x1+(1:Int)))-(1:Int))) (wr (x2+(1:Int))))))
    (.ite (decide ((wr (x1+(1:Int)))=(0:Int)))
     (.ret x2)
     (.jump (.c3 x0 (wr (x1+(1:Int))) (wr (x2+(1:Int))))))))
   (.bH ((0:Int)≤x2∧x2<(List.length x0:Int)) (.ite (decide ((aw x0 x2).f0=(6:Int)))
    (.ite (decide ((wr (x1-(1:Int)))=(0:Int)))
     (.ret x2)
     (.jump (.c3 x0 (wr (x1-(1:Int))) (wr (x2+(1:Int))))))
    (.ite (decide (x1=(0:Int)))
     (.ret x2)
     (.jump (.c3 x0 x1 (wr (x2+(1:Int))))))))))
  (.ret ((-1:Int)))
def f (a0:List aB) (a1:Int):Option A:=(begin a0 a1).run (lp tree)
def Q:bA C:={PL with cb:=[(3,[0,5,6])],ca:=[],bV:=[]}
theorem e:aW Pg C Q Tryz.f216 0 id st v o tree:=fun J K x=>by cases x<;>kernel_rfl
theorem b (a0:List aB) (a1:Int):aX Pg C Q Tryz.f216 0 id st v o (S a0 a1) (begin a0 a1):=fun J K=>by kernel_rfl
def told (a0:List aB) (a1:Int):aa.Told A:=⟨f a0 a1,fun r=>al Pg C 216 (S a0 a1) 0 (v r) (o r),fun r h=>ah G mixed Q Tryz.func216 rfl (of_decide_eq_true (by kernel_rfl)) (by rfl) id st v o (fun _=>rfl) tree e (begin a0 a1) (b a0 a1) h⟩
end cz
namespace ay
def S (a0:List aB) (a1 a2 a3 a4 a5 a6 a7 a8 a9 a10 a11 a12 a13 a14 a15 a16:Bool):List (PV U):=aa.start C 56 [.ptr 56 0,.sl 204 a0] [.box [.bool a1,.bool a2,.bool a3,.bool a4,.bool a5,.bool a6,.bool a7,.bool a8,.bool a9,.bool a10,.bool a11,.bool a12,.bool a13,.bool a14,.bool a15,.bool a16]]
abbrev I:=(List aB)×Bool×Bool×Bool×Bool×Bool×Bool×Bool×Bool×Bool×Bool×Bool×Bool×Bool×Bool×Bool×Bool
abbrev K:I→A→Prop:=fun i_ r=>al Pg C 239 (S i_.1 i_.2.1 i_.2.2.1 i_.2.2.2.1 i_.2.2.2.2.1 i_.2.2.2.2.2.1 i_.2.2.2.2.2.2.1 i_.2.2.2.2.2.2.2.1 i_.2.2.2.2.2.2.2.2.1 i_.2.2.2.2.2.2.2.2.2.1 i_.2.2.2.2.2.2.2.2.2.2.1 i_.2.2.2.2.2.2.2.2.2.2.2.1 i_.2.2.2.2.2.2.2.2.2.2.2.2.1 i_.2.2.2.2.2.2.2.2.2.2.2.2.2.1 i_.2.2.2.2.2.2.2.2.2.2.2.2.2.2.1 i_.2.2.2.2.2.2.2.2.2.2.2.2.2.2.2.1 i_.2.2.2.2.2.2.2.2.2.2.2.2.2.2.2.2) 1 (v r) (o r)
inductive X where
 | c1 (x0:List aB) (x1:Int) (x2 x3 x4 x5 x6 x7 x8 x9 x10 x11 x12 x13 x14 x15 x16 x17:Bool)
 | c8 (x0:List aB) (x1 x2 x3 x4 x5 x6 x7:Int) (x8 x9 x10 x11 x12 x13 x14 x15 x16 x17 x18 x19 x20 x21 x22 x23:Bool)
 | Fg (x0:List aB) (x1 x2:Int) (x3 x4 x5 x6 x7 x8 x9 x10 x11 x12 x13 x14 x15 x16 x17 x18 x19 x20 x21 x22 x23 x24 x25 x26:Bool)
def id:X→Nat
 | .c1 .. =>1
 | .c8 .. =>8
 | .Fg .. =>11
def st:X→List (PV U)
 | .c1 x0 x1 x2 x3 x4 x5 x6 x7 x8 x9 x10 x11 x12 x13 x14 x15 x16 x17=>iC 57 [(0,.ptr 56 0),(1,.sl 204 x0),(4,.int .i64 x1),(56,.box [.bool x2,.bool x3,.bool x4,.bool x5,.bool x6,.bool x7,.bool x8,.bool x9,.bool x10,.bool x11,.bool x12,.bool x13,.bool x14,.bool x15,.bool x16,.bool x17])]
 | .c8 x0 x1 x2 x3 x4 x5 x6 x7 x8 x9 x10 x11 x12 x13 x14 x15 x16 x17 x18 x19 x20 x21 x22 x23=>iC 57 [(0,.ptr 56 0),(1,.sl 204 x0),(4,.int .i64 x1),(5,.box [.int .i64 x2,.int .i64 x3,.int .i64 x4,.int .i64 x5,.int .i64 x6,.int .i64 x7]),(56,.box [.bool x8,.bool x9,.bool x10,.bool x11,.bool x12,.bool x13,.bool x14,.bool x15,.bool x16,.bool x17,.bool x18,.bool x19,.bool x20,.bool x21,.bool x22,.bool x23])]
 | .Fg x0 x1 x2 x3 x4 x5 x6 x7 x8 x9 x10 x11 x12 x13 x14 x15 x16 x17 x18 x19 x20 x21 x22 x23 x24 x25 x26=>iC 57 [(0,.ptr 56 0),(1,.sl 204 x0),(4,.int .i64 x1),(6,.int .i64 x2),(7,.box [.bool x3,.bool x4,.bool x5,.bool x6,.bool x7,.bool x8,.bool x9,.bool x10]),(56,.box [.bool x11,.bool x12,.bool x13,.bool x14,.bool x15,.bool x16,.bool x17,.bool x18,.bool x19,.bool x20,.bool x21,.bool x22,.bool x23,.bool x24,.bool x25,.bool x26])]
def begin (self_:Self I A K) (a0:List aB) (a1 a2 a3 a4 a5 a6 a7 a8 a9 a10 a11 a12 a13 a14 a15 a16:Bool):Tr X A:=
 .jump (.c1 a0 (0:Int) a1 a2 a3 a4 a5 a6 a7 a8 a9 a10 a11 a12 a13 a14 a15 a16)
def tree (self_:Self I A K):X→Tr X A
 | .c1 x0 x1 x2 x3 x4 x5 x6 x7 x8 x9 x10 x11 x12 x13 x14 x15 x16 x17=>
 .ite (decide (x1<(List.length x0:Int)))
  (.bH ((0:Int)≤x1∧x1<(List.length x0:Int)) (.call (dy.told ((aw x0 x1).f0)) fun t1=> .ite t1
   (.call (bn.told ((aw x0 x1).f3.f0) ((aw x0 x1).f3.f1) ((aw x0 x1).f3.f2) x2 x3 x4 x5 x6 x7 x8 x9 x10 x11 x12 x13 x14 x15 x16 x17) fun t2=> .call (b6.told ((aw x0 x1).f0)) fun t3=> .ite t3
    (.ite (decide ((aw x0 x1).f1=(0:Int)))
     (.last (.jump (.c8 x0 x1 ((aw x0 x1).f0) ((aw x0 x1).f1) ((aw x0 x1).f2) ((aw x0 x1).f3.f0) ((aw x0 x1).f3.f1) ((aw x0 x1).f3.f2) true t2.2.1 t2.2.2.1 t2.2.2.2.1 t2.2.2.2.2.1 t2.2.2.2.2.2.1 t2.2.2.2.2.2.2.1 t2.2.2.2.2.2.2.2.1 t2.2.2.2.2.2.2.2.2.1 t2.2.2.2.2.2.2.2.2.2.1 t2.2.2.2.2.2.2.2.2.2.2.1 t2.2.2.2.2.2.2.2.2.2.2.2.1 t2.2.2.2.2.2.2.2.2.2.2.2.2.1 t2.2.2.2.2.2.2.2.2.2.2.2.2.2.1 t2.2.2.2.2.2.2.2.2.2.2.2.2.2.2.1 t2.2.2.2.2.2.2.2.2.2.2.2.2.2.2.2)))
     (.ite (decide ((aw x0 x1).f1=(1:Int)))
      (.last (.jump (.c8 x0 x1 ((aw x0 x1).f0) ((aw x0 x1).f1) ((aw x0 x1).f2) ((aw x0 x1).f3.f0) ((aw x0 x1).f3.f1) ((aw x0 x1).f3.f2) t2.1 true t2.2.2.1 t2.2.2.2.1 t2.2.2.2.2.1 t2.2.2.2.2.2.1 t2.2.2.2.2.2.2.1 t2.2.2.2.2.2.2.2.1 t2.2.2.2.2.2.2.2.2.1 t2.2.2.2.2.2.2.2.2.2.1 t2.2.2.2.2.2.2.2.2.2.2.1 t2.2.2.2.2.2.2.2.2.2.2.2.1 t2.2.2.2.2.2.2.2.2.2.2.2.2.1 t2.2.2.2.2.2.2.2.2.2.2.2.2.2.1 t2.2.2.2.2.2.2.2.2.2.2.2.2.2.2.1 t2.2.2.2.2.2.2.2.2.2.2.2.2.2.2.2)))
      (.ite (decide ((aw x0 x1).f1=(2:Int)))
       (.last (.jump (.c8 x0 x1 ((aw x0 x1).f0) ((aw x0 x1).f1) ((aw x0 x1).f2) ((aw x0 x1).f3.f0) ((aw x0 x1).f3.f1) ((aw x0 x1).f3.f2) t2.1 t2.2.1 true t2.2.2.2.1 t2.2.2.2.2.1 t2.2.2.2.2.2.1 t2.2.2.2.2.2.2.1 t2.2.2.2.2.2.2.2.1 t2.2.2.2.2.2.2.2.2.1 t2.2.2.2.2.2.2.2.2.2.1 t2.2.2.2.2.2.2.2.2.2.2.1 t2.2.2.2.2.2.2.2.2.2.2.2.1 t2.2.2.2.2.2.2.2.2.2.2.2.2.1 t2.2.2.2.2.2.2.2.2.2.2.2.2.2.1 t2.2.2.2.2.2.2.2.2.2.2.2.2.2.2.1 t2.2.2.2.2.2.2.2.2.2.2.2.2.2.2.2)))
       (.ite (decide ((aw x0 x1).f1=(3:Int)))
        (.last (.jump (.c8 x0 x1 ((aw x0 x1).f0) ((aw x0 x1).f1) ((aw x0 x1).f2) ((aw x0 x1).f3.f0) ((aw x0 x1).f3.f1) ((aw x0 x1).f3.f2) t2.1 t2.2.1 t2.2.2.1 true t2.2.2.2.2.1 t2.2.2.2.2.2.1 t2.2.2.2.2.2.2.1 t2.2.2.2.2.2.2.2.1 t2.2.2.2.2.2.2.2.2.1 t2.2.2.2.2.2.2.2.2.2.1 t2.2.2.2.2.2.2.2.2.2.2.1 t2.2.2.2.2.2.2.2.2.2.2.2.1 t2.2.2.2.2.2.2.2.2.2.2.2.2.1 t2.2.2.2.2.2.2.2.2.2.2.2.2.2.1 t2.2.2.2.2.2.2.2.2.2.2.2.2.2.2.1 t2.2.2.2.2.2.2.2.2.2.2.2.2.2.2.2)))
        (.ite (decide ((aw x0 x1).f1=(4:Int)))
         (.last (.jump (.c8 x0 x1 ((aw x0 x1).f0) ((aw x0 x1).f1) ((aw x0 x1).f2) ((aw x0 x1).f3.f0) ((aw x0 x1).f3.f1) ((aw x0 x1).f3.f2) t2.1 t2.2.1 t2.2.2.1 t2.2.2.2.1 true t2.2.2.2.2.2.1 t2.2.2.2.2.2.2.1 t2.2.2.2.2.2.2.2.1 t2.2.2.2.2.2.2.2.2.1 t2.2.2.2.2.2.2.2.2.2.1 t2.2.2.2.2.2.2.2.2.2.2.1 t2.2.2.2.2.2.2.2.2.2.2.2.1 t2.2.2.2.2.2.2.2.2.2.2.2.2.1 t2.2.2.2.2.2.2.2.2.2.2.2.2.2.1 t2.2.2.2.2.2.2.2.2.2.2.2.2.2.2.1 t2.2.2.2.2.2.2.2.2.2.2.2.2.2.2.2)))
         (.ite (decide ((aw x0 x1).f1=(5:Int)))
          (.last (.jump (.c8 x0 x1 ((aw x0 x1).f0) ((aw x0 x1).f1) ((aw x0 x1).f2) ((aw x0 x1).f3.f0) ((aw x0 x1).f3.f1) ((aw x0 x1).f3.f2) t2.1 t2.2.1 t2.2.2.1 t2.2.2.2.1 t2.2.2.2.2.1 true t2.2.2.2.2.2.2.1 t2.2.2.2.2.2.2.2.1 t2.2.2.2.2.2.2.2.2.1 t2.2.2.2.2.2.2.2.2.2.1 t2.2.2.2.2.2.2.2.2.2.2.1 t2.2.2.2.2.2.2.2.2.2.2.2.1 t2.2.2.2.2.2.2.2.2.2.2.2.2.1 t2.2.2.2.2.2.2.2.2.2.2.2.2.2.1 t2.2.2.2.2.2.2.2.2.2.2.2.2.2.2.1 t2.2.2.2.2.2.2.2.2.2.2.2.2.2.2.2)))
          (.ite (decide ((aw x0 x1).f1=(6:Int)))
           (.last (.jump (.c8 x0 x1 ((aw x0 x1).f0) ((aw x0 x1).f1) ((aw x0 x1).f2) ((aw x0 x1).f3.f0) ((aw x0 x1).f3.f1) ((aw x0 x1).f3.f2) t2.1 t2.2.1 t2.2.2.1 t2.2.2.2.1 t2.2.2.2.2.1 t2.2.2.2.2.2.1 true t2.2.2.2.2.2.2.2.1 t2.2.2.2.2.2.2.2.2.1 t2.2.2.2.2.2.2.2.2.2.1 t2.2.2.2.2.2.2.2.2.2.2.1 t2.2.2.2.2.2.2.2.2.2.2.2.1 t2.2.2.2.2.2.2.2.2.2.2.2.2.1 t2.2.2.2.2.2.2.2.2.2.2.2.2.2.1 t2.2.2.2.2.2.2.2.2.2.2.2.2.2.2.1 t2.2.2.2.2.2.2.2.2.2.2.2.2.2.2.2)))
           (.ite (decide ((aw x0 x1).f1=(7:Int)))
            (.last (.jump (.c8 x0 x1 ((aw x0 x1).f0) ((aw x0 x1).f1) ((aw x0 x1).f2) ((aw x0 x1).f3.f0) ((aw x0 x1).f3.f1) ((aw x0 x1).f3.f2) t2.1 t2.2.1 t2.2.2.1 t2.2.2.2.1 t2.2.2.2.2.1 t2.2.2.2.2.2.1 t2.2.2.2.2.2.2.1 true t2.2.2.2.2.2.2.2.2.1 t2.2.2.2.2.2.2.2.2.2.1 t2.2.2.2.2.2.2.2.2.2.2.1 t2.2.2.2.2.2.2.2.2.2.2.2.1 t2.2.2.2.2.2.2.2.2.2.2.2.2.1 t2.2.2.2.2.2.2.2.2.2.2.2.2.2.1 t2.2.2.2.2.2.2.2.2.2.2.2.2.2.2.1 t2.2.2.2.2.2.2.2.2.2.2.2.2.2.2.2)))
            (.fail)))))))))
    (.jump (.c8 x0 x1 ((aw x0 x1).f0) ((aw x0 x1).f1) ((aw x0 x1).f2) ((aw x0 x1).f3.f0) ((aw x0 x1).f3.f1) ((aw x0 x1).f3.f2) t2.1 t2.2.1 t2.2.2.1 t2.2.2.2.1 t2.2.2.2.2.1 t2.2.2.2.2.2.1 t2.2.2.2.2.2.2.1 t2.2.2.2.2.2.2.2.1 t2.2.2.2.2.2.2.2.2.1 t2.2.2.2.2.2.2.2.2.2.1 t2.2.2.2.2.2.2.2.2.2.2.1 t2.2.2.2.2.2.2.2.2.2.2.2.1 t2.2.2.2.2.2.2.2.2.2.2.2.2.1 t2.2.2.2.2.2.2.2.2.2.2.2.2.2.1 t2.2.2.2.2.2.2.2.2.2.2.2.2.2.2.1 t2.2.2.2.2.2.2.2.2.2.2.2.2.2.2.2)))
   (.call (b6.told ((aw x0 x1).f0)) fun t2=> .ite t2
    (.ite (decide ((aw x0 x1).f1=(0:Int)))
     (.last (.jump (.c8 x0 x1 ((aw x0 x1).f0) ((aw x0 x1).f1) ((aw x0 x1).f2) ((aw x0 x1).f3.f0) ((aw x0 x1).f3.f1) ((aw x0 x1).f3.f2) true x3 x4 x5 x6 x7 x8 x9 x10 x11 x12 x13 x14 x15 x16 x17)))
     (.ite (decide ((aw x0 x1).f1=(1:Int)))
      (.last (.jump (.c8 x0 x1 ((aw x0 x1).f0) ((aw x0 x1).f1) ((aw x0 x1).f2) ((aw x0 x1).f3.f0) ((aw x0 x1).f3.f1) ((aw x0 x1).f3.f2) x2 true x4 x5 x6 x7 x8 x9 x10 x11 x12 x13 x14 x15 x16 x17)))
      (.ite (decide ((aw x0 x1).f1=(2:Int)))
       (.last (.jump (.c8 x0 x1 ((aw x0 x1).f0) ((aw x0 x1).f1) ((aw x0 x1).f2) ((aw x0 x1).f3.f0) ((aw x0 x1).f3.f1) ((aw x0 x1).f3.f2) x2 x3 true x5 x6 x7 x8 x9 x10 x11 x12 x13 x14 x15 x16 x17)))
       (.ite (decide ((aw x0 x1).f1=(3:Int)))
        (.last (.jump (.c8 x0 x1 ((aw x0 x1).f0) ((aw x0 x1).f1) ((aw x0 x1).f2) ((aw x0 x1).f3.f0) ((aw x0 x1).f3.f1) ((aw x0 x1).f3.f2) x2 x3 x4 true x6 x7 x8 x9 x10 x11 x12 x13 x14 x15 x16 x17)))
        (.ite (decide ((aw x0 x1).f1=(4:Int)))
         (.last (.jump (.c8 x0 x1 ((aw x0 x1).f0) ((aw x0 x1).f1) ((aw x0 x1).f2) ((aw x0 x1).f3.f0) ((aw x0 x1).f3.f1) ((aw x0 x1).f3.f2) x2 x3 x4 x5 true x7 x8 x9 x10 x11 x12 x13 x14 x15 x16 x17)))
         (.ite (decide ((aw x0 x1).f1=(5:Int)))
          (.last (.jump (.c8 x0 x1 ((aw x0 x1).f0) ((aw x0 x1).f1) ((aw x0 x1).f2) ((aw x0 x1).f3.f0) ((aw x0 x1).f3.f1) ((aw x0 x1).f3.f2) x2 x3 x4 x5 x6 true x8 x9 x10 x11 x12 x13 x14 x15 x16 x17)))
          (.ite (decide ((aw x0 x1).f1=(6:Int)))
           (.last (.jump (.c8 x0 x1 ((aw x0 x1).f0) ((aw x0 x1).f1) ((aw x0 x1).f2) ((aw x0 x1).f3.f0) ((aw x0 x1).f3.f1) ((aw x0 x1).f3.f2) x2 x3 x4 x5 x6 x7 true x9 x10 x11 x12 x13 x14 x15 x16 x17)))
           (.ite (decide ((aw x0 x1).f1=(7:Int)))
            (.last (.jump (.c8 x0 x1 ((aw x0 x1).f0) ((aw x0 x1).f1) ((aw x0 x1).f2) ((aw x0 x1).f3.f0) ((aw x0 x1).f3.f1) ((aw x0 x1).f3.f2) x2 x3 x4 x5 x6 x7 x8 true x10 x11 x12 x13 x14 x15 x16 x17)))
            (.fail)))))))))
    (.jump (.c8 x0 x1 ((aw x0 x1).f0) ((aw x0 x1).f1) ((aw x0 x1).f2) ((aw x0 x1).f3.f0) ((aw x0 x1).f3.f1) ((aw x0 x1).f3.f2) x2 x3 x4 x5 x6 x7 x8 x9 x10 x11 x12 x13 x14 x15 x16 x17)))))
  (.ret (x2,x3,x4,x5,x6,x7,x8,x9,x10,x11,x12,x13,x14,x15,x16,x17))
 | .c8 x0 x1 x2 x3 x4 x5 x6 x7 x8 x9 x10 x11 x12 x13 x14 x15 x16 x17 x18 x19 x20 x21 x22 x23=>
 .ite (decide (x2=(4:Int)))
  (.call (cz.told x0 x1) fun t1=> .jump (.Fg x0 x1 t1 x8 x9 x10 x11 x12 x13 x14 x15 x8 x9 x10 x11 x12 x13 x14 x15 x16 x17 x18 x19 x20 x21 x22 x23))
  (.jump (.c1 x0 (wr (x1+(1:Int))) x8 x9 x10 x11 x12 x13 x14 x15 x16 x17 x18 x19 x20 x21 x22 x23))
 | .Fg x0 x1 x2 x3 x4 x5 x6 x7 x8 x9 x10 x11 x12 x13 x14 x15 x16 x17 x18 x19 x20 x21 x22 x23 x24 x25 x26=>
 .bH ((0:Int)≤(wr (x1+(1:Int)))∧(wr (x1+(1:Int)))≤x2∧x2≤(List.length x0:Int)) (.call (self_.told ((List.drop (Int.toNat (wr (x1+(1:Int)))) (List.take (Int.toNat x2) x0)),x11,x12,x13,x14,x15,x16,x17,x18,x19,x20,x21,x22,x23,x24,x25,x26)) fun t1=> .jump (.c1 x0 (wr (x2+(1:Int))) x3 x4 x5 x6 x7 x8 x9 x10 t1.2.2.2.2.2.2.2.2.1 t1.2.2.2.2.2.2.2.2.2.1 t1.2.2.2.2.2.2.2.2.2.2.1 t1.2.2.2.2.2.2.2.2.2.2.2.1 t1.2.2.2.2.2.2.2.2.2.2.2.2.1 t1.2.2.2.2.2.2.2.2.2.2.2.2.2.1 t1.2.2.2.2.2.2.2.2.2.2.2.2.2.2.1 t1.2.2.2.2.2.2.2.2.2.2.2.2.2.2.2))
def Q:bA C:={PL with cb:=[(1,[0,1,4,56]),(8,[0,1,4,5,56]),(11,[0,1,4,6,7,56])],ca:=[(7,[6],(.take 0 [] (.take 1 [] (.take 3 [] (.take 4 [] (.take 2 [0,1,3,4] (.take 5 [] (.alt 6 .done .nil))))))))],bV:=[]}
theorem e (self_:Self I A K):aW Pg C Q Tryz.f239 1 id st v o (tree self_):=fun J K x=>by cases x<;>kernel_rfl
theorem b (self_:Self I A K) (a0:List aB) (a1 a2 a3 a4 a5 a6 a7 a8 a9 a10 a11 a12 a13 a14 a15 a16:Bool):aX Pg C Q Tryz.f239 1 id st v o (S a0 a1 a2 a3 a4 a5 a6 a7 a8 a9 a10 a11 a12 a13 a14 a15 a16) (begin self_ a0 a1 a2 a3 a4 a5 a6 a7 a8 a9 a10 a11 a12 a13 a14 a15 a16):=fun J K=>by kernel_rfl
def step (self_:Self I A K):Self I A K:=⟨fun i_=>(begin self_ i_.1 i_.2.1 i_.2.2.1 i_.2.2.2.1 i_.2.2.2.2.1 i_.2.2.2.2.2.1 i_.2.2.2.2.2.2.1 i_.2.2.2.2.2.2.2.1 i_.2.2.2.2.2.2.2.2.1 i_.2.2.2.2.2.2.2.2.2.1 i_.2.2.2.2.2.2.2.2.2.2.1 i_.2.2.2.2.2.2.2.2.2.2.2.1 i_.2.2.2.2.2.2.2.2.2.2.2.2.1 i_.2.2.2.2.2.2.2.2.2.2.2.2.2.1 i_.2.2.2.2.2.2.2.2.2.2.2.2.2.2.1 i_.2.2.2.2.2.2.2.2.2.2.2.2.2.2.2.1 i_.2.2.2.2.2.2.2.2.2.2.2.2.2.2.2.2).run (lp (tree self_)),fun i_ r h=>ah G mixed Q Tryz.func239 rfl (of_decide_eq_true (by kernel_rfl)) (by rfl) id st v o (fun _=>rfl) (tree self_) (e self_) (begin self_ i_.1 i_.2.1 i_.2.2.1 i_.2.2.2.1 i_.2.2.2.2.1 i_.2.2.2.2.2.1 i_.2.2.2.2.2.2.1 i_.2.2.2.2.2.2.2.1 i_.2.2.2.2.2.2.2.2.1 i_.2.2.2.2.2.2.2.2.2.1 i_.2.2.2.2.2.2.2.2.2.2.1 i_.2.2.2.2.2.2.2.2.2.2.2.1 i_.2.2.2.2.2.2.2.2.2.2.2.2.1 i_.2.2.2.2.2.2.2.2.2.2.2.2.2.1 i_.2.2.2.2.2.2.2.2.2.2.2.2.2.2.1 i_.2.2.2.2.2.2.2.2.2.2.2.2.2.2.2.1 i_.2.2.2.2.2.2.2.2.2.2.2.2.2.2.2.2) (b self_ i_.1 i_.2.1 i_.2.2.1 i_.2.2.2.1 i_.2.2.2.2.1 i_.2.2.2.2.2.1 i_.2.2.2.2.2.2.1 i_.2.2.2.2.2.2.2.1 i_.2.2.2.2.2.2.2.2.1 i_.2.2.2.2.2.2.2.2.2.1 i_.2.2.2.2.2.2.2.2.2.2.1 i_.2.2.2.2.2.2.2.2.2.2.2.1 i_.2.2.2.2.2.2.2.2.2.2.2.2.1 i_.2.2.2.2.2.2.2.2.2.2.2.2.2.1 i_.2.2.2.2.2.2.2.2.2.2.2.2.2.2.1 i_.2.2.2.2.2.2.2.2.2.2.2.2.2.2.2.1 i_.2.2.2.2.2.2.2.2.2.2.2.2.2.2.2.2) h⟩
def f (a0:List aB) (a1 a2 a3 a4 a5 a6 a7 a8 a9 a10 a11 a12 a13 a14 a15 a16:Bool):Option A:=(Self.iter step 8).f (a0,a1,a2,a3,a4,a5,a6,a7,a8,a9,a10,a11,a12,a13,a14,a15,a16)
def told (a0:List aB) (a1 a2 a3 a4 a5 a6 a7 a8 a9 a10 a11 a12 a13 a14 a15 a16:Bool):aa.Told A:=⟨f a0 a1 a2 a3 a4 a5 a6 a7 a8 a9 a10 a11 a12 a13 a14 a15 a16,fun r=>al Pg C 239 (S a0 a1 a2 a3 a4 a5 a6 a7 a8 a9 a10 a11 a12 a13 a14 a15 a16) 1 (v r) (o r),fun r h=>(Self.iter step 8).ok (a0,a1,a2,a3,a4,a5,a6,a7,a8,a9,a10,a11,a12,a13,a14,a15,a16) r h⟩
end ay
namespace bD
def S (a0:List aB) (a1 a2 a3:Int):List (PV U):=aa.start C 36 [.agg [.sl 204 a0,.int .i64 a1,.int .i64 a2,.int .i64 a3]] []
inductive X where
 | c8 (x0:List Int) (x1 x2 x3 x4 x5 x6 x7 x8:Bool) (x9:Int)
def id:X→Nat
 | .c8 .. =>8
def st:X→List (PV U)
 | .c8 x0 x1 x2 x3 x4 x5 x6 x7 x8 x9=>iC 36 [(4,.own true 3 x0),(24,.agg [.bool x1,.bool x2,.bool x3,.bool x4,.bool x5,.bool x6,.bool x7,.bool x8]),(25,.int .i64 x9)]
def begin (a0:List aB) (a1 a2 a3:Int):Tr X A:=
 .call (dn.told a0 a1 a2 a3) fun t1=> .ite (!t1)
  (.ret (([]:List Int)))
  (.call (ay.told a0 false false false false false false false false false false false false false false false false) fun t2=> .call (bn.told a1 a2 a3 t2.1 t2.2.1 t2.2.2.1 t2.2.2.2.1 t2.2.2.2.2.1 t2.2.2.2.2.2.1 t2.2.2.2.2.2.2.1 t2.2.2.2.2.2.2.2.1 t2.2.2.2.2.2.2.2.2.1 t2.2.2.2.2.2.2.2.2.2.1 t2.2.2.2.2.2.2.2.2.2.2.1 t2.2.2.2.2.2.2.2.2.2.2.2.1 t2.2.2.2.2.2.2.2.2.2.2.2.2.1 t2.2.2.2.2.2.2.2.2.2.2.2.2.2.1 t2.2.2.2.2.2.2.2.2.2.2.2.2.2.2.1 t2.2.2.2.2.2.2.2.2.2.2.2.2.2.2.2) fun t3=> .jump (.c8 ([]:List Int) t3.2.2.2.2.2.2.2.2.1 t3.2.2.2.2.2.2.2.2.2.1 t3.2.2.2.2.2.2.2.2.2.2.1 t3.2.2.2.2.2.2.2.2.2.2.2.1 t3.2.2.2.2.2.2.2.2.2.2.2.2.1 t3.2.2.2.2.2.2.2.2.2.2.2.2.2.1 t3.2.2.2.2.2.2.2.2.2.2.2.2.2.2.1 t3.2.2.2.2.2.2.2.2.2.2.2.2.2.2.2 (0:Int)))
def tree:X→Tr X A
 | .c8 x0 x1 x2 x3 x4 x5 x6 x7 x8 x9=>
 .ite (decide (x9<(8:Int)))
  (.bH ((0:Int)≤x9∧x9<(8:Int)) (.ite (List.getD [x1,x2,x3,x4,x5,x6,x7,x8] (Int.toNat x9) false)
   (.bH (((List.length x0:Int)+(List.length ([x9]):Int))*(8:Nat)≤room) (.jump (.c8 (x0++[x9]) x1 x2 x3 x4 x5 x6 x7 x8 (wr (x9+(1:Int))))))
   (.jump (.c8 x0 x1 x2 x3 x4 x5 x6 x7 x8 (wr (x9+(1:Int)))))))
  (.ret x0)
def f (a0:List aB) (a1 a2 a3:Int):Option A:=(begin a0 a1 a2 a3).run (lp tree)
def Q:bA C:={PL with cb:=[(8,[4,24,25])],ca:=[],bV:=[]}
theorem e:aW Pg C Q Tryz.f209 0 id st v o tree:=fun J K x=>by cases x<;>kernel_rfl
theorem b (a0:List aB) (a1 a2 a3:Int):aX Pg C Q Tryz.f209 0 id st v o (S a0 a1 a2 a3) (begin a0 a1 a2 a3):=fun J K=>by kernel_rfl
def told (a0:List aB) (a1 a2 a3:Int):aa.Told A:=⟨f a0 a1 a2 a3,fun r=>al Pg C 209 (S a0 a1 a2 a3) 0 (v r) (o r),fun r h=>ah G mixed Q Tryz.func209 rfl (of_decide_eq_true (by kernel_rfl)) (by rfl) id st v o (fun _=>rfl) tree e (begin a0 a1 a2 a3) (b a0 a1 a2 a3) h⟩
end bD
namespace cO
def S (a0:Int) (a1:List Bool):List (PV U):=aa.start C 9 [.int .i64 a0,.ptr 9 0] [.box [.own true 4 a1]]
abbrev X:=Empty
def id:X→Nat:=fun _=>0
def st:X→List (PV U):=fun _=>[]
def begin (a0:Int) (a1:List Bool):Tr X A:=
 .bH ((0:Int)≤a0∧a0<(List.length a1:Int)) (.ret ((!(DT a1 a0)),a1))
def tree:X→Tr X A:=fun _=> .fail
def f (a0:Int) (a1:List Bool):Option A:=(begin a0 a1).run (lp tree)
def Q:bA C:={PL with cb:=[],ca:=[],bV:=[]}
theorem e:aW Pg C Q Tryz.f242 1 id st v o tree:=fun J K x=>by cases x
theorem b (a0:Int) (a1:List Bool):aX Pg C Q Tryz.f242 1 id st v o (S a0 a1) (begin a0 a1):=fun J K=>by kernel_rfl
def told (a0:Int) (a1:List Bool):aa.Told A:=⟨f a0 a1,fun r=>al Pg C 242 (S a0 a1) 1 (v r) (o r),fun r h=>ah G mixed Q Tryz.func242 rfl (of_decide_eq_true (by kernel_rfl)) (by rfl) id st v o (fun _=>rfl) tree e (begin a0 a1) (b a0 a1) h⟩
end cO
namespace dY
def S (a0:List aB) (a1:List Bool):List (PV U):=aa.start C 34 [.sl 204 a0,.fn 242 [.ptr 34 0]] [.box [.own true 4 a1]]
inductive X where
 | c3 (x0:List Int) (x1:List aB) (x2 x3:Int) (x4:List Bool)
def id:X→Nat
 | .c3 .. =>3
def st:X→List (PV U)
 | .c3 x0 x1 x2 x3 x4=>iC 35 [(1,.fn 242 [.ptr 34 0]),(5,.own true 3 x0),(9,.sl 204 x1),(10,.int .i64 x2),(11,.int .i64 x3),(34,.box [.own true 4 x4])]
def begin (a0:List aB) (a1:List Bool):Tr X A:=
 .jump (.c3 ([]:List Int) a0 (List.length a0:Int) (0:Int) a1)
def tree:X→Tr X A
 | .c3 x0 x1 x2 x3 x4=>
 .ite (decide (x3<x2))
  (.bH ((0:Int)≤x3∧x3<(List.length x1:Int)) (.call (b6.told ((aw x1 x3).f0)) fun t1=> .ite t1
   (.call (cO.told x3 x4) fun t2=> .ite t2.1
    (.bH (((List.length x0:Int)+(List.length ([(aw x1 x3).f1]):Int))*(8:Nat)≤room) (.jump (.c3 (x0++[(aw x1 x3).f1]) x1 x2 (wr (x3+(1:Int))) t2.2)))
    (.jump (.c3 x0 x1 x2 (wr (x3+(1:Int))) t2.2)))
   (.jump (.c3 x0 x1 x2 (wr (x3+(1:Int))) x4))))
  (.call (slices_Sort_int.told x0) fun t1=> .call (slices_Compact_int.told t1) fun t2=> .ret (t2,x4))
def f (a0:List aB) (a1:List Bool):Option A:=(begin a0 a1).run (lp tree)
def Q:bA C:={PL with cb:=[(3,[1,5,9,10,11,34])],ca:=[],bV:=[]}
theorem e:aW Pg C Q Tryz.f241 1 id st v o tree:=fun J K x=>by cases x<;>kernel_rfl
theorem b (a0:List aB) (a1:List Bool):aX Pg C Q Tryz.f241 1 id st v o (S a0 a1) (begin a0 a1):=fun J K=>by kernel_rfl
def told (a0:List aB) (a1:List Bool):aa.Told A:=⟨f a0 a1,fun r=>al Pg C 241 (S a0 a1) 1 (v r) (o r),fun r h=>ah G mixed Q Tryz.func241 rfl (of_decide_eq_true (by kernel_rfl)) (by rfl) id st v o (fun _=>rfl) tree e (begin a0 a1) (b a0 a1) h⟩
end dY
namespace bo
def S (a0:List aB):List (PV U):=aa.start C 38 [.sl 204 a0] []
inductive X where
 | c5 (x0:List aB) (x1:List Bool) (x2:List aB) (x3 x4:Int)
 | c9 (x0:List aB) (x1:List Bool) (x2 x3:Int) (x4:List aB) (x5 x6:Int)
def id:X→Nat
 | .c5 .. =>5
 | .c9 .. =>9
def st:X→List (PV U)
 | .c5 x0 x1 x2 x3 x4=>iC 38 [(0,.sl 204 x0),(3,.box [.own true 4 x1]),(13,.sl 204 x2),(14,.int .i64 x3),(15,.int .i64 x4)]
 | .c9 x0 x1 x2 x3 x4 x5 x6=>iC 38 [(0,.sl 204 x0),(3,.box [.own true 4 x1]),(4,.int .i64 x2),(6,.int .i64 x3),(13,.sl 204 x4),(14,.int .i64 x5),(15,.int .i64 x6)]
def begin (a0:List aB):Tr X A:=
 .call (bE.told a0) fun t1=> .ite (!t1)
  (.ret (([]:List Int)))
  (.bH ((0:Int)≤(List.length a0:Int)∧(List.length a0:Int)≤(List.length a0:Int)∧(List.length a0:Int)*(1:Nat)≤room) (.jump (.c5 a0 (List.replicate (Int.toNat (List.length a0:Int)) false) a0 (List.length a0:Int) (0:Int))))
def tree:X→Tr X A
 | .c5 x0 x1 x2 x3 x4=>
 .ite (decide (x4<x3))
  (.bH ((0:Int)≤x4∧x4<(List.length x2:Int)) (.ite (decide ((aw x2 x4).f0=(4:Int)))
   (.jump (.c9 x0 x1 x4 x4 x2 x3 x4))
   (.jump (.c5 x0 x1 x2 x3 (wr (x4+(1:Int)))))))
  (.call (dY.told x0 x1) fun t1=> .ret t1.1)
 | .c9 x0 x1 x2 x3 x4 x5 x6=>
 .call (cz.told x0 x2) fun t1=> .ite (decide (x3≤t1))
  (.bH ((0:Int)≤x3∧x3<(List.length x1:Int)) (.jump (.c9 x0 (List.set x1 (Int.toNat x3) true) x2 (wr (x3+(1:Int))) x4 x5 x6)))
  (.jump (.c5 x0 x1 x4 x5 (wr (x6+(1:Int)))))
def f (a0:List aB):Option A:=(begin a0).run (lp tree)
def Q:bA C:={PL with cb:=[(5,[0,3,13,14,15]),(9,[0,3,4,6,13,14,15])],ca:=[],bV:=[]}
theorem e:aW Pg C Q Tryz.f210 0 id st v o tree:=fun J K x=>by cases x<;>kernel_rfl
theorem b (a0:List aB):aX Pg C Q Tryz.f210 0 id st v o (S a0) (begin a0):=fun J K=>by kernel_rfl
def told (a0:List aB):aa.Told A:=⟨f a0,fun r=>al Pg C 210 (S a0) 0 (v r) (o r),fun r h=>ah G mixed Q Tryz.func210 rfl (of_decide_eq_true (by kernel_rfl)) (by rfl) id st v o (fun _=>rfl) tree e (begin a0) (b a0) h⟩
end bo
namespace fO
def S (a0:Int):List (PV U):=aa.start C 3 [.int .i64 a0] []
abbrev X:=Empty
def id:X→Nat:=fun _=>0
def st:X→List (PV U):=fun _=>[]
def begin (a0:Int):Tr X A:=
 .ret true
def tree:X→Tr X A:=fun _=> .fail
def f (a0:Int):Option A:=(begin a0).run (lp tree)
def Q:bA C:={PL with cb:=[],ca:=[],bV:=[]}
theorem e:aW Pg C Q Tryz.f243 0 id st v o tree:=fun J K x=>by cases x
theorem b (a0:Int):aX Pg C Q Tryz.f243 0 id st v o (S a0) (begin a0):=fun J K=>by kernel_rfl
def told (a0:Int):aa.Told A:=⟨f a0,fun r=>al Pg C 243 (S a0) 0 (v r) (o r),fun r h=>ah G mixed Q Tryz.func243 rfl (of_decide_eq_true (by kernel_rfl)) (by rfl) id st v o (fun _=>rfl) tree e (begin a0) (b a0) h⟩
end fO
namespace cD
def S (a0:List aB):List (PV U):=aa.start C 34 [.sl 204 a0,.fn 243 []] []
inductive X where
 | c3 (x0:List Int) (x1:List aB) (x2 x3:Int)
def id:X→Nat
 | .c3 .. =>3
def st:X→List (PV U)
 | .c3 x0 x1 x2 x3=>iC 34 [(1,.fn 243 []),(5,.own true 3 x0),(9,.sl 204 x1),(10,.int .i64 x2),(11,.int .i64 x3)]
def begin (a0:List aB):Tr X A:=
 .jump (.c3 ([]:List Int) a0 (List.length a0:Int) (0:Int))
def tree:X→Tr X A
 | .c3 x0 x1 x2 x3=>
 .ite (decide (x3<x2))
  (.bH ((0:Int)≤x3∧x3<(List.length x1:Int)) (.call (b6.told ((aw x1 x3).f0)) fun t1=> .ite t1
   (.call (fO.told x3) fun t2=> .ite t2
    (.bH (((List.length x0:Int)+(List.length ([(aw x1 x3).f1]):Int))*(8:Nat)≤room) (.jump (.c3 (x0++[(aw x1 x3).f1]) x1 x2 (wr (x3+(1:Int))))))
    (.jump (.c3 x0 x1 x2 (wr (x3+(1:Int))))))
   (.jump (.c3 x0 x1 x2 (wr (x3+(1:Int)))))))
  (.call (slices_Sort_int.told x0) fun t1=> .call (slices_Compact_int.told t1) fun t2=> .ret t2)
def f (a0:List aB):Option A:=(begin a0).run (lp tree)
def Q:bA C:={PL with cb:=[(3,[1,5,9,10,11])],ca:=[],bV:=[]}
theorem e:aW Pg C Q Tryz.f241 0 id st v o tree:=fun J K x=>by cases x<;>kernel_rfl
theorem b (a0:List aB):aX Pg C Q Tryz.f241 0 id st v o (S a0) (begin a0):=fun J K=>by kernel_rfl
def told (a0:List aB):aa.Told A:=⟨f a0,fun r=>al Pg C 241 (S a0) 0 (v r) (o r),fun r h=>ah G mixed Q Tryz.func241 rfl (of_decide_eq_true (by kernel_rfl)) (by rfl) id st v o (fun _=>rfl) tree e (begin a0) (b a0) h⟩
end cD
namespace fT
def S (a0:List aB):List (PV U):=aa.start C 8 [.sl 204 a0] []
abbrev X:=Empty
def id:X→Nat:=fun _=>0
def st:X→List (PV U):=fun _=>[]
def begin (a0:List aB):Tr X A:=
 .call (bE.told a0) fun t1=> .ite (!t1)
  (.ret (([]:List Int)))
  (.call (cD.told a0) fun t2=> .ret t2)
def tree:X→Tr X A:=fun _=> .fail
def f (a0:List aB):Option A:=(begin a0).run (lp tree)
def Q:bA C:={PL with ret:=fun f_=>lookup f_ ((241,(⟨cD.A,cD.v,cD.o⟩:Fh C))::Ck),cb:=[],ca:=[],bV:=[]}
theorem e:aW Pg C Q Tryz.f212 0 id st v o tree:=fun J K x=>by cases x
theorem b (a0:List aB):aX Pg C Q Tryz.f212 0 id st v o (S a0) (begin a0):=fun J K=>by kernel_rfl
def told (a0:List aB):aa.Told A:=⟨f a0,fun r=>al Pg C 212 (S a0) 0 (v r) (o r),fun r h=>ah G mixed Q Tryz.func212 rfl (of_decide_eq_true (by kernel_rfl)) (by rfl) id st v o (fun _=>rfl) tree e (begin a0) (b a0) h⟩
end fT
namespace cv
def S (a0:List Int) (a1:Int):List (PV U):=aa.start C 19 [.sl 3 a0,.int .i64 a1] []
inductive X where
 | c2 (x0:List Int) (x1 x2 x3:Int)
def id:X→Nat
 | .c2 .. =>2
def st:X→List (PV U)
 | .c2 x0 x1 x2 x3=>iC 19 [(0,.sl 3 x0),(1,.int .i64 x1),(7,.int .i64 x2),(8,.int .i64 x3)]
def begin (a0:List Int) (a1:Int):Tr X A:=
 .jump (.c2 a0 a1 (List.length a0:Int) (0:Int))
def tree:X→Tr X A
 | .c2 x0 x1 x2 x3=>
 .ite (decide (x3<x2))
  (.bH ((0:Int)≤x3∧x3<(List.length x0:Int)) (.ite (decide (x1=(dh x0 x3)))
   (.ret x3)
   (.jump (.c2 x0 x1 x2 (wr (x3+(1:Int)))))))
  (.ret ((-1:Int)))
def f (a0:List Int) (a1:Int):Option A:=(begin a0 a1).run (lp tree)
def Q:bA C:={PL with cb:=[(2,[0,1,7,8])],ca:=[],bV:=[]}
theorem e:aW Pg C Q Tryz.f261 0 id st v o tree:=fun J K x=>by cases x<;>kernel_rfl
theorem b (a0:List Int) (a1:Int):aX Pg C Q Tryz.f261 0 id st v o (S a0 a1) (begin a0 a1):=fun J K=>by kernel_rfl
def told (a0:List Int) (a1:Int):aa.Told A:=⟨f a0 a1,fun r=>al Pg C 261 (S a0 a1) 0 (v r) (o r),fun r h=>ah G mixed Q Tryz.func261 rfl (of_decide_eq_true (by kernel_rfl)) (by rfl) id st v o (fun _=>rfl) tree e (begin a0 a1) (b a0 a1) h⟩
end cv
namespace dC
def S (a0:List Int) (a1:Int):List (PV U):=aa.start C 9 [.sl 3 a0,.int .i64 a1] []
abbrev X:=Empty
def id:X→Nat:=fun _=>0
def st:X→List (PV U):=fun _=>[]
def begin (a0:List Int) (a1:Int):Tr X A:=
 .call (cv.told a0 a1) fun t1=> .ret ((decide (t1≥(0:Int))))
def tree:X→Tr X A:=fun _=> .fail
def f (a0:List Int) (a1:Int):Option A:=(begin a0 a1).run (lp tree)
def Q:bA C:={PL with cb:=[],ca:=[],bV:=[]}
theorem e:aW Pg C Q Tryz.f244 0 id st v o tree:=fun J K x=>by cases x
theorem b (a0:List Int) (a1:Int):aX Pg C Q Tryz.f244 0 id st v o (S a0 a1) (begin a0 a1):=fun J K=>by kernel_rfl
def told (a0:List Int) (a1:Int):aa.Told A:=⟨f a0 a1,fun r=>al Pg C 244 (S a0 a1) 0 (v r) (o r),fun r h=>ah G mixed Q Tryz.func244 rfl (of_decide_eq_true (by kernel_rfl)) (by rfl) id st v o (fun _=>rfl) tree e (begin a0 a1) (b a0 a1) h⟩
end dC
namespace ff
def S (a0:List Int) (a1:Int):List (PV U):=aa.start C 8 [.sl 3 a0,.int .i64 a1] []
abbrev X:=Empty
def id:X→Nat:=fun _=>0
def st:X→List (PV U):=fun _=>[]
def begin (a0:List Int) (a1:Int):Tr X A:=
 .call (dC.told a0 a1) fun t1=> .ret t1
def tree:X→Tr X A:=fun _=> .fail
def f (a0:List Int) (a1:Int):Option A:=(begin a0 a1).run (lp tree)
def Q:bA C:={PL with cb:=[],ca:=[],bV:=[]}
theorem e:aW Pg C Q Tryz.f214 0 id st v o tree:=fun J K x=>by cases x
theorem b (a0:List Int) (a1:Int):aX Pg C Q Tryz.f214 0 id st v o (S a0 a1) (begin a0 a1):=fun J K=>by kernel_rfl
def told (a0:List Int) (a1:Int):aa.Told A:=⟨f a0 a1,fun r=>al Pg C 214 (S a0 a1) 0 (v r) (o r),fun r h=>ah G mixed Q Tryz.func214 rfl (of_decide_eq_true (by kernel_rfl)) (by rfl) id st v o (fun _=>rfl) tree e (begin a0 a1) (b a0 a1) h⟩
end ff
namespace cR
def S (a0:Int) (a1 a2:List Int):List (PV U):=aa.start C 14 [.int .i64 a0,.ptr 14 0,.ptr 15 0] [.box [.own true 3 a1],.box [.own true 3 a2]]
abbrev X:=Empty
def id:X→Nat:=fun _=>0
def st:X→List (PV U):=fun _=>[]
def begin (a0:Int) (a1 a2:List Int):Tr X A:=
 .call (ff.told a1 a0) fun t1=> .ite (!t1)
  (.call (ff.told a2 a0) fun t2=> .ret (t2,a1,a2))
  (.ret (false,a1,a2))
def tree:X→Tr X A:=fun _=> .fail
def f (a0:Int) (a1 a2:List Int):Option A:=(begin a0 a1 a2).run (lp tree)
def Q:bA C:={PL with cb:=[],ca:=[],bV:=[]}
theorem e:aW Pg C Q Tryz.f213 2 id st v o tree:=fun J K x=>by cases x
theorem b (a0:Int) (a1 a2:List Int):aX Pg C Q Tryz.f213 2 id st v o (S a0 a1 a2) (begin a0 a1 a2):=fun J K=>by kernel_rfl
def told (a0:Int) (a1 a2:List Int):aa.Told A:=⟨f a0 a1 a2,fun r=>al Pg C 213 (S a0 a1 a2) 2 (v r) (o r),fun r h=>ah G mixed Q Tryz.func213 rfl (of_decide_eq_true (by kernel_rfl)) (by rfl) id st v o (fun _=>rfl) tree e (begin a0 a1 a2) (b a0 a1 a2) h⟩
end cR
end
end Go.Proofs.YtmapddgocpkgeaaGreat.Ev
