/- Functions as trees, with their contracts. No conditions. -/
import Derived.Test.YtmapddgocpkgeaaGreatUEvF1
namespace Go.Proofs.YtmapddgocpkgeaaGreat.Ev
open Go.Proofs.YtmapddgocpkgeaaGreat.aa Go.RowKit
set_option linter.unusedVariables false
set_option maxRecDepth 100000
noncomputable section
namespace df
def S (a0:List aB) (a1 a2 a3:Int):List (PV U):=aa.start C 50 [.agg [.sl 204 a0,.int .i64 a1,.int .i64 a2,.int .i64 a3]] []
inductive X where
 | c8 (x0 x1 x2 x3:List Int) (x4:Int)
def id:X→Nat
 | .c8 .. =>8
def st:X→List (PV U)
 | .c8 x0 x1 x2 x3 x4=>iC 50 [(3,.own true 3 x0),(4,.own true 3 x1),(5,.own true 3 x2),(6,.own true 3 x3),(7,.int .i64 x4)]
def begin (a0:List aB) (a1 a2 a3:Int):Tr X A:=
 .call (ji.told a0 a1 a2 a3) fun t1=> .ite (!t1)
  (.ret (([]:List Int)))
  (.call (da.told a0) fun t2=> .call (cl.told a0) fun t3=> .call (dz.told a0 a1 a2 a3) fun t4=> .jump (.c8 ([]:List Int) t2 t3 t4 (0:Int)))
def tree:X→Tr X A
 | .c8 x0 x1 x2 x3 x4=>
 .ite (decide (x4<(List.length x1:Int)))
  (.bH ((0:Int)≤x4∧x4<(List.length x1:Int)) (.call (cr.told x3 (dh x1 x4)) fun t1=> .ite t1
   (.bH ((0:Int)≤x4∧x4<(List.length x1:Int)) (.bH (((List.length x0:Int)+(List.length ([(dh x1 x4)]):Int))*(8:Nat)≤room) (.jump (.c8 (x0++[(dh x1 x4)]) x1 x2 x3 (wr (x4+(1:Int)))))))
   (.bH ((0:Int)≤x4∧x4<(List.length x1:Int)) (.call (cr.told x2 (dh x1 x4)) fun t2=> .ite (!t2)
    (.bH ((0:Int)≤x4∧x4<(List.length x1:Int)) (.bH (((List.length x0:Int)+(List.length ([(dh x1 x4)]):Int))*(8:Nat)≤room) (.jump (.c8 (x0++[(dh x1 x4)]) x1 x2 x3 (wr (x4+(1:Int)))))))
    (.jump (.c8 x0 x1 x2 x3 (wr (x4+(1:Int)))))))))
  (.ret x0)
def f (a0:List aB) (a1 a2 a3:Int):Option A:=(begin a0 a1 a2 a3).run (lp tree)
def Q:bA C:={PL with cb:=[(8,[3,4,5,6,7])],ca:=[],bV:=[]}
theorem e:aW Pg C Q Tryz.f193 0 id st v o tree:=fun J K x=>by cases x<;>kernel_rfl
theorem b (a0:List aB) (a1 a2 a3:Int):aX Pg C Q Tryz.f193 0 id st v o (S a0 a1 a2 a3) (begin a0 a1 a2 a3):=fun J K=>by kernel_rfl
def told (a0:List aB) (a1 a2 a3:Int):aa.Told A:=⟨f a0 a1 a2 a3,fun r=>al Pg C 193 (S a0 a1 a2 a3) 0 (v r) (o r),fun r h=>ah G mixed Q Tryz.func193 rfl (of_decide_eq_true (by kernel_rfl)) (by rfl) id st v o (fun _=>rfl) tree e (begin a0 a1 a2 a3) (b a0 a1 a2 a3) h⟩
end df
namespace fN
def S (a0:List Int):List (PV U):=aa.start C 11 [.sl 3 a0] []
abbrev X:=Empty
def id:X→Nat:=fun _=>0
def st:X→List (PV U):=fun _=>[]
def begin (a0:List Int):Tr X A:=
 .ite (!decide ((List.length a0:Int)=(49:Int)))
  (.ret (([]:List Int)))
  (.bH ((0:Int)≤(0:Int)∧(0:Int)≤(8:Int)∧(8:Int)≤(List.length a0:Int)) (.bH (((List.length ([]:List Int):Int)+(List.length (List.take (Int.toNat (8:Int)) a0):Int))*(8:Nat)≤room) (.ret ((([]:List Int)++(List.take (Int.toNat (8:Int)) a0))))))
def tree:X→Tr X A:=fun _=> .fail
def f (a0:List Int):Option A:=(begin a0).run (lp tree)
def Q:bA C:={PL with cb:=[],ca:=[],bV:=[]}
theorem e:aW Pg C Q Tryz.f194 0 id st v o tree:=fun J K x=>by cases x
theorem b (a0:List Int):aX Pg C Q Tryz.f194 0 id st v o (S a0) (begin a0):=fun J K=>by kernel_rfl
def told (a0:List Int):aa.Told A:=⟨f a0,fun r=>al Pg C 194 (S a0) 0 (v r) (o r),fun r h=>ah G mixed Q Tryz.func194 rfl (of_decide_eq_true (by kernel_rfl)) (by rfl) id st v o (fun _=>rfl) tree e (begin a0) (b a0) h⟩
end fN
namespace fM
def S (a0 a1 a2 a3 a4 a5:Int):List (PV U):=aa.start C 14 [.agg [.int .i64 a0,.int .i64 a1,.int .i64 a2,.int .i64 a3,.int .i64 a4,.int .i64 a5]] []
abbrev X:=Empty
def id:X→Nat:=fun _=>0
def st:X→List (PV U):=fun _=>[]
def begin (a0 a1 a2 a3 a4 a5:Int):Tr X A:=
 .ite (decide (a0=(1:Int)))
  (.ret ((2:Int)))
  (.ite (decide (a0=(2:Int)))
   (.ret ((5:Int)))
   (.ite (decide (a0=(3:Int)))
    (.ret ((4:Int)))
    (.ite (decide (a0=(4:Int)))
     (.ite (decide (a0=(4:Int)))
      (.ret ((1:Int)))
      (.ret ((0:Int))))
     (.ite (decide (a0=(5:Int)))
      (.ret ((1:Int)))
      (.ret ((0:Int)))))))
def tree:X→Tr X A:=fun _=> .fail
def f (a0 a1 a2 a3 a4 a5:Int):Option A:=(begin a0 a1 a2 a3 a4 a5).run (lp tree)
def Q:bA C:={PL with cb:=[],ca:=[],bV:=[]}
theorem e:aW Pg C Q Tryz.f231 0 id st v o tree:=fun J K x=>by cases x
theorem b (a0 a1 a2 a3 a4 a5:Int):aX Pg C Q Tryz.f231 0 id st v o (S a0 a1 a2 a3 a4 a5) (begin a0 a1 a2 a3 a4 a5):=fun J K=>by kernel_rfl
def told (a0 a1 a2 a3 a4 a5:Int):aa.Told A:=⟨f a0 a1 a2 a3 a4 a5,fun r=>al Pg C 231 (S a0 a1 a2 a3 a4 a5) 0 (v r) (o r),fun r h=>ah G mixed Q Tryz.func231 rfl (of_decide_eq_true (by kernel_rfl)) (by rfl) id st v o (fun _=>rfl) tree e (begin a0 a1 a2 a3 a4 a5) (b a0 a1 a2 a3 a4 a5) h⟩
end fM
namespace eB
def S (a0:Int) (a1 a2 a3 a4 a5:List Int) (a6:Int) (a7:Bool) (a8:List aN) (a9 a10:List Int) (a11 a12:Int):List (PV U):=aa.start C 15 [.ptr 15 0,.int .i64 a0] [.box [.own true 3 a1,.own true 3 a2,.own true 3 a3,.own true 3 a4,.sl 3 a5,.int .i64 a6,.bool a7,.own true 179 a8,.own true 3 a9,.own true 3 a10,.int .i64 a11,.int .i64 a12]]
abbrev X:=Empty
def id:X→Nat:=fun _=>0
def st:X→List (PV U):=fun _=>[]
def begin (a0:Int) (a1 a2 a3 a4 a5:List Int) (a6:Int) (a7:Bool) (a8:List aN) (a9 a10:List Int) (a11 a12:Int):Tr X A:=
 .bH (((List.length a8:Int)+(List.length ([(⟨a0,(-1:Int),(0:Int)⟩:aN)]):Int))*(24:Nat)≤room) (.ret (a1,a2,a3,a4,a5,a6,a7,(a8++[(⟨a0,(-1:Int),(0:Int)⟩:aN)]),a9,a10,a11,a12))
def tree:X→Tr X A:=fun _=> .fail
def f (a0:Int) (a1 a2 a3 a4 a5:List Int) (a6:Int) (a7:Bool) (a8:List aN) (a9 a10:List Int) (a11 a12:Int):Option A:=(begin a0 a1 a2 a3 a4 a5 a6 a7 a8 a9 a10 a11 a12).run (lp tree)
def Q:bA C:={PL with cb:=[],ca:=[],bV:=[]}
theorem e:aW Pg C Q Tryz.f196 1 id st v o tree:=fun J K x=>by cases x
theorem b (a0:Int) (a1 a2 a3 a4 a5:List Int) (a6:Int) (a7:Bool) (a8:List aN) (a9 a10:List Int) (a11 a12:Int):aX Pg C Q Tryz.f196 1 id st v o (S a0 a1 a2 a3 a4 a5 a6 a7 a8 a9 a10 a11 a12) (begin a0 a1 a2 a3 a4 a5 a6 a7 a8 a9 a10 a11 a12):=fun J K=>by kernel_rfl
def told (a0:Int) (a1 a2 a3 a4 a5:List Int) (a6:Int) (a7:Bool) (a8:List aN) (a9 a10:List Int) (a11 a12:Int):aa.Told A:=⟨f a0 a1 a2 a3 a4 a5 a6 a7 a8 a9 a10 a11 a12,fun r=>al Pg C 196 (S a0 a1 a2 a3 a4 a5 a6 a7 a8 a9 a10 a11 a12) 1 (v r) (o r),fun r h=>ah G mixed Q Tryz.func196 rfl (of_decide_eq_true (by kernel_rfl)) (by rfl) id st v o (fun _=>rfl) tree e (begin a0 a1 a2 a3 a4 a5 a6 a7 a8 a9 a10 a11 a12) (b a0 a1 a2 a3 a4 a5 a6 a7 a8 a9 a10 a11 a12) h⟩
end eB
namespace fK
def S (a0:List Int) (a1:Int):List (PV U):=aa.start C 13 [.sl 3 a0,.int .i64 a1] []
abbrev X:=Empty
def id:X→Nat:=fun _=>0
def st:X→List (PV U):=fun _=>[]
def begin (a0:List Int) (a1:Int):Tr X A:=
 .ite (decide (a1<(0:Int)))
  (.bH ((0:Int)≤(wr ((-1:Int)-a1))∧(wr ((-1:Int)-a1))<(List.length a0:Int)) (.ret ((dh a0 (wr ((-1:Int)-a1))))))
  (.ret a1)
def tree:X→Tr X A:=fun _=> .fail
def f (a0:List Int) (a1:Int):Option A:=(begin a0 a1).run (lp tree)
def Q:bA C:={PL with cb:=[],ca:=[],bV:=[]}
theorem e:aW Pg C Q Tryz.f252 0 id st v o tree:=fun J K x=>by cases x
theorem b (a0:List Int) (a1:Int):aX Pg C Q Tryz.f252 0 id st v o (S a0 a1) (begin a0 a1):=fun J K=>by kernel_rfl
def told (a0:List Int) (a1:Int):aa.Told A:=⟨f a0 a1,fun r=>al Pg C 252 (S a0 a1) 0 (v r) (o r),fun r h=>ah G mixed Q Tryz.func252 rfl (of_decide_eq_true (by kernel_rfl)) (by rfl) id st v o (fun _=>rfl) tree e (begin a0 a1) (b a0 a1) h⟩
end fK
namespace cL
def S (a0:Int):List (PV U):=aa.start C 5 [.int .i64 a0] []
abbrev X:=Empty
def id:X→Nat:=fun _=>0
def st:X→List (PV U):=fun _=>[]
def begin (a0:Int):Tr X A:=
 .call (db.told a0 (-1000000:Int) (1000000:Int)) fun t1=> .ret t1
def tree:X→Tr X A:=fun _=> .fail
def f (a0:Int):Option A:=(begin a0).run (lp tree)
def Q:bA C:={PL with cb:=[],ca:=[],bV:=[]}
theorem e:aW Pg C Q Tryz.f263 0 id st v o tree:=fun J K x=>by cases x
theorem b (a0:Int):aX Pg C Q Tryz.f263 0 id st v o (S a0) (begin a0):=fun J K=>by kernel_rfl
def told (a0:Int):aa.Told A:=⟨f a0,fun r=>al Pg C 263 (S a0) 0 (v r) (o r),fun r h=>ah G mixed Q Tryz.func263 rfl (of_decide_eq_true (by kernel_rfl)) (by rfl) id st v o (fun _=>rfl) tree e (begin a0) (b a0) h⟩
end cL
namespace dL
def S (a0 a1:Int):List (PV U):=aa.start C 11 [.int .i64 a0,.int .i64 a1] []
abbrev X:=Empty
def id:X→Nat:=fun _=>0
def st:X→List (PV U):=fun _=>[]
def begin (a0 a1:Int):Tr X A:=
 .call (cL.told a0) fun t1=> .call (cL.told a1) fun t2=> .call (cL.told (wr (t1+t2))) fun t3=> .ret t3
def tree:X→Tr X A:=fun _=> .fail
def f (a0 a1:Int):Option A:=(begin a0 a1).run (lp tree)
def Q:bA C:={PL with cb:=[],ca:=[],bV:=[]}
theorem e:aW Pg C Q Tryz.f253 0 id st v o tree:=fun J K x=>by cases x
theorem b (a0 a1:Int):aX Pg C Q Tryz.f253 0 id st v o (S a0 a1) (begin a0 a1):=fun J K=>by kernel_rfl
def told (a0 a1:Int):aa.Told A:=⟨f a0 a1,fun r=>al Pg C 253 (S a0 a1) 0 (v r) (o r),fun r h=>ah G mixed Q Tryz.func253 rfl (of_decide_eq_true (by kernel_rfl)) (by rfl) id st v o (fun _=>rfl) tree e (begin a0 a1) (b a0 a1) h⟩
end dL
namespace fq
def S (a0 a1:Int):List (PV U):=aa.start C 11 [.int .i64 a0,.int .i64 a1] []
abbrev X:=Empty
def id:X→Nat:=fun _=>0
def st:X→List (PV U):=fun _=>[]
def begin (a0 a1:Int):Tr X A:=
 .call (cL.told a0) fun t1=> .call (cL.told a1) fun t2=> .call (cL.told (wr (t1-t2))) fun t3=> .ret t3
def tree:X→Tr X A:=fun _=> .fail
def f (a0 a1:Int):Option A:=(begin a0 a1).run (lp tree)
def Q:bA C:={PL with cb:=[],ca:=[],bV:=[]}
theorem e:aW Pg C Q Tryz.f254 0 id st v o tree:=fun J K x=>by cases x
theorem b (a0 a1:Int):aX Pg C Q Tryz.f254 0 id st v o (S a0 a1) (begin a0 a1):=fun J K=>by kernel_rfl
def told (a0 a1:Int):aa.Told A:=⟨f a0 a1,fun r=>al Pg C 254 (S a0 a1) 0 (v r) (o r),fun r h=>ah G mixed Q Tryz.func254 rfl (of_decide_eq_true (by kernel_rfl)) (by rfl) id st v o (fun _=>rfl) tree e (begin a0 a1) (b a0 a1) h⟩
end fq
namespace fr
def S (a0 a1:Int):List (PV U):=aa.start C 11 [.int .i64 a0,.int .i64 a1] []
abbrev X:=Empty
def id:X→Nat:=fun _=>0
def st:X→List (PV U):=fun _=>[]
def begin (a0 a1:Int):Tr X A:=
 .call (cL.told a0) fun t1=> .call (cL.told a1) fun t2=> .call (cL.told (wr (t1*t2))) fun t3=> .ret t3
def tree:X→Tr X A:=fun _=> .fail
def f (a0 a1:Int):Option A:=(begin a0 a1).run (lp tree)
def Q:bA C:={PL with cb:=[],ca:=[],bV:=[]}
theorem e:aW Pg C Q Tryz.f255 0 id st v o tree:=fun J K x=>by cases x
theorem b (a0 a1:Int):aX Pg C Q Tryz.f255 0 id st v o (S a0 a1) (begin a0 a1):=fun J K=>by kernel_rfl
def told (a0 a1:Int):aa.Told A:=⟨f a0 a1,fun r=>al Pg C 255 (S a0 a1) 0 (v r) (o r),fun r h=>ah G mixed Q Tryz.func255 rfl (of_decide_eq_true (by kernel_rfl)) (by rfl) id st v o (fun _=>rfl) tree e (begin a0 a1) (b a0 a1) h⟩
end fr
namespace cA
def S (a0:List Int) (a1 a2 a3:Int):List (PV U):=aa.start C 52 [.sl 3 a0,.agg [.int .i64 a1,.int .i64 a2,.int .i64 a3]] []
abbrev X:=Empty
def id:X→Nat:=fun _=>0
def st:X→List (PV U):=fun _=>[]
def begin (a0:List Int) (a1 a2 a3:Int):Tr X A:=
 .call (fK.told a0 a2) fun t1=> .call (fK.told a0 a3) fun t2=> .ite (decide (a1=(1:Int)))
  (.call (dL.told t1 t2) fun t3=> .ret t3)
  (.ite (decide (a1=(2:Int)))
   (.call (fq.told t1 t2) fun t3=> .ret t3)
   (.ite (decide (a1=(3:Int)))
    (.call (fr.told t1 t2) fun t3=> .ret t3)
    (.ite (decide (a1=(4:Int)))
     (.ret ((if t2<t1 then t2 else t1)))
     (.ite (decide (a1=(5:Int)))
      (.ret ((if t2>t1 then t2 else t1)))
      (.ite (decide (a1=(6:Int)))
       (.call (gA.told (decide (t1<t2))) fun t3=> .ret t3)
       (.call (gA.told (decide (t1=t2))) fun t3=> .ret t3))))))
def tree:X→Tr X A:=fun _=> .fail
def f (a0:List Int) (a1 a2 a3:Int):Option A:=(begin a0 a1 a2 a3).run (lp tree)
def Q:bA C:={PL with cb:=[],ca:=[],bV:=[]}
theorem e:aW Pg C Q Tryz.f233 0 id st v o tree:=fun J K x=>by cases x
theorem b (a0:List Int) (a1 a2 a3:Int):aX Pg C Q Tryz.f233 0 id st v o (S a0 a1 a2 a3) (begin a0 a1 a2 a3):=fun J K=>by kernel_rfl
def told (a0:List Int) (a1 a2 a3:Int):aa.Told A:=⟨f a0 a1 a2 a3,fun r=>al Pg C 233 (S a0 a1 a2 a3) 0 (v r) (o r),fun r h=>ah G mixed Q Tryz.func233 rfl (of_decide_eq_true (by kernel_rfl)) (by rfl) id st v o (fun _=>rfl) tree e (begin a0 a1 a2 a3) (b a0 a1 a2 a3) h⟩
end cA
namespace cH
def S (a0 a1:Int) (a2 a3 a4 a5 a6:List Int) (a7:Int) (a8:Bool) (a9:List aN) (a10 a11:List Int) (a12 a13:Int):List (PV U):=aa.start C 18 [.ptr 18 0,.int .i64 a0,.int .i64 a1] [.box [.own true 3 a2,.own true 3 a3,.own true 3 a4,.own true 3 a5,.sl 3 a6,.int .i64 a7,.bool a8,.own true 179 a9,.own true 3 a10,.own true 3 a11,.int .i64 a12,.int .i64 a13]]
abbrev X:=Empty
def id:X→Nat:=fun _=>0
def st:X→List (PV U):=fun _=>[]
def begin (a0 a1:Int) (a2 a3 a4 a5 a6:List Int) (a7:Int) (a8:Bool) (a9:List aN) (a10 a11:List Int) (a12 a13:Int):Tr X A:=
 .bH (((List.length a9:Int)+(List.length ([(⟨(3:Int),a0,a1⟩:aN)]):Int))*(24:Nat)≤room) (.ret (a2,a3,a4,a5,a6,a7,a8,(a9++[(⟨(3:Int),a0,a1⟩:aN)]),a10,a11,a12,a13))
def tree:X→Tr X A:=fun _=> .fail
def f (a0 a1:Int) (a2 a3 a4 a5 a6:List Int) (a7:Int) (a8:Bool) (a9:List aN) (a10 a11:List Int) (a12 a13:Int):Option A:=(begin a0 a1 a2 a3 a4 a5 a6 a7 a8 a9 a10 a11 a12 a13).run (lp tree)
def Q:bA C:={PL with cb:=[],ca:=[],bV:=[]}
theorem e:aW Pg C Q Tryz.f197 1 id st v o tree:=fun J K x=>by cases x
theorem b (a0 a1:Int) (a2 a3 a4 a5 a6:List Int) (a7:Int) (a8:Bool) (a9:List aN) (a10 a11:List Int) (a12 a13:Int):aX Pg C Q Tryz.f197 1 id st v o (S a0 a1 a2 a3 a4 a5 a6 a7 a8 a9 a10 a11 a12 a13) (begin a0 a1 a2 a3 a4 a5 a6 a7 a8 a9 a10 a11 a12 a13):=fun J K=>by kernel_rfl
def told (a0 a1:Int) (a2 a3 a4 a5 a6:List Int) (a7:Int) (a8:Bool) (a9:List aN) (a10 a11:List Int) (a12 a13:Int):aa.Told A:=⟨f a0 a1 a2 a3 a4 a5 a6 a7 a8 a9 a10 a11 a12 a13,fun r=>al Pg C 197 (S a0 a1 a2 a3 a4 a5 a6 a7 a8 a9 a10 a11 a12 a13) 1 (v r) (o r),fun r h=>ah G mixed Q Tryz.func197 rfl (of_decide_eq_true (by kernel_rfl)) (by rfl) id st v o (fun _=>rfl) tree e (begin a0 a1 a2 a3 a4 a5 a6 a7 a8 a9 a10 a11 a12 a13) (b a0 a1 a2 a3 a4 a5 a6 a7 a8 a9 a10 a11 a12 a13) h⟩
end cH
namespace bJ
def S (a0 a1:Int) (a2 a3 a4 a5 a6:List Int) (a7:Int) (a8:Bool) (a9:List aN) (a10 a11:List Int) (a12 a13:Int):List (PV U):=aa.start C 82 [.ptr 82 0,.int .i64 a0,.int .i64 a1] [.box [.own true 3 a2,.own true 3 a3,.own true 3 a4,.own true 3 a5,.sl 3 a6,.int .i64 a7,.bool a8,.own true 179 a9,.own true 3 a10,.own true 3 a11,.int .i64 a12,.int .i64 a13]]
inductive X where
 | c6 (x0 x1:Int) (x2 x3 x4 x5 x6:List Int) (x7:Int) (x8:Bool) (x9:List aN) (x10 x11:List Int) (x12 x13:Int)
def id:X→Nat
 | .c6 .. =>6
def st:X→List (PV U)
 | .c6 x0 x1 x2 x3 x4 x5 x6 x7 x8 x9 x10 x11 x12 x13=>iC 83 [(0,.ptr 82 0),(1,.int .i64 x0),(2,.int .i64 x1),(82,.box [.own true 3 x2,.own true 3 x3,.own true 3 x4,.own true 3 x5,.sl 3 x6,.int .i64 x7,.bool x8,.own true 179 x9,.own true 3 x10,.own true 3 x11,.int .i64 x12,.int .i64 x13])]
def begin (a0 a1:Int) (a2 a3 a4 a5 a6:List Int) (a7:Int) (a8:Bool) (a9:List aN) (a10 a11:List Int) (a12 a13:Int):Tr X A:=
 .call (cr.told a10 a0) fun t1=> .ite t1
  (.call (cr.told a11 a0) fun t2=> .ite (!t2)
   (.call (cH.told (wr ((9:Int)+(wr ((2:Int)*(List.length a11:Int))))) a0 a2 a3 a4 a5 a6 a7 a8 a9 a10 a11 a12 a13) fun t3=> .bH ((0:Int)≤a0∧a0<(List.length t3.1:Int)) (.call (cH.told (wr ((wr ((9:Int)+(wr ((2:Int)*(List.length a11:Int)))))+(1:Int))) (dh t3.1 a0) t3.1 t3.2.1 t3.2.2.1 t3.2.2.2.1 t3.2.2.2.2.1 t3.2.2.2.2.2.1 t3.2.2.2.2.2.2.1 t3.2.2.2.2.2.2.2.1 t3.2.2.2.2.2.2.2.2.1 t3.2.2.2.2.2.2.2.2.2.1 t3.2.2.2.2.2.2.2.2.2.2.1 t3.2.2.2.2.2.2.2.2.2.2.2) fun t4=> .last (.call (bU.told t4.2.2.2.2.2.2.2.2.2.2.1 (wr ((List.length a11:Int)+(1:Int))) t4.2.2.2.2.2.2.2.2.2.2.2) fun t5=> .last (.call (cH.told (8:Int) t5 t4.1 t4.2.1 t4.2.2.1 t4.2.2.2.1 t4.2.2.2.2.1 t4.2.2.2.2.2.1 t4.2.2.2.2.2.2.1 t4.2.2.2.2.2.2.2.1 t4.2.2.2.2.2.2.2.2.1 t4.2.2.2.2.2.2.2.2.2.1 t4.2.2.2.2.2.2.2.2.2.2.1 t4.2.2.2.2.2.2.2.2.2.2.2) fun t6=> .bH (((List.length t6.2.2.2.2.2.2.2.2.2.1:Int)+(List.length ([a0]):Int))*(8:Nat)≤room) (.jump (.c6 a0 a1 t6.1 t6.2.1 t6.2.2.1 t6.2.2.2.1 t6.2.2.2.2.1 t6.2.2.2.2.2.1 t6.2.2.2.2.2.2.1 t6.2.2.2.2.2.2.2.1 t6.2.2.2.2.2.2.2.2.1 (t6.2.2.2.2.2.2.2.2.2.1++[a0]) t6.2.2.2.2.2.2.2.2.2.2.1 t6.2.2.2.2.2.2.2.2.2.2.2))))))
   (.jump (.c6 a0 a1 a2 a3 a4 a5 a6 a7 a8 a9 a10 a11 a12 a13)))
  (.jump (.c6 a0 a1 a2 a3 a4 a5 a6 a7 a8 a9 a10 a11 a12 a13))
def tree:X→Tr X A
 | .c6 x0 x1 x2 x3 x4 x5 x6 x7 x8 x9 x10 x11 x12 x13=>
 .bH ((0:Int)≤x0∧x0<(List.length x2:Int)) (.call (cH.told x0 x1 (List.set x2 (Int.toNat x0) x1) x3 x4 x5 x6 x7 x8 x9 x10 x11 x12 x13) fun t1=> .ret (t1.1,t1.2.1,t1.2.2.1,t1.2.2.2.1,t1.2.2.2.2.1,t1.2.2.2.2.2.1,t1.2.2.2.2.2.2.1,t1.2.2.2.2.2.2.2.1,t1.2.2.2.2.2.2.2.2.1,t1.2.2.2.2.2.2.2.2.2.1,t1.2.2.2.2.2.2.2.2.2.2.1,t1.2.2.2.2.2.2.2.2.2.2.2))
def f (a0 a1:Int) (a2 a3 a4 a5 a6:List Int) (a7:Int) (a8:Bool) (a9:List aN) (a10 a11:List Int) (a12 a13:Int):Option A:=(begin a0 a1 a2 a3 a4 a5 a6 a7 a8 a9 a10 a11 a12 a13).run (lp tree)
def Q:bA C:={PL with cb:=[(6,[0,1,2,82])],ca:=[(4,[12],(.take 0 [] (.take 1 [] (.take 2 [] (.take 3 [] (.take 5 [] (.take 6 [] (.take 7 [] (.take 8 [] (.take 9 [] (.take 4 [0,1,2,3,5,6,7,8,9,10] (.take 10 [0,1,2,3,4,5,6,7,8,9] (.alt 11 (.alt 12 .done .nil) .nil)))))))))))))],bV:=[]}
theorem e:aW Pg C Q Tryz.f232 1 id st v o tree:=fun J K x=>by cases x<;>kernel_rfl
theorem b (a0 a1:Int) (a2 a3 a4 a5 a6:List Int) (a7:Int) (a8:Bool) (a9:List aN) (a10 a11:List Int) (a12 a13:Int):aX Pg C Q Tryz.f232 1 id st v o (S a0 a1 a2 a3 a4 a5 a6 a7 a8 a9 a10 a11 a12 a13) (begin a0 a1 a2 a3 a4 a5 a6 a7 a8 a9 a10 a11 a12 a13):=fun J K=>by kernel_rfl
def told (a0 a1:Int) (a2 a3 a4 a5 a6:List Int) (a7:Int) (a8:Bool) (a9:List aN) (a10 a11:List Int) (a12 a13:Int):aa.Told A:=⟨f a0 a1 a2 a3 a4 a5 a6 a7 a8 a9 a10 a11 a12 a13,fun r=>al Pg C 232 (S a0 a1 a2 a3 a4 a5 a6 a7 a8 a9 a10 a11 a12 a13) 1 (v r) (o r),fun r h=>ah G mixed Q Tryz.func232 rfl (of_decide_eq_true (by kernel_rfl)) (by rfl) id st v o (fun _=>rfl) tree e (begin a0 a1 a2 a3 a4 a5 a6 a7 a8 a9 a10 a11 a12 a13) (b a0 a1 a2 a3 a4 a5 a6 a7 a8 a9 a10 a11 a12 a13) h⟩
end bJ
namespace bz
def S (a0:List Int) (a1 a2:Int):List (PV U):=aa.start C 29 [.sl 3 a0,.int .i64 a1,.int .i64 a2] []
abbrev X:=Empty
def id:X→Nat:=fun _=>0
def st:X→List (PV U):=fun _=>[]
def begin (a0:List Int) (a1 a2:Int):Tr X A:=
 .ite (decide ((List.length a0:Int)=(0:Int)))
  (.ret ((0:Int)))
  (.call (aG.told a1 (0:Int) (3:Int)) fun t1=> .ite (!t1)
   (.ret ((0:Int)))
   (.ite (decide (a2<(0:Int)))
    (.ret ((0:Int)))
    (.bH ((List.length a0:Int)≠0) (.bH ((0:Int)≤(Int.tmod a2 (List.length a0:Int))∧(Int.tmod a2 (List.length a0:Int))<(List.length a0:Int)) (.call (dL.told (dh a0 (Int.tmod a2 (List.length a0:Int))) (wr ((100:Int)*a1))) fun t2=> .ret t2)))))
def tree:X→Tr X A:=fun _=> .fail
def f (a0:List Int) (a1 a2:Int):Option A:=(begin a0 a1 a2).run (lp tree)
def Q:bA C:={PL with cb:=[],ca:=[],bV:=[]}
theorem e:aW Pg C Q Tryz.f256 0 id st v o tree:=fun J K x=>by cases x
theorem b (a0:List Int) (a1 a2:Int):aX Pg C Q Tryz.f256 0 id st v o (S a0 a1 a2) (begin a0 a1 a2):=fun J K=>by kernel_rfl
def told (a0:List Int) (a1 a2:Int):aa.Told A:=⟨f a0 a1 a2,fun r=>al Pg C 256 (S a0 a1 a2) 0 (v r) (o r),fun r h=>ah G mixed Q Tryz.func256 rfl (of_decide_eq_true (by kernel_rfl)) (by rfl) id st v o (fun _=>rfl) tree e (begin a0 a1 a2) (b a0 a1 a2) h⟩
end bz
namespace eV
def S (a0:Int) (a1 a2 a3 a4 a5:List Int) (a6:Int) (a7:Bool) (a8:List aN) (a9 a10:List Int) (a11 a12:Int):List (PV U):=aa.start C 53 [.ptr 53 0,.int .i64 a0] [.box [.own true 3 a1,.own true 3 a2,.own true 3 a3,.own true 3 a4,.sl 3 a5,.int .i64 a6,.bool a7,.own true 179 a8,.own true 3 a9,.own true 3 a10,.int .i64 a11,.int .i64 a12]]
inductive X where
 | c7 (x0:Int) (x1 x2 x3 x4 x5:List Int) (x6:Int) (x7:Bool) (x8:List aN) (x9 x10:List Int) (x11 x12:Int)
def id:X→Nat
 | .c7 .. =>7
def st:X→List (PV U)
 | .c7 x0 x1 x2 x3 x4 x5 x6 x7 x8 x9 x10 x11 x12=>iC 54 [(0,.ptr 53 0),(6,.int .i64 x0),(53,.box [.own true 3 x1,.own true 3 x2,.own true 3 x3,.own true 3 x4,.sl 3 x5,.int .i64 x6,.bool x7,.own true 179 x8,.own true 3 x9,.own true 3 x10,.int .i64 x11,.int .i64 x12])]
def begin (a0:Int) (a1 a2 a3 a4 a5:List Int) (a6:Int) (a7:Bool) (a8:List aN) (a9 a10:List Int) (a11 a12:Int):Tr X A:=
 .ite a7
  (.last (.call (bz.told a5 a0 (wr (a6+(List.length a3:Int)))) fun t1=> .jump (.c7 t1 a1 a2 a3 a4 a5 a6 a7 a8 a9 a10 a11 a12)))
  (.ite (decide ((List.length a3:Int)<(List.length a4:Int)))
   (.bH ((0:Int)≤(List.length a3:Int)∧(List.length a3:Int)<(List.length a4:Int)) (.jump (.c7 (dh a4 (List.length a3:Int)) a1 a2 a3 a4 a5 a6 a7 a8 a9 a10 a11 a12)))
   (.jump (.c7 (0:Int) a1 a2 a3 a4 a5 a6 a7 a8 a9 a10 a11 a12)))
def tree:X→Tr X A
 | .c7 x0 x1 x2 x3 x4 x5 x6 x7 x8 x9 x10 x11 x12=>
 .bH (((List.length x3:Int)+(List.length ([x0]):Int))*(8:Nat)≤room) (.ret (x0,x1,x2,(x3++[x0]),x4,x5,x6,x7,x8,x9,x10,x11,x12))
def f (a0:Int) (a1 a2 a3 a4 a5:List Int) (a6:Int) (a7:Bool) (a8:List aN) (a9 a10:List Int) (a11 a12:Int):Option A:=(begin a0 a1 a2 a3 a4 a5 a6 a7 a8 a9 a10 a11 a12).run (lp tree)
def Q:bA C:={PL with cb:=[(7,[0,6,53])],ca:=[(4,[],(.take 0 [] (.take 1 [] (.take 2 [] (.take 4 [] (.take 5 [] (.take 6 [] (.take 7 [] (.take 9 [] (.take 3 [0,1,2,4,5,6,7,8,9,10] (.take 8 [0,1,2,3,4,5,6,7,9] (.take 10 [] (.alt 11 (.take 12 [] .done) .nil)))))))))))))],bV:=[]}
theorem e:aW Pg C Q Tryz.f234 1 id st v o tree:=fun J K x=>by cases x<;>kernel_rfl
theorem b (a0:Int) (a1 a2 a3 a4 a5:List Int) (a6:Int) (a7:Bool) (a8:List aN) (a9 a10:List Int) (a11 a12:Int):aX Pg C Q Tryz.f234 1 id st v o (S a0 a1 a2 a3 a4 a5 a6 a7 a8 a9 a10 a11 a12) (begin a0 a1 a2 a3 a4 a5 a6 a7 a8 a9 a10 a11 a12):=fun J K=>by kernel_rfl
def told (a0:Int) (a1 a2 a3 a4 a5:List Int) (a6:Int) (a7:Bool) (a8:List aN) (a9 a10:List Int) (a11 a12:Int):aa.Told A:=⟨f a0 a1 a2 a3 a4 a5 a6 a7 a8 a9 a10 a11 a12,fun r=>al Pg C 234 (S a0 a1 a2 a3 a4 a5 a6 a7 a8 a9 a10 a11 a12) 1 (v r) (o r),fun r h=>ah G mixed Q Tryz.func234 rfl (of_decide_eq_true (by kernel_rfl)) (by rfl) id st v o (fun _=>rfl) tree e (begin a0 a1 a2 a3 a4 a5 a6 a7 a8 a9 a10 a11 a12) (b a0 a1 a2 a3 a4 a5 a6 a7 a8 a9 a10 a11 a12) h⟩
end eV
namespace ao
def S (a0:List aB) (a1 a2:Int) (a3 a4 a5 a6 a7:List Int) (a8:Int) (a9:Bool) (a10:List aN) (a11 a12:List Int) (a13 a14:Int):List (PV U):=aa.start C 133 [.ptr 133 0,.sl 204 a0,.int .i64 a1,.int .i64 a2] [.box [.own true 3 a3,.own true 3 a4,.own true 3 a5,.own true 3 a6,.sl 3 a7,.int .i64 a8,.bool a9,.own true 179 a10,.own true 3 a11,.own true 3 a12,.int .i64 a13,.int .i64 a14]]
abbrev I:=(List aB)×Int×Int×(List Int)×(List Int)×(List Int)×(List Int)×(List Int)×Int×Bool×(List aN)×(List Int)×(List Int)×Int×Int
abbrev K:I→A→Prop:=fun i_ r=>al Pg C 195 (S i_.1 i_.2.1 i_.2.2.1 i_.2.2.2.1 i_.2.2.2.2.1 i_.2.2.2.2.2.1 i_.2.2.2.2.2.2.1 i_.2.2.2.2.2.2.2.1 i_.2.2.2.2.2.2.2.2.1 i_.2.2.2.2.2.2.2.2.2.1 i_.2.2.2.2.2.2.2.2.2.2.1 i_.2.2.2.2.2.2.2.2.2.2.2.1 i_.2.2.2.2.2.2.2.2.2.2.2.2.1 i_.2.2.2.2.2.2.2.2.2.2.2.2.2.1 i_.2.2.2.2.2.2.2.2.2.2.2.2.2.2) 1 (v r) (o r)
inductive X where
 | c1 (x0:List aB) (x1 x2:Int) (x3 x4 x5 x6 x7:List Int) (x8:Int) (x9:Bool) (x10:List aN) (x11 x12:List Int) (x13 x14:Int)
 | c6 (x0:List aB) (x1 x2 x3 x4 x5 x6 x7 x8:Int) (x9 x10 x11 x12 x13:List Int) (x14:Int) (x15:Bool) (x16:List aN) (x17 x18:List Int) (x19 x20:Int)
 | c2 (x0:List aB) (x1 x2:Int) (x3 x4 x5 x6 x7:List Int) (x8:Int) (x9:Bool) (x10:List aN) (x11 x12:List Int) (x13 x14:Int)
 | Df (x0:List aB) (x1 x2 x3 x4 x5:Int) (x6 x7 x8 x9 x10:List Int) (x11:Int) (x12:Bool) (x13:List aN) (x14 x15:List Int) (x16 x17:Int)
def id:X→Nat
 | .c1 .. =>1
 | .c6 .. =>6
 | .c2 .. =>2
 | .Df .. =>24
def st:X→List (PV U)
 | .c1 x0 x1 x2 x3 x4 x5 x6 x7 x8 x9 x10 x11 x12 x13 x14=>iC 134 [(0,.ptr 133 0),(1,.sl 204 x0),(3,.int .i64 x1),(8,.int .i64 x2),(133,.box [.own true 3 x3,.own true 3 x4,.own true 3 x5,.own true 3 x6,.sl 3 x7,.int .i64 x8,.bool x9,.own true 179 x10,.own true 3 x11,.own true 3 x12,.int .i64 x13,.int .i64 x14])]
 | .c6 x0 x1 x2 x3 x4 x5 x6 x7 x8 x9 x10 x11 x12 x13 x14 x15 x16 x17 x18 x19 x20=>iC 134 [(0,.ptr 133 0),(1,.sl 204 x0),(3,.int .i64 x1),(8,.int .i64 x2),(9,.box [.int .i64 x3,.int .i64 x4,.int .i64 x5,.int .i64 x6,.int .i64 x7,.int .i64 x8]),(133,.box [.own true 3 x9,.own true 3 x10,.own true 3 x11,.own true 3 x12,.sl 3 x13,.int .i64 x14,.bool x15,.own true 179 x16,.own true 3 x17,.own true 3 x18,.int .i64 x19,.int .i64 x20])]
 | .c2 x0 x1 x2 x3 x4 x5 x6 x7 x8 x9 x10 x11 x12 x13 x14=>iC 134 [(0,.ptr 133 0),(1,.sl 204 x0),(3,.int .i64 x1),(8,.int .i64 x2),(133,.box [.own true 3 x3,.own true 3 x4,.own true 3 x5,.own true 3 x6,.sl 3 x7,.int .i64 x8,.bool x9,.own true 179 x10,.own true 3 x11,.own true 3 x12,.int .i64 x13,.int .i64 x14])]
 | .Df x0 x1 x2 x3 x4 x5 x6 x7 x8 x9 x10 x11 x12 x13 x14 x15 x16 x17=>iC 134 [(0,.ptr 133 0),(1,.sl 204 x0),(3,.int .i64 x1),(8,.int .i64 x2),(12,.int .i64 x3),(13,.int .i64 x4),(14,.int .i64 x5),(133,.box [.own true 3 x6,.own true 3 x7,.own true 3 x8,.own true 3 x9,.sl 3 x10,.int .i64 x11,.bool x12,.own true 179 x13,.own true 3 x14,.own true 3 x15,.int .i64 x16,.int .i64 x17])]
def begin (self_:Self I A K) (a0:List aB) (a1 a2:Int) (a3 a4 a5 a6 a7:List Int) (a8:Int) (a9:Bool) (a10:List aN) (a11 a12:List Int) (a13 a14:Int):Tr X A:=
 .jump (.c1 a0 a2 a1 a3 a4 a5 a6 a7 a8 a9 a10 a11 a12 a13 a14)
def tree (self_:Self I A K):X→Tr X A
 | .c1 x0 x1 x2 x3 x4 x5 x6 x7 x8 x9 x10 x11 x12 x13 x14=>
 .ite (decide (x2<x1))
  (.bH ((0:Int)≤x2∧x2<(List.length x0:Int)) (.ite (!decide ((aw x0 x2).f0=(6:Int)))
   (.call (fM.told ((aw x0 x2).f0) ((aw x0 x2).f1) ((aw x0 x2).f2) ((aw x0 x2).f3.f0) ((aw x0 x2).f3.f1) ((aw x0 x2).f3.f2)) fun t1=> .call (eB.told t1 x3 x4 x5 x6 x7 x8 x9 x10 x11 x12 x13 x14) fun t2=> .jump (.c6 x0 x1 x2 ((aw x0 x2).f0) ((aw x0 x2).f1) ((aw x0 x2).f2) ((aw x0 x2).f3.f0) ((aw x0 x2).f3.f1) ((aw x0 x2).f3.f2) t2.1 t2.2.1 t2.2.2.1 t2.2.2.2.1 t2.2.2.2.2.1 t2.2.2.2.2.2.1 t2.2.2.2.2.2.2.1 t2.2.2.2.2.2.2.2.1 t2.2.2.2.2.2.2.2.2.1 t2.2.2.2.2.2.2.2.2.2.1 t2.2.2.2.2.2.2.2.2.2.2.1 t2.2.2.2.2.2.2.2.2.2.2.2))
   (.jump (.c6 x0 x1 x2 ((aw x0 x2).f0) ((aw x0 x2).f1) ((aw x0 x2).f2) ((aw x0 x2).f3.f0) ((aw x0 x2).f3.f1) ((aw x0 x2).f3.f2) x3 x4 x5 x6 x7 x8 x9 x10 x11 x12 x13 x14))))
  (.ret (x3,x4,x5,x6,x7,x8,x9,x10,x11,x12,x13,x14))
 | .c6 x0 x1 x2 x3 x4 x5 x6 x7 x8 x9 x10 x11 x12 x13 x14 x15 x16 x17 x18 x19 x20=>
 let u0_0:Tr X A:=(.jump (.c2 x0 x1 x2 x9 x10 x11 x12 x13 x14 x15 x16 x17 x18 x19 x20));let u0_1:Tr X A:=(.last (.call (eV.told x5 x9 x10 x11 x12 x13 x14 x15 x16 x17 x18 x19 x20) fun t1=> .last (.call (bJ.told x4 t1.1 t1.2.1 t1.2.2.1 t1.2.2.2.1 t1.2.2.2.2.1 t1.2.2.2.2.2.1 t1.2.2.2.2.2.2.1 t1.2.2.2.2.2.2.2.1 t1.2.2.2.2.2.2.2.2.1 t1.2.2.2.2.2.2.2.2.2.1 t1.2.2.2.2.2.2.2.2.2.2.1 t1.2.2.2.2.2.2.2.2.2.2.2.1 t1.2.2.2.2.2.2.2.2.2.2.2.2) fun t2=> .jump (.c2 x0 x1 x2 t2.1 t2.2.1 t2.2.2.1 t2.2.2.2.1 t2.2.2.2.2.1 t2.2.2.2.2.2.1 t2.2.2.2.2.2.2.1 t2.2.2.2.2.2.2.2.1 t2.2.2.2.2.2.2.2.2.1 t2.2.2.2.2.2.2.2.2.2.1 t2.2.2.2.2.2.2.2.2.2.2.1 t2.2.2.2.2.2.2.2.2.2.2.2))));let u0_2:Tr X A:=(.call (b7.told x0 x2) fun t1=> .ite (decide (x3=(4:Int))) (.last (.call (cA.told x9 x6 x7 x8) fun t2=> .last (.call (gA.told (!decide (t2=(0:Int)))) fun t3=> .jump (.Df x0 x1 x2 t1 t3 (0:Int) x9 x10 x11 x12 x13 x14 x15 x16 x17 x18 x19 x20)))) (.jump (.Df x0 x1 x2 t1 x5 (0:Int) x9 x10 x11 x12 x13 x14 x15 x16 x17 x18 x19 x20))); .ite (decide (x3=(1:Int)))
  (.last (.call (cA.told x9 x6 x7 x8) fun t1=> .last (.call (bJ.told x4 t1 x9 x10 x11 x12 x13 x14 x15 x16 x17 x18 x19 x20) fun t2=> .jump (.c2 x0 x1 x2 t2.1 t2.2.1 t2.2.2.1 t2.2.2.2.1 t2.2.2.2.2.1 t2.2.2.2.2.2.1 t2.2.2.2.2.2.2.1 t2.2.2.2.2.2.2.2.1 t2.2.2.2.2.2.2.2.2.1 t2.2.2.2.2.2.2.2.2.2.1 t2.2.2.2.2.2.2.2.2.2.2.1 t2.2.2.2.2.2.2.2.2.2.2.2))))
  (.ite (decide (x3=(2:Int)))
   (.both (u0_1)
    (u0_1))
   (.ite (decide (x3=(3:Int)))
    (.last (.call (cA.told x9 x6 x7 x8) fun t1=> .bH (((List.length x10:Int)+(List.length ([t1]):Int))*(8:Nat)≤room) (.ite (decide ((wr (x20+(List.length x10:Int)))<(24:Int)))
     (.call (cH.told (wr ((25:Int)+(wr (x20+(List.length x10:Int))))) t1 x9 (x10++[t1]) x11 x12 x13 x14 x15 x16 x17 x18 x19 x20) fun t2=> .jump (.c2 x0 x1 x2 t2.1 t2.2.1 t2.2.2.1 t2.2.2.2.1 t2.2.2.2.2.1 t2.2.2.2.2.2.1 t2.2.2.2.2.2.2.1 t2.2.2.2.2.2.2.2.1 t2.2.2.2.2.2.2.2.2.1 t2.2.2.2.2.2.2.2.2.2.1 t2.2.2.2.2.2.2.2.2.2.2.1 t2.2.2.2.2.2.2.2.2.2.2.2))
     (.jump (.c2 x0 x1 x2 x9 (x10++[t1]) x11 x12 x13 x14 x15 x16 x17 x18 x19 x20)))))
    (.ite (decide (x3=(4:Int)))
     (.ite (decide (x3=(4:Int)))
      (u0_2)
      (u0_0))
     (.ite (decide (x3=(5:Int)))
      (u0_2)
      (u0_0)))))
 | .c2 x0 x1 x2 x3 x4 x5 x6 x7 x8 x9 x10 x11 x12 x13 x14=>
 .jump (.c1 x0 x1 (wr (x2+(1:Int))) x3 x4 x5 x6 x7 x8 x9 x10 x11 x12 x13 x14)
 | .Df x0 x1 x2 x3 x4 x5 x6 x7 x8 x9 x10 x11 x12 x13 x14 x15 x16 x17=>
 .ite (decide (x5<x4))
  (.call (self_.told (x0,(wr (x2+(1:Int))),x3,x6,x7,x8,x9,x10,x11,x12,x13,x14,x15,x16,x17)) fun t1=> .jump (.Df x0 x1 x2 x3 x4 (wr (x5+(1:Int))) t1.1 t1.2.1 t1.2.2.1 t1.2.2.2.1 t1.2.2.2.2.1 t1.2.2.2.2.2.1 t1.2.2.2.2.2.2.1 t1.2.2.2.2.2.2.2.1 t1.2.2.2.2.2.2.2.2.1 t1.2.2.2.2.2.2.2.2.2.1 t1.2.2.2.2.2.2.2.2.2.2.1 t1.2.2.2.2.2.2.2.2.2.2.2))
  (.jump (.c2 x0 x1 x3 x6 x7 x8 x9 x10 x11 x12 x13 x14 x15 x16 x17))
def Q:bA C:={PL with cb:=[(1,[0,1,3,8,133]),(2,[0,1,3,8,133]),(6,[0,1,3,8,9,133]),(24,[0,1,3,8,12,13,14,133])],ca:=[(8,[11],(.take 0 [] (.take 1 [] (.take 3 [] (.take 4 [] (.take 5 [] (.take 6 [] (.take 8 [] (.take 2 [0,1,3,4,5,6,7,8,9,10] (.take 7 [0,1,2,3,4,5,6,8,9] (.take 9 [0,1,2,3,4,5,6,7,8] (.alt 10 (.alt 11 .done .nil) .nil)))))))))))),(10,[8,9],(.take 0 [] (.take 1 [] (.take 3 [] (.take 4 [] (.take 5 [] (.take 6 [] (.take 7 [0,1,2,3,4,5,6] (.alt 2 (.alt 8 (.alt 9 .done .nil) .nil) (.alt 8 (.take 2 [0,1,3,4,5,6,7,8] (.alt 9 .done .nil)) .nil)))))))))),(12,[],(.take 0 [] (.take 1 [] (.take 2 [] (.take 4 [] (.take 5 [] (.take 6 [] (.take 7 [] (.take 3 [0,1,2,4,5,6,7,8,9] (.take 8 [0,1,2,3,4,5,6,7] (.take 9 [] (.take 10 [] (.take 11 [] .done))))))))))))),(13,[],(.take 0 [] (.take 1 [] (.take 2 [] (.take 3 [] (.take 5 [] (.take 4 [0,1,2,3,5,6] (.take 6 [0,1,2,3,4,5] (.alt 7 (.take 8 [] .done) .nil))))))))),(22,[],(.take 0 [] (.take 1 [] (.take 2 [] (.take 3 [] (.take 5 [] (.take 4 [0,1,2,3,5,6] (.take 6 [0,1,2,3,4,5] (.alt 7 (.take 8 [] (.alt 9 (.take 10 [] .done) .nil)) .nil)))))))))],bV:=[]}
theorem e (self_:Self I A K):aW Pg C Q Tryz.f195 1 id st v o (tree self_):=fun J K x=>by cases x<;>kernel_rfl
theorem b (self_:Self I A K) (a0:List aB) (a1 a2:Int) (a3 a4 a5 a6 a7:List Int) (a8:Int) (a9:Bool) (a10:List aN) (a11 a12:List Int) (a13 a14:Int):aX Pg C Q Tryz.f195 1 id st v o (S a0 a1 a2 a3 a4 a5 a6 a7 a8 a9 a10 a11 a12 a13 a14) (begin self_ a0 a1 a2 a3 a4 a5 a6 a7 a8 a9 a10 a11 a12 a13 a14):=fun J K=>by kernel_rfl
def step (self_:Self I A K):Self I A K:=⟨fun i_=>(begin self_ i_.1 i_.2.1 i_.2.2.1 i_.2.2.2.1 i_.2.2.2.2.1 i_.2.2.2.2.2.1 i_.2.2.2.2.2.2.1 i_.2.2.2.2.2.2.2.1 i_.2.2.2.2.2.2.2.2.1 i_.2.2.2.2.2.2.2.2.2.1 i_.2.2.2.2.2.2.2.2.2.2.1 i_.2.2.2.2.2.2.2.2.2.2.2.1 i_.2.2.2.2.2.2.2.2.2.2.2.2.1 i_.2.2.2.2.2.2.2.2.2.2.2.2.2.1 i_.2.2.2.2.2.2.2.2.2.2.2.2.2.2).run (lp (tree self_)),fun i_ r h=>ah G mixed Q Tryz.func195 rfl (of_decide_eq_true (by kernel_rfl)) (by rfl) id st v o (fun _=>rfl) (tree self_) (e self_) (begin self_ i_.1 i_.2.1 i_.2.2.1 i_.2.2.2.1 i_.2.2.2.2.1 i_.2.2.2.2.2.1 i_.2.2.2.2.2.2.1 i_.2.2.2.2.2.2.2.1 i_.2.2.2.2.2.2.2.2.1 i_.2.2.2.2.2.2.2.2.2.1 i_.2.2.2.2.2.2.2.2.2.2.1 i_.2.2.2.2.2.2.2.2.2.2.2.1 i_.2.2.2.2.2.2.2.2.2.2.2.2.1 i_.2.2.2.2.2.2.2.2.2.2.2.2.2.1 i_.2.2.2.2.2.2.2.2.2.2.2.2.2.2) (b self_ i_.1 i_.2.1 i_.2.2.1 i_.2.2.2.1 i_.2.2.2.2.1 i_.2.2.2.2.2.1 i_.2.2.2.2.2.2.1 i_.2.2.2.2.2.2.2.1 i_.2.2.2.2.2.2.2.2.1 i_.2.2.2.2.2.2.2.2.2.1 i_.2.2.2.2.2.2.2.2.2.2.1 i_.2.2.2.2.2.2.2.2.2.2.2.1 i_.2.2.2.2.2.2.2.2.2.2.2.2.1 i_.2.2.2.2.2.2.2.2.2.2.2.2.2.1 i_.2.2.2.2.2.2.2.2.2.2.2.2.2.2) h⟩
def f (a0:List aB) (a1 a2:Int) (a3 a4 a5 a6 a7:List Int) (a8:Int) (a9:Bool) (a10:List aN) (a11 a12:List Int) (a13 a14:Int):Option A:=(Self.iter step 8).f (a0,a1,a2,a3,a4,a5,a6,a7,a8,a9,a10,a11,a12,a13,a14)
def told (a0:List aB) (a1 a2:Int) (a3 a4 a5 a6 a7:List Int) (a8:Int) (a9:Bool) (a10:List aN) (a11 a12:List Int) (a13 a14:Int):aa.Told A:=⟨f a0 a1 a2 a3 a4 a5 a6 a7 a8 a9 a10 a11 a12 a13 a14,fun r=>al Pg C 195 (S a0 a1 a2 a3 a4 a5 a6 a7 a8 a9 a10 a11 a12 a13 a14) 1 (v r) (o r),fun r h=>(Self.iter step 8).ok (a0,a1,a2,a3,a4,a5,a6,a7,a8,a9,a10,a11,a12,a13,a14) r h⟩
end ao
namespace ey
def S (a0:List aC) (a1:List Int) (a2:Int):List (PV U):=aa.start C 28 [.agg [.sl 164 a0],.sl 3 a1,.int .i64 a2] []
abbrev X:=Empty
def id:X→Nat:=fun _=>0
def st:X→List (PV U):=fun _=>[]
def begin (a0:List aC) (a1:List Int) (a2:Int):Tr X A:=
 .bH ((0:Int)≤a2∧a2<(List.length a0:Int)) (.last (.call (cA.told a1 ((bG a0 a2).f1.f0) ((bG a0 a2).f1.f1) ((bG a0 a2).f1.f2)) fun t1=> .bH ((List.length a0:Int)≠0) (.ite (decide ((Int.tmod t1 (List.length a0:Int))<(0:Int)))
  (.ret ((wr ((Int.tmod t1 (List.length a0:Int))+(List.length a0:Int)))))
  (.ret ((Int.tmod t1 (List.length a0:Int)))))))
def tree:X→Tr X A:=fun _=> .fail
def f (a0:List aC) (a1:List Int) (a2:Int):Option A:=(begin a0 a1 a2).run (lp tree)
def Q:bA C:={PL with cb:=[],ca:=[(1,[],(.take 0 [] (.take 1 [] (.take 3 [] (.take 8 [] (.take 2 [0,1,3,8,9,10] (.take 4 [] (.take 5 [] (.take 6 [0,1,2,3,4,5,8,9,10] (.take 9 [0,1,2,3,4,5,6,7,8] (.take 10 [] (.alt 7 (.take 11 [] (.take 12 [] .done)) .nil))))))))))))],bV:=[]}
theorem e:aW Pg C Q Tryz.f198 0 id st v o tree:=fun J K x=>by cases x
theorem b (a0:List aC) (a1:List Int) (a2:Int):aX Pg C Q Tryz.f198 0 id st v o (S a0 a1 a2) (begin a0 a1 a2):=fun J K=>by kernel_rfl
def told (a0:List aC) (a1:List Int) (a2:Int):aa.Told A:=⟨f a0 a1 a2,fun r=>al Pg C 198 (S a0 a1 a2) 0 (v r) (o r),fun r h=>ah G mixed Q Tryz.func198 rfl (of_decide_eq_true (by kernel_rfl)) (by rfl) id st v o (fun _=>rfl) tree e (begin a0 a1 a2) (b a0 a1 a2) h⟩
end ey
namespace eU
def S (a0:List aC) (a1 a2:List Int) (a3:Int):List (PV U):=aa.start C 71 [.agg [.sl 164 a0],.sl 3 a1,.sl 3 a2,.int .i64 a3] []
inductive X where
 | c8 (x0:List aN) (x1 x2 x3 x4 x5 x6:List Int) (x7:Int) (x8:Bool) (x9:List aN) (x10 x11:List Int) (x12 x13:Int)
def id:X→Nat
 | .c8 .. =>8
def st:X→List (PV U)
 | .c8 x0 x1 x2 x3 x4 x5 x6 x7 x8 x9 x10 x11 x12 x13=>iC 71 [(8,.box [.own true 179 x0,.own true 3 x1]),(12,.box [.own true 3 x2,.own true 3 x3,.own true 3 x4,.own true 3 x5,.sl 3 x6,.int .i64 x7,.bool x8,.own true 179 x9,.own true 3 x10,.own true 3 x11,.int .i64 x12,.int .i64 x13])]
def begin (a0:List aC) (a1 a2:List Int) (a3:Int):Tr X A:=
 .bH ((0:Int)≤(8:Int)∧(8:Int)<(List.length a1:Int)) (.call (bB.told (dh a1 (8:Int))) fun t1=> .bH ((0:Int)≤t1.1∧t1.1<(List.length a0:Int)) (.call (df.told ((bG a0 t1.1).f0) ((bG a0 t1.1).f1.f0) ((bG a0 t1.1).f1.f1) ((bG a0 t1.1).f1.f2)) fun t2=> .call (fN.told a1) fun t3=> .bH ((0:Int)≤t1.1∧t1.1<(List.length a0:Int)) (.call (ao.told ((bG a0 t1.1).f0) (0:Int) (List.length ((bG a0 t1.1).f0):Int) t3 ([]:List Int) ([]:List Int) ([]:List Int) a2 a3 true ([]:List aN) t2 ([]:List Int) t1.1 t1.2.2) fun t4=> .call (eB.told (1:Int) t4.1 t4.2.1 t4.2.2.1 t4.2.2.2.1 t4.2.2.2.2.1 t4.2.2.2.2.2.1 t4.2.2.2.2.2.2.1 t4.2.2.2.2.2.2.2.1 t4.2.2.2.2.2.2.2.2.1 t4.2.2.2.2.2.2.2.2.2.1 t4.2.2.2.2.2.2.2.2.2.2.1 t4.2.2.2.2.2.2.2.2.2.2.2) fun t5=>let u5_0:Tr X A:=(.last (.val ((if(wr (t1.2.2+(List.length t5.2.1:Int)))<(24:Int)then(wr (t1.2.2+(List.length t5.2.1:Int)))else(24:Int)):Int) fun v6=> .last (.call (ey.told a0 t5.1 t1.1) fun t7=> .last (.call (bU.told t7 (0:Int) v6) fun t8=> .last (.call (cH.told (8:Int) t8 t5.1 t5.2.1 t5.2.2.1 t5.2.2.2.1 t5.2.2.2.2.1 t5.2.2.2.2.2.1 t5.2.2.2.2.2.2.1 t5.2.2.2.2.2.2.2.1 t5.2.2.2.2.2.2.2.2.1 t5.2.2.2.2.2.2.2.2.2.1 t5.2.2.2.2.2.2.2.2.2.2.1 t5.2.2.2.2.2.2.2.2.2.2.2) fun t9=> .jump (.c8 ([]:List aN) ([]:List Int) t9.1 t9.2.1 t9.2.2.1 t9.2.2.2.1 t9.2.2.2.2.1 t9.2.2.2.2.2.1 t9.2.2.2.2.2.2.1 t9.2.2.2.2.2.2.2.1 t9.2.2.2.2.2.2.2.2.1 t9.2.2.2.2.2.2.2.2.2.1 t9.2.2.2.2.2.2.2.2.2.2.1 t9.2.2.2.2.2.2.2.2.2.2.2))))));let u5_1:Tr X A:=(.both (.both (.call (ey.told a0 t5.1 t1.1) fun t6=> .last (.val ((if(wr (t1.2.2+(List.length t5.2.1:Int)))<(24:Int)then(wr (t1.2.2+(List.length t5.2.1:Int)))else(24:Int)):Int) fun v7=> .last (.call (bU.told t6 (0:Int) v7) fun t8=> .last (.call (cH.told (8:Int) t8 t5.1 t5.2.1 t5.2.2.1 t5.2.2.2.1 t5.2.2.2.2.1 t5.2.2.2.2.2.1 t5.2.2.2.2.2.2.1 t5.2.2.2.2.2.2.2.1 t5.2.2.2.2.2.2.2.2.1 t5.2.2.2.2.2.2.2.2.2.1 t5.2.2.2.2.2.2.2.2.2.2.1 t5.2.2.2.2.2.2.2.2.2.2.2) fun t9=> .jump (.c8 ([]:List aN) ([]:List Int) t9.1 t9.2.1 t9.2.2.1 t9.2.2.2.1 t9.2.2.2.2.1 t9.2.2.2.2.2.1 t9.2.2.2.2.2.2.1 t9.2.2.2.2.2.2.2.1 t9.2.2.2.2.2.2.2.2.1 t9.2.2.2.2.2.2.2.2.2.1 t9.2.2.2.2.2.2.2.2.2.2.1 t9.2.2.2.2.2.2.2.2.2.2.2))))) (u5_0)) (u5_0)); .both (u5_1)
  (.both (u5_1)
   (u5_0)))))
def tree:X→Tr X A
 | .c8 x0 x1 x2 x3 x4 x5 x6 x7 x8 x9 x10 x11 x12 x13=>
 let u0_0:Tr X A:=(.last (.bH (((List.length ([]:List Int):Int)+(List.length x4:Int))*(8:Nat)≤room) (.last (.last (.ret (x9,(([]:List Int)++x4))))))); .both (.last (u0_0))
  (.last (.both (u0_0)
   (u0_0)))
def f (a0:List aC) (a1 a2:List Int) (a3:Int):Option A:=(begin a0 a1 a2 a3).run (lp tree)
def Q:bA C:={PL with cb:=[(8,[8,12])],ca:=[(7,[12,14],(.take 1 [] (.take 2 [] (.take 4 [] (.take 6 [] (.take 7 [] (.take 8 [] (.take 9 [0,1,2,3,4,5,6,7,8] (.take 10 [] (.take 11 [] (.alt 0 (.alt 3 (.alt 5 (.alt 12 (.alt 13 (.alt 14 .done .nil) .nil) .nil) (.alt 12 (.alt 5 (.alt 13 (.alt 14 .done .nil) .nil) .nil) .nil)) (.alt 12 (.take 3 [0,1,2,4,6,7,8,9,10,11,12] (.alt 5 (.alt 13 (.alt 14 .done .nil) .nil) .nil)) .nil)) (.alt 3 (.alt 0 (.alt 5 (.alt 12 (.alt 13 (.alt 14 .done .nil) .nil) .nil) (.alt 12 (.alt 5 (.alt 13 (.alt 14 .done .nil) .nil) .nil) .nil)) (.alt 12 (.take 0 [1,2,3,4,6,7,8,9,10,11,12] (.alt 5 (.alt 13 (.alt 14 .done .nil) .nil) .nil)) .nil)) (.alt 12 (.take 0 [1,2,3,4,6,7,8,9,10,11,12] (.take 3 [0,1,2,4,6,7,8,9,10,11,12] (.alt 5 (.alt 13 (.alt 14 .done .nil) .nil) .nil))) .nil))))))))))))),(8,[6,7,8],(.take 0 [] (.take 3 [] (.take 4 [] (.take 5 [0,1,2,3,4] (.alt 1 (.alt 2 (.alt 6 (.alt 7 (.alt 8 .done .nil) .nil) .nil) .nil) (.alt 2 (.alt 1 (.alt 6 (.alt 7 (.alt 8 .done .nil) .nil) .nil) (.alt 6 (.take 1 [0,2,3,4,5,6] (.alt 7 (.alt 8 .done .nil) .nil)) .nil)) .nil)))))))],bV:=[]}
theorem e:aW Pg C Q Tryz.f160 0 id st v o tree:=fun J K x=>by cases x<;>kernel_rfl
theorem b (a0:List aC) (a1 a2:List Int) (a3:Int):aX Pg C Q Tryz.f160 0 id st v o (S a0 a1 a2 a3) (begin a0 a1 a2 a3):=fun J K=>by kernel_rfl
def told (a0:List aC) (a1 a2:List Int) (a3:Int):aa.Told A:=⟨f a0 a1 a2 a3,fun r=>al Pg C 160 (S a0 a1 a2 a3) 0 (v r) (o r),fun r h=>ah G mixed Q Tryz.func160 rfl (of_decide_eq_true (by kernel_rfl)) (by rfl) id st v o (fun _=>rfl) tree e (begin a0 a1 a2 a3) (b a0 a1 a2 a3) h⟩
end eU
namespace cq
def S (a0:List aN) (a1:List Int) (a2:Int):List (PV U):=aa.start C 57 [.agg [.sl 179 a0,.sl 3 a1],.int .i64 a2] []
inductive X where
 | c4 (x0:Int) (x1:List aN) (x2:List Int) (x3 x4 x5:Int)
def id:X→Nat
 | .c4 .. =>4
def st:X→List (PV U)
 | .c4 x0 x1 x2 x3 x4 x5=>iC 57 [(1,.int .i64 x0),(2,.box [.sl 179 x1,.sl 3 x2]),(5,.int .i64 x3),(6,.int .i64 x4),(7,.int .i64 x5)]
def begin (a0:List aN) (a1:List Int) (a2:Int):Tr X A:=
 .jump (.c4 a2 a0 a1 (0:Int) (0:Int) (0:Int))
def tree:X→Tr X A
 | .c4 x0 x1 x2 x3 x4 x5=>
 .ite (decide (x3<(List.length x1:Int)))
  (.ite (decide (x0≥(0:Int)))
   (.bH ((0:Int)≤x3∧x3<(List.length x1:Int)) (.bH ((0:Int)≤(32:Int)) (.bH ((0:Int)≤(32:Int)) (.val ((shiftDown .i64 (wr (x4+(pf .i64 ((kH x1 x3).f0) (4294967295:Int)))) (32:Int)):Int) fun v1=> .val ((pf .i64 (wr (x4+(pf .i64 ((kH x1 x3).f0) (4294967295:Int)))) (4294967295:Int)):Int) fun v2=> .bH ((0:Int)≤(32:Int)) (.val ((decide ((wr ((wr (x5+(shiftDown .i64 ((kH x1 x3).f0) (32:Int))))+v1))>(shiftDown .i64 x0 (32:Int)))):Bool) fun v3=> .ite v3
    (.ret x3)
    (.bH ((0:Int)≤(32:Int)) (.val ((decide ((wr ((wr (x5+(shiftDown .i64 ((kH x1 x3).f0) (32:Int))))+v1))=(shiftDown .i64 x0 (32:Int)))):Bool) fun v4=>let u4_0:Tr X A:=(.jump (.c4 x0 x1 x2 (wr (x3+(1:Int))) v2 (wr ((wr (x5+(shiftDown .i64 ((kH x1 x3).f0) (32:Int))))+v1)))); .ite v4
     (.ite (decide (v2>(pf .i64 x0 (4294967295:Int))))
      (.ret x3)
      (u4_0))
     (u4_0))))))))
   (.ret x3))
  (.ret x3)
def f (a0:List aN) (a1:List Int) (a2:Int):Option A:=(begin a0 a1 a2).run (lp tree)
def Q:bA C:={PL with cb:=[(4,[1,2,5,6,7])],ca:=[],bV:=[]}
theorem e:aW Pg C Q Tryz.f161 0 id st v o tree:=fun J K x=>by cases x<;>kernel_rfl
theorem b (a0:List aN) (a1:List Int) (a2:Int):aX Pg C Q Tryz.f161 0 id st v o (S a0 a1 a2) (begin a0 a1 a2):=fun J K=>by kernel_rfl
def told (a0:List aN) (a1:List Int) (a2:Int):aa.Told A:=⟨f a0 a1 a2,fun r=>al Pg C 161 (S a0 a1 a2) 0 (v r) (o r),fun r h=>ah G mixed Q Tryz.func161 rfl (of_decide_eq_true (by kernel_rfl)) (by rfl) id st v o (fun _=>rfl) tree e (begin a0 a1 a2) (b a0 a1 a2) h⟩
end cq
namespace cn
def S (a0:List aN) (a1:List Int) (a2:Int):List (PV U):=aa.start C 31 [.agg [.sl 179 a0,.sl 3 a1],.int .i64 a2] []
inductive X where
 | c3 (x0:Int) (x1:List aN) (x2:List Int) (x3 x4:Int)
def id:X→Nat
 | .c3 .. =>3
def st:X→List (PV U)
 | .c3 x0 x1 x2 x3 x4=>iC 31 [(1,.int .i64 x0),(2,.box [.sl 179 x1,.sl 3 x2]),(5,.int .i64 x3),(6,.int .i64 x4)]
def begin (a0:List aN) (a1:List Int) (a2:Int):Tr X A:=
 .jump (.c3 a2 a0 a1 (0:Int) (0:Int))
def tree:X→Tr X A
 | .c3 x0 x1 x2 x3 x4=>
 let u0_0:Tr X A:=(.jump (.c3 x0 x1 x2 x3 (wr (x4+(1:Int))))); .ite (decide (x4<x0))
  (.bH ((0:Int)≤x4∧x4<(List.length x1:Int)) (.ite (decide ((kH x1 x4).f1=(-1:Int)))
   (.bH ((0:Int)≤x4∧x4<(List.length x1:Int)) (.ite (decide ((kH x1 x4).f0=(5:Int)))
    (.jump (.c3 x0 x1 x2 (wr (x3+(1:Int))) (wr (x4+(1:Int)))))
    (u0_0)))
   (u0_0)))
  (.ret x3)
def f (a0:List aN) (a1:List Int) (a2:Int):Option A:=(begin a0 a1 a2).run (lp tree)
def Q:bA C:={PL with cb:=[(3,[1,2,5,6])],ca:=[],bV:=[]}
theorem e:aW Pg C Q Tryz.f162 0 id st v o tree:=fun J K x=>by cases x<;>kernel_rfl
theorem b (a0:List aN) (a1:List Int) (a2:Int):aX Pg C Q Tryz.f162 0 id st v o (S a0 a1 a2) (begin a0 a1 a2):=fun J K=>by kernel_rfl
def told (a0:List aN) (a1:List Int) (a2:Int):aa.Told A:=⟨f a0 a1 a2,fun r=>al Pg C 162 (S a0 a1 a2) 0 (v r) (o r),fun r h=>ah G mixed Q Tryz.func162 rfl (of_decide_eq_true (by kernel_rfl)) (by rfl) id st v o (fun _=>rfl) tree e (begin a0 a1 a2) (b a0 a1 a2) h⟩
end cn
namespace bg
def S (a0:List aC) (a1 a2:List Int) (a3 a4:Int):List (PV U):=aa.start C 114 [.agg [.sl 164 a0],.sl 3 a1,.sl 3 a2,.int .i64 a3,.int .i64 a4] []
inductive X where
 | c8 (x0:List Int) (x1:List aC) (x2:List Int) (x3:Int) (x4:List (List Int)) (x5:Int) (x6:List Int) (x7:Int) (x8:List (List Int)) (x9:Int)
 | rE (x0:List Int) (x1:List aC) (x2:List Int) (x3:Int) (x4:List (List Int)) (x5:Int) (x6:List Int) (x7:Int) (x8:List (List Int)) (x9 x10:Int) (x11:List aN) (x12:List Int) (x13:Int)
def id:X→Nat
 | .c8 .. =>8
 | .rE .. =>12
def st:X→List (PV U)
 | .c8 x0 x1 x2 x3 x4 x5 x6 x7 x8 x9=>iC 114 [(2,.sl 3 x0),(5,.box [.sl 164 x1]),(10,.box [.own true 3 x2,.int .i64 x3,.own true 27 x4,.int .i64 x5]),(11,.box [.own true 3 x6,.int .i64 x7,.own true 27 x8,.int .i64 x9])]
 | .rE x0 x1 x2 x3 x4 x5 x6 x7 x8 x9 x10 x11 x12 x13=>iC 114 [(2,.sl 3 x0),(5,.box [.sl 164 x1]),(10,.box [.own true 3 x2,.int .i64 x3,.own true 27 x4,.int .i64 x5]),(11,.box [.own true 3 x6,.int .i64 x7,.own true 27 x8,.int .i64 x9]),(13,.int .i64 x10),(14,.box [.own true 179 x11,.own true 3 x12]),(15,.int .i64 x13)]
def begin (a0:List aC) (a1 a2:List Int) (a3 a4:Int):Tr X A:=
 .call (aY.told a1) fun t1=> .bH ((3:Int)≠0) (.val ((if(wr (Int.tdiv a4 (3:Int)))<(List.length t1:Int)then(wr (Int.tdiv a4 (3:Int)))else(List.length t1:Int)):Int) fun v2=> .call (bM.told a1 t1 v2) fun t3=> .ite (decide (v2<(List.length t1:Int)))
  (.ret (t3,a3,([]:List (List Int)),(wr (a4-(wr (v2*(3:Int)))))))
  (.jump (.c8 a2 a0 ([]:List Int) (0:Int) ([]:List (List Int)) (0:Int) t3 a3 ([]:List (List Int)) (wr (a4-(wr (v2*(3:Int))))))))
def tree:X→Tr X A
 | .c8 x0 x1 x2 x3 x4 x5 x6 x7 x8 x9=>
 .ite (decide ((List.length x8:Int)<(10:Int)))
  (.call (eU.told x1 x6 x0 x7) fun t1=> .call (cq.told t1.1 t1.2 x9) fun t2=> .jump (.rE x0 x1 x2 x3 x4 x5 x6 x7 x8 x9 t2 t1.1 t1.2 (0:Int)))
  (.ret (x6,x7,x8,x9))
 | .rE x0 x1 x2 x3 x4 x5 x6 x7 x8 x9 x10 x11 x12 x13=>
 .ite (decide (x13<x10))
  (.bH ((0:Int)≤x13∧x13<(List.length x11:Int)) (.last (.bH ((0:Int)≤x13∧x13<(List.length x11:Int)) (.ite (!decide ((kH x11 x13).f1=(-1:Int)))
   (.bH ((0:Int)≤x13∧x13<(List.length x11:Int)) (.bH ((0:Int)≤x13∧x13<(List.length x11:Int)) (.bH ((0:Int)≤(kH x11 x13).f1∧(kH x11 x13).f1<(List.length x6:Int)) (.last (.jump (.rE x0 x1 x2 x3 x4 x5 (List.set x6 (Int.toNat ((kH x11 x13).f1)) ((kH x11 x13).f2)) x7 x8 (wr (x9-(kH x11 x13).f0)) x10 x11 x12 (wr (x13+(1:Int)))))))))
   (.jump (.rE x0 x1 x2 x3 x4 x5 x6 x7 x8 (wr (x9-(kH x11 x13).f0)) x10 x11 x12 (wr (x13+(1:Int)))))))))
  (.last (.call (cn.told x11 x12 x10) fun t1=> .last (.ite (decide (x10<(List.length x11:Int)))
   (.ret (x6,(wr (x7+t1)),x8,x9))
   (.bH (((List.length x8:Int)+(List.length ([x12]):Int))*(24:Nat)≤room) (.jump (.c8 x0 x1 x2 x3 x4 x5 x6 (wr (x7+t1)) (x8++[x12]) x9))))))
def f (a0:List aC) (a1 a2:List Int) (a3 a4:Int):Option A:=(begin a0 a1 a2 a3 a4).run (lp tree)
def Q:bA C:={PL with cb:=[(8,[2,5,10,11]),(12,[2,5,10,11,13,14,15])],ca:=[(14,[10],(.take 0 [] (.take 2 [] (.take 4 [] (.take 1 [0,2,3,4,5,6,7] (.take 3 [0,1,2,4] (.take 5 [] (.take 6 [] (.take 7 [0,1,2,3,4,5,6] (.take 8 [] (.take 9 [] (.alt 10 .done .nil)))))))))))),(16,[15],(.take 0 [] (.take 2 [] (.take 4 [] (.take 8 [] (.take 10 [] (.take 1 [0,2,3,4,5,6,7,8,9,10,11,12,13] (.take 3 [0,1,2,4,8,9,10,11,12,13] (.take 5 [] (.take 6 [] (.take 7 [0,1,2,3,4,5,6,8,9,10,11,12,13] (.take 9 [0,1,2,3,4,5,6,7,8,10] (.take 11 [] (.take 12 [] (.take 13 [0,1,2,3,4,5,6,7,8,9,10,11,12] (.take 14 [] (.alt 15 .done .nil))))))))))))))))),(17,[7],(.take 0 [] (.take 3 [] (.take 1 [0,2,3,4] (.take 2 [0,1,3] (.alt 4 (.take 5 [] (.take 6 [] (.alt 7 .done .nil))) .nil))))))],bV:=[]}
theorem e:aW Pg C Q Tryz.f120 0 id st v o tree:=fun J K x=>by cases x<;>kernel_rfl
theorem b (a0:List aC) (a1 a2:List Int) (a3 a4:Int):aX Pg C Q Tryz.f120 0 id st v o (S a0 a1 a2 a3 a4) (begin a0 a1 a2 a3 a4):=fun J K=>by kernel_rfl
def told (a0:List aC) (a1 a2:List Int) (a3 a4:Int):aa.Told A:=⟨f a0 a1 a2 a3 a4,fun r=>al Pg C 120 (S a0 a1 a2 a3 a4) 0 (v r) (o r),fun r h=>ah G mixed Q Tryz.func120 rfl (of_decide_eq_true (by kernel_rfl)) (by rfl) id st v o (fun _=>rfl) tree e (begin a0 a1 a2 a3 a4) (b a0 a1 a2 a3 a4) h⟩
end bg
namespace eO
def S (a0:List aC) (a1 a2:List Int) (a3 a4 a5 a6 a7 a8 a9 a10:Int) (a11:List Int) (a12 a13:Int):List (PV U):=aa.start C 53 [.agg [.sl 164 a0,.sl 3 a1,.sl 3 a2,.int .i64 a3,.int .i64 a4,.int .i64 a5,.int .i64 a6,.int .i64 a7,.int .i64 a8,.int .i64 a9,.int .i64 a10,.sl 3 a11,.int .i64 a12],.int .i64 a13] []
abbrev X:=Empty
def id:X→Nat:=fun _=>0
def st:X→List (PV U):=fun _=>[]
def begin (a0:List aC) (a1 a2:List Int) (a3 a4 a5 a6 a7 a8 a9 a10:Int) (a11:List Int) (a12 a13:Int):Tr X A:=
 .call (aS.told a0 a1 a2 a3 a4 a5 a6 a7 a8 a9 a10 a11 a12) fun t1=> .call (fP.told a4 a5 a6 a7 a13) fun t2=> .call (gE.told a8 a9 (1:Int)) fun t3=> .ite (decide (t2.1≥t2.2.2.1))
  (.call (bg.told a0 a1 a2 a3 t2.1) fun t4=> .ret (t1.1,t4.1,t1.2.2.1,t4.2.1,(0:Int),t2.2.1,t2.2.2.1,t2.2.2.2,t3.1,t3.2,t1.2.2.2.2.2.2.2.2.2.2.1,t1.2.2.2.2.2.2.2.2.2.2.2.1,(wr (a12+(List.length t4.2.2.1:Int)))))
  (.ret (t1.1,t1.2.1,t1.2.2.1,t1.2.2.2.1,t2.1,t2.2.1,t2.2.2.1,t2.2.2.2,t3.1,t3.2,t1.2.2.2.2.2.2.2.2.2.2.1,t1.2.2.2.2.2.2.2.2.2.2.2.1,t1.2.2.2.2.2.2.2.2.2.2.2.2))
def tree:X→Tr X A:=fun _=> .fail
def f (a0:List aC) (a1 a2:List Int) (a3 a4 a5 a6 a7 a8 a9 a10:Int) (a11:List Int) (a12 a13:Int):Option A:=(begin a0 a1 a2 a3 a4 a5 a6 a7 a8 a9 a10 a11 a12 a13).run (lp tree)
def Q:bA C:={PL with cb:=[],ca:=[],bV:=[]}
theorem e:aW Pg C Q Tryz.f62 0 id st v o tree:=fun J K x=>by cases x
theorem b (a0:List aC) (a1 a2:List Int) (a3 a4 a5 a6 a7 a8 a9 a10:Int) (a11:List Int) (a12 a13:Int):aX Pg C Q Tryz.f62 0 id st v o (S a0 a1 a2 a3 a4 a5 a6 a7 a8 a9 a10 a11 a12 a13) (begin a0 a1 a2 a3 a4 a5 a6 a7 a8 a9 a10 a11 a12 a13):=fun J K=>by kernel_rfl
def told (a0:List aC) (a1 a2:List Int) (a3 a4 a5 a6 a7 a8 a9 a10:Int) (a11:List Int) (a12 a13:Int):aa.Told A:=⟨f a0 a1 a2 a3 a4 a5 a6 a7 a8 a9 a10 a11 a12 a13,fun r=>al Pg C 62 (S a0 a1 a2 a3 a4 a5 a6 a7 a8 a9 a10 a11 a12 a13) 0 (v r) (o r),fun r h=>ah G mixed Q Tryz.func62 rfl (of_decide_eq_true (by kernel_rfl)) (by rfl) id st v o (fun _=>rfl) tree e (begin a0 a1 a2 a3 a4 a5 a6 a7 a8 a9 a10 a11 a12 a13) (b a0 a1 a2 a3 a4 a5 a6 a7 a8 a9 a10 a11 a12 a13) h⟩
end eO
namespace bW
def S (a0:List aC) (a1 a2:List Int) (a3 a4 a5 a6 a7 a8 a9 a10:Int) (a11:List Int) (a12 a13:Int):List (PV U):=aa.start C 26 [.agg [.sl 164 a0,.sl 3 a1,.sl 3 a2,.int .i64 a3,.int .i64 a4,.int .i64 a5,.int .i64 a6,.int .i64 a7,.int .i64 a8,.int .i64 a9,.int .i64 a10,.sl 3 a11,.int .i64 a12],.int .i64 a13] []
abbrev X:=Empty
def id:X→Nat:=fun _=>0
def st:X→List (PV U):=fun _=>[]
def begin (a0:List aC) (a1 a2:List Int) (a3 a4 a5 a6 a7 a8 a9 a10:Int) (a11:List Int) (a12 a13:Int):Tr X A:=
 .call (bk.told a0 a1 a2 a3 a4 a5 a6 a7 a8 a9 a10 a11 a12) fun t1=> .ite (!t1)
  (.call (aS.told a0 a1 a2 a3 a4 a5 a6 a7 a8 a9 a10 a11 a12) fun t2=> .ret (t2.1,t2.2.1,t2.2.2.1,t2.2.2.2.1,t2.2.2.2.2.1,t2.2.2.2.2.2.1,t2.2.2.2.2.2.2.1,t2.2.2.2.2.2.2.2.1,t2.2.2.2.2.2.2.2.2.1,t2.2.2.2.2.2.2.2.2.2.1,t2.2.2.2.2.2.2.2.2.2.2.1,t2.2.2.2.2.2.2.2.2.2.2.2.1,t2.2.2.2.2.2.2.2.2.2.2.2.2,false))
  (.call (aG.told a13 (0:Int) (1000:Int)) fun t2=> .ite (!t2)
   (.call (aS.told a0 a1 a2 a3 a4 a5 a6 a7 a8 a9 a10 a11 a12) fun t3=> .ret (t3.1,t3.2.1,t3.2.2.1,t3.2.2.2.1,t3.2.2.2.2.1,t3.2.2.2.2.2.1,t3.2.2.2.2.2.2.1,t3.2.2.2.2.2.2.2.1,t3.2.2.2.2.2.2.2.2.1,t3.2.2.2.2.2.2.2.2.2.1,t3.2.2.2.2.2.2.2.2.2.2.1,t3.2.2.2.2.2.2.2.2.2.2.2.1,t3.2.2.2.2.2.2.2.2.2.2.2.2,false))
   (.call (eO.told a0 a1 a2 a3 a4 a5 a6 a7 a8 a9 a10 a11 a12 a13) fun t3=> .call (bk.told t3.1 t3.2.1 t3.2.2.1 t3.2.2.2.1 t3.2.2.2.2.1 t3.2.2.2.2.2.1 t3.2.2.2.2.2.2.1 t3.2.2.2.2.2.2.2.1 t3.2.2.2.2.2.2.2.2.1 t3.2.2.2.2.2.2.2.2.2.1 t3.2.2.2.2.2.2.2.2.2.2.1 t3.2.2.2.2.2.2.2.2.2.2.2.1 t3.2.2.2.2.2.2.2.2.2.2.2.2) fun t4=> .ite (!t4)
    (.call (aS.told a0 a1 a2 a3 a4 a5 a6 a7 a8 a9 a10 a11 a12) fun t5=> .ret (t5.1,t5.2.1,t5.2.2.1,t5.2.2.2.1,t5.2.2.2.2.1,t5.2.2.2.2.2.1,t5.2.2.2.2.2.2.1,t5.2.2.2.2.2.2.2.1,t5.2.2.2.2.2.2.2.2.1,t5.2.2.2.2.2.2.2.2.2.1,t5.2.2.2.2.2.2.2.2.2.2.1,t5.2.2.2.2.2.2.2.2.2.2.2.1,t5.2.2.2.2.2.2.2.2.2.2.2.2,false))
    (.ret (t3.1,t3.2.1,t3.2.2.1,t3.2.2.2.1,t3.2.2.2.2.1,t3.2.2.2.2.2.1,t3.2.2.2.2.2.2.1,t3.2.2.2.2.2.2.2.1,t3.2.2.2.2.2.2.2.2.1,t3.2.2.2.2.2.2.2.2.2.1,t3.2.2.2.2.2.2.2.2.2.2.1,t3.2.2.2.2.2.2.2.2.2.2.2.1,t3.2.2.2.2.2.2.2.2.2.2.2.2,true))))
def tree:X→Tr X A:=fun _=> .fail
def f (a0:List aC) (a1 a2:List Int) (a3 a4 a5 a6 a7 a8 a9 a10:Int) (a11:List Int) (a12 a13:Int):Option A:=(begin a0 a1 a2 a3 a4 a5 a6 a7 a8 a9 a10 a11 a12 a13).run (lp tree)
def Q:bA C:={PL with cb:=[],ca:=[],bV:=[]}
theorem e:aW Pg C Q Tryz.f18 0 id st v o tree:=fun J K x=>by cases x
theorem b (a0:List aC) (a1 a2:List Int) (a3 a4 a5 a6 a7 a8 a9 a10:Int) (a11:List Int) (a12 a13:Int):aX Pg C Q Tryz.f18 0 id st v o (S a0 a1 a2 a3 a4 a5 a6 a7 a8 a9 a10 a11 a12 a13) (begin a0 a1 a2 a3 a4 a5 a6 a7 a8 a9 a10 a11 a12 a13):=fun J K=>by kernel_rfl
def told (a0:List aC) (a1 a2:List Int) (a3 a4 a5 a6 a7 a8 a9 a10:Int) (a11:List Int) (a12 a13:Int):aa.Told A:=⟨f a0 a1 a2 a3 a4 a5 a6 a7 a8 a9 a10 a11 a12 a13,fun r=>al Pg C 18 (S a0 a1 a2 a3 a4 a5 a6 a7 a8 a9 a10 a11 a12 a13) 0 (v r) (o r),fun r h=>ah G mixed Q Tryz.func18 rfl (of_decide_eq_true (by kernel_rfl)) (by rfl) id st v o (fun _=>rfl) tree e (begin a0 a1 a2 a3 a4 a5 a6 a7 a8 a9 a10 a11 a12 a13) (b a0 a1 a2 a3 a4 a5 a6 a7 a8 a9 a10 a11 a12 a13) h⟩
end bW
end
end Go.Proofs.YtmapddgocpkgeaaGreat.Ev
