/- Functions as trees, with their contracts. No conditions. -/
import Derived.Test.YtmapddgocpkgeaaGreatUEvF4
namespace Go.Proofs.YtmapddgocpkgeaaGreat.Ev
open Go.Proofs.YtmapddgocpkgeaaGreat.aa Go.RowKit
set_option linter.unusedVariables false
set_option maxRecDepth 100000
noncomputable section
namespace aK
def S (a0 a1 a2:List Int):List (PV U):=aa.start C 19 [.sl 3 a0,.fn 213 [.ptr 19 0,.ptr 20 0]] [.box [.own true 3 a1],.box [.own true 3 a2]]
inductive X where
 | c2 (x0:List Int) (x1 x2:Int) (x3 x4:List Int)
def id:X→Nat
 | .c2 .. =>2
def st:X→List (PV U)
 | .c2 x0 x1 x2 x3 x4=>iC 21 [(0,.sl 3 x0),(1,.fn 213 [.ptr 19 0,.ptr 20 0]),(7,.int .i64 x1),(8,.int .i64 x2),(19,.box [.own true 3 x3]),(20,.box [.own true 3 x4])]
def begin (a0 a1 a2:List Int):Tr X A:=
 .jump (.c2 a0 (List.length a0:Int) (0:Int) a1 a2)
def tree:X→Tr X A
 | .c2 x0 x1 x2 x3 x4=>
 .ite (decide (x2<x1))
  (.bH ((0:Int)≤x2∧x2<(List.length x0:Int)) (.call (cR.told (dh x0 x2) x3 x4) fun t1=> .ite t1.1
   (.ret (x2,t1.2.1,t1.2.2))
   (.jump (.c2 x0 x1 (wr (x2+(1:Int))) t1.2.1 t1.2.2))))
  (.ret ((-1:Int),x3,x4))
def f (a0 a1 a2:List Int):Option A:=(begin a0 a1 a2).run (lp tree)
def Q:bA C:={PL with cb:=[(2,[0,1,7,8,19,20])],ca:=[],bV:=[]}
theorem e:aW Pg C Q Tryz.f152 2 id st v o tree:=fun J K x=>by cases x<;>kernel_rfl
theorem b (a0 a1 a2:List Int):aX Pg C Q Tryz.f152 2 id st v o (S a0 a1 a2) (begin a0 a1 a2):=fun J K=>by kernel_rfl
def told (a0 a1 a2:List Int):aa.Told A:=⟨f a0 a1 a2,fun r=>al Pg C 152 (S a0 a1 a2) 2 (v r) (o r),fun r h=>ah G mixed Q Tryz.func152 rfl (of_decide_eq_true (by kernel_rfl)) (by rfl) id st v o (fun _=>rfl) tree e (begin a0 a1 a2) (b a0 a1 a2) h⟩
end aK
namespace ax
def S (a0 a1 a2:List Int):List (PV U):=aa.start C 42 [.own true 3 a0,.fn 213 [.ptr 42 0,.ptr 43 0]] [.box [.own true 3 a1],.box [.own true 3 a2]]
inductive X where
 | c5 (x0:List Int) (x1 x2:Int) (x3 x4:List Int)
def id:X→Nat
 | .c5 .. =>5
def st:X→List (PV U)
 | .c5 x0 x1 x2 x3 x4=>iC 44 [(0,.own true 3 x0),(1,.fn 213 [.ptr 42 0,.ptr 43 0]),(5,.int .i64 x1),(6,.int .i64 x2),(42,.box [.own true 3 x3]),(43,.box [.own true 3 x4])]
def begin (a0 a1 a2:List Int):Tr X A:=
 .call (aK.told a0 a1 a2) fun t1=> .ite (decide (t1.1=(-1:Int)))
  (.ret (a0,t1.2.1,t1.2.2))
  (.jump (.c5 a0 t1.1 (wr (t1.1+(1:Int))) t1.2.1 t1.2.2))
def tree:X→Tr X A
 | .c5 x0 x1 x2 x3 x4=>
 .ite (decide (x2<(List.length x0:Int)))
  (.bH ((0:Int)≤x2∧x2<(List.length x0:Int)) (.call (cR.told (dh x0 x2) x3 x4) fun t1=> .ite (!t1.1)
   (.bH ((0:Int)≤x1∧x1<(List.length x0:Int)) (.jump (.c5 (List.set x0 (Int.toNat x1) (dh x0 x2)) (wr (x1+(1:Int))) (wr (x2+(1:Int))) t1.2.1 t1.2.2)))
   (.jump (.c5 x0 x1 (wr (x2+(1:Int))) t1.2.1 t1.2.2))))
  (.bH ((0:Int)≤x1∧x1<(List.length x0:Int)) (.bH ((0:Int)≤(0:Int)∧(0:Int)≤x1∧x1≤(List.length (List.take (Int.toNat x1) x0++List.replicate (List.length x0-Int.toNat x1) (0:Int)):Int)) (.val ((List.take (Int.toNat x1) (List.take (Int.toNat x1) x0++List.replicate (List.length x0-Int.toNat x1) (0:Int))):List Int) fun v1=> .ret (v1,x3,x4))))
def f (a0 a1 a2:List Int):Option A:=(begin a0 a1 a2).run (lp tree)
def Q:bA C:={PL with ret:=fun f_=>lookup f_ ((152,(⟨aK.A,aK.v,aK.o⟩:Fh C))::Ck),cb:=[(5,[0,1,5,6,42,43])],ca:=[],bV:=[(1000000,[(4,[])]),(3000000,[])]}
theorem e:aW Pg C Q Tryz.f211 2 id st v o tree:=fun J K x=>by cases x<;>kernel_rfl
theorem b (a0 a1 a2:List Int):aX Pg C Q Tryz.f211 2 id st v o (S a0 a1 a2) (begin a0 a1 a2):=fun J K=>by kernel_rfl
def told (a0 a1 a2:List Int):aa.Told A:=⟨f a0 a1 a2,fun r=>al Pg C 211 (S a0 a1 a2) 2 (v r) (o r),fun r h=>ah G mixed Q Tryz.func211 rfl (of_decide_eq_true (by kernel_rfl)) (by rfl) id st v o (fun _=>rfl) tree e (begin a0 a1 a2) (b a0 a1 a2) h⟩
end ax
namespace dS
def S (a0:List aB) (a1 a2 a3:Int):List (PV U):=aa.start C 18 [.agg [.sl 204 a0,.int .i64 a1,.int .i64 a2,.int .i64 a3]] []
inductive X where
 | c4 (x0:List aB) (x1 x2 x3:Int) (x4 x5:List Int)
def id:X→Nat
 | .c4 .. =>4
def st:X→List (PV U)
 | .c4 x0 x1 x2 x3 x4 x5=>iC 18 [(1,.box [.sl 204 x0,.int .i64 x1,.int .i64 x2,.int .i64 x3]),(3,.box [.own true 3 x4]),(4,.box [.own true 3 x5])]
def begin (a0:List aB) (a1 a2 a3:Int):Tr X A:=
 .call (dn.told a0 a1 a2 a3) fun t1=>let u1_0:Tr X A:=(.both (.call (bD.told a0 a1 a2 a3) fun t2=> .both (.call (bo.told a0) fun t3=> .last (.last (.last (.jump (.c4 a0 a1 a2 a3 t2 t3))))) (.last (.last (.call (bo.told a0) fun t3=> .last (.last (.jump (.c4 a0 a1 a2 a3 t2 t3))))))) (.last (.last (.call (bD.told a0 a1 a2 a3) fun t2=> .last (.call (bo.told a0) fun t3=> .last (.last (.jump (.c4 a0 a1 a2 a3 t2 t3)))))))); .ite (!t1)
  (.ret (([]:List Int)))
  (.both (.call (bD.told a0 a1 a2 a3) fun t2=>let u2_0:Tr X A:=(.both (.call (bo.told a0) fun t3=> .last (.last (.last (.jump (.c4 a0 a1 a2 a3 t2 t3))))) (.last (.last (.call (bo.told a0) fun t3=> .last (.last (.jump (.c4 a0 a1 a2 a3 t2 t3))))))); .both (.call (bo.told a0) fun t3=>let u3_0:Tr X A:=(.last (.last (.last (.jump (.c4 a0 a1 a2 a3 t2 t3))))); .both (u3_0)
   (.last (u3_0)))
    (.both (u2_0)
     (.last (u2_0))))
   (.both (u1_0)
    (.last (u1_0))))
def tree:X→Tr X A
 | .c4 x0 x1 x2 x3 x4 x5=>
 .call (fT.told x0) fun t1=> .call (ax.told t1 x4 x5) fun t2=> .ret t2.1
def f (a0:List aB) (a1 a2 a3:Int):Option A:=(begin a0 a1 a2 a3).run (lp tree)
def Q:bA C:={PL with cb:=[(4,[1,3,4])],ca:=[(3,[7,8],(.take 2 [] (.take 0 [2,3,5,6] (.take 3 [0,1,2,5,6] (.alt 1 (.alt 4 (.alt 5 (.alt 6 (.alt 7 (.alt 8 .done .nil) .nil) .nil) (.alt 6 (.alt 5 (.alt 7 (.alt 8 .done .nil) .nil) .nil) .nil)) (.alt 5 (.alt 4 (.alt 6 (.alt 7 (.alt 8 .done .nil) .nil) .nil) (.alt 6 (.alt 4 (.alt 7 (.alt 8 .done .nil) .nil) .nil) .nil)) (.alt 6 (.alt 4 (.alt 5 (.alt 7 (.alt 8 .done .nil) .nil) .nil) (.alt 5 (.alt 4 (.alt 7 (.alt 8 .done .nil) .nil) .nil) .nil)) .nil))) (.alt 5 (.alt 1 (.alt 4 (.alt 6 (.alt 7 (.alt 8 .done .nil) .nil) .nil) (.alt 6 (.alt 4 (.alt 7 (.alt 8 .done .nil) .nil) .nil) .nil)) (.alt 6 (.alt 1 (.alt 4 (.alt 7 (.alt 8 .done .nil) .nil) .nil) .nil) .nil)) (.alt 6 (.alt 1 (.alt 4 (.alt 5 (.alt 7 (.alt 8 .done .nil) .nil) .nil) (.alt 5 (.alt 4 (.alt 7 (.alt 8 .done .nil) .nil) .nil) .nil)) (.alt 5 (.alt 1 (.alt 4 (.alt 7 (.alt 8 .done .nil) .nil) .nil) .nil) .nil)) .nil)))))))],bV:=[(1000000,[(2,[])]),(3000000,[])]}
theorem e:aW Pg C Q Tryz.f177 0 id st v o tree:=fun J K x=>by cases x<;>kernel_rfl
theorem b (a0:List aB) (a1 a2 a3:Int):aX Pg C Q Tryz.f177 0 id st v o (S a0 a1 a2 a3) (begin a0 a1 a2 a3):=fun J K=>by kernel_rfl
def told (a0:List aB) (a1 a2 a3:Int):aa.Told A:=⟨f a0 a1 a2 a3,fun r=>al Pg C 177 (S a0 a1 a2 a3) 0 (v r) (o r),fun r h=>ah G mixed Q Tryz.func177 rfl (of_decide_eq_true (by kernel_rfl)) (by rfl) id st v o (fun _=>rfl) tree e (begin a0 a1 a2 a3) (b a0 a1 a2 a3) h⟩
end dS
namespace eT
def S (a0 a1 a2 a3 a4 a5:Int):List (PV U):=aa.start C 11 [.agg [.int .i64 a0,.int .i64 a1,.int .i64 a2,.int .i64 a3,.int .i64 a4,.int .i64 a5]] []
abbrev X:=Empty
def id:X→Nat:=fun _=>0
def st:X→List (PV U):=fun _=>[]
def begin (a0 a1 a2 a3 a4 a5:Int):Tr X A:=
 .call (dx.told a0 a1 a2 a3 a4 a5) fun t1=> .ite (!t1)
  (.ret ((0:Int)))
  (.bH ((0:Int)≤a0∧a0<(List.length ([(0:Int),(2:Int),(5:Int),(4:Int),(1:Int),(1:Int),(0:Int)]):Int)) (.ret ((dh ([(0:Int),(2:Int),(5:Int),(4:Int),(1:Int),(1:Int),(0:Int)]) a0))))
def tree:X→Tr X A:=fun _=> .fail
def f (a0 a1 a2 a3 a4 a5:Int):Option A:=(begin a0 a1 a2 a3 a4 a5).run (lp tree)
def Q:bA C:={PL with cb:=[],ca:=[],bV:=[]}
theorem e:aW Pg C Q Tryz.f181 0 id st v o tree:=fun J K x=>by cases x
theorem b (a0 a1 a2 a3 a4 a5:Int):aX Pg C Q Tryz.f181 0 id st v o (S a0 a1 a2 a3 a4 a5) (begin a0 a1 a2 a3 a4 a5):=fun J K=>by kernel_rfl
def told (a0 a1 a2 a3 a4 a5:Int):aa.Told A:=⟨f a0 a1 a2 a3 a4 a5,fun r=>al Pg C 181 (S a0 a1 a2 a3 a4 a5) 0 (v r) (o r),fun r h=>ah G mixed Q Tryz.func181 rfl (of_decide_eq_true (by kernel_rfl)) (by rfl) id st v o (fun _=>rfl) tree e (begin a0 a1 a2 a3 a4 a5) (b a0 a1 a2 a3 a4 a5) h⟩
end eT
namespace cE
def S (a0:Int) (a1:List aN) (a2:List Int) (a3 a4 a5:Int) (a6:List Int) (a7 a8 a9 a10 a11 a12 a13 a14:Bool) (a15:List Int):List (PV U):=aa.start C 17 [.ptr 17 0,.int .i64 a0] [.box [.own true 179 a1,.own true 3 a2,.int .i64 a3,.int .i64 a4,.int .i64 a5,.own true 3 a6,.bool a7,.bool a8,.bool a9,.bool a10,.bool a11,.bool a12,.bool a13,.bool a14,.own true 3 a15]]
abbrev X:=Empty
def id:X→Nat:=fun _=>0
def st:X→List (PV U):=fun _=>[]
def begin (a0:Int) (a1:List aN) (a2:List Int) (a3 a4 a5:Int) (a6:List Int) (a7 a8 a9 a10 a11 a12 a13 a14:Bool) (a15:List Int):Tr X A:=
 .bH (((List.length a1:Int)+(List.length ([(⟨a0,(-1:Int),(0:Int)⟩:aN)]):Int))*(24:Nat)≤room) (.ret ((a1++[(⟨a0,(-1:Int),(0:Int)⟩:aN)]),a2,a3,a4,a5,a6,a7,a8,a9,a10,a11,a12,a13,a14,a15))
def tree:X→Tr X A:=fun _=> .fail
def f (a0:Int) (a1:List aN) (a2:List Int) (a3 a4 a5:Int) (a6:List Int) (a7 a8 a9 a10 a11 a12 a13 a14:Bool) (a15:List Int):Option A:=(begin a0 a1 a2 a3 a4 a5 a6 a7 a8 a9 a10 a11 a12 a13 a14 a15).run (lp tree)
def Q:bA C:={PL with cb:=[],ca:=[],bV:=[]}
theorem e:aW Pg C Q Tryz.f180 1 id st v o tree:=fun J K x=>by cases x
theorem b (a0:Int) (a1:List aN) (a2:List Int) (a3 a4 a5:Int) (a6:List Int) (a7 a8 a9 a10 a11 a12 a13 a14:Bool) (a15:List Int):aX Pg C Q Tryz.f180 1 id st v o (S a0 a1 a2 a3 a4 a5 a6 a7 a8 a9 a10 a11 a12 a13 a14 a15) (begin a0 a1 a2 a3 a4 a5 a6 a7 a8 a9 a10 a11 a12 a13 a14 a15):=fun J K=>by kernel_rfl
def told (a0:Int) (a1:List aN) (a2:List Int) (a3 a4 a5:Int) (a6:List Int) (a7 a8 a9 a10 a11 a12 a13 a14:Bool) (a15:List Int):aa.Told A:=⟨f a0 a1 a2 a3 a4 a5 a6 a7 a8 a9 a10 a11 a12 a13 a14 a15,fun r=>al Pg C 180 (S a0 a1 a2 a3 a4 a5 a6 a7 a8 a9 a10 a11 a12 a13 a14 a15) 1 (v r) (o r),fun r h=>ah G mixed Q Tryz.func180 rfl (of_decide_eq_true (by kernel_rfl)) (by rfl) id st v o (fun _=>rfl) tree e (begin a0 a1 a2 a3 a4 a5 a6 a7 a8 a9 a10 a11 a12 a13 a14 a15) (b a0 a1 a2 a3 a4 a5 a6 a7 a8 a9 a10 a11 a12 a13 a14 a15) h⟩
end cE
namespace gh
def S (a0:List Int):List (PV U):=aa.start C 10 [.sl 3 a0] []
abbrev X:=Empty
def id:X→Nat:=fun _=>0
def st:X→List (PV U):=fun _=>[]
def begin (a0:List Int):Tr X A:=
 .ite (decide ((List.length a0:Int)=(8:Int)))
  (.call (dc.told a0) fun t1=> .ret t1)
  (.ret false)
def tree:X→Tr X A:=fun _=> .fail
def f (a0:List Int):Option A:=(begin a0).run (lp tree)
def Q:bA C:={PL with cb:=[],ca:=[],bV:=[]}
theorem e:aW Pg C Q Tryz.f218 0 id st v o tree:=fun J K x=>by cases x
theorem b (a0:List Int):aX Pg C Q Tryz.f218 0 id st v o (S a0) (begin a0):=fun J K=>by kernel_rfl
def told (a0:List Int):aa.Told A:=⟨f a0,fun r=>al Pg C 218 (S a0) 0 (v r) (o r),fun r h=>ah G mixed Q Tryz.func218 rfl (of_decide_eq_true (by kernel_rfl)) (by rfl) id st v o (fun _=>rfl) tree e (begin a0) (b a0) h⟩
end gh
namespace gl
def S (a0:List Int) (a1:Int):List (PV U):=aa.start C 13 [.sl 3 a0,.int .i64 a1] []
abbrev X:=Empty
def id:X→Nat:=fun _=>0
def st:X→List (PV U):=fun _=>[]
def begin (a0:List Int) (a1:Int):Tr X A:=
 .ite (decide (a1<(0:Int)))
  (.bH ((0:Int)≤(wr ((-1:Int)-a1))∧(wr ((-1:Int)-a1))<(List.length a0:Int)) (.ret ((dh a0 (wr ((-1:Int)-a1))))))
  (.ret a1)
def tree:X→Tr X A:=fun _=> .fail
def f (a0:List Int) (a1:Int):Option A:=(begin a0 a1).run (lp tree)
def Q:bA C:={PL with cb:=[],ca:=[],bV:=[]}
theorem e:aW Pg C Q Tryz.f219 0 id st v o tree:=fun J K x=>by cases x
theorem b (a0:List Int) (a1:Int):aX Pg C Q Tryz.f219 0 id st v o (S a0 a1) (begin a0 a1):=fun J K=>by kernel_rfl
def told (a0:List Int) (a1:Int):aa.Told A:=⟨f a0 a1,fun r=>al Pg C 219 (S a0 a1) 0 (v r) (o r),fun r h=>ah G mixed Q Tryz.func219 rfl (of_decide_eq_true (by kernel_rfl)) (by rfl) id st v o (fun _=>rfl) tree e (begin a0 a1) (b a0 a1) h⟩
end gl
namespace cM
def S (a0:Int):List (PV U):=aa.start C 5 [.int .i64 a0] []
abbrev X:=Empty
def id:X→Nat:=fun _=>0
def st:X→List (PV U):=fun _=>[]
def begin (a0:Int):Tr X A:=
 .call (cm.told a0 (-1000000:Int) (1000000:Int)) fun t1=> .ret t1
def tree:X→Tr X A:=fun _=> .fail
def f (a0:Int):Option A:=(begin a0).run (lp tree)
def Q:bA C:={PL with cb:=[],ca:=[],bV:=[]}
theorem e:aW Pg C Q Tryz.f247 0 id st v o tree:=fun J K x=>by cases x
theorem b (a0:Int):aX Pg C Q Tryz.f247 0 id st v o (S a0) (begin a0):=fun J K=>by kernel_rfl
def told (a0:Int):aa.Told A:=⟨f a0,fun r=>al Pg C 247 (S a0) 0 (v r) (o r),fun r h=>ah G mixed Q Tryz.func247 rfl (of_decide_eq_true (by kernel_rfl)) (by rfl) id st v o (fun _=>rfl) tree e (begin a0) (b a0) h⟩
end cM
namespace dJ
def S (a0 a1:Int):List (PV U):=aa.start C 11 [.int .i64 a0,.int .i64 a1] []
abbrev X:=Empty
def id:X→Nat:=fun _=>0
def st:X→List (PV U):=fun _=>[]
def begin (a0 a1:Int):Tr X A:=
 .call (cM.told a0) fun t1=> .call (cM.told a1) fun t2=> .call (cM.told (wr (t1+t2))) fun t3=> .ret t3
def tree:X→Tr X A:=fun _=> .fail
def f (a0 a1:Int):Option A:=(begin a0 a1).run (lp tree)
def Q:bA C:={PL with cb:=[],ca:=[],bV:=[]}
theorem e:aW Pg C Q Tryz.f220 0 id st v o tree:=fun J K x=>by cases x
theorem b (a0 a1:Int):aX Pg C Q Tryz.f220 0 id st v o (S a0 a1) (begin a0 a1):=fun J K=>by kernel_rfl
def told (a0 a1:Int):aa.Told A:=⟨f a0 a1,fun r=>al Pg C 220 (S a0 a1) 0 (v r) (o r),fun r h=>ah G mixed Q Tryz.func220 rfl (of_decide_eq_true (by kernel_rfl)) (by rfl) id st v o (fun _=>rfl) tree e (begin a0 a1) (b a0 a1) h⟩
end dJ
namespace fm
def S (a0 a1:Int):List (PV U):=aa.start C 11 [.int .i64 a0,.int .i64 a1] []
abbrev X:=Empty
def id:X→Nat:=fun _=>0
def st:X→List (PV U):=fun _=>[]
def begin (a0 a1:Int):Tr X A:=
 .call (cM.told a0) fun t1=> .call (cM.told a1) fun t2=> .call (cM.told (wr (t1-t2))) fun t3=> .ret t3
def tree:X→Tr X A:=fun _=> .fail
def f (a0 a1:Int):Option A:=(begin a0 a1).run (lp tree)
def Q:bA C:={PL with cb:=[],ca:=[],bV:=[]}
theorem e:aW Pg C Q Tryz.f221 0 id st v o tree:=fun J K x=>by cases x
theorem b (a0 a1:Int):aX Pg C Q Tryz.f221 0 id st v o (S a0 a1) (begin a0 a1):=fun J K=>by kernel_rfl
def told (a0 a1:Int):aa.Told A:=⟨f a0 a1,fun r=>al Pg C 221 (S a0 a1) 0 (v r) (o r),fun r h=>ah G mixed Q Tryz.func221 rfl (of_decide_eq_true (by kernel_rfl)) (by rfl) id st v o (fun _=>rfl) tree e (begin a0 a1) (b a0 a1) h⟩
end fm
namespace fl
def S (a0 a1:Int):List (PV U):=aa.start C 11 [.int .i64 a0,.int .i64 a1] []
abbrev X:=Empty
def id:X→Nat:=fun _=>0
def st:X→List (PV U):=fun _=>[]
def begin (a0 a1:Int):Tr X A:=
 .call (cM.told a0) fun t1=> .call (cM.told a1) fun t2=> .call (cM.told (wr (t1*t2))) fun t3=> .ret t3
def tree:X→Tr X A:=fun _=> .fail
def f (a0 a1:Int):Option A:=(begin a0 a1).run (lp tree)
def Q:bA C:={PL with cb:=[],ca:=[],bV:=[]}
theorem e:aW Pg C Q Tryz.f222 0 id st v o tree:=fun J K x=>by cases x
theorem b (a0 a1:Int):aX Pg C Q Tryz.f222 0 id st v o (S a0 a1) (begin a0 a1):=fun J K=>by kernel_rfl
def told (a0 a1:Int):aa.Told A:=⟨f a0 a1,fun r=>al Pg C 222 (S a0 a1) 0 (v r) (o r),fun r h=>ah G mixed Q Tryz.func222 rfl (of_decide_eq_true (by kernel_rfl)) (by rfl) id st v o (fun _=>rfl) tree e (begin a0 a1) (b a0 a1) h⟩
end fl
namespace iW
def S (a0:Bool):List (PV U):=aa.start C 4 [.bool a0] []
abbrev X:=Empty
def id:X→Nat:=fun _=>0
def st:X→List (PV U):=fun _=>[]
def begin (a0:Bool):Tr X A:=
 .ite a0
  (.ret ((1:Int)))
  (.ret ((0:Int)))
def tree:X→Tr X A:=fun _=> .fail
def f (a0:Bool):Option A:=(begin a0).run (lp tree)
def Q:bA C:={PL with cb:=[],ca:=[],bV:=[]}
theorem e:aW Pg C Q Tryz.f136 0 id st v o tree:=fun J K x=>by cases x
theorem b (a0:Bool):aX Pg C Q Tryz.f136 0 id st v o (S a0) (begin a0):=fun J K=>by kernel_rfl
def told (a0:Bool):aa.Told A:=⟨f a0,fun r=>al Pg C 136 (S a0) 0 (v r) (o r),fun r h=>ah G mixed Q Tryz.func136 rfl (of_decide_eq_true (by kernel_rfl)) (by rfl) id st v o (fun _=>rfl) tree e (begin a0) (b a0) h⟩
end iW
namespace cG
def S (a0:List Int) (a1 a2 a3:Int):List (PV U):=aa.start C 60 [.sl 3 a0,.agg [.int .i64 a1,.int .i64 a2,.int .i64 a3]] []
abbrev X:=Empty
def id:X→Nat:=fun _=>0
def st:X→List (PV U):=fun _=>[]
def begin (a0:List Int) (a1 a2 a3:Int):Tr X A:=
 .call (gh.told a0) fun t1=> .ite (!t1)
  (.ret ((0:Int)))
  (.call (cV.told a1 a2 a3) fun t2=> .ite (!t2)
   (.ret ((0:Int)))
   (.last (.call (gl.told a0 a2) fun t3=> .last (.call (gl.told a0 a3) fun t4=> .ite (decide (a1=(1:Int)))
    (.call (dJ.told t3 t4) fun t5=> .ret t5)
    (.ite (decide (a1=(2:Int)))
     (.call (fm.told t3 t4) fun t5=> .ret t5)
     (.ite (decide (a1=(3:Int)))
      (.call (fl.told t3 t4) fun t5=> .ret t5)
      (.ite (decide (a1=(4:Int)))
       (.ret ((if t4<t3 then t4 else t3)))
       (.ite (decide (a1=(5:Int)))
        (.ret ((if t4>t3 then t4 else t3)))
        (.ite (decide (a1=(6:Int)))
         (.call (iW.told (decide (t3<t4))) fun t5=> .ret t5)
         (.call (iW.told (decide (t3=t4))) fun t5=> .ret t5))))))))))
def tree:X→Tr X A:=fun _=> .fail
def f (a0:List Int) (a1 a2 a3:Int):Option A:=(begin a0 a1 a2 a3).run (lp tree)
def Q:bA C:={PL with cb:=[],ca:=[(3,[],(.take 0 [] (.take 1 [] (.take 4 [] (.take 5 [] (.take 2 [0,1,4,5,6] (.take 6 [0,1,2,3,4,5] (.alt 3 (.alt 7 (.take 8 [] (.take 9 [] .done)) .nil) .nil))))))))],bV:=[]}
theorem e:aW Pg C Q Tryz.f183 0 id st v o tree:=fun J K x=>by cases x
theorem b (a0:List Int) (a1 a2 a3:Int):aX Pg C Q Tryz.f183 0 id st v o (S a0 a1 a2 a3) (begin a0 a1 a2 a3):=fun J K=>by kernel_rfl
def told (a0:List Int) (a1 a2 a3:Int):aa.Told A:=⟨f a0 a1 a2 a3,fun r=>al Pg C 183 (S a0 a1 a2 a3) 0 (v r) (o r),fun r h=>ah G mixed Q Tryz.func183 rfl (of_decide_eq_true (by kernel_rfl)) (by rfl) id st v o (fun _=>rfl) tree e (begin a0 a1 a2 a3) (b a0 a1 a2 a3) h⟩
end cG
namespace bw
def S (a0 a1:Int) (a2:List aN) (a3:List Int) (a4 a5 a6:Int) (a7:List Int) (a8 a9 a10 a11 a12 a13 a14 a15:Bool) (a16:List Int):List (PV U):=aa.start C 20 [.ptr 20 0,.int .i64 a0,.int .i64 a1] [.box [.own true 179 a2,.own true 3 a3,.int .i64 a4,.int .i64 a5,.int .i64 a6,.own true 3 a7,.bool a8,.bool a9,.bool a10,.bool a11,.bool a12,.bool a13,.bool a14,.bool a15,.own true 3 a16]]
abbrev X:=Empty
def id:X→Nat:=fun _=>0
def st:X→List (PV U):=fun _=>[]
def begin (a0 a1:Int) (a2:List aN) (a3:List Int) (a4 a5 a6:Int) (a7:List Int) (a8 a9 a10 a11 a12 a13 a14 a15:Bool) (a16:List Int):Tr X A:=
 .bH (((List.length a2:Int)+(List.length ([(⟨(3:Int),a0,a1⟩:aN)]):Int))*(24:Nat)≤room) (.ret ((a2++[(⟨(3:Int),a0,a1⟩:aN)]),a3,a4,a5,a6,a7,a8,a9,a10,a11,a12,a13,a14,a15,a16))
def tree:X→Tr X A:=fun _=> .fail
def f (a0 a1:Int) (a2:List aN) (a3:List Int) (a4 a5 a6:Int) (a7:List Int) (a8 a9 a10 a11 a12 a13 a14 a15:Bool) (a16:List Int):Option A:=(begin a0 a1 a2 a3 a4 a5 a6 a7 a8 a9 a10 a11 a12 a13 a14 a15 a16).run (lp tree)
def Q:bA C:={PL with cb:=[],ca:=[],bV:=[]}
theorem e:aW Pg C Q Tryz.f186 1 id st v o tree:=fun J K x=>by cases x
theorem b (a0 a1:Int) (a2:List aN) (a3:List Int) (a4 a5 a6:Int) (a7:List Int) (a8 a9 a10 a11 a12 a13 a14 a15:Bool) (a16:List Int):aX Pg C Q Tryz.f186 1 id st v o (S a0 a1 a2 a3 a4 a5 a6 a7 a8 a9 a10 a11 a12 a13 a14 a15 a16) (begin a0 a1 a2 a3 a4 a5 a6 a7 a8 a9 a10 a11 a12 a13 a14 a15 a16):=fun J K=>by kernel_rfl
def told (a0 a1:Int) (a2:List aN) (a3:List Int) (a4 a5 a6:Int) (a7:List Int) (a8 a9 a10 a11 a12 a13 a14 a15:Bool) (a16:List Int):aa.Told A:=⟨f a0 a1 a2 a3 a4 a5 a6 a7 a8 a9 a10 a11 a12 a13 a14 a15 a16,fun r=>al Pg C 186 (S a0 a1 a2 a3 a4 a5 a6 a7 a8 a9 a10 a11 a12 a13 a14 a15 a16) 1 (v r) (o r),fun r h=>ah G mixed Q Tryz.func186 rfl (of_decide_eq_true (by kernel_rfl)) (by rfl) id st v o (fun _=>rfl) tree e (begin a0 a1 a2 a3 a4 a5 a6 a7 a8 a9 a10 a11 a12 a13 a14 a15 a16) (b a0 a1 a2 a3 a4 a5 a6 a7 a8 a9 a10 a11 a12 a13 a14 a15 a16) h⟩
end bw
namespace aE
def S (a0:List Int) (a1 a2:Int) (a3:List aN) (a4:List Int) (a5 a6 a7:Int) (a8:List Int) (a9 a10 a11 a12 a13 a14 a15 a16:Bool) (a17:List Int):List (PV U):=aa.start C 85 [.ptr 85 0,.sl 3 a0,.int .i64 a1,.int .i64 a2] [.box [.own true 179 a3,.own true 3 a4,.int .i64 a5,.int .i64 a6,.int .i64 a7,.own true 3 a8,.bool a9,.bool a10,.bool a11,.bool a12,.bool a13,.bool a14,.bool a15,.bool a16,.own true 3 a17]]
inductive X where
 | c1 (x0 x1:Int) (x2:List aN) (x3:List Int) (x4 x5 x6:Int) (x7:List Int) (x8 x9 x10 x11 x12 x13 x14 x15:Bool) (x16:List Int)
 | c6 (x0 x1:Int) (x2:List aN) (x3:List Int) (x4 x5 x6:Int) (x7:List Int) (x8 x9 x10 x11 x12 x13 x14 x15:Bool) (x16:List Int)
 | c7 (x0 x1:Int) (x2:List aN) (x3:List Int) (x4 x5 x6:Int) (x7:List Int) (x8 x9 x10 x11 x12 x13 x14 x15:Bool) (x16:List Int)
def id:X→Nat
 | .c1 .. =>1
 | .c6 .. =>6
 | .c7 .. =>7
def st:X→List (PV U)
 | .c1 x0 x1 x2 x3 x4 x5 x6 x7 x8 x9 x10 x11 x12 x13 x14 x15 x16=>iC 86 [(0,.ptr 85 0),(2,.int .i64 x0),(3,.int .i64 x1),(85,.box [.own true 179 x2,.own true 3 x3,.int .i64 x4,.int .i64 x5,.int .i64 x6,.own true 3 x7,.bool x8,.bool x9,.bool x10,.bool x11,.bool x12,.bool x13,.bool x14,.bool x15,.own true 3 x16])]
 | .c6 x0 x1 x2 x3 x4 x5 x6 x7 x8 x9 x10 x11 x12 x13 x14 x15 x16=>iC 86 [(0,.ptr 85 0),(2,.int .i64 x0),(3,.int .i64 x1),(85,.box [.own true 179 x2,.own true 3 x3,.int .i64 x4,.int .i64 x5,.int .i64 x6,.own true 3 x7,.bool x8,.bool x9,.bool x10,.bool x11,.bool x12,.bool x13,.bool x14,.bool x15,.own true 3 x16])]
 | .c7 x0 x1 x2 x3 x4 x5 x6 x7 x8 x9 x10 x11 x12 x13 x14 x15 x16=>iC 86 [(0,.ptr 85 0),(2,.int .i64 x0),(3,.int .i64 x1),(85,.box [.own true 179 x2,.own true 3 x3,.int .i64 x4,.int .i64 x5,.int .i64 x6,.own true 3 x7,.bool x8,.bool x9,.bool x10,.bool x11,.bool x12,.bool x13,.bool x14,.bool x15,.own true 3 x16])]
def begin (a0:List Int) (a1 a2:Int) (a3:List aN) (a4:List Int) (a5 a6 a7:Int) (a8:List Int) (a9 a10 a11 a12 a13 a14 a15 a16:Bool) (a17:List Int):Tr X A:=
 .call (ff.told a0 a1) fun t1=>let u1_0:Tr X A:=(.jump (.c1 a1 a2 a3 a4 a5 a6 a7 a8 a9 a10 a11 a12 a13 a14 a15 a16 a17));let u1_1:Tr X A:=(.jump (.c6 a1 a2 a3 a4 a5 a6 a7 a8 a9 a10 a11 a12 a13 a14 a15 a16 a17)); .ite t1
  (.ite (decide (a1=(0:Int)))
   (.ite (!a9)
    (u1_0)
    (u1_1))
   (.ite (decide (a1=(1:Int)))
    (.ite (!a10)
     (u1_0)
     (u1_1))
    (.ite (decide (a1=(2:Int)))
     (.ite (!a11)
      (u1_0)
      (u1_1))
     (.ite (decide (a1=(3:Int)))
      (.ite (!a12)
       (u1_0)
       (u1_1))
      (.ite (decide (a1=(4:Int)))
       (.ite (!a13)
        (u1_0)
        (u1_1))
       (.ite (decide (a1=(5:Int)))
        (.ite (!a14)
         (u1_0)
         (u1_1))
        (.ite (decide (a1=(6:Int)))
         (.ite (!a15)
          (u1_0)
          (u1_1))
         (.ite (decide (a1=(7:Int)))
          (.ite (!a16)
           (u1_0)
           (u1_1))
          (.fail)))))))))
  (u1_1)
def tree:X→Tr X A
 | .c1 x0 x1 x2 x3 x4 x5 x6 x7 x8 x9 x10 x11 x12 x13 x14 x15 x16=>
 .call (bw.told (wr ((9:Int)+(wr ((2:Int)*(List.length x7:Int))))) x0 x2 x3 x4 x5 x6 x7 x8 x9 x10 x11 x12 x13 x14 x15 x16) fun t1=> .bH ((0:Int)≤x0∧x0<(List.length t1.2.2.2.2.2.2.2.2.2.2.2.2.2.2:Int)) (.call (bw.told (wr ((wr ((9:Int)+(wr ((2:Int)*(List.length x7:Int)))))+(1:Int))) (dh t1.2.2.2.2.2.2.2.2.2.2.2.2.2.2 x0) t1.1 t1.2.1 t1.2.2.1 t1.2.2.2.1 t1.2.2.2.2.1 t1.2.2.2.2.2.1 t1.2.2.2.2.2.2.1 t1.2.2.2.2.2.2.2.1 t1.2.2.2.2.2.2.2.2.1 t1.2.2.2.2.2.2.2.2.2.1 t1.2.2.2.2.2.2.2.2.2.2.1 t1.2.2.2.2.2.2.2.2.2.2.2.1 t1.2.2.2.2.2.2.2.2.2.2.2.2.1 t1.2.2.2.2.2.2.2.2.2.2.2.2.2.1 t1.2.2.2.2.2.2.2.2.2.2.2.2.2.2) fun t2=> .bH (((List.length t2.2.2.2.2.2.1:Int)+(List.length ([x0]):Int))*(8:Nat)≤room) (.last (.call (bQ.told t2.2.2.1 (List.length (t2.2.2.2.2.2.1++[x0]):Int) t2.2.2.2.1) fun t3=> .last (.call (bw.told (8:Int) t3 t2.1 t2.2.1 t2.2.2.1 t2.2.2.2.1 t2.2.2.2.2.1 (t2.2.2.2.2.2.1++[x0]) t2.2.2.2.2.2.2.1 t2.2.2.2.2.2.2.2.1 t2.2.2.2.2.2.2.2.2.1 t2.2.2.2.2.2.2.2.2.2.1 t2.2.2.2.2.2.2.2.2.2.2.1 t2.2.2.2.2.2.2.2.2.2.2.2.1 t2.2.2.2.2.2.2.2.2.2.2.2.2.1 t2.2.2.2.2.2.2.2.2.2.2.2.2.2.1 t2.2.2.2.2.2.2.2.2.2.2.2.2.2.2) fun t4=> .jump (.c6 x0 x1 t4.1 t4.2.1 t4.2.2.1 t4.2.2.2.1 t4.2.2.2.2.1 t4.2.2.2.2.2.1 t4.2.2.2.2.2.2.1 t4.2.2.2.2.2.2.2.1 t4.2.2.2.2.2.2.2.2.1 t4.2.2.2.2.2.2.2.2.2.1 t4.2.2.2.2.2.2.2.2.2.2.1 t4.2.2.2.2.2.2.2.2.2.2.2.1 t4.2.2.2.2.2.2.2.2.2.2.2.2.1 t4.2.2.2.2.2.2.2.2.2.2.2.2.2.1 t4.2.2.2.2.2.2.2.2.2.2.2.2.2.2)))))
 | .c6 x0 x1 x2 x3 x4 x5 x6 x7 x8 x9 x10 x11 x12 x13 x14 x15 x16=>
 .ite (decide (x0=(0:Int)))
  (.jump (.c7 x0 x1 x2 x3 x4 x5 x6 x7 true x9 x10 x11 x12 x13 x14 x15 x16))
  (.ite (decide (x0=(1:Int)))
   (.jump (.c7 x0 x1 x2 x3 x4 x5 x6 x7 x8 true x10 x11 x12 x13 x14 x15 x16))
   (.ite (decide (x0=(2:Int)))
    (.jump (.c7 x0 x1 x2 x3 x4 x5 x6 x7 x8 x9 true x11 x12 x13 x14 x15 x16))
    (.ite (decide (x0=(3:Int)))
     (.jump (.c7 x0 x1 x2 x3 x4 x5 x6 x7 x8 x9 x10 true x12 x13 x14 x15 x16))
     (.ite (decide (x0=(4:Int)))
      (.jump (.c7 x0 x1 x2 x3 x4 x5 x6 x7 x8 x9 x10 x11 true x13 x14 x15 x16))
      (.ite (decide (x0=(5:Int)))
       (.jump (.c7 x0 x1 x2 x3 x4 x5 x6 x7 x8 x9 x10 x11 x12 true x14 x15 x16))
       (.ite (decide (x0=(6:Int)))
        (.jump (.c7 x0 x1 x2 x3 x4 x5 x6 x7 x8 x9 x10 x11 x12 x13 true x15 x16))
        (.ite (decide (x0=(7:Int)))
         (.jump (.c7 x0 x1 x2 x3 x4 x5 x6 x7 x8 x9 x10 x11 x12 x13 x14 true x16))
         (.fail))))))))
 | .c7 x0 x1 x2 x3 x4 x5 x6 x7 x8 x9 x10 x11 x12 x13 x14 x15 x16=>
 .bH ((0:Int)≤x0∧x0<(List.length x16:Int)) (.call (bw.told x0 x1 x2 x3 x4 x5 x6 x7 x8 x9 x10 x11 x12 x13 x14 x15 (List.set x16 (Int.toNat x0) x1)) fun t1=> .ret (t1.1,t1.2.1,t1.2.2.1,t1.2.2.2.1,t1.2.2.2.2.1,t1.2.2.2.2.2.1,t1.2.2.2.2.2.2.1,t1.2.2.2.2.2.2.2.1,t1.2.2.2.2.2.2.2.2.1,t1.2.2.2.2.2.2.2.2.2.1,t1.2.2.2.2.2.2.2.2.2.2.1,t1.2.2.2.2.2.2.2.2.2.2.2.1,t1.2.2.2.2.2.2.2.2.2.2.2.2.1,t1.2.2.2.2.2.2.2.2.2.2.2.2.2.1,t1.2.2.2.2.2.2.2.2.2.2.2.2.2.2))
def f (a0:List Int) (a1 a2:Int) (a3:List aN) (a4:List Int) (a5 a6 a7:Int) (a8:List Int) (a9 a10 a11 a12 a13 a14 a15 a16:Bool) (a17:List Int):Option A:=(begin a0 a1 a2 a3 a4 a5 a6 a7 a8 a9 a10 a11 a12 a13 a14 a15 a16 a17).run (lp tree)
def Q:bA C:={PL with cb:=[(1,[0,2,3,85]),(6,[0,2,3,85]),(7,[0,2,3,85])],ca:=[(5,[15],(.take 0 [] (.take 1 [] (.take 2 [] (.take 3 [] (.take 5 [] (.take 6 [] (.take 7 [] (.take 10 [] (.take 11 [] (.take 12 [] (.take 4 [0,1,2,3,5,6,7,8,9,10,11,12,13] (.take 8 [0,1,2,3,4,5,6,7,10,11,12,13] (.take 9 [] (.take 13 [0,1,2,3,4,5,6,7,8,9,10,11,12] (.alt 14 (.alt 15 .done .nil) .nil))))))))))))))))],bV:=[]}
theorem e:aW Pg C Q Tryz.f182 1 id st v o tree:=fun J K x=>by cases x<;>kernel_rfl
theorem b (a0:List Int) (a1 a2:Int) (a3:List aN) (a4:List Int) (a5 a6 a7:Int) (a8:List Int) (a9 a10 a11 a12 a13 a14 a15 a16:Bool) (a17:List Int):aX Pg C Q Tryz.f182 1 id st v o (S a0 a1 a2 a3 a4 a5 a6 a7 a8 a9 a10 a11 a12 a13 a14 a15 a16 a17) (begin a0 a1 a2 a3 a4 a5 a6 a7 a8 a9 a10 a11 a12 a13 a14 a15 a16 a17):=fun J K=>by kernel_rfl
def told (a0:List Int) (a1 a2:Int) (a3:List aN) (a4:List Int) (a5 a6 a7:Int) (a8:List Int) (a9 a10 a11 a12 a13 a14 a15 a16:Bool) (a17:List Int):aa.Told A:=⟨f a0 a1 a2 a3 a4 a5 a6 a7 a8 a9 a10 a11 a12 a13 a14 a15 a16 a17,fun r=>al Pg C 182 (S a0 a1 a2 a3 a4 a5 a6 a7 a8 a9 a10 a11 a12 a13 a14 a15 a16 a17) 1 (v r) (o r),fun r h=>ah G mixed Q Tryz.func182 rfl (of_decide_eq_true (by kernel_rfl)) (by rfl) id st v o (fun _=>rfl) tree e (begin a0 a1 a2 a3 a4 a5 a6 a7 a8 a9 a10 a11 a12 a13 a14 a15 a16 a17) (b a0 a1 a2 a3 a4 a5 a6 a7 a8 a9 a10 a11 a12 a13 a14 a15 a16 a17) h⟩
end aE
namespace bK
def S (a0:List Int) (a1 a2:Int):List (PV U):=aa.start C 29 [.sl 3 a0,.int .i64 a1,.int .i64 a2] []
abbrev X:=Empty
def id:X→Nat:=fun _=>0
def st:X→List (PV U):=fun _=>[]
def begin (a0:List Int) (a1 a2:Int):Tr X A:=
 .ite (decide ((List.length a0:Int)=(0:Int)))
  (.ret ((0:Int)))
  (.call (bN.told a1) fun t1=> .ite (!t1)
   (.ret ((0:Int)))
   (.ite (decide (a2<(0:Int)))
    (.ret ((0:Int)))
    (.bH ((List.length a0:Int)≠0) (.bH ((0:Int)≤(Int.tmod a2 (List.length a0:Int))∧(Int.tmod a2 (List.length a0:Int))<(List.length a0:Int)) (.call (dJ.told (dh a0 (Int.tmod a2 (List.length a0:Int))) (wr ((100:Int)*a1))) fun t2=> .ret t2)))))
def tree:X→Tr X A:=fun _=> .fail
def f (a0:List Int) (a1 a2:Int):Option A:=(begin a0 a1 a2).run (lp tree)
def Q:bA C:={PL with cb:=[],ca:=[],bV:=[]}
theorem e:aW Pg C Q Tryz.f184 0 id st v o tree:=fun J K x=>by cases x
theorem b (a0:List Int) (a1 a2:Int):aX Pg C Q Tryz.f184 0 id st v o (S a0 a1 a2) (begin a0 a1 a2):=fun J K=>by kernel_rfl
def told (a0:List Int) (a1 a2:Int):aa.Told A:=⟨f a0 a1 a2,fun r=>al Pg C 184 (S a0 a1 a2) 0 (v r) (o r),fun r h=>ah G mixed Q Tryz.func184 rfl (of_decide_eq_true (by kernel_rfl)) (by rfl) id st v o (fun _=>rfl) tree e (begin a0 a1 a2) (b a0 a1 a2) h⟩
end bK
namespace cN
def S (a0:Int) (a1:List aN) (a2:List Int) (a3 a4 a5:Int) (a6:List Int) (a7 a8 a9 a10 a11 a12 a13 a14:Bool) (a15:List Int):List (PV U):=aa.start C 28 [.ptr 28 0,.int .i64 a0] [.box [.own true 179 a1,.own true 3 a2,.int .i64 a3,.int .i64 a4,.int .i64 a5,.own true 3 a6,.bool a7,.bool a8,.bool a9,.bool a10,.bool a11,.bool a12,.bool a13,.bool a14,.own true 3 a15]]
abbrev X:=Empty
def id:X→Nat:=fun _=>0
def st:X→List (PV U):=fun _=>[]
def begin (a0:Int) (a1:List aN) (a2:List Int) (a3 a4 a5:Int) (a6:List Int) (a7 a8 a9 a10 a11 a12 a13 a14:Bool) (a15:List Int):Tr X A:=
 .ite (decide ((wr (a4+a5))<(24:Int)))
  (.call (bw.told (wr ((25:Int)+(wr (a4+a5)))) a0 a1 a2 a3 a4 a5 a6 a7 a8 a9 a10 a11 a12 a13 a14 a15) fun t1=> .ret (t1.1,t1.2.1,t1.2.2.1,t1.2.2.2.1,(wr (t1.2.2.2.2.1+(1:Int))),t1.2.2.2.2.2.1,t1.2.2.2.2.2.2.1,t1.2.2.2.2.2.2.2.1,t1.2.2.2.2.2.2.2.2.1,t1.2.2.2.2.2.2.2.2.2.1,t1.2.2.2.2.2.2.2.2.2.2.1,t1.2.2.2.2.2.2.2.2.2.2.2.1,t1.2.2.2.2.2.2.2.2.2.2.2.2.1,t1.2.2.2.2.2.2.2.2.2.2.2.2.2.1,t1.2.2.2.2.2.2.2.2.2.2.2.2.2.2))
  (.ret (a1,a2,a3,a4,(wr (a5+(1:Int))),a6,a7,a8,a9,a10,a11,a12,a13,a14,a15))
def tree:X→Tr X A:=fun _=> .fail
def f (a0:Int) (a1:List aN) (a2:List Int) (a3 a4 a5:Int) (a6:List Int) (a7 a8 a9 a10 a11 a12 a13 a14:Bool) (a15:List Int):Option A:=(begin a0 a1 a2 a3 a4 a5 a6 a7 a8 a9 a10 a11 a12 a13 a14 a15).run (lp tree)
def Q:bA C:={PL with cb:=[],ca:=[(0,[],(.take 0 [] (.take 1 [] (.take 2 [] (.take 4 [] (.take 5 [] (.take 6 [] (.take 3 [0,1,2,4,5,6,7] (.take 7 [0,1,2,3,4,5,6] (.take 8 [] (.take 9 [] .done)))))))))))],bV:=[]}
theorem e:aW Pg C Q Tryz.f185 1 id st v o tree:=fun J K x=>by cases x
theorem b (a0:Int) (a1:List aN) (a2:List Int) (a3 a4 a5:Int) (a6:List Int) (a7 a8 a9 a10 a11 a12 a13 a14:Bool) (a15:List Int):aX Pg C Q Tryz.f185 1 id st v o (S a0 a1 a2 a3 a4 a5 a6 a7 a8 a9 a10 a11 a12 a13 a14 a15) (begin a0 a1 a2 a3 a4 a5 a6 a7 a8 a9 a10 a11 a12 a13 a14 a15):=fun J K=>by kernel_rfl
def told (a0:Int) (a1:List aN) (a2:List Int) (a3 a4 a5:Int) (a6:List Int) (a7 a8 a9 a10 a11 a12 a13 a14:Bool) (a15:List Int):aa.Told A:=⟨f a0 a1 a2 a3 a4 a5 a6 a7 a8 a9 a10 a11 a12 a13 a14 a15,fun r=>al Pg C 185 (S a0 a1 a2 a3 a4 a5 a6 a7 a8 a9 a10 a11 a12 a13 a14 a15) 1 (v r) (o r),fun r h=>ah G mixed Q Tryz.func185 rfl (of_decide_eq_true (by kernel_rfl)) (by rfl) id st v o (fun _=>rfl) tree e (begin a0 a1 a2 a3 a4 a5 a6 a7 a8 a9 a10 a11 a12 a13 a14 a15) (b a0 a1 a2 a3 a4 a5 a6 a7 a8 a9 a10 a11 a12 a13 a14 a15) h⟩
end cN
namespace bb
def S (a0 a1 a2 a3 a4 a5:Int) (a6 a7:List Int) (a8:Int) (a9:List aN) (a10:List Int) (a11 a12 a13:Int) (a14:List Int) (a15 a16 a17 a18 a19 a20 a21 a22:Bool) (a23:List Int):List (PV U):=aa.start C 81 [.agg [.int .i64 a0,.int .i64 a1,.int .i64 a2,.int .i64 a3,.int .i64 a4,.int .i64 a5],.ptr 81 0,.ptr 82 0,.ptr 83 0,.ptr 84 0] [.box [.ptr 85 0],.box [.sl 3 a6],.box [.sl 3 a7],.box [.int .i64 a8],.box [.own true 179 a9,.own true 3 a10,.int .i64 a11,.int .i64 a12,.int .i64 a13,.own true 3 a14,.bool a15,.bool a16,.bool a17,.bool a18,.bool a19,.bool a20,.bool a21,.bool a22,.own true 3 a23]]
inductive X where
 | Es (x0 x1:List Int) (x2:Int) (x3:List aN) (x4:List Int) (x5 x6 x7:Int) (x8:List Int) (x9 x10 x11 x12 x13 x14 x15 x16:Bool) (x17:List Int)
 | c8 (x0 x1 x2 x3 x4 x5 x6:Int) (x7 x8:List Int) (x9:Int) (x10:List aN) (x11:List Int) (x12 x13 x14:Int) (x15:List Int) (x16 x17 x18 x19 x20 x21 x22 x23:Bool) (x24:List Int)
def id:X→Nat
 | .Es .. =>13
 | .c8 .. =>8
def st:X→List (PV U)
 | .Es x0 x1 x2 x3 x4 x5 x6 x7 x8 x9 x10 x11 x12 x13 x14 x15 x16 x17=>iC 86 [(81,.box [.ptr 85 0]),(82,.box [.sl 3 x0]),(83,.box [.sl 3 x1]),(84,.box [.int .i64 x2]),(85,.box [.own true 179 x3,.own true 3 x4,.int .i64 x5,.int .i64 x6,.int .i64 x7,.own true 3 x8,.bool x9,.bool x10,.bool x11,.bool x12,.bool x13,.bool x14,.bool x15,.bool x16,.own true 3 x17])]
 | .c8 x0 x1 x2 x3 x4 x5 x6 x7 x8 x9 x10 x11 x12 x13 x14 x15 x16 x17 x18 x19 x20 x21 x22 x23 x24=>iC 86 [(1,.ptr 81 0),(2,.ptr 82 0),(5,.box [.int .i64 x0,.int .i64 x1,.int .i64 x2,.int .i64 x3,.int .i64 x4,.int .i64 x5]),(7,.int .i64 x6),(81,.box [.ptr 85 0]),(82,.box [.sl 3 x7]),(83,.box [.sl 3 x8]),(84,.box [.int .i64 x9]),(85,.box [.own true 179 x10,.own true 3 x11,.int .i64 x12,.int .i64 x13,.int .i64 x14,.own true 3 x15,.bool x16,.bool x17,.bool x18,.bool x19,.bool x20,.bool x21,.bool x22,.bool x23,.own true 3 x24])]
def begin (a0 a1 a2 a3 a4 a5:Int) (a6 a7:List Int) (a8:Int) (a9:List aN) (a10:List Int) (a11 a12 a13:Int) (a14:List Int) (a15 a16 a17 a18 a19 a20 a21 a22:Bool) (a23:List Int):Tr X A:=
 .last (.call (eT.told a0 a1 a2 a3 a4 a5) fun t1=> .last (.call (cE.told t1 a9 a10 a11 a12 a13 a14 a15 a16 a17 a18 a19 a20 a21 a22 a23) fun t2=> .ite (decide (a0=(1:Int)))
  (.last (.call (cG.told t2.2.2.2.2.2.2.2.2.2.2.2.2.2.2 a3 a4 a5) fun t3=> .last (.call (aE.told a6 a1 t3 t2.1 t2.2.1 t2.2.2.1 t2.2.2.2.1 t2.2.2.2.2.1 t2.2.2.2.2.2.1 t2.2.2.2.2.2.2.1 t2.2.2.2.2.2.2.2.1 t2.2.2.2.2.2.2.2.2.1 t2.2.2.2.2.2.2.2.2.2.1 t2.2.2.2.2.2.2.2.2.2.2.1 t2.2.2.2.2.2.2.2.2.2.2.2.1 t2.2.2.2.2.2.2.2.2.2.2.2.2.1 t2.2.2.2.2.2.2.2.2.2.2.2.2.2.1 t2.2.2.2.2.2.2.2.2.2.2.2.2.2.2) fun t4=> .jump (.Es a6 a7 a8 t4.1 t4.2.1 t4.2.2.1 t4.2.2.2.1 t4.2.2.2.2.1 t4.2.2.2.2.2.1 t4.2.2.2.2.2.2.1 t4.2.2.2.2.2.2.2.1 t4.2.2.2.2.2.2.2.2.1 t4.2.2.2.2.2.2.2.2.2.1 t4.2.2.2.2.2.2.2.2.2.2.1 t4.2.2.2.2.2.2.2.2.2.2.2.1 t4.2.2.2.2.2.2.2.2.2.2.2.2.1 t4.2.2.2.2.2.2.2.2.2.2.2.2.2.1 t4.2.2.2.2.2.2.2.2.2.2.2.2.2.2))))
  (.ite (decide (a0=(2:Int)))
   (.last (.call (bK.told a7 a2 (wr (a8+(List.length t2.2.1:Int)))) fun t3=>let u3_0:Tr X A:=(.last (.bH (((List.length t2.2.1:Int)+(List.length ([t3]):Int))*(8:Nat)≤room) (.last (.jump (.c8 a0 a1 a2 a3 a4 a5 t3 a6 a7 a8 t2.1 (t2.2.1++[t3]) t2.2.2.1 t2.2.2.2.1 t2.2.2.2.2.1 t2.2.2.2.2.2.1 t2.2.2.2.2.2.2.1 t2.2.2.2.2.2.2.2.1 t2.2.2.2.2.2.2.2.2.1 t2.2.2.2.2.2.2.2.2.2.1 t2.2.2.2.2.2.2.2.2.2.2.1 t2.2.2.2.2.2.2.2.2.2.2.2.1 t2.2.2.2.2.2.2.2.2.2.2.2.2.1 t2.2.2.2.2.2.2.2.2.2.2.2.2.2.1 t2.2.2.2.2.2.2.2.2.2.2.2.2.2.2)))));let u3_1:Tr X A:=(.last (u3_0));let u3_2:Tr X A:=(.last (.both (u3_0) (u3_0)));let u3_3:Tr X A:=(.both (u3_1) (u3_1)); .both (.both (u3_3)
     (u3_1))
    (.both (.both (u3_3)
      (.both (.both (u3_1)
        (u3_2))
       (u3_2)))
     (u3_2))))
   (.ite (decide (a0=(3:Int)))
    (.last (.call (cG.told t2.2.2.2.2.2.2.2.2.2.2.2.2.2.2 a3 a4 a5) fun t3=> .last (.call (cN.told t3 t2.1 t2.2.1 t2.2.2.1 t2.2.2.2.1 t2.2.2.2.2.1 t2.2.2.2.2.2.1 t2.2.2.2.2.2.2.1 t2.2.2.2.2.2.2.2.1 t2.2.2.2.2.2.2.2.2.1 t2.2.2.2.2.2.2.2.2.2.1 t2.2.2.2.2.2.2.2.2.2.2.1 t2.2.2.2.2.2.2.2.2.2.2.2.1 t2.2.2.2.2.2.2.2.2.2.2.2.2.1 t2.2.2.2.2.2.2.2.2.2.2.2.2.2.1 t2.2.2.2.2.2.2.2.2.2.2.2.2.2.2) fun t4=> .jump (.Es a6 a7 a8 t4.1 t4.2.1 t4.2.2.1 t4.2.2.2.1 t4.2.2.2.2.1 t4.2.2.2.2.2.1 t4.2.2.2.2.2.2.1 t4.2.2.2.2.2.2.2.1 t4.2.2.2.2.2.2.2.2.1 t4.2.2.2.2.2.2.2.2.2.1 t4.2.2.2.2.2.2.2.2.2.2.1 t4.2.2.2.2.2.2.2.2.2.2.2.1 t4.2.2.2.2.2.2.2.2.2.2.2.2.1 t4.2.2.2.2.2.2.2.2.2.2.2.2.2.1 t4.2.2.2.2.2.2.2.2.2.2.2.2.2.2))))
    (.ite (decide (a0=(4:Int)))
     (.last (.call (cG.told t2.2.2.2.2.2.2.2.2.2.2.2.2.2.2 a3 a4 a5) fun t3=> .ret ((!decide (t3=(0:Int))),a6,a7,a8,t2.1,t2.2.1,t2.2.2.1,t2.2.2.2.1,t2.2.2.2.2.1,t2.2.2.2.2.2.1,t2.2.2.2.2.2.2.1,t2.2.2.2.2.2.2.2.1,t2.2.2.2.2.2.2.2.2.1,t2.2.2.2.2.2.2.2.2.2.1,t2.2.2.2.2.2.2.2.2.2.2.1,t2.2.2.2.2.2.2.2.2.2.2.2.1,t2.2.2.2.2.2.2.2.2.2.2.2.2.1,t2.2.2.2.2.2.2.2.2.2.2.2.2.2.1,t2.2.2.2.2.2.2.2.2.2.2.2.2.2.2)))
     (.jump (.Es a6 a7 a8 t2.1 t2.2.1 t2.2.2.1 t2.2.2.2.1 t2.2.2.2.2.1 t2.2.2.2.2.2.1 t2.2.2.2.2.2.2.1 t2.2.2.2.2.2.2.2.1 t2.2.2.2.2.2.2.2.2.1 t2.2.2.2.2.2.2.2.2.2.1 t2.2.2.2.2.2.2.2.2.2.2.1 t2.2.2.2.2.2.2.2.2.2.2.2.1 t2.2.2.2.2.2.2.2.2.2.2.2.2.1 t2.2.2.2.2.2.2.2.2.2.2.2.2.2.1 t2.2.2.2.2.2.2.2.2.2.2.2.2.2.2)))))))
def tree:X→Tr X A
 | .Es x0 x1 x2 x3 x4 x5 x6 x7 x8 x9 x10 x11 x12 x13 x14 x15 x16 x17=>
 .ret (true,x0,x1,x2,x3,x4,x5,x6,x7,x8,x9,x10,x11,x12,x13,x14,x15,x16,x17)
 | .c8 x0 x1 x2 x3 x4 x5 x6 x7 x8 x9 x10 x11 x12 x13 x14 x15 x16 x17 x18 x19 x20 x21 x22 x23 x24=>
 .call (aE.told x7 x1 x6 x10 x11 x12 x13 x14 x15 x16 x17 x18 x19 x20 x21 x22 x23 x24) fun t1=> .jump (.Es x7 x8 x9 t1.1 t1.2.1 t1.2.2.1 t1.2.2.2.1 t1.2.2.2.2.1 t1.2.2.2.2.2.1 t1.2.2.2.2.2.2.1 t1.2.2.2.2.2.2.2.1 t1.2.2.2.2.2.2.2.2.1 t1.2.2.2.2.2.2.2.2.2.1 t1.2.2.2.2.2.2.2.2.2.2.1 t1.2.2.2.2.2.2.2.2.2.2.2.1 t1.2.2.2.2.2.2.2.2.2.2.2.2.1 t1.2.2.2.2.2.2.2.2.2.2.2.2.2.1 t1.2.2.2.2.2.2.2.2.2.2.2.2.2.2)
def f (a0 a1 a2 a3 a4 a5:Int) (a6 a7:List Int) (a8:Int) (a9:List aN) (a10:List Int) (a11 a12 a13:Int) (a14:List Int) (a15 a16 a17 a18 a19 a20 a21 a22:Bool) (a23:List Int):Option A:=(begin a0 a1 a2 a3 a4 a5 a6 a7 a8 a9 a10 a11 a12 a13 a14 a15 a16 a17 a18 a19 a20 a21 a22 a23).run (lp tree)
def Q:bA C:={PL with cb:=[(8,[1,2,5,7,81,82,83,84,85]),(13,[81,82,83,84,85])],ca:=[(1,[3],(.take 0 [1,2] (.take 1 [0] (.alt 2 (.alt 3 .done .nil) .nil)))),(4,[11],(.take 2 [] (.take 8 [] (.take 0 [1,2,3,4,5,6,7,8,9,10] (.take 1 [0,2,3,4,5,6,7,8,9,10] (.take 3 [0,1,2,4,5,6,7,8,9,10] (.take 4 [0,1,2,3,8,9] (.take 5 [] (.take 6 [] (.take 7 [0,1,2,3,4,5,6,8,9] (.take 9 [0,1,2,3,4,5,6,7,8] (.alt 10 (.alt 11 .done .nil) .nil)))))))))))),(6,[],(.take 1 [] (.take 0 [1,2,3,4,5,6,7,8,9,10] (.take 2 [0,1,3,4,5,6,7,8,9,10] (.take 3 [0,1,2,4,5,6,7,8,9] (.take 4 [0,1,2,3] (.take 5 [] (.take 6 [] (.take 7 [] (.take 8 [0,1,2,3,4,5,6,7] (.take 9 [] (.take 10 [] (.alt 11 (.take 12 [] .done) .nil))))))))))))),(7,[7,8,12],(.take 6 [] (.alt 0 (.alt 1 (.take 2 [] (.take 3 [] (.take 4 [] (.alt 5 (.alt 7 (.alt 8 (.take 9 [] (.take 10 [] (.take 11 [] (.alt 12 .done .nil)))) .nil) .nil) (.alt 7 (.take 5 [0,1,2,3,4,6,7] (.alt 8 (.take 9 [] (.take 10 [] (.take 11 [] (.alt 12 .done .nil)))) .nil)) .nil))))) (.alt 7 (.take 1 [0,6,7] (.take 2 [] (.take 3 [] (.take 4 [] (.take 5 [0,1,2,3,4,6,7] (.alt 8 (.take 9 [] (.take 10 [] (.take 11 [] (.alt 12 .done .nil)))) .nil)))))) .nil)) (.alt 1 (.take 2 [] (.take 3 [] (.take 4 [] (.alt 0 (.alt 5 (.alt 7 (.alt 8 (.take 9 [] (.take 10 [] (.take 11 [] (.alt 12 .done .nil)))) .nil) .nil) (.alt 7 (.take 5 [0,1,2,3,4,6,7] (.alt 8 (.take 9 [] (.take 10 [] (.take 11 [] (.alt 12 .done .nil)))) .nil)) .nil)) (.alt 5 (.alt 0 (.alt 7 (.alt 8 (.take 9 [] (.take 10 [] (.take 11 [] (.alt 12 .done .nil)))) .nil) .nil) (.alt 7 (.alt 0 (.alt 8 (.take 9 [] (.take 10 [] (.take 11 [] (.alt 12 .done .nil)))) .nil) (.alt 8 (.take 0 [1,2,3,4,5,6,7,8] (.take 9 [] (.take 10 [] (.take 11 [] (.alt 12 .done .nil))))) .nil)) .nil)) (.alt 7 (.take 5 [0,1,2,3,4,6,7] (.alt 0 (.alt 8 (.take 9 [] (.take 10 [] (.take 11 [] (.alt 12 .done .nil)))) .nil) (.alt 8 (.take 0 [1,2,3,4,5,6,7,8] (.take 9 [] (.take 10 [] (.take 11 [] (.alt 12 .done .nil))))) .nil))) .nil)))))) (.alt 7 (.take 1 [0,6,7] (.take 2 [] (.take 3 [] (.take 4 [] (.take 5 [0,1,2,3,4,6,7] (.alt 0 (.alt 8 (.take 9 [] (.take 10 [] (.take 11 [] (.alt 12 .done .nil)))) .nil) (.alt 8 (.take 0 [1,2,3,4,5,6,7,8] (.take 9 [] (.take 10 [] (.take 11 [] (.alt 12 .done .nil))))) .nil))))))) .nil))))),(10,[8],(.take 5 [] (.take 0 [1,2,3,4,5,6,7] (.take 1 [0,5,6] (.take 2 [] (.take 3 [] (.take 4 [0,1,2,3,5,6] (.take 6 [0,1,2,3,4,5] (.alt 7 (.alt 8 .done .nil) .nil))))))))),(12,[],(.take 4 [] (.take 0 [4,5] (.take 1 [] (.take 2 [] (.take 3 [0,1,2,4,5] (.take 5 [0,1,2,3,4] (.alt 6 (.take 7 [] (.take 8 [] .done)) .nil))))))))],bV:=[]}
theorem e:aW Pg C Q Tryz.f179 5 id st v o tree:=fun J K x=>by cases x<;>kernel_rfl
theorem b (a0 a1 a2 a3 a4 a5:Int) (a6 a7:List Int) (a8:Int) (a9:List aN) (a10:List Int) (a11 a12 a13:Int) (a14:List Int) (a15 a16 a17 a18 a19 a20 a21 a22:Bool) (a23:List Int):aX Pg C Q Tryz.f179 5 id st v o (S a0 a1 a2 a3 a4 a5 a6 a7 a8 a9 a10 a11 a12 a13 a14 a15 a16 a17 a18 a19 a20 a21 a22 a23) (begin a0 a1 a2 a3 a4 a5 a6 a7 a8 a9 a10 a11 a12 a13 a14 a15 a16 a17 a18 a19 a20 a21 a22 a23):=fun J K=>by kernel_rfl
def told (a0 a1 a2 a3 a4 a5:Int) (a6 a7:List Int) (a8:Int) (a9:List aN) (a10:List Int) (a11 a12 a13:Int) (a14:List Int) (a15 a16 a17 a18 a19 a20 a21 a22:Bool) (a23:List Int):aa.Told A:=⟨f a0 a1 a2 a3 a4 a5 a6 a7 a8 a9 a10 a11 a12 a13 a14 a15 a16 a17 a18 a19 a20 a21 a22 a23,fun r=>al Pg C 179 (S a0 a1 a2 a3 a4 a5 a6 a7 a8 a9 a10 a11 a12 a13 a14 a15 a16 a17 a18 a19 a20 a21 a22 a23) 5 (v r) (o r),fun r h=>ah G mixed Q Tryz.func179 rfl (of_decide_eq_true (by kernel_rfl)) (by rfl) id st v o (fun _=>rfl) tree e (begin a0 a1 a2 a3 a4 a5 a6 a7 a8 a9 a10 a11 a12 a13 a14 a15 a16 a17 a18 a19 a20 a21 a22 a23) (b a0 a1 a2 a3 a4 a5 a6 a7 a8 a9 a10 a11 a12 a13 a14 a15 a16 a17 a18 a19 a20 a21 a22 a23) h⟩
end bb
namespace bp
def S (a0:List aB) (a1 a2:List Int) (a3:Int) (a4:List aN) (a5:List Int) (a6 a7 a8:Int) (a9:List Int) (a10 a11 a12 a13 a14 a15 a16 a17:Bool) (a18:List Int):List (PV U):=aa.start C 51 [.sl 204 a0,.fn 179 [.ptr 51 0,.ptr 52 0,.ptr 53 0,.ptr 54 0]] [.box [.ptr 55 0],.box [.sl 3 a1],.box [.sl 3 a2],.box [.int .i64 a3],.box [.own true 179 a4,.own true 3 a5,.int .i64 a6,.int .i64 a7,.int .i64 a8,.own true 3 a9,.bool a10,.bool a11,.bool a12,.bool a13,.bool a14,.bool a15,.bool a16,.bool a17,.own true 3 a18]]
abbrev I:=(List aB)×(List Int)×(List Int)×Int×(List aN)×(List Int)×Int×Int×Int×(List Int)×Bool×Bool×Bool×Bool×Bool×Bool×Bool×Bool×(List Int)
abbrev K:I→A→Prop:=fun i_ r=>al Pg C 178 (S i_.1 i_.2.1 i_.2.2.1 i_.2.2.2.1 i_.2.2.2.2.1 i_.2.2.2.2.2.1 i_.2.2.2.2.2.2.1 i_.2.2.2.2.2.2.2.1 i_.2.2.2.2.2.2.2.2.1 i_.2.2.2.2.2.2.2.2.2.1 i_.2.2.2.2.2.2.2.2.2.2.1 i_.2.2.2.2.2.2.2.2.2.2.2.1 i_.2.2.2.2.2.2.2.2.2.2.2.2.1 i_.2.2.2.2.2.2.2.2.2.2.2.2.2.1 i_.2.2.2.2.2.2.2.2.2.2.2.2.2.2.1 i_.2.2.2.2.2.2.2.2.2.2.2.2.2.2.2.1 i_.2.2.2.2.2.2.2.2.2.2.2.2.2.2.2.2.1 i_.2.2.2.2.2.2.2.2.2.2.2.2.2.2.2.2.2.1 i_.2.2.2.2.2.2.2.2.2.2.2.2.2.2.2.2.2.2) 5 (v r) (o r)
inductive X where
 | c1 (x0:List aB) (x1:Int) (x2 x3:List Int) (x4:Int) (x5:List aN) (x6:List Int) (x7 x8 x9:Int) (x10:List Int) (x11 x12 x13 x14 x15 x16 x17 x18:Bool) (x19:List Int)
 | rE (x0:List aB) (x1 x2 x3 x4:Int) (x5 x6:List Int) (x7:Int) (x8:List aN) (x9:List Int) (x10 x11 x12:Int) (x13:List Int) (x14 x15 x16 x17 x18 x19 x20 x21:Bool) (x22:List Int)
def id:X→Nat
 | .c1 .. =>1
 | .rE .. =>12
def st:X→List (PV U)
 | .c1 x0 x1 x2 x3 x4 x5 x6 x7 x8 x9 x10 x11 x12 x13 x14 x15 x16 x17 x18 x19=>iC 56 [(0,.sl 204 x0),(1,.fn 179 [.ptr 51 0,.ptr 52 0,.ptr 53 0,.ptr 54 0]),(4,.int .i64 x1),(51,.box [.ptr 55 0]),(52,.box [.sl 3 x2]),(53,.box [.sl 3 x3]),(54,.box [.int .i64 x4]),(55,.box [.own true 179 x5,.own true 3 x6,.int .i64 x7,.int .i64 x8,.int .i64 x9,.own true 3 x10,.bool x11,.bool x12,.bool x13,.bool x14,.bool x15,.bool x16,.bool x17,.bool x18,.own true 3 x19])]
 | .rE x0 x1 x2 x3 x4 x5 x6 x7 x8 x9 x10 x11 x12 x13 x14 x15 x16 x17 x18 x19 x20 x21 x22=>iC 56 [(0,.sl 204 x0),(1,.fn 179 [.ptr 51 0,.ptr 52 0,.ptr 53 0,.ptr 54 0]),(4,.int .i64 x1),(7,.int .i64 x2),(39,.int .i64 x3),(40,.int .i64 x4),(51,.box [.ptr 55 0]),(52,.box [.sl 3 x5]),(53,.box [.sl 3 x6]),(54,.box [.int .i64 x7]),(55,.box [.own true 179 x8,.own true 3 x9,.int .i64 x10,.int .i64 x11,.int .i64 x12,.own true 3 x13,.bool x14,.bool x15,.bool x16,.bool x17,.bool x18,.bool x19,.bool x20,.bool x21,.own true 3 x22])]
def begin (self_:Self I A K) (a0:List aB) (a1 a2:List Int) (a3:Int) (a4:List aN) (a5:List Int) (a6 a7 a8:Int) (a9:List Int) (a10 a11 a12 a13 a14 a15 a16 a17:Bool) (a18:List Int):Tr X A:=
 .jump (.c1 a0 (0:Int) a1 a2 a3 a4 a5 a6 a7 a8 a9 a10 a11 a12 a13 a14 a15 a16 a17 a18)
def tree (self_:Self I A K):X→Tr X A
 | .c1 x0 x1 x2 x3 x4 x5 x6 x7 x8 x9 x10 x11 x12 x13 x14 x15 x16 x17 x18 x19=>
 .ite (decide (x1<(List.length x0:Int)))
  (.bH ((0:Int)≤x1∧x1<(List.length x0:Int)) (.ite (decide ((aw x0 x1).f0=(6:Int)))
   (.jump (.c1 x0 (wr (x1+(1:Int))) x2 x3 x4 x5 x6 x7 x8 x9 x10 x11 x12 x13 x14 x15 x16 x17 x18 x19))
   (.call (bb.told ((aw x0 x1).f0) ((aw x0 x1).f1) ((aw x0 x1).f2) ((aw x0 x1).f3.f0) ((aw x0 x1).f3.f1) ((aw x0 x1).f3.f2) x2 x3 x4 x5 x6 x7 x8 x9 x10 x11 x12 x13 x14 x15 x16 x17 x18 x19) fun t1=> .call (bS.told ((aw x0 x1).f0)) fun t2=> .ite (!t2)
    (.jump (.c1 x0 (wr (x1+(1:Int))) t1.2.1 t1.2.2.1 t1.2.2.2.1 t1.2.2.2.2.1 t1.2.2.2.2.2.1 t1.2.2.2.2.2.2.1 t1.2.2.2.2.2.2.2.1 t1.2.2.2.2.2.2.2.2.1 t1.2.2.2.2.2.2.2.2.2.1 t1.2.2.2.2.2.2.2.2.2.2.1 t1.2.2.2.2.2.2.2.2.2.2.2.1 t1.2.2.2.2.2.2.2.2.2.2.2.2.1 t1.2.2.2.2.2.2.2.2.2.2.2.2.2.1 t1.2.2.2.2.2.2.2.2.2.2.2.2.2.2.1 t1.2.2.2.2.2.2.2.2.2.2.2.2.2.2.2.1 t1.2.2.2.2.2.2.2.2.2.2.2.2.2.2.2.2.1 t1.2.2.2.2.2.2.2.2.2.2.2.2.2.2.2.2.2.1 t1.2.2.2.2.2.2.2.2.2.2.2.2.2.2.2.2.2.2))
    (.call (cz.told x0 x1) fun t3=> .ite (decide ((aw x0 x1).f0=(4:Int)))
     (.call (iW.told t1.1) fun t4=> .jump (.rE x0 x1 t3 t4 (0:Int) t1.2.1 t1.2.2.1 t1.2.2.2.1 t1.2.2.2.2.1 t1.2.2.2.2.2.1 t1.2.2.2.2.2.2.1 t1.2.2.2.2.2.2.2.1 t1.2.2.2.2.2.2.2.2.1 t1.2.2.2.2.2.2.2.2.2.1 t1.2.2.2.2.2.2.2.2.2.2.1 t1.2.2.2.2.2.2.2.2.2.2.2.1 t1.2.2.2.2.2.2.2.2.2.2.2.2.1 t1.2.2.2.2.2.2.2.2.2.2.2.2.2.1 t1.2.2.2.2.2.2.2.2.2.2.2.2.2.2.1 t1.2.2.2.2.2.2.2.2.2.2.2.2.2.2.2.1 t1.2.2.2.2.2.2.2.2.2.2.2.2.2.2.2.2.1 t1.2.2.2.2.2.2.2.2.2.2.2.2.2.2.2.2.2.1 t1.2.2.2.2.2.2.2.2.2.2.2.2.2.2.2.2.2.2))
     (.jump (.rE x0 x1 t3 ((aw x0 x1).f2) (0:Int) t1.2.1 t1.2.2.1 t1.2.2.2.1 t1.2.2.2.2.1 t1.2.2.2.2.2.1 t1.2.2.2.2.2.2.1 t1.2.2.2.2.2.2.2.1 t1.2.2.2.2.2.2.2.2.1 t1.2.2.2.2.2.2.2.2.2.1 t1.2.2.2.2.2.2.2.2.2.2.1 t1.2.2.2.2.2.2.2.2.2.2.2.1 t1.2.2.2.2.2.2.2.2.2.2.2.2.1 t1.2.2.2.2.2.2.2.2.2.2.2.2.2.1 t1.2.2.2.2.2.2.2.2.2.2.2.2.2.2.1 t1.2.2.2.2.2.2.2.2.2.2.2.2.2.2.2.1 t1.2.2.2.2.2.2.2.2.2.2.2.2.2.2.2.2.1 t1.2.2.2.2.2.2.2.2.2.2.2.2.2.2.2.2.2.1 t1.2.2.2.2.2.2.2.2.2.2.2.2.2.2.2.2.2.2))))))
  (.ret (x2,x3,x4,x5,x6,x7,x8,x9,x10,x11,x12,x13,x14,x15,x16,x17,x18,x19))
 | .rE x0 x1 x2 x3 x4 x5 x6 x7 x8 x9 x10 x11 x12 x13 x14 x15 x16 x17 x18 x19 x20 x21 x22=>
 .ite (decide (x4<x3))
  (.bH ((0:Int)≤(wr (x1+(1:Int)))∧(wr (x1+(1:Int)))≤x2∧x2≤(List.length x0:Int)) (.call (self_.told ((List.drop (Int.toNat (wr (x1+(1:Int)))) (List.take (Int.toNat x2) x0)),x5,x6,x7,x8,x9,x10,x11,x12,x13,x14,x15,x16,x17,x18,x19,x20,x21,x22)) fun t1=> .jump (.rE x0 x1 x2 x3 (wr (x4+(1:Int))) t1.1 t1.2.1 t1.2.2.1 t1.2.2.2.1 t1.2.2.2.2.1 t1.2.2.2.2.2.1 t1.2.2.2.2.2.2.1 t1.2.2.2.2.2.2.2.1 t1.2.2.2.2.2.2.2.2.1 t1.2.2.2.2.2.2.2.2.2.1 t1.2.2.2.2.2.2.2.2.2.2.1 t1.2.2.2.2.2.2.2.2.2.2.2.1 t1.2.2.2.2.2.2.2.2.2.2.2.2.1 t1.2.2.2.2.2.2.2.2.2.2.2.2.2.1 t1.2.2.2.2.2.2.2.2.2.2.2.2.2.2.1 t1.2.2.2.2.2.2.2.2.2.2.2.2.2.2.2.1 t1.2.2.2.2.2.2.2.2.2.2.2.2.2.2.2.2.1 t1.2.2.2.2.2.2.2.2.2.2.2.2.2.2.2.2.2)))
  (.jump (.c1 x0 (wr (x2+(1:Int))) x5 x6 x7 x8 x9 x10 x11 x12 x13 x14 x15 x16 x17 x18 x19 x20 x21 x22))
def Q:bA C:={PL with cb:=[(1,[0,1,4,51,52,53,54,55]),(12,[0,1,4,7,39,40,51,52,53,54,55])],ca:=[],bV:=[]}
theorem e (self_:Self I A K):aW Pg C Q Tryz.f178 5 id st v o (tree self_):=fun J K x=>by cases x<;>kernel_rfl
theorem b (self_:Self I A K) (a0:List aB) (a1 a2:List Int) (a3:Int) (a4:List aN) (a5:List Int) (a6 a7 a8:Int) (a9:List Int) (a10 a11 a12 a13 a14 a15 a16 a17:Bool) (a18:List Int):aX Pg C Q Tryz.f178 5 id st v o (S a0 a1 a2 a3 a4 a5 a6 a7 a8 a9 a10 a11 a12 a13 a14 a15 a16 a17 a18) (begin self_ a0 a1 a2 a3 a4 a5 a6 a7 a8 a9 a10 a11 a12 a13 a14 a15 a16 a17 a18):=fun J K=>by kernel_rfl
def step (self_:Self I A K):Self I A K:=⟨fun i_=>(begin self_ i_.1 i_.2.1 i_.2.2.1 i_.2.2.2.1 i_.2.2.2.2.1 i_.2.2.2.2.2.1 i_.2.2.2.2.2.2.1 i_.2.2.2.2.2.2.2.1 i_.2.2.2.2.2.2.2.2.1 i_.2.2.2.2.2.2.2.2.2.1 i_.2.2.2.2.2.2.2.2.2.2.1 i_.2.2.2.2.2.2.2.2.2.2.2.1 i_.2.2.2.2.2.2.2.2.2.2.2.2.1 i_.2.2.2.2.2.2.2.2.2.2.2.2.2.1 i_.2.2.2.2.2.2.2.2.2.2.2.2.2.2.1 i_.2.2.2.2.2.2.2.2.2.2.2.2.2.2.2.1 i_.2.2.2.2.2.2.2.2.2.2.2.2.2.2.2.2.1 i_.2.2.2.2.2.2.2.2.2.2.2.2.2.2.2.2.2.1 i_.2.2.2.2.2.2.2.2.2.2.2.2.2.2.2.2.2.2).run (lp (tree self_)),fun i_ r h=>ah G mixed Q Tryz.func178 rfl (of_decide_eq_true (by kernel_rfl)) (by rfl) id st v o (fun _=>rfl) (tree self_) (e self_) (begin self_ i_.1 i_.2.1 i_.2.2.1 i_.2.2.2.1 i_.2.2.2.2.1 i_.2.2.2.2.2.1 i_.2.2.2.2.2.2.1 i_.2.2.2.2.2.2.2.1 i_.2.2.2.2.2.2.2.2.1 i_.2.2.2.2.2.2.2.2.2.1 i_.2.2.2.2.2.2.2.2.2.2.1 i_.2.2.2.2.2.2.2.2.2.2.2.1 i_.2.2.2.2.2.2.2.2.2.2.2.2.1 i_.2.2.2.2.2.2.2.2.2.2.2.2.2.1 i_.2.2.2.2.2.2.2.2.2.2.2.2.2.2.1 i_.2.2.2.2.2.2.2.2.2.2.2.2.2.2.2.1 i_.2.2.2.2.2.2.2.2.2.2.2.2.2.2.2.2.1 i_.2.2.2.2.2.2.2.2.2.2.2.2.2.2.2.2.2.1 i_.2.2.2.2.2.2.2.2.2.2.2.2.2.2.2.2.2.2) (b self_ i_.1 i_.2.1 i_.2.2.1 i_.2.2.2.1 i_.2.2.2.2.1 i_.2.2.2.2.2.1 i_.2.2.2.2.2.2.1 i_.2.2.2.2.2.2.2.1 i_.2.2.2.2.2.2.2.2.1 i_.2.2.2.2.2.2.2.2.2.1 i_.2.2.2.2.2.2.2.2.2.2.1 i_.2.2.2.2.2.2.2.2.2.2.2.1 i_.2.2.2.2.2.2.2.2.2.2.2.2.1 i_.2.2.2.2.2.2.2.2.2.2.2.2.2.1 i_.2.2.2.2.2.2.2.2.2.2.2.2.2.2.1 i_.2.2.2.2.2.2.2.2.2.2.2.2.2.2.2.1 i_.2.2.2.2.2.2.2.2.2.2.2.2.2.2.2.2.1 i_.2.2.2.2.2.2.2.2.2.2.2.2.2.2.2.2.2.1 i_.2.2.2.2.2.2.2.2.2.2.2.2.2.2.2.2.2.2) h⟩
def f (a0:List aB) (a1 a2:List Int) (a3:Int) (a4:List aN) (a5:List Int) (a6 a7 a8:Int) (a9:List Int) (a10 a11 a12 a13 a14 a15 a16 a17:Bool) (a18:List Int):Option A:=(Self.iter step 8).f (a0,a1,a2,a3,a4,a5,a6,a7,a8,a9,a10,a11,a12,a13,a14,a15,a16,a17,a18)
def told (a0:List aB) (a1 a2:List Int) (a3:Int) (a4:List aN) (a5:List Int) (a6 a7 a8:Int) (a9:List Int) (a10 a11 a12 a13 a14 a15 a16 a17:Bool) (a18:List Int):aa.Told A:=⟨f a0 a1 a2 a3 a4 a5 a6 a7 a8 a9 a10 a11 a12 a13 a14 a15 a16 a17 a18,fun r=>al Pg C 178 (S a0 a1 a2 a3 a4 a5 a6 a7 a8 a9 a10 a11 a12 a13 a14 a15 a16 a17 a18) 5 (v r) (o r),fun r h=>(Self.iter step 8).ok (a0,a1,a2,a3,a4,a5,a6,a7,a8,a9,a10,a11,a12,a13,a14,a15,a16,a17,a18) r h⟩
end bp
namespace iD
def S (a0:List aC) (a1:Int):List (PV U):=aa.start C 15 [.agg [.sl 164 a0],.int .i64 a1] []
abbrev X:=Empty
def id:X→Nat:=fun _=>0
def st:X→List (PV U):=fun _=>[]
def begin (a0:List aC) (a1:Int):Tr X A:=
 .call (dK.told a0) fun t1=> .ite t1
  (.call (aI.told a1 (0:Int) (wr ((List.length a0:Int)-(1:Int)))) fun t2=> .ret t2)
  (.ret false)
def tree:X→Tr X A:=fun _=> .fail
def f (a0:List aC) (a1:Int):Option A:=(begin a0 a1).run (lp tree)
def Q:bA C:={PL with cb:=[],ca:=[],bV:=[]}
theorem e:aW Pg C Q Tryz.f224 0 id st v o tree:=fun J K x=>by cases x
theorem b (a0:List aC) (a1:Int):aX Pg C Q Tryz.f224 0 id st v o (S a0 a1) (begin a0 a1):=fun J K=>by kernel_rfl
def told (a0:List aC) (a1:Int):aa.Told A:=⟨f a0 a1,fun r=>al Pg C 224 (S a0 a1) 0 (v r) (o r),fun r h=>ah G mixed Q Tryz.func224 rfl (of_decide_eq_true (by kernel_rfl)) (by rfl) id st v o (fun _=>rfl) tree e (begin a0 a1) (b a0 a1) h⟩
end iD
namespace fy
def S (a0:List aC) (a1:List Int) (a2:Int):List (PV U):=aa.start C 34 [.agg [.sl 164 a0],.sl 3 a1,.int .i64 a2] []
abbrev X:=Empty
def id:X→Nat:=fun _=>0
def st:X→List (PV U):=fun _=>[]
def begin (a0:List aC) (a1:List Int) (a2:Int):Tr X A:=
 .call (iD.told a0 a2) fun t1=> .ite (!t1)
  (.ret ((-1:Int)))
  (.call (gh.told a1) fun t2=> .ite (!t2)
   (.ret ((-1:Int)))
   (.bH ((0:Int)≤a2∧a2<(List.length a0:Int)) (.call (cG.told a1 ((bG a0 a2).f1.f0) ((bG a0 a2).f1.f1) ((bG a0 a2).f1.f2)) fun t3=> .bH ((List.length a0:Int)≠0) (.bH ((List.length a0:Int)≠0) (.val ((Int.tmod (wr ((Int.tmod t3 (List.length a0:Int))+(List.length a0:Int))) (List.length a0:Int)):Int) fun v4=> .ret v4)))))
def tree:X→Tr X A:=fun _=> .fail
def f (a0:List aC) (a1:List Int) (a2:Int):Option A:=(begin a0 a1 a2).run (lp tree)
def Q:bA C:={PL with cb:=[],ca:=[],bV:=[]}
theorem e:aW Pg C Q Tryz.f187 0 id st v o tree:=fun J K x=>by cases x
theorem b (a0:List aC) (a1:List Int) (a2:Int):aX Pg C Q Tryz.f187 0 id st v o (S a0 a1 a2) (begin a0 a1 a2):=fun J K=>by kernel_rfl
def told (a0:List aC) (a1:List Int) (a2:Int):aa.Told A:=⟨f a0 a1 a2,fun r=>al Pg C 187 (S a0 a1 a2) 0 (v r) (o r),fun r h=>ah G mixed Q Tryz.func187 rfl (of_decide_eq_true (by kernel_rfl)) (by rfl) id st v o (fun _=>rfl) tree e (begin a0 a1 a2) (b a0 a1 a2) h⟩
end fy
end
end Go.Proofs.YtmapddgocpkgeaaGreat.Ev
