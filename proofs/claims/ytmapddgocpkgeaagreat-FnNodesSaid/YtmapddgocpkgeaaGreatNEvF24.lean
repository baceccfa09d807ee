/- Functions as trees, with their contracts. No conditions. -/
import Derived.Test.YtmapddgocpkgeaaGreatNEvF23
namespace Go.Proofs.YtmapddgocpkgeaaGreat.Ev
open Go.Proofs.YtmapddgocpkgeaaGreat.aa Go.RowKit
set_option linter.unusedVariables false
set_option maxRecDepth 100000
noncomputable section
namespace eK
def S (a0:List Int) (a1:Int):List (PV U):=aa.start C 8 [.sl 3 a0,.int .i64 a1] []
def begin (a0:List Int) (a1:Int):Tr Empty A:=
 .call (cD.told a0 a1) fun t1=> .ret t1
def f (a0:List Int) (a1:Int):Option A:=(begin a0 a1).run (lp aF)
def told (a0:List Int) (a1:Int):aa.Told A:=⟨f a0 a1,fun r=>ae Pg C 214 (S a0 a1) 0 (v r) (o r),fun r h=>aG (Q:=PL) v o Tryz.func214 rfl (of_decide_eq_true (by kernel_rfl)) (by rfl) (fun _=>rfl) (fun J K=>by kernel_rfl) h⟩
end eK
namespace cN
def S (a0:Int) (a1 a2:List Int):List (PV U):=aa.start C 14 [.int .i64 a0,.ptr 14 0,.ptr 15 0] [.box [.own true 3 a1],.box [.own true 3 a2]]
def begin (a0:Int) (a1 a2:List Int):Tr Empty A:=
 .call (eK.told a1 a0) fun t1=> .ite (!t1)
  (.call (eK.told a2 a0) fun t2=> .ret (t2,a1,a2))
  (.ret (false,a1,a2))
def f (a0:Int) (a1 a2:List Int):Option A:=(begin a0 a1 a2).run (lp aF)
def told (a0:Int) (a1 a2:List Int):aa.Told A:=⟨f a0 a1 a2,fun r=>ae Pg C 213 (S a0 a1 a2) 2 (v r) (o r),fun r h=>aG (Q:=PL) v o Tryz.func213 rfl (of_decide_eq_true (by kernel_rfl)) (by rfl) (fun _=>rfl) (fun J K=>by kernel_rfl) h⟩
end cN
namespace aA
def S (a0 a1 a2:List Int):List (PV U):=aa.start C 19 [.sl 3 a0,.fn 213 [.ptr 19 0,.ptr 20 0]] [.box [.own true 3 a1],.box [.own true 3 a2]]
inductive X where
 | c2 (x0:List Int) (x1 x2:Int) (x3 x4:List Int)
def id:X→Nat
 | .c2 .. =>2
def st:X→List (PV U)
 | .c2 x0 x1 x2 x3 x4=>eA 21 [(0,.sl 3 x0),(1,.fn 213 [.ptr 19 0,.ptr 20 0]),(7,.int .i64 x1),(8,.int .i64 x2),(19,.box [.own true 3 x3]),(20,.box [.own true 3 x4])]
def begin (a0 a1 a2:List Int):Tr X A:=
 .jump (.c2 a0 (List.length a0:Int) (0:Int) a1 a2)
def tree:X→Tr X A
 | .c2 x0 x1 x2 x3 x4=>
 .ite (decide (x2<x1))
  (.aC ((0:Int)≤x2∧x2<(List.length x0:Int)) (.call (cN.told (dz x0 x2) x3 x4) fun t1=> .ite t1.1
   (.ret (x2,t1.2.1,t1.2.2))
   (.jump (.c2 x0 x1 (wr (x2+(1:Int))) t1.2.1 t1.2.2))))
  (.ret ((-1:Int),x3,x4))
def f (a0 a1 a2:List Int):Option A:=(begin a0 a1 a2).run (lp tree)
def Q:bE C:={PL with fM:=[(2,[0,1,7,8,19,20])]}
theorem e:df Pg C Q Tryz.f152 2 id st v o tree:=fun J K x=>by cases x<;>kernel_rfl
def told (a0 a1 a2:List Int):aa.Told A:=⟨f a0 a1 a2,fun r=>ae Pg C 152 (S a0 a1 a2) 2 (v r) (o r),fun r h=>dy v o Tryz.func152 rfl (of_decide_eq_true (by kernel_rfl)) (by rfl) (fun _=>rfl) e (fun J K=>by kernel_rfl) h⟩
end aA
namespace au
def S (a0 a1 a2:List Int):List (PV U):=aa.start C 42 [.own true 3 a0,.fn 213 [.ptr 42 0,.ptr 43 0]] [.box [.own true 3 a1],.box [.own true 3 a2]]
inductive X where
 | c5 (x0:List Int) (x1 x2:Int) (x3 x4:List Int)
def id:X→Nat
 | .c5 .. =>5
def st:X→List (PV U)
 | .c5 x0 x1 x2 x3 x4=>eA 44 [(0,.own true 3 x0),(1,.fn 213 [.ptr 42 0,.ptr 43 0]),(5,.int .i64 x1),(6,.int .i64 x2),(42,.box [.own true 3 x3]),(43,.box [.own true 3 x4])]
def begin (a0 a1 a2:List Int):Tr X A:=
 .call (aA.told a0 a1 a2) fun t1=> .ite (decide (t1.1=(-1:Int)))
  (.ret (a0,t1.2.1,t1.2.2))
  (.jump (.c5 a0 t1.1 (wr (t1.1+(1:Int))) t1.2.1 t1.2.2))
def tree:X→Tr X A
 | .c5 x0 x1 x2 x3 x4=>
 .ite (decide (x2<(List.length x0:Int)))
  (.aC ((0:Int)≤x2∧x2<(List.length x0:Int)) (.call (cN.told (dz x0 x2) x3 x4) fun t1=> .ite (!t1.1)
   (.aC ((0:Int)≤x1∧x1<(List.length x0:Int)) (.jump (.c5 (List.set x0 (Int.toNat x1) (dz x0 x2)) (wr (x1+(1:Int))) (wr (x2+(1:Int))) t1.2.1 t1.2.2)))
   (.jump (.c5 x0 x1 (wr (x2+(1:Int))) t1.2.1 t1.2.2))))
  (.aC ((0:Int)≤x1∧x1<(List.length x0:Int)) (.aC ((0:Int)≤(0:Int)∧(0:Int)≤x1∧x1≤(List.length (List.take (Int.toNat x1) x0++List.replicate (List.length x0-Int.toNat x1) (0:Int)):Int)) (.val ((List.take (Int.toNat x1) (List.take (Int.toNat x1) x0++List.replicate (List.length x0-Int.toNat x1) (0:Int))):List Int) fun v1=> .ret (v1,x3,x4))))
def f (a0 a1 a2:List Int):Option A:=(begin a0 a1 a2).run (lp tree)
def Q:bE C:={PL with ret:=fun f_=>lookup f_ ((152,(⟨aA.A,aA.v,aA.o⟩:Ef C))::Aw),fM:=[(5,[0,1,5,6,42,43])],xR:=[(1000000,[(4,[])]),(3000000,[])]}
theorem e:df Pg C Q Tryz.f211 2 id st v o tree:=fun J K x=>by cases x<;>kernel_rfl
def told (a0 a1 a2:List Int):aa.Told A:=⟨f a0 a1 a2,fun r=>ae Pg C 211 (S a0 a1 a2) 2 (v r) (o r),fun r h=>dy v o Tryz.func211 rfl (of_decide_eq_true (by kernel_rfl)) (by rfl) (fun _=>rfl) e (fun J K=>by kernel_rfl) h⟩
end au
namespace dS
def S (a0:List aw) (a1 a2 a3:Int):List (PV U):=aa.start C 18 [.agg [.sl 204 a0,.int .i64 a1,.int .i64 a2,.int .i64 a3]] []
inductive X where
 | c4 (x0:List aw) (x1 x2 x3:Int) (x4 x5:List Int)
def id:X→Nat
 | .c4 .. =>4
def st:X→List (PV U)
 | .c4 x0 x1 x2 x3 x4 x5=>eA 18 [(1,.box [.sl 204 x0,.int .i64 x1,.int .i64 x2,.int .i64 x3]),(3,.box [.own true 3 x4]),(4,.box [.own true 3 x5])]
def begin (a0:List aw) (a1 a2 a3:Int):Tr X A:=
 .call (du.told a0 a1 a2 a3) fun t1=>let u1_0:Tr X A:=(.both (.call (bt.told a0 a1 a2 a3) fun t2=> .both (.call (bj.told a0) fun t3=> .last (.last (.last (.jump (.c4 a0 a1 a2 a3 t2 t3))))) (.last (.last (.call (bj.told a0) fun t3=> .last (.last (.jump (.c4 a0 a1 a2 a3 t2 t3))))))) (.last (.last (.call (bt.told a0 a1 a2 a3) fun t2=> .last (.call (bj.told a0) fun t3=> .last (.last (.jump (.c4 a0 a1 a2 a3 t2 t3)))))))); .ite (!t1)
  (.ret (([]:List Int)))
  (.both (.call (bt.told a0 a1 a2 a3) fun t2=>let u2_0:Tr X A:=(.both (.call (bj.told a0) fun t3=> .last (.last (.last (.jump (.c4 a0 a1 a2 a3 t2 t3))))) (.last (.last (.call (bj.told a0) fun t3=> .last (.last (.jump (.c4 a0 a1 a2 a3 t2 t3))))))); .both (.call (bj.told a0) fun t3=>let u3_0:Tr X A:=(.last (.last (.last (.jump (.c4 a0 a1 a2 a3 t2 t3))))); .both (u3_0)
   (.last (u3_0)))
    (.both (u2_0)
     (.last (u2_0))))
   (.both (u1_0)
    (.last (u1_0))))
def tree:X→Tr X A
 | .c4 x0 x1 x2 x3 x4 x5=>
 .call (eU.told x0) fun t1=> .call (au.told t1 x4 x5) fun t2=> .ret t2.1
def f (a0:List aw) (a1 a2 a3:Int):Option A:=(begin a0 a1 a2 a3).run (lp tree)
def Q:bE C:={PL with fM:=[(4,[1,3,4])],iH:=[(3,[7,8],(.take 2 [] (.take 0 [2,3,5,6] (.take 3 [0,1,2,5,6] (.alt 1 (.alt 4 (.alt 5 (.alt 6 (.alt 7 (.alt 8 .done .nil) .nil) .nil) (.alt 6 (.alt 5 (.alt 7 (.alt 8 .done .nil) .nil) .nil) .nil)) (.alt 5 (.alt 4 (.alt 6 (.alt 7 (.alt 8 .done .nil) .nil) .nil) (.alt 6 (.alt 4 (.alt 7 (.alt 8 .done .nil) .nil) .nil) .nil)) (.alt 6 (.alt 4 (.alt 5 (.alt 7 (.alt 8 .done .nil) .nil) .nil) (.alt 5 (.alt 4 (.alt 7 (.alt 8 .done .nil) .nil) .nil) .nil)) .nil))) (.alt 5 (.alt 1 (.alt 4 (.alt 6 (.alt 7 (.alt 8 .done .nil) .nil) .nil) (.alt 6 (.alt 4 (.alt 7 (.alt 8 .done .nil) .nil) .nil) .nil)) (.alt 6 (.alt 1 (.alt 4 (.alt 7 (.alt 8 .done .nil) .nil) .nil) .nil) .nil)) (.alt 6 (.alt 1 (.alt 4 (.alt 5 (.alt 7 (.alt 8 .done .nil) .nil) .nil) (.alt 5 (.alt 4 (.alt 7 (.alt 8 .done .nil) .nil) .nil) .nil)) (.alt 5 (.alt 1 (.alt 4 (.alt 7 (.alt 8 .done .nil) .nil) .nil) .nil) .nil)) .nil)))))))],xR:=[(1000000,[(2,[])]),(3000000,[])]}
theorem e:df Pg C Q Tryz.f177 0 id st v o tree:=fun J K x=>by cases x<;>kernel_rfl
def told (a0:List aw) (a1 a2 a3:Int):aa.Told A:=⟨f a0 a1 a2 a3,fun r=>ae Pg C 177 (S a0 a1 a2 a3) 0 (v r) (o r),fun r h=>dy v o Tryz.func177 rfl (of_decide_eq_true (by kernel_rfl)) (by rfl) (fun _=>rfl) e (fun J K=>by kernel_rfl) h⟩
end dS
namespace eC
def S (a0 a1 a2 a3 a4 a5:Int):List (PV U):=aa.start C 11 [.agg [.int .i64 a0,.int .i64 a1,.int .i64 a2,.int .i64 a3,.int .i64 a4,.int .i64 a5]] []
def begin (a0 a1 a2 a3 a4 a5:Int):Tr Empty A:=
 .call (dJ.told a0 a1 a2 a3 a4 a5) fun t1=> .ite (!t1)
  (.ret ((0:Int)))
  (.aC ((0:Int)≤a0∧a0<(List.length ([(0:Int),(2:Int),(5:Int),(4:Int),(1:Int),(1:Int),(0:Int)]):Int)) (.ret ((dz ([(0:Int),(2:Int),(5:Int),(4:Int),(1:Int),(1:Int),(0:Int)]) a0))))
def f (a0 a1 a2 a3 a4 a5:Int):Option A:=(begin a0 a1 a2 a3 a4 a5).run (lp aF)
def told (a0 a1 a2 a3 a4 a5:Int):aa.Told A:=⟨f a0 a1 a2 a3 a4 a5,fun r=>ae Pg C 181 (S a0 a1 a2 a3 a4 a5) 0 (v r) (o r),fun r h=>aG (Q:=PL) v o Tryz.func181 rfl (of_decide_eq_true (by kernel_rfl)) (by rfl) (fun _=>rfl) (fun J K=>by kernel_rfl) h⟩
end eC
namespace cg
def S (a0:Int) (a1:List aO) (a2:List Int) (a3 a4 a5:Int) (a6:List Int) (a7 a8 a9 a10 a11 a12 a13 a14:Bool) (a15:List Int):List (PV U):=aa.start C 17 [.ptr 17 0,.int .i64 a0] [.box [.own true 179 a1,.own true 3 a2,.int .i64 a3,.int .i64 a4,.int .i64 a5,.own true 3 a6,.bool a7,.bool a8,.bool a9,.bool a10,.bool a11,.bool a12,.bool a13,.bool a14,.own true 3 a15]]
def begin (a0:Int) (a1:List aO) (a2:List Int) (a3 a4 a5:Int) (a6:List Int) (a7 a8 a9 a10 a11 a12 a13 a14:Bool) (a15:List Int):Tr Empty A:=
 .aC (((List.length a1:Int)+(List.length ([(⟨a0,(-1:Int),(0:Int)⟩:aO)]):Int))*(24:Nat)≤room) (.ret ((a1++[(⟨a0,(-1:Int),(0:Int)⟩:aO)]),a2,a3,a4,a5,a6,a7,a8,a9,a10,a11,a12,a13,a14,a15))
def f (a0:Int) (a1:List aO) (a2:List Int) (a3 a4 a5:Int) (a6:List Int) (a7 a8 a9 a10 a11 a12 a13 a14:Bool) (a15:List Int):Option A:=(begin a0 a1 a2 a3 a4 a5 a6 a7 a8 a9 a10 a11 a12 a13 a14 a15).run (lp aF)
def told (a0:Int) (a1:List aO) (a2:List Int) (a3 a4 a5:Int) (a6:List Int) (a7 a8 a9 a10 a11 a12 a13 a14:Bool) (a15:List Int):aa.Told A:=⟨f a0 a1 a2 a3 a4 a5 a6 a7 a8 a9 a10 a11 a12 a13 a14 a15,fun r=>ae Pg C 180 (S a0 a1 a2 a3 a4 a5 a6 a7 a8 a9 a10 a11 a12 a13 a14 a15) 1 (v r) (o r),fun r h=>aG (Q:=PL) v o Tryz.func180 rfl (of_decide_eq_true (by kernel_rfl)) (by rfl) (fun _=>rfl) (fun J K=>by kernel_rfl) h⟩
end cg
namespace fz
def S (a0:List Int):List (PV U):=aa.start C 10 [.sl 3 a0] []
def begin (a0:List Int):Tr Empty A:=
 .ite (decide ((List.length a0:Int)=(8:Int)))
  (.call (cu.told a0) fun t1=> .ret t1)
  (.ret false)
def f (a0:List Int):Option A:=(begin a0).run (lp aF)
def told (a0:List Int):aa.Told A:=⟨f a0,fun r=>ae Pg C 218 (S a0) 0 (v r) (o r),fun r h=>aG (Q:=PL) v o Tryz.func218 rfl (of_decide_eq_true (by kernel_rfl)) (by rfl) (fun _=>rfl) (fun J K=>by kernel_rfl) h⟩
end fz
end
end Go.Proofs.YtmapddgocpkgeaaGreat.Ev
