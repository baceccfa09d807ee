/- Functions as trees, with their contracts. No conditions. -/
import Derived.Test.YtmapddgocpkgeaaGreatNEvF7
namespace Go.Proofs.YtmapddgocpkgeaaGreat.Ev
open Go.Proofs.YtmapddgocpkgeaaGreat.aa Go.RowKit
set_option linter.unusedVariables false
set_option maxRecDepth 100000
noncomputable section
namespace cz
def S (a0:List aw):List (PV U):=aa.start C 39 [.sl 204 a0] []
inductive X where
 | c3 (x0:List aw) (x1:List Bool) (x2:Int)
def id:X→Nat
 | .c3 .. =>3
def st:X→List (PV U)
 | .c3 x0 x1 x2=>eA 39 [(0,.sl 204 x0),(3,.own true 4 x1),(4,.int .i64 x2)]
def begin (a0:List aw):Tr X A:=
 .aC ((0:Int)≤(8:Int)∧(8:Int)≤(8:Int)∧(8:Int)*(1:Nat)≤room) (.jump (.c3 a0 (List.replicate (Int.toNat (8:Int)) false) (0:Int)))
def tree:X→Tr X A
 | .c3 x0 x1 x2=>
 .ite (decide (x2<(List.length x0:Int)))
  (.call (bx.told x0) fun t1=> .ite t1
   (.aC ((0:Int)≤x2∧x2<(List.length x0:Int)) (.ite (decide ((ak x0 x2).f0=(4:Int)))
    (.call (cn.told x0 x2) fun t2=> .jump (.c3 x0 x1 (wr (t2+(1:Int)))))
    (.aC ((0:Int)≤x2∧x2<(List.length x0:Int)) (.call (cO.told ((ak x0 x2).f0) ((ak x0 x2).f1) ((ak x0 x2).f2) ((ak x0 x2).f3.f0) ((ak x0 x2).f3.f1) ((ak x0 x2).f3.f2)) fun t2=> .ite t2
     (.aC ((0:Int)≤x2∧x2<(List.length x0:Int)) (.aC ((0:Int)≤(ak x0 x2).f1∧(ak x0 x2).f1<(List.length x1:Int)) (.jump (.c3 x0 (List.set x1 (Int.toNat ((ak x0 x2).f1)) true) (wr (x2+(1:Int)))))))
     (.jump (.c3 x0 x1 (wr (x2+(1:Int)))))))))
   (.call (bV.told x1) fun t2=> .ret t2))
  (.call (bV.told x1) fun t1=> .ret t1)
def f (a0:List aw):Option A:=(begin a0).run (lp tree)
def Q:bE C:={PL with fM:=[(3,[0,3,4])]}
theorem e:df Pg C Q Tryz.f228 0 id st v o tree:=fun J K x=>by cases x<;>kernel_rfl
def told (a0:List aw):aa.Told A:=⟨f a0,fun r=>ae Pg C 228 (S a0) 0 (v r) (o r),fun r h=>dy v o Tryz.func228 rfl (of_decide_eq_true (by kernel_rfl)) (by rfl) (fun _=>rfl) e (fun J K=>by kernel_rfl) h⟩
end cz
namespace dh
def S (a0 a1 a2:Int):List (PV U):=aa.start C 31 [.agg [.int .i64 a0,.int .i64 a1,.int .i64 a2]] []
inductive X where
 | c3 (x0 x1 x2:Int) (x3:List Int) (x4:Int)
def id:X→Nat
 | .c3 .. =>3
def st:X→List (PV U)
 | .c3 x0 x1 x2 x3 x4=>eA 31 [(1,.box [.int .i64 x0,.int .i64 x1,.int .i64 x2]),(3,.own true 3 x3),(4,.int .i64 x4)]
def begin (a0 a1 a2:Int):Tr X A:=
 .jump (.c3 a0 a1 a2 ([]:List Int) (0:Int))
def tree:X→Tr X A
 | .c3 x0 x1 x2 x3 x4=>
 .ite (decide (x4<(8:Int)))
  (.call (cq.told x0 x1 x2) fun t1=>let u1_0:Tr X A:=(.aC (((List.length x3:Int)+(List.length ([x4]):Int))*(8:Nat)≤room) (.jump (.c3 x0 x1 x2 (x3++[x4]) (wr (x4+(1:Int)))))); .ite t1
   (.ite (decide (x1=(wr ((-1:Int)-x4))))
    (u1_0)
    (.ite (decide (x2=(wr ((-1:Int)-x4))))
     (u1_0)
     (.jump (.c3 x0 x1 x2 x3 (wr (x4+(1:Int)))))))
   (.ret x3))
  (.ret x3)
def f (a0 a1 a2:Int):Option A:=(begin a0 a1 a2).run (lp tree)
def Q:bE C:={PL with fM:=[(3,[1,3,4])]}
theorem e:df Pg C Q Tryz.f262 0 id st v o tree:=fun J K x=>by cases x<;>kernel_rfl
def told (a0 a1 a2:Int):aa.Told A:=⟨f a0 a1 a2,fun r=>ae Pg C 262 (S a0 a1 a2) 0 (v r) (o r),fun r h=>dy v o Tryz.func262 rfl (of_decide_eq_true (by kernel_rfl)) (by rfl) (fun _=>rfl) e (fun J K=>by kernel_rfl) h⟩
end dh
namespace cl
def S (a0 a1 a2:Int) (a3 a4:List Bool):List (PV U):=aa.start C 30 [.iV (30,[]),.iV (31,[]),.agg [.int .i64 a0,.int .i64 a1,.int .i64 a2]] [.own true 4 a3,.own true 4 a4]
inductive X where
 | c3 (x0:List Int) (x1:Int) (x2 x3:List Bool)
def id:X→Nat
 | .c3 .. =>3
def st:X→List (PV U)
 | .c3 x0 x1 x2 x3=>eA 32 [(0,.iV (30,[])),(1,.iV (31,[])),(6,.own true 3 x0),(7,.int .i64 x1),(30,.own true 4 x2),(31,.own true 4 x3)]
def begin (a0 a1 a2:Int) (a3 a4:List Bool):Tr X A:=
 .call (dh.told a0 a1 a2) fun t1=> .jump (.c3 t1 (0:Int) a3 a4)
def tree:X→Tr X A
 | .c3 x0 x1 x2 x3=>
 .ite (decide (x1<(List.length x0:Int)))
  (.aC ((0:Int)≤x1∧x1<(List.length x0:Int)) (.aC ((0:Int)≤(dz x0 x1)∧(dz x0 x1)<(List.length x3:Int)) (.ite (!(Dt x3 (dz x0 x1)))
   (.aC ((0:Int)≤x1∧x1<(List.length x0:Int)) (.aC ((0:Int)≤(dz x0 x1)∧(dz x0 x1)<(List.length x2:Int)) (.jump (.c3 x0 (wr (x1+(1:Int))) (List.set x2 (Int.toNat (dz x0 x1)) true) x3))))
   (.jump (.c3 x0 (wr (x1+(1:Int))) x2 x3)))))
  (.ret (x2,x3))
def f (a0 a1 a2:Int) (a3 a4:List Bool):Option A:=(begin a0 a1 a2 a3 a4).run (lp tree)
def Q:bE C:={PL with fM:=[(3,[0,1,6,7,30,31])]}
theorem e:df Pg C Q Tryz.f251 2 id st v o tree:=fun J K x=>by cases x<;>kernel_rfl
def told (a0 a1 a2:Int) (a3 a4:List Bool):aa.Told A:=⟨f a0 a1 a2 a3 a4,fun r=>ae Pg C 251 (S a0 a1 a2 a3 a4) 2 (v r) (o r),fun r h=>dy v o Tryz.func251 rfl (of_decide_eq_true (by kernel_rfl)) (by rfl) (fun _=>rfl) e (fun J K=>by kernel_rfl) h⟩
end cl
namespace br
def S (a0:List aw) (a1 a2:Int) (a3 a4:List Bool):List (PV U):=aa.start C 83 [.sl 204 a0,.int .i64 a1,.int .i64 a2,.iV (83,[]),.iV (84,[])] [.own true 4 a3,.own true 4 a4]
abbrev I:=(List aw)×Int×Int×(List Bool)×(List Bool)
abbrev K:I→A→Prop:=fun i_ r=>ae Pg C 250 (S i_.1 i_.2.1 i_.2.2.1 i_.2.2.2.1 i_.2.2.2.2) 2 (v r) (o r)
inductive X where
 | c1 (x0:List aw) (x1 x2:Int) (x3 x4:List Bool)
def id:X→Nat
 | .c1 .. =>1
def st:X→List (PV U)
 | .c1 x0 x1 x2 x3 x4=>eA 85 [(0,.sl 204 x0),(2,.int .i64 x1),(3,.iV (83,[])),(4,.iV (84,[])),(10,.int .i64 x2),(83,.own true 4 x3),(84,.own true 4 x4)]
def begin (self_:Self I A K) (a0:List aw) (a1 a2:Int) (a3 a4:List Bool):Tr X A:=
 .jump (.c1 a0 a2 a1 a3 a4)
def tree (self_:Self I A K):X→Tr X A
 | .c1 x0 x1 x2 x3 x4=>
 .ite (decide (x2<x1))
  (.aC ((0:Int)≤x2∧x2<(List.length x0:Int)) (.ite (decide ((ak x0 x2).f0=(1:Int)))
   (.call (cl.told ((ak x0 x2).f3.f0) ((ak x0 x2).f3.f1) ((ak x0 x2).f3.f2) x4 x3) fun t1=> .aC ((0:Int)≤(ak x0 x2).f1∧(ak x0 x2).f1<(List.length t1.2:Int)) (.jump (.c1 x0 x1 (wr (x2+(1:Int))) (List.set t1.2 (Int.toNat ((ak x0 x2).f1)) true) t1.1)))
   (.ite (decide ((ak x0 x2).f0=(2:Int)))
    (.aC ((0:Int)≤(ak x0 x2).f1∧(ak x0 x2).f1<(List.length x3:Int)) (.jump (.c1 x0 x1 (wr (x2+(1:Int))) (List.set x3 (Int.toNat ((ak x0 x2).f1)) true) x4)))
    (.ite (decide ((ak x0 x2).f0=(3:Int)))
     (.call (cl.told ((ak x0 x2).f3.f0) ((ak x0 x2).f3.f1) ((ak x0 x2).f3.f2) x4 x3) fun t1=> .jump (.c1 x0 x1 (wr (x2+(1:Int))) t1.2 t1.1))
     (.ite (decide ((ak x0 x2).f0=(4:Int)))
      (.call (cl.told ((ak x0 x2).f3.f0) ((ak x0 x2).f3.f1) ((ak x0 x2).f3.f2) x4 x3) fun t1=> .call (cn.told x0 x2) fun t2=> .aC (((List.length ([]:List Bool):Int)+(List.length t1.2:Int))*(1:Nat)≤room) (.call (self_.told (x0,(wr (x2+(1:Int))),t2,(([]:List Bool)++t1.2),t1.1)) fun t3=> .jump (.c1 x0 x1 (wr (t2+(1:Int))) t1.2 t3.2)))
      (.ite (decide ((ak x0 x2).f0=(5:Int)))
       (.call (cn.told x0 x2) fun t1=> .call (self_.told (x0,(wr (x2+(1:Int))),t1,x3,x4)) fun t2=> .jump (.c1 x0 x1 (wr (t1+(1:Int))) t2.1 t2.2))
       (.jump (.c1 x0 x1 (wr (x2+(1:Int))) x3 x4))))))))
  (.ret (x3,x4))
def Q:bE C:={PL with fM:=[(1,[0,2,3,4,10,83,84])]}
theorem e (self_:Self I A K):df Pg C Q Tryz.f250 2 id st v o (tree self_):=fun J K x=>by cases x<;>kernel_rfl
theorem b (self_:Self I A K) (a0:List aw) (a1 a2:Int) (a3 a4:List Bool):vM Pg C Q Tryz.f250 2 id st v o (S a0 a1 a2 a3 a4) (begin self_ a0 a1 a2 a3 a4):=fun J K=>by kernel_rfl
def step (self_:Self I A K):Self I A K:=⟨fun i_=>(begin self_ i_.1 i_.2.1 i_.2.2.1 i_.2.2.2.1 i_.2.2.2.2).run (lp (tree self_)),fun i_ r h=>gK G mixed Q Tryz.func250 rfl (of_decide_eq_true (by kernel_rfl)) (by rfl) id st v o (fun _=>rfl) (tree self_) (e self_) (begin self_ i_.1 i_.2.1 i_.2.2.1 i_.2.2.2.1 i_.2.2.2.2) (b self_ i_.1 i_.2.1 i_.2.2.1 i_.2.2.2.1 i_.2.2.2.2) h⟩
def f (a0:List aw) (a1 a2:Int) (a3 a4:List Bool):Option A:=(Self.iter step 8).f (a0,a1,a2,a3,a4)
def told (a0:List aw) (a1 a2:Int) (a3 a4:List Bool):aa.Told A:=⟨f a0 a1 a2 a3 a4,fun r=>ae Pg C 250 (S a0 a1 a2 a3 a4) 2 (v r) (o r),fun r h=>(Self.iter step 8).ok (a0,a1,a2,a3,a4) r h⟩
end br
namespace cR
def S (a0:List aw) (a1 a2 a3:Int):List (PV U):=aa.start C 30 [.agg [.sl 204 a0,.int .i64 a1,.int .i64 a2,.int .i64 a3]] []
def begin (a0:List aw) (a1 a2 a3:Int):Tr Empty A:=
 .aC ((0:Int)≤(8:Int)∧(8:Int)≤(8:Int)∧(8:Int)*(1:Nat)≤room) (.call (bx.told a0) fun t1=> .ite t1
  (.call (cq.told a1 a2 a3) fun t2=> .ite t2
   (.aC ((0:Int)≤(8:Int)∧(8:Int)≤(8:Int)∧(8:Int)*(1:Nat)≤room) (.call (br.told a0 (0:Int) (List.length a0:Int) (List.replicate (Int.toNat (8:Int)) false) (List.replicate (Int.toNat (8:Int)) false)) fun t3=> .call (cl.told a1 a2 a3 t3.2 t3.1) fun t4=> .call (bV.told t4.1) fun t5=> .ret t5))
   (.call (bV.told (List.replicate (Int.toNat (8:Int)) false)) fun t3=> .ret t3))
  (.call (bV.told (List.replicate (Int.toNat (8:Int)) false)) fun t2=> .ret t2))
def f (a0:List aw) (a1 a2 a3:Int):Option A:=(begin a0 a1 a2 a3).run (lp aF)
def told (a0:List aw) (a1 a2 a3:Int):aa.Told A:=⟨f a0 a1 a2 a3,fun r=>ae Pg C 229 (S a0 a1 a2 a3) 0 (v r) (o r),fun r h=>aG (Q:=PL) v o Tryz.func229 rfl (of_decide_eq_true (by kernel_rfl)) (by rfl) (fun _=>rfl) (fun J K=>by kernel_rfl) h⟩
end cR
namespace cK
def S (a0:List Int) (a1:Int):List (PV U):=aa.start C 18 [.sl 3 a0,.int .i64 a1] []
inductive X where
 | c2 (x0:List Int) (x1 x2:Int)
def id:X→Nat
 | .c2 .. =>2
def st:X→List (PV U)
 | .c2 x0 x1 x2=>eA 18 [(0,.sl 3 x0),(1,.int .i64 x1),(5,.int .i64 x2)]
def begin (a0:List Int) (a1:Int):Tr X A:=
 .jump (.c2 a0 a1 (0:Int))
def tree:X→Tr X A
 | .c2 x0 x1 x2=>
 .ite (decide (x2<(List.length x0:Int)))
  (.aC ((0:Int)≤x2∧x2<(List.length x0:Int)) (.ite (decide ((dz x0 x2)=x1))
   (.ret true)
   (.jump (.c2 x0 x1 (wr (x2+(1:Int)))))))
  (.ret false)
def f (a0:List Int) (a1:Int):Option A:=(begin a0 a1).run (lp tree)
def Q:bE C:={PL with fM:=[(2,[0,1,5])]}
theorem e:df Pg C Q Tryz.f230 0 id st v o tree:=fun J K x=>by cases x<;>kernel_rfl
def told (a0:List Int) (a1:Int):aa.Told A:=⟨f a0 a1,fun r=>ae Pg C 230 (S a0 a1) 0 (v r) (o r),fun r h=>dy v o Tryz.func230 rfl (of_decide_eq_true (by kernel_rfl)) (by rfl) (fun _=>rfl) e (fun J K=>by kernel_rfl) h⟩
end cK
end
end Go.Proofs.YtmapddgocpkgeaaGreat.Ev
