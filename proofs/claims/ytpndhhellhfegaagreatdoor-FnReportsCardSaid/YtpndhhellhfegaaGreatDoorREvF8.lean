/- Functions as trees, with their contracts. No conditions. -/
import Derived.Test.YtpndhhellhfegaaGreatDoorREvF7
namespace Go.Proofs.YtpndhhellhfegaaGreatDoor.Ev
open Go.Proofs.YtpndhhellhfegaaGreatDoor.aa Go.RowKit
set_option linter.unusedVariables false
set_option maxRecDepth 100000
noncomputable section
namespace cd
def S (a0:List aw):List (PV U):=aa.start C 39 [.sl 122 a0] []
inductive X where
 | c3 (x0:List aw) (x1:List Bool) (x2:Int)
def id:X→Nat
 | .c3 .. =>3
def st:X→List (PV U)
 | .c3 x0 x1 x2=>gf 39 [(0,.sl 122 x0),(3,.own true 4 x1),(4,.int .i64 x2)]
def begin (a0:List aw):Tr X A:=
 .ax ((0:Int)≤(8:Int)∧(8:Int)≤(8:Int)∧(8:Int)*(1:Nat)≤room) (.jump (.c3 a0 (List.replicate (Int.toNat (8:Int)) false) (0:Int)))
def tree:X→Tr X A
 | .c3 x0 x1 x2=>
 .ite (decide (x2<(List.length x0:Int)))
  (.call (bm.told x0) fun t1=> .ite t1
   (.ax ((0:Int)≤x2∧x2<(List.length x0:Int)) (.ite (decide ((aj x0 x2).f0=(4:Int)))
    (.call (ca.told x0 x2) fun t2=> .jump (.c3 x0 x1 (wr (t2+(1:Int)))))
    (.ax ((0:Int)≤x2∧x2<(List.length x0:Int)) (.call (cw.told ((aj x0 x2).f0) ((aj x0 x2).f1) ((aj x0 x2).f2) ((aj x0 x2).f3.f0) ((aj x0 x2).f3.f1) ((aj x0 x2).f3.f2)) fun t2=> .ite t2
     (.ax ((0:Int)≤x2∧x2<(List.length x0:Int)) (.ax ((0:Int)≤(aj x0 x2).f1∧(aj x0 x2).f1<(List.length x1:Int)) (.jump (.c3 x0 (List.set x1 (Int.toNat ((aj x0 x2).f1)) true) (wr (x2+(1:Int)))))))
     (.jump (.c3 x0 x1 (wr (x2+(1:Int)))))))))
   (.call (bP.told x1) fun t2=> .ret t2))
  (.call (bP.told x1) fun t1=> .ret t1)
def f (a0:List aw):Option A:=(begin a0).run (lp tree)
def Q:ck C:={PL with gT:=[(3,[0,3,4])]}
theorem e:fr Pg C Q Tryz.f173 0 id st v o tree:=fun J K x=>by cases x<;>kernel_rfl
def told (a0:List aw):aa.Told A:=⟨f a0,fun r=>ah Pg C 173 (S a0) 0 (v r) (o r),fun r h=>fI v o Tryz.func173 rfl (of_decide_eq_true (by kernel_rfl)) (by rfl) (fun _=>rfl) e (fun J K=>by kernel_rfl) h⟩
end cd
namespace cJ
def S (a0 a1 a2:Int):List (PV U):=aa.start C 31 [.agg [.int .i64 a0,.int .i64 a1,.int .i64 a2]] []
inductive X where
 | c3 (x0 x1 x2:Int) (x3:List Int) (x4:Int)
def id:X→Nat
 | .c3 .. =>3
def st:X→List (PV U)
 | .c3 x0 x1 x2 x3 x4=>gf 31 [(1,.box [.int .i64 x0,.int .i64 x1,.int .i64 x2]),(3,.own true 3 x3),(4,.int .i64 x4)]
def begin (a0 a1 a2:Int):Tr X A:=
 .jump (.c3 a0 a1 a2 ([]:List Int) (0:Int))
def tree:X→Tr X A
 | .c3 x0 x1 x2 x3 x4=>
 .ite (decide (x4<(8:Int)))
  (.call (cb.told x0 x1 x2) fun t1=>let u1_0:Tr X A:=(.ax (((List.length x3:Int)+(List.length ([x4]):Int))*(8:Nat)≤room) (.jump (.c3 x0 x1 x2 (x3++[x4]) (wr (x4+(1:Int)))))); .ite t1
   (.ite (decide (x1=(wr ((-1:Int)-x4))))
    (u1_0)
    (.ite (decide (x2=(wr ((-1:Int)-x4))))
     (u1_0)
     (.jump (.c3 x0 x1 x2 x3 (wr (x4+(1:Int)))))))
   (.ret x3))
  (.ret x3)
def f (a0 a1 a2:Int):Option A:=(begin a0 a1 a2).run (lp tree)
def Q:ck C:={PL with gT:=[(3,[1,3,4])]}
theorem e:fr Pg C Q Tryz.f192 0 id st v o tree:=fun J K x=>by cases x<;>kernel_rfl
def told (a0 a1 a2:Int):aa.Told A:=⟨f a0 a1 a2,fun r=>ah Pg C 192 (S a0 a1 a2) 0 (v r) (o r),fun r h=>fI v o Tryz.func192 rfl (of_decide_eq_true (by kernel_rfl)) (by rfl) (fun _=>rfl) e (fun J K=>by kernel_rfl) h⟩
end cJ
namespace b6
def S (a0 a1 a2:Int) (a3 a4:List Bool):List (PV U):=aa.start C 30 [.jl (30,[]),.jl (31,[]),.agg [.int .i64 a0,.int .i64 a1,.int .i64 a2]] [.own true 4 a3,.own true 4 a4]
inductive X where
 | c3 (x0:List Int) (x1:Int) (x2 x3:List Bool)
def id:X→Nat
 | .c3 .. =>3
def st:X→List (PV U)
 | .c3 x0 x1 x2 x3=>gf 32 [(0,.jl (30,[])),(1,.jl (31,[])),(6,.own true 3 x0),(7,.int .i64 x1),(30,.own true 4 x2),(31,.own true 4 x3)]
def begin (a0 a1 a2:Int) (a3 a4:List Bool):Tr X A:=
 .call (cJ.told a0 a1 a2) fun t1=> .jump (.c3 t1 (0:Int) a3 a4)
def tree:X→Tr X A
 | .c3 x0 x1 x2 x3=>
 .ite (decide (x1<(List.length x0:Int)))
  (.ax ((0:Int)≤x1∧x1<(List.length x0:Int)) (.ax ((0:Int)≤(cT x0 x1)∧(cT x0 x1)<(List.length x3:Int)) (.ite (!(D2 x3 (cT x0 x1)))
   (.ax ((0:Int)≤x1∧x1<(List.length x0:Int)) (.ax ((0:Int)≤(cT x0 x1)∧(cT x0 x1)<(List.length x2:Int)) (.jump (.c3 x0 (wr (x1+(1:Int))) (List.set x2 (Int.toNat (cT x0 x1)) true) x3))))
   (.jump (.c3 x0 (wr (x1+(1:Int))) x2 x3)))))
  (.ret (x2,x3))
def f (a0 a1 a2:Int) (a3 a4:List Bool):Option A:=(begin a0 a1 a2 a3 a4).run (lp tree)
def Q:ck C:={PL with gT:=[(3,[0,1,6,7,30,31])]}
theorem e:fr Pg C Q Tryz.f185 2 id st v o tree:=fun J K x=>by cases x<;>kernel_rfl
def told (a0 a1 a2:Int) (a3 a4:List Bool):aa.Told A:=⟨f a0 a1 a2 a3 a4,fun r=>ah Pg C 185 (S a0 a1 a2 a3 a4) 2 (v r) (o r),fun r h=>fI v o Tryz.func185 rfl (of_decide_eq_true (by kernel_rfl)) (by rfl) (fun _=>rfl) e (fun J K=>by kernel_rfl) h⟩
end b6
namespace bf
def S (a0:List aw) (a1 a2:Int) (a3 a4:List Bool):List (PV U):=aa.start C 83 [.sl 122 a0,.int .i64 a1,.int .i64 a2,.jl (83,[]),.jl (84,[])] [.own true 4 a3,.own true 4 a4]
abbrev I:=(List aw)×Int×Int×(List Bool)×(List Bool)
abbrev K:I→A→Prop:=fun i_ r=>ah Pg C 184 (S i_.1 i_.2.1 i_.2.2.1 i_.2.2.2.1 i_.2.2.2.2) 2 (v r) (o r)
inductive X where
 | c1 (x0:List aw) (x1 x2:Int) (x3 x4:List Bool)
def id:X→Nat
 | .c1 .. =>1
def st:X→List (PV U)
 | .c1 x0 x1 x2 x3 x4=>gf 85 [(0,.sl 122 x0),(2,.int .i64 x1),(3,.jl (83,[])),(4,.jl (84,[])),(10,.int .i64 x2),(83,.own true 4 x3),(84,.own true 4 x4)]
def begin (self_:Self I A K) (a0:List aw) (a1 a2:Int) (a3 a4:List Bool):Tr X A:=
 .jump (.c1 a0 a2 a1 a3 a4)
def tree (self_:Self I A K):X→Tr X A
 | .c1 x0 x1 x2 x3 x4=>
 .ite (decide (x2<x1))
  (.ax ((0:Int)≤x2∧x2<(List.length x0:Int)) (.ite (decide ((aj x0 x2).f0=(1:Int)))
   (.call (b6.told ((aj x0 x2).f3.f0) ((aj x0 x2).f3.f1) ((aj x0 x2).f3.f2) x4 x3) fun t1=> .ax ((0:Int)≤(aj x0 x2).f1∧(aj x0 x2).f1<(List.length t1.2:Int)) (.jump (.c1 x0 x1 (wr (x2+(1:Int))) (List.set t1.2 (Int.toNat ((aj x0 x2).f1)) true) t1.1)))
   (.ite (decide ((aj x0 x2).f0=(2:Int)))
    (.ax ((0:Int)≤(aj x0 x2).f1∧(aj x0 x2).f1<(List.length x3:Int)) (.jump (.c1 x0 x1 (wr (x2+(1:Int))) (List.set x3 (Int.toNat ((aj x0 x2).f1)) true) x4)))
    (.ite (decide ((aj x0 x2).f0=(3:Int)))
     (.call (b6.told ((aj x0 x2).f3.f0) ((aj x0 x2).f3.f1) ((aj x0 x2).f3.f2) x4 x3) fun t1=> .jump (.c1 x0 x1 (wr (x2+(1:Int))) t1.2 t1.1))
     (.ite (decide ((aj x0 x2).f0=(4:Int)))
      (.call (b6.told ((aj x0 x2).f3.f0) ((aj x0 x2).f3.f1) ((aj x0 x2).f3.f2) x4 x3) fun t1=> .call (ca.told x0 x2) fun t2=> .ax (((List.length ([]:List Bool):Int)+(List.length t1.2:Int))*(1:Nat)≤room) (.call (self_.told (x0,(wr (x2+(1:Int))),t2,(([]:List Bool)++t1.2),t1.1)) fun t3=> .jump (.c1 x0 x1 (wr (t2+(1:Int))) t1.2 t3.2)))
      (.ite (decide ((aj x0 x2).f0=(5:Int)))
       (.call (ca.told x0 x2) fun t1=> .call (self_.told (x0,(wr (x2+(1:Int))),t1,x3,x4)) fun t2=> .jump (.c1 x0 x1 (wr (t1+(1:Int))) t2.1 t2.2))
       (.jump (.c1 x0 x1 (wr (x2+(1:Int))) x3 x4))))))))
  (.ret (x3,x4))
def Q:ck C:={PL with gT:=[(1,[0,2,3,4,10,83,84])]}
theorem e (self_:Self I A K):fr Pg C Q Tryz.f184 2 id st v o (tree self_):=fun J K x=>by cases x<;>kernel_rfl
theorem b (self_:Self I A K) (a0:List aw) (a1 a2:Int) (a3 a4:List Bool):zJ Pg C Q Tryz.f184 2 id st v o (S a0 a1 a2 a3 a4) (begin self_ a0 a1 a2 a3 a4):=fun J K=>by kernel_rfl
def step (self_:Self I A K):Self I A K:=⟨fun i_=>(begin self_ i_.1 i_.2.1 i_.2.2.1 i_.2.2.2.1 i_.2.2.2.2).run (lp (tree self_)),fun i_ r h=>jj G mixed Q Tryz.func184 rfl (of_decide_eq_true (by kernel_rfl)) (by rfl) id st v o (fun _=>rfl) (tree self_) (e self_) (begin self_ i_.1 i_.2.1 i_.2.2.1 i_.2.2.2.1 i_.2.2.2.2) (b self_ i_.1 i_.2.1 i_.2.2.1 i_.2.2.2.1 i_.2.2.2.2) h⟩
def f (a0:List aw) (a1 a2:Int) (a3 a4:List Bool):Option A:=(Self.iter step 8).f (a0,a1,a2,a3,a4)
def told (a0:List aw) (a1 a2:Int) (a3 a4:List Bool):aa.Told A:=⟨f a0 a1 a2 a3 a4,fun r=>ah Pg C 184 (S a0 a1 a2 a3 a4) 2 (v r) (o r),fun r h=>(Self.iter step 8).ok (a0,a1,a2,a3,a4) r h⟩
end bf
namespace cz
def S (a0:List aw) (a1 a2 a3:Int):List (PV U):=aa.start C 30 [.agg [.sl 122 a0,.int .i64 a1,.int .i64 a2,.int .i64 a3]] []
def begin (a0:List aw) (a1 a2 a3:Int):Tr Empty A:=
 .ax ((0:Int)≤(8:Int)∧(8:Int)≤(8:Int)∧(8:Int)*(1:Nat)≤room) (.call (bm.told a0) fun t1=> .ite t1
  (.call (cb.told a1 a2 a3) fun t2=> .ite t2
   (.ax ((0:Int)≤(8:Int)∧(8:Int)≤(8:Int)∧(8:Int)*(1:Nat)≤room) (.call (bf.told a0 (0:Int) (List.length a0:Int) (List.replicate (Int.toNat (8:Int)) false) (List.replicate (Int.toNat (8:Int)) false)) fun t3=> .call (b6.told a1 a2 a3 t3.2 t3.1) fun t4=> .call (bP.told t4.1) fun t5=> .ret t5))
   (.call (bP.told (List.replicate (Int.toNat (8:Int)) false)) fun t3=> .ret t3))
  (.call (bP.told (List.replicate (Int.toNat (8:Int)) false)) fun t2=> .ret t2))
def f (a0:List aw) (a1 a2 a3:Int):Option A:=(begin a0 a1 a2 a3).run (lp aB)
def told (a0:List aw) (a1 a2 a3:Int):aa.Told A:=⟨f a0 a1 a2 a3,fun r=>ah Pg C 174 (S a0 a1 a2 a3) 0 (v r) (o r),fun r h=>aY (Q:=PL) v o Tryz.func174 rfl (of_decide_eq_true (by kernel_rfl)) (by rfl) (fun _=>rfl) (fun J K=>by kernel_rfl) h⟩
end cz
namespace cm
def S (a0:List Int) (a1:Int):List (PV U):=aa.start C 18 [.sl 3 a0,.int .i64 a1] []
inductive X where
 | c2 (x0:List Int) (x1 x2:Int)
def id:X→Nat
 | .c2 .. =>2
def st:X→List (PV U)
 | .c2 x0 x1 x2=>gf 18 [(0,.sl 3 x0),(1,.int .i64 x1),(5,.int .i64 x2)]
def begin (a0:List Int) (a1:Int):Tr X A:=
 .jump (.c2 a0 a1 (0:Int))
def tree:X→Tr X A
 | .c2 x0 x1 x2=>
 .ite (decide (x2<(List.length x0:Int)))
  (.ax ((0:Int)≤x2∧x2<(List.length x0:Int)) (.ite (decide ((cT x0 x2)=x1))
   (.ret true)
   (.jump (.c2 x0 x1 (wr (x2+(1:Int)))))))
  (.ret false)
def f (a0:List Int) (a1:Int):Option A:=(begin a0 a1).run (lp tree)
def Q:ck C:={PL with gT:=[(2,[0,1,5])]}
theorem e:fr Pg C Q Tryz.f175 0 id st v o tree:=fun J K x=>by cases x<;>kernel_rfl
def told (a0:List Int) (a1:Int):aa.Told A:=⟨f a0 a1,fun r=>ah Pg C 175 (S a0 a1) 0 (v r) (o r),fun r h=>fI v o Tryz.func175 rfl (of_decide_eq_true (by kernel_rfl)) (by rfl) (fun _=>rfl) e (fun J K=>by kernel_rfl) h⟩
end cm
end
end Go.Proofs.YtpndhhellhfegaaGreatDoor.Ev
