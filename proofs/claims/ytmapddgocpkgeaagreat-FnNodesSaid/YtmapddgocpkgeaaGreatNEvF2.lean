/- Functions as trees, with their contracts. No conditions. -/
import Derived.Test.YtmapddgocpkgeaaGreatNEvF1
namespace Go.Proofs.YtmapddgocpkgeaaGreat.Ev
open Go.Proofs.YtmapddgocpkgeaaGreat.aa Go.RowKit
set_option linter.unusedVariables false
set_option maxRecDepth 100000
noncomputable section
namespace bK
def S (a0:List Int) (a1 a2:Int):List (PV U):=aa.start C 20 [.ptr 20 0] [.box [.sl 5 a0,.int .i64 a1,.int .i64 a2]]
inductive X where
 | c3 (x0:List Int) (x1:Int) (x2:List Int) (x3 x4:Int)
def id:X→Nat
 | .c3 .. =>3
def st:X→List (PV U)
 | .c3 x0 x1 x2 x3 x4=>eA 21 [(0,.ptr 20 0),(3,.own true 3 x0),(4,.int .i64 x1),(20,.box [.sl 5 x2,.int .i64 x3,.int .i64 x4])]
def begin (a0:List Int) (a1 a2:Int):Tr X A:=
 .jump (.c3 ([]:List Int) (0:Int) a0 a1 a2)
def tree:X→Tr X A
 | .c3 x0 x1 x2 x3 x4=>
 .ite (decide (x1<(8:Int)))
  (.call (ar.told (2000:Int) x2 x3 x4) fun t1=> .call (b7.told ([(0:Int),(1:Int),(2:Int),(5:Int),(wr (t1.1-(1000:Int))),(1000000:Int)]) t1.2.1 t1.2.2.1 t1.2.2.2) fun t2=> .aC (((List.length x0:Int)+(List.length ([t2.1]):Int))*(8:Nat)≤room) (.jump (.c3 (x0++[t2.1]) (wr (x1+(1:Int))) t2.2.1 t2.2.2.1 t2.2.2.2)))
  (.ret (x0,x2,x3,x4))
def f (a0:List Int) (a1 a2:Int):Option A:=(begin a0 a1 a2).run (lp tree)
def Q:bE C:={PL with fM:=[(3,[0,3,4,20])]}
theorem e:df Pg C Q Tryz.f89 1 id st v o tree:=fun J K x=>by cases x<;>kernel_rfl
def told (a0:List Int) (a1 a2:Int):aa.Told A:=⟨f a0 a1 a2,fun r=>ae Pg C 89 (S a0 a1 a2) 1 (v r) (o r),fun r h=>dy v o Tryz.func89 rfl (of_decide_eq_true (by kernel_rfl)) (by rfl) (fun _=>rfl) e (fun J K=>by kernel_rfl) h⟩
end bK
namespace aI
def S (a0:List Int) (a1 a2:Int):List (PV U):=aa.start C 20 [.ptr 20 0] [.box [.sl 5 a0,.int .i64 a1,.int .i64 a2]]
inductive X where
 | c3 (x0:List Int) (x1:Int) (x2:List Int) (x3 x4:Int)
def id:X→Nat
 | .c3 .. =>3
def st:X→List (PV U)
 | .c3 x0 x1 x2 x3 x4=>eA 21 [(0,.ptr 20 0),(3,.own true 3 x0),(4,.int .i64 x1),(20,.box [.sl 5 x2,.int .i64 x3,.int .i64 x4])]
def begin (a0:List Int) (a1 a2:Int):Tr X A:=
 .jump (.c3 ([]:List Int) (0:Int) a0 a1 a2)
def tree:X→Tr X A
 | .c3 x0 x1 x2 x3 x4=>
 .call (ar.told (9:Int) x2 x3 x4) fun t1=> .ite (decide (x1<(wr ((1:Int)+t1.1))))
  (.call (ar.told (800:Int) t1.2.1 t1.2.2.1 t1.2.2.2) fun t2=> .aC (((List.length x0:Int)+(List.length ([(wr (t2.1-(200:Int)))]):Int))*(8:Nat)≤room) (.jump (.c3 (x0++[(wr (t2.1-(200:Int)))]) (wr (x1+(1:Int))) t2.2.1 t2.2.2.1 t2.2.2.2)))
  (.ret (x0,t1.2.1,t1.2.2.1,t1.2.2.2))
def f (a0:List Int) (a1 a2:Int):Option A:=(begin a0 a1 a2).run (lp tree)
def Q:bE C:={PL with fM:=[(3,[0,3,4,20])]}
theorem e:df Pg C Q Tryz.f90 1 id st v o tree:=fun J K x=>by cases x<;>kernel_rfl
def told (a0:List Int) (a1 a2:Int):aa.Told A:=⟨f a0 a1 a2,fun r=>ae Pg C 90 (S a0 a1 a2) 1 (v r) (o r),fun r h=>dy v o Tryz.func90 rfl (of_decide_eq_true (by kernel_rfl)) (by rfl) (fun _=>rfl) e (fun J K=>by kernel_rfl) h⟩
end aI
namespace aE
def S (a0 a1 a2:Int):List (PV U):=aa.start C 15 [.int .i64 a0,.int .i64 a1,.int .i64 a2] []
def begin (a0 a1 a2:Int):Tr Empty A:=
 .ite (decide (a0≥a1))
  (.ret ((decide (a0≤a2))))
  (.ret false)
def f (a0 a1 a2:Int):Option A:=(begin a0 a1 a2).run (lp aF)
def told (a0 a1 a2:Int):aa.Told A:=⟨f a0 a1 a2,fun r=>ae Pg C 60 (S a0 a1 a2) 0 (v r) (o r),fun r h=>aG (Q:=PL) v o Tryz.func60 rfl (of_decide_eq_true (by kernel_rfl)) (by rfl) (fun _=>rfl) (fun J K=>by kernel_rfl) h⟩
end aE
namespace dH
def S (a0:Int):List (PV U):=aa.start C 5 [.int .i64 a0] []
def begin (a0:Int):Tr Empty A:=
 .call (aE.told a0 (-1000000:Int) (1000000:Int)) fun t1=> .ret t1
def f (a0:Int):Option A:=(begin a0).run (lp aF)
def told (a0:Int):aa.Told A:=⟨f a0,fun r=>ae Pg C 129 (S a0) 0 (v r) (o r),fun r h=>aG (Q:=PL) v o Tryz.func129 rfl (of_decide_eq_true (by kernel_rfl)) (by rfl) (fun _=>rfl) (fun J K=>by kernel_rfl) h⟩
end dH
namespace fc
def S (a0:List Int):List (PV U):=aa.start C 19 [.sl 3 a0] []
inductive X where
 | c2 (x0:List Int) (x1:Int)
def id:X→Nat
 | .c2 .. =>2
def st:X→List (PV U)
 | .c2 x0 x1=>eA 19 [(0,.sl 3 x0),(3,.int .i64 x1)]
def begin (a0:List Int):Tr X A:=
 .jump (.c2 a0 (0:Int))
def tree:X→Tr X A
 | .c2 x0 x1=>
 .ite (decide (x1<(List.length x0:Int)))
  (.aC ((0:Int)≤x1∧x1<(List.length x0:Int)) (.call (dH.told (dz x0 x1)) fun t1=> .ite (!t1)
   (.ret false)
   (.jump (.c2 x0 (wr (x1+(1:Int)))))))
  (.ret ((decide ((List.length x0:Int)=(8:Int)))))
def f (a0:List Int):Option A:=(begin a0).run (lp tree)
def Q:bE C:={PL with fM:=[(2,[0,3])]}
theorem e:df Pg C Q Tryz.f172 0 id st v o tree:=fun J K x=>by cases x<;>kernel_rfl
def told (a0:List Int):aa.Told A:=⟨f a0,fun r=>ae Pg C 172 (S a0) 0 (v r) (o r),fun r h=>dy v o Tryz.func172 rfl (of_decide_eq_true (by kernel_rfl)) (by rfl) (fun _=>rfl) e (fun J K=>by kernel_rfl) h⟩
end fc
namespace fW
def S (a0:List Int):List (PV U):=aa.start C 14 [.sl 3 a0] []
def begin (a0:List Int):Tr Empty A:=
 .call (fc.told a0) fun t1=> .ite (!t1)
  (.ret (([]:List Int),false))
  (.aC (((List.length ([]:List Int):Int)+(List.length a0:Int))*(8:Nat)≤room) (.aC ((0:Int)≤(41:Int)∧((List.length (([]:List Int)++a0):Int)+(41:Int))*(8:Nat)≤room) (.ret (((([]:List Int)++a0)++List.replicate (Int.toNat (41:Int)) (0:Int)),true))))
def f (a0:List Int):Option A:=(begin a0).run (lp aF)
def told (a0:List Int):aa.Told A:=⟨f a0,fun r=>ae Pg C 140 (S a0) 0 (v r) (o r),fun r h=>aG (Q:=PL) v o Tryz.func140 rfl (of_decide_eq_true (by kernel_rfl)) (by rfl) (fun _=>rfl) (fun J K=>by kernel_rfl) h⟩
end fW
namespace eV
def S (a0 a1 a2 a3 a4 a5:Int):List (PV U):=aa.start C 37 [.agg [.int .i64 a0,.int .i64 a1,.int .i64 a2,.int .i64 a3,.int .i64 a4,.int .i64 a5]] []
inductive X where
 | CM (x0 x1 x2 x3 x4 x5 x6 x7 x8 x9 x10 x11:Int)
def id:X→Nat
 | .CM .. =>14
def st:X→List (PV U)
 | .CM x0 x1 x2 x3 x4 x5 x6 x7 x8 x9 x10 x11=>eA 37 [(2,.box [.int .i64 x0,.int .i64 x1,.int .i64 x2,.int .i64 x3,.int .i64 x4,.int .i64 x5]),(3,.box [.int .i64 x6,.int .i64 x7,.int .i64 x8,.int .i64 x9,.int .i64 x10,.int .i64 x11])]
def begin (a0 a1 a2 a3 a4 a5:Int):Tr X A:=
 let u0_0:Tr X A:=(.jump (.CM (0:Int) (0:Int) (0:Int) (0:Int) (0:Int) (0:Int) a0 (0:Int) (0:Int) a3 a4 a5));let u0_1:Tr X A:=(.ite (decide (a0=(5:Int))) (.jump (.CM (0:Int) (0:Int) (0:Int) (0:Int) (0:Int) (0:Int) a0 (0:Int) a2 (0:Int) (0:Int) (0:Int))) (.jump (.CM (0:Int) (0:Int) (0:Int) (0:Int) (0:Int) (0:Int) a0 (0:Int) (0:Int) (0:Int) (0:Int) (0:Int)))); .ite (decide (a0=(1:Int)))
  (.jump (.CM (0:Int) (0:Int) (0:Int) (0:Int) (0:Int) (0:Int) a0 a1 (0:Int) a3 a4 a5))
  (.ite (decide (a0=(2:Int)))
   (.jump (.CM (0:Int) (0:Int) (0:Int) (0:Int) (0:Int) (0:Int) a0 a1 a2 (0:Int) (0:Int) (0:Int)))
   (.ite (decide (a0=(3:Int)))
    (.ite (decide (a0=(3:Int)))
     (u0_0)
     (u0_1))
    (.ite (decide (a0=(4:Int)))
     (u0_0)
     (u0_1))))
def tree:X→Tr X A
 | .CM x0 x1 x2 x3 x4 x5 x6 x7 x8 x9 x10 x11=>
 .ret (x6,x7,x8,x9,x10,x11)
def f (a0 a1 a2 a3 a4 a5:Int):Option A:=(begin a0 a1 a2 a3 a4 a5).run (lp tree)
def Q:bE C:={PL with fM:=[(14,[2,3])]}
theorem e:df Pg C Q Tryz.f238 0 id st v o tree:=fun J K x=>by cases x<;>kernel_rfl
def told (a0 a1 a2 a3 a4 a5:Int):aa.Told A:=⟨f a0 a1 a2 a3 a4 a5,fun r=>ae Pg C 238 (S a0 a1 a2 a3 a4 a5) 0 (v r) (o r),fun r h=>dy v o Tryz.func238 rfl (of_decide_eq_true (by kernel_rfl)) (by rfl) (fun _=>rfl) e (fun J K=>by kernel_rfl) h⟩
end eV
namespace dQ
def S (a0:Int):List (PV U):=aa.start C 5 [.int .i64 a0] []
def begin (a0:Int):Tr Empty A:=
 .call (aE.told a0 (-8:Int) (999:Int)) fun t1=> .ret t1
def f (a0:Int):Option A:=(begin a0).run (lp aF)
def told (a0:Int):aa.Told A:=⟨f a0,fun r=>ae Pg C 208 (S a0) 0 (v r) (o r),fun r h=>aG (Q:=PL) v o Tryz.func208 rfl (of_decide_eq_true (by kernel_rfl)) (by rfl) (fun _=>rfl) (fun J K=>by kernel_rfl) h⟩
end dQ
namespace cq
def S (a0 a1 a2:Int):List (PV U):=aa.start C 16 [.agg [.int .i64 a0,.int .i64 a1,.int .i64 a2]] []
def begin (a0 a1 a2:Int):Tr Empty A:=
 .call (aE.told a0 (1:Int) (7:Int)) fun t1=> .ite t1
  (.call (dQ.told a1) fun t2=> .ite t2
   (.call (dQ.told a2) fun t3=> .ret t3)
   (.ret false))
  (.ret false)
def f (a0 a1 a2:Int):Option A:=(begin a0 a1 a2).run (lp aF)
def told (a0 a1 a2:Int):aa.Told A:=⟨f a0 a1 a2,fun r=>ae Pg C 174 (S a0 a1 a2) 0 (v r) (o r),fun r h=>aG (Q:=PL) v o Tryz.func174 rfl (of_decide_eq_true (by kernel_rfl)) (by rfl) (fun _=>rfl) (fun J K=>by kernel_rfl) h⟩
end cq
namespace fV
def S (a0 a1 a2 a3 a4 a5:Int):List (PV U):=aa.start C 43 [.agg [.int .i64 a0,.int .i64 a1,.int .i64 a2,.int .i64 a3,.int .i64 a4,.int .i64 a5]] []
def begin (a0 a1 a2 a3 a4 a5:Int):Tr Empty A:=
 .last (.call (eV.told a0 a1 a2 a3 a4 a5) fun t1=> .last (.val ((!(decide (a0=t1.1)&&(decide (a1=t1.2.1)&&(decide (a2=t1.2.2.1)&&(decide (a3=t1.2.2.2.1)&&(decide (a4=t1.2.2.2.2.1)&&(decide (a5=t1.2.2.2.2.2)&&true))))))):Bool) fun v2=>let u2_0:Tr Empty A:=(.call (cq.told a3 a4 a5) fun t3=> .ret t3);let u2_1:Tr Empty A:=(.ite (decide (a0=(5:Int))) (.call (aE.told a2 (1:Int) (5:Int)) fun t3=> .ret t3) (.ret ((decide (a0=(6:Int)))))); .ite v2
  (.ret false)
  (.ite (decide (a0=(1:Int)))
   (.call (aE.told a1 (0:Int) (7:Int)) fun t3=> .ite t3
    (.call (cq.told a3 a4 a5) fun t4=> .ret t4)
    (.ret false))
   (.ite (decide (a0=(2:Int)))
    (.call (aE.told a1 (0:Int) (7:Int)) fun t3=> .ite t3
     (.call (aE.told a2 (0:Int) (3:Int)) fun t4=> .ret t4)
     (.ret false))
    (.ite (decide (a0=(3:Int)))
     (.ite (decide (a0=(3:Int)))
      (u2_0)
      (u2_1))
     (.ite (decide (a0=(4:Int)))
      (u2_0)
      (u2_1)))))))
def f (a0 a1 a2 a3 a4 a5:Int):Option A:=(begin a0 a1 a2 a3 a4 a5).run (lp aF)
def Q:bE C:={PL with iH:=[(1,[],(.take 0 [1,2] (.take 1 [0] (.alt 2 (.alt 3 .done .nil) .nil))))]}
def told (a0 a1 a2 a3 a4 a5:Int):aa.Told A:=⟨f a0 a1 a2 a3 a4 a5,fun r=>ae Pg C 207 (S a0 a1 a2 a3 a4 a5) 0 (v r) (o r),fun r h=>aG (Q:=Q) v o Tryz.func207 rfl (of_decide_eq_true (by kernel_rfl)) (by rfl) (fun _=>rfl) (fun J K=>by kernel_rfl) h⟩
end fV
end
end Go.Proofs.YtmapddgocpkgeaaGreat.Ev
