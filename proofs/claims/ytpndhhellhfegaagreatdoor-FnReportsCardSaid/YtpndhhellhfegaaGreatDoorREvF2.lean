/- Functions as trees, with their contracts. No conditions. -/
import Derived.Test.YtpndhhellhfegaaGreatDoorREvF1
namespace Go.Proofs.YtpndhhellhfegaaGreatDoor.Ev
open Go.Proofs.YtpndhhellhfegaaGreatDoor.aa Go.RowKit
set_option linter.unusedVariables false
set_option maxRecDepth 100000
noncomputable section
namespace bE
def S (a0:List Int) (a1 a2:Int):List (PV U):=aa.start C 20 [.ptr 20 0] [.box [.sl 5 a0,.int .i64 a1,.int .i64 a2]]
inductive X where
 | c3 (x0:List Int) (x1:Int) (x2:List Int) (x3 x4:Int)
def id:X→Nat
 | .c3 .. =>3
def st:X→List (PV U)
 | .c3 x0 x1 x2 x3 x4=>gf 21 [(0,.ptr 20 0),(3,.own true 3 x0),(4,.int .i64 x1),(20,.box [.sl 5 x2,.int .i64 x3,.int .i64 x4])]
def begin (a0:List Int) (a1 a2:Int):Tr X A:=
 .jump (.c3 ([]:List Int) (0:Int) a0 a1 a2)
def tree:X→Tr X A
 | .c3 x0 x1 x2 x3 x4=>
 .ite (decide (x1<(8:Int)))
  (.call (au.told (2000:Int) x2 x3 x4) fun t1=> .call (bW.told ([(0:Int),(1:Int),(2:Int),(5:Int),(wr (t1.1-(1000:Int))),(1000000:Int)]) t1.2.1 t1.2.2.1 t1.2.2.2) fun t2=> .ax (((List.length x0:Int)+(List.length ([t2.1]):Int))*(8:Nat)≤room) (.jump (.c3 (x0++[t2.1]) (wr (x1+(1:Int))) t2.2.1 t2.2.2.1 t2.2.2.2)))
  (.ret (x0,x2,x3,x4))
def f (a0:List Int) (a1 a2:Int):Option A:=(begin a0 a1 a2).run (lp tree)
def Q:ck C:={PL with gT:=[(3,[0,3,4,20])]}
theorem e:fr Pg C Q Tryz.f78 1 id st v o tree:=fun J K x=>by cases x<;>kernel_rfl
def told (a0:List Int) (a1 a2:Int):aa.Told A:=⟨f a0 a1 a2,fun r=>ah Pg C 78 (S a0 a1 a2) 1 (v r) (o r),fun r h=>fI v o Tryz.func78 rfl (of_decide_eq_true (by kernel_rfl)) (by rfl) (fun _=>rfl) e (fun J K=>by kernel_rfl) h⟩
end bE
namespace aD
def S (a0:List Int) (a1 a2:Int):List (PV U):=aa.start C 20 [.ptr 20 0] [.box [.sl 5 a0,.int .i64 a1,.int .i64 a2]]
inductive X where
 | c3 (x0:List Int) (x1:Int) (x2:List Int) (x3 x4:Int)
def id:X→Nat
 | .c3 .. =>3
def st:X→List (PV U)
 | .c3 x0 x1 x2 x3 x4=>gf 21 [(0,.ptr 20 0),(3,.own true 3 x0),(4,.int .i64 x1),(20,.box [.sl 5 x2,.int .i64 x3,.int .i64 x4])]
def begin (a0:List Int) (a1 a2:Int):Tr X A:=
 .jump (.c3 ([]:List Int) (0:Int) a0 a1 a2)
def tree:X→Tr X A
 | .c3 x0 x1 x2 x3 x4=>
 .call (au.told (9:Int) x2 x3 x4) fun t1=> .ite (decide (x1<(wr ((1:Int)+t1.1))))
  (.call (au.told (800:Int) t1.2.1 t1.2.2.1 t1.2.2.2) fun t2=> .ax (((List.length x0:Int)+(List.length ([(wr (t2.1-(200:Int)))]):Int))*(8:Nat)≤room) (.jump (.c3 (x0++[(wr (t2.1-(200:Int)))]) (wr (x1+(1:Int))) t2.2.1 t2.2.2.1 t2.2.2.2)))
  (.ret (x0,t1.2.1,t1.2.2.1,t1.2.2.2))
def f (a0:List Int) (a1 a2:Int):Option A:=(begin a0 a1 a2).run (lp tree)
def Q:ck C:={PL with gT:=[(3,[0,3,4,20])]}
theorem e:fr Pg C Q Tryz.f79 1 id st v o tree:=fun J K x=>by cases x<;>kernel_rfl
def told (a0:List Int) (a1 a2:Int):aa.Told A:=⟨f a0 a1 a2,fun r=>ah Pg C 79 (S a0 a1 a2) 1 (v r) (o r),fun r h=>fI v o Tryz.func79 rfl (of_decide_eq_true (by kernel_rfl)) (by rfl) (fun _=>rfl) e (fun J K=>by kernel_rfl) h⟩
end aD
namespace aC
def S (a0 a1 a2:Int):List (PV U):=aa.start C 15 [.int .i64 a0,.int .i64 a1,.int .i64 a2] []
def begin (a0 a1 a2:Int):Tr Empty A:=
 .ite (decide (a0≥a1))
  (.ret ((decide (a0≤a2))))
  (.ret false)
def f (a0 a1 a2:Int):Option A:=(begin a0 a1 a2).run (lp aB)
def told (a0 a1 a2:Int):aa.Told A:=⟨f a0 a1 a2,fun r=>ah Pg C 57 (S a0 a1 a2) 0 (v r) (o r),fun r h=>aY (Q:=PL) v o Tryz.func57 rfl (of_decide_eq_true (by kernel_rfl)) (by rfl) (fun _=>rfl) (fun J K=>by kernel_rfl) h⟩
end aC
namespace df
def S (a0:Int):List (PV U):=aa.start C 5 [.int .i64 a0] []
def begin (a0:Int):Tr Empty A:=
 .call (aC.told a0 (-1000000:Int) (1000000:Int)) fun t1=> .ret t1
def f (a0:Int):Option A:=(begin a0).run (lp aB)
def told (a0:Int):aa.Told A:=⟨f a0,fun r=>ah Pg C 90 (S a0) 0 (v r) (o r),fun r h=>aY (Q:=PL) v o Tryz.func90 rfl (of_decide_eq_true (by kernel_rfl)) (by rfl) (fun _=>rfl) (fun J K=>by kernel_rfl) h⟩
end df
namespace ef
def S (a0:List Int):List (PV U):=aa.start C 19 [.sl 3 a0] []
inductive X where
 | c2 (x0:List Int) (x1:Int)
def id:X→Nat
 | .c2 .. =>2
def st:X→List (PV U)
 | .c2 x0 x1=>gf 19 [(0,.sl 3 x0),(3,.int .i64 x1)]
def begin (a0:List Int):Tr X A:=
 .jump (.c2 a0 (0:Int))
def tree:X→Tr X A
 | .c2 x0 x1=>
 .ite (decide (x1<(List.length x0:Int)))
  (.ax ((0:Int)≤x1∧x1<(List.length x0:Int)) (.call (df.told (cT x0 x1)) fun t1=> .ite (!t1)
   (.ret false)
   (.jump (.c2 x0 (wr (x1+(1:Int)))))))
  (.ret ((decide ((List.length x0:Int)=(8:Int)))))
def f (a0:List Int):Option A:=(begin a0).run (lp tree)
def Q:ck C:={PL with gT:=[(2,[0,3])]}
theorem e:fr Pg C Q Tryz.f124 0 id st v o tree:=fun J K x=>by cases x<;>kernel_rfl
def told (a0:List Int):aa.Told A:=⟨f a0,fun r=>ah Pg C 124 (S a0) 0 (v r) (o r),fun r h=>fI v o Tryz.func124 rfl (of_decide_eq_true (by kernel_rfl)) (by rfl) (fun _=>rfl) e (fun J K=>by kernel_rfl) h⟩
end ef
namespace fC
def S (a0:List Int):List (PV U):=aa.start C 14 [.sl 3 a0] []
def begin (a0:List Int):Tr Empty A:=
 .call (ef.told a0) fun t1=> .ite (!t1)
  (.ret (([]:List Int),false))
  (.ax (((List.length ([]:List Int):Int)+(List.length a0:Int))*(8:Nat)≤room) (.ax ((0:Int)≤(41:Int)∧((List.length (([]:List Int)++a0):Int)+(41:Int))*(8:Nat)≤room) (.ret (((([]:List Int)++a0)++List.replicate (Int.toNat (41:Int)) (0:Int)),true))))
def f (a0:List Int):Option A:=(begin a0).run (lp aB)
def told (a0:List Int):aa.Told A:=⟨f a0,fun r=>ah Pg C 104 (S a0) 0 (v r) (o r),fun r h=>aY (Q:=PL) v o Tryz.func104 rfl (of_decide_eq_true (by kernel_rfl)) (by rfl) (fun _=>rfl) (fun J K=>by kernel_rfl) h⟩
end fC
namespace dW
def S (a0 a1 a2 a3 a4 a5:Int):List (PV U):=aa.start C 37 [.agg [.int .i64 a0,.int .i64 a1,.int .i64 a2,.int .i64 a3,.int .i64 a4,.int .i64 a5]] []
inductive X where
 | Da (x0 x1 x2 x3 x4 x5 x6 x7 x8 x9 x10 x11:Int)
def id:X→Nat
 | .Da .. =>14
def st:X→List (PV U)
 | .Da x0 x1 x2 x3 x4 x5 x6 x7 x8 x9 x10 x11=>gf 37 [(2,.box [.int .i64 x0,.int .i64 x1,.int .i64 x2,.int .i64 x3,.int .i64 x4,.int .i64 x5]),(3,.box [.int .i64 x6,.int .i64 x7,.int .i64 x8,.int .i64 x9,.int .i64 x10,.int .i64 x11])]
def begin (a0 a1 a2 a3 a4 a5:Int):Tr X A:=
 let u0_0:Tr X A:=(.jump (.Da (0:Int) (0:Int) (0:Int) (0:Int) (0:Int) (0:Int) a0 (0:Int) (0:Int) a3 a4 a5));let u0_1:Tr X A:=(.ite (decide (a0=(5:Int))) (.jump (.Da (0:Int) (0:Int) (0:Int) (0:Int) (0:Int) (0:Int) a0 (0:Int) a2 (0:Int) (0:Int) (0:Int))) (.jump (.Da (0:Int) (0:Int) (0:Int) (0:Int) (0:Int) (0:Int) a0 (0:Int) (0:Int) (0:Int) (0:Int) (0:Int)))); .ite (decide (a0=(1:Int)))
  (.jump (.Da (0:Int) (0:Int) (0:Int) (0:Int) (0:Int) (0:Int) a0 a1 (0:Int) a3 a4 a5))
  (.ite (decide (a0=(2:Int)))
   (.jump (.Da (0:Int) (0:Int) (0:Int) (0:Int) (0:Int) (0:Int) a0 a1 a2 (0:Int) (0:Int) (0:Int)))
   (.ite (decide (a0=(3:Int)))
    (.ite (decide (a0=(3:Int)))
     (u0_0)
     (u0_1))
    (.ite (decide (a0=(4:Int)))
     (u0_0)
     (u0_1))))
def tree:X→Tr X A
 | .Da x0 x1 x2 x3 x4 x5 x6 x7 x8 x9 x10 x11=>
 .ret (x6,x7,x8,x9,x10,x11)
def f (a0 a1 a2 a3 a4 a5:Int):Option A:=(begin a0 a1 a2 a3 a4 a5).run (lp tree)
def Q:ck C:={PL with gT:=[(14,[2,3])]}
theorem e:fr Pg C Q Tryz.f156 0 id st v o tree:=fun J K x=>by cases x<;>kernel_rfl
def told (a0 a1 a2 a3 a4 a5:Int):aa.Told A:=⟨f a0 a1 a2 a3 a4 a5,fun r=>ah Pg C 156 (S a0 a1 a2 a3 a4 a5) 0 (v r) (o r),fun r h=>fI v o Tryz.func156 rfl (of_decide_eq_true (by kernel_rfl)) (by rfl) (fun _=>rfl) e (fun J K=>by kernel_rfl) h⟩
end dW
namespace dw
def S (a0:Int):List (PV U):=aa.start C 5 [.int .i64 a0] []
def begin (a0:Int):Tr Empty A:=
 .call (aC.told a0 (-8:Int) (999:Int)) fun t1=> .ret t1
def f (a0:Int):Option A:=(begin a0).run (lp aB)
def told (a0:Int):aa.Told A:=⟨f a0,fun r=>ah Pg C 136 (S a0) 0 (v r) (o r),fun r h=>aY (Q:=PL) v o Tryz.func136 rfl (of_decide_eq_true (by kernel_rfl)) (by rfl) (fun _=>rfl) (fun J K=>by kernel_rfl) h⟩
end dw
namespace cb
def S (a0 a1 a2:Int):List (PV U):=aa.start C 16 [.agg [.int .i64 a0,.int .i64 a1,.int .i64 a2]] []
def begin (a0 a1 a2:Int):Tr Empty A:=
 .call (aC.told a0 (1:Int) (7:Int)) fun t1=> .ite t1
  (.call (dw.told a1) fun t2=> .ite t2
   (.call (dw.told a2) fun t3=> .ret t3)
   (.ret false))
  (.ret false)
def f (a0 a1 a2:Int):Option A:=(begin a0 a1 a2).run (lp aB)
def told (a0 a1 a2:Int):aa.Told A:=⟨f a0 a1 a2,fun r=>ah Pg C 113 (S a0 a1 a2) 0 (v r) (o r),fun r h=>aY (Q:=PL) v o Tryz.func113 rfl (of_decide_eq_true (by kernel_rfl)) (by rfl) (fun _=>rfl) (fun J K=>by kernel_rfl) h⟩
end cb
namespace fD
def S (a0 a1 a2 a3 a4 a5:Int):List (PV U):=aa.start C 43 [.agg [.int .i64 a0,.int .i64 a1,.int .i64 a2,.int .i64 a3,.int .i64 a4,.int .i64 a5]] []
def begin (a0 a1 a2 a3 a4 a5:Int):Tr Empty A:=
 .last (.call (dW.told a0 a1 a2 a3 a4 a5) fun t1=> .last (.val ((!(decide (a0=t1.1)&&(decide (a1=t1.2.1)&&(decide (a2=t1.2.2.1)&&(decide (a3=t1.2.2.2.1)&&(decide (a4=t1.2.2.2.2.1)&&(decide (a5=t1.2.2.2.2.2)&&true))))))):Bool) fun v2=>let u2_0:Tr Empty A:=(.call (cb.told a3 a4 a5) fun t3=> .ret t3);let u2_1:Tr Empty A:=(.ite (decide (a0=(5:Int))) (.call (aC.told a2 (1:Int) (5:Int)) fun t3=> .ret t3) (.ret ((decide (a0=(6:Int)))))); .ite v2
  (.ret false)
  (.ite (decide (a0=(1:Int)))
   (.call (aC.told a1 (0:Int) (7:Int)) fun t3=> .ite t3
    (.call (cb.told a3 a4 a5) fun t4=> .ret t4)
    (.ret false))
   (.ite (decide (a0=(2:Int)))
    (.call (aC.told a1 (0:Int) (7:Int)) fun t3=> .ite t3
     (.call (aC.told a2 (0:Int) (3:Int)) fun t4=> .ret t4)
     (.ret false))
    (.ite (decide (a0=(3:Int)))
     (.ite (decide (a0=(3:Int)))
      (u2_0)
      (u2_1))
     (.ite (decide (a0=(4:Int)))
      (u2_0)
      (u2_1)))))))
def f (a0 a1 a2 a3 a4 a5:Int):Option A:=(begin a0 a1 a2 a3 a4 a5).run (lp aB)
def Q:ck C:={PL with kI:=[(1,[],(.take 0 [1,2] (.take 1 [0] (.alt 2 (.alt 3 .done .nil) .nil))))]}
def told (a0 a1 a2 a3 a4 a5:Int):aa.Told A:=⟨f a0 a1 a2 a3 a4 a5,fun r=>ah Pg C 135 (S a0 a1 a2 a3 a4 a5) 0 (v r) (o r),fun r h=>aY (Q:=Q) v o Tryz.func135 rfl (of_decide_eq_true (by kernel_rfl)) (by rfl) (fun _=>rfl) (fun J K=>by kernel_rfl) h⟩
end fD
end
end Go.Proofs.YtpndhhellhfegaaGreatDoor.Ev
