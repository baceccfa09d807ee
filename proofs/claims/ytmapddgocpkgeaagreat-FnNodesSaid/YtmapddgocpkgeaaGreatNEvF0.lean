/- Functions as trees, with their contracts. No conditions. -/
import Derived.Test.YtmapddgocpkgeaaGreatNEvH
namespace Go.Proofs.YtmapddgocpkgeaaGreat.Ev
open Go.Proofs.YtmapddgocpkgeaaGreat.aa Go.RowKit
set_option linter.unusedVariables false
set_option maxRecDepth 100000
noncomputable section
namespace iE
def S (a0:List Int):List (PV U):=aa.start C 6 [.sl 5 a0] []
def begin (a0:List Int):Tr Empty A:=
 .ret ((decide ((List.length a0:Int)>(1048576:Int))))
def f (a0:List Int):Option A:=(begin a0).run (lp aF)
def told (a0:List Int):aa.Told A:=⟨f a0,fun r=>ae Pg C 8 (S a0) 0 (v r) (o r),fun r h=>aG (Q:=PL) v o Tryz.func8 rfl (of_decide_eq_true (by kernel_rfl)) (by rfl) (fun _=>rfl) (fun J K=>by kernel_rfl) h⟩
end iE
namespace eJ
def S (a0:List Int):List (PV U):=aa.start C 32 [.sl 5 a0] []
inductive X where
 | c3 (x0:List Int) (x1 x2:Int)
def id:X→Nat
 | .c3 .. =>3
def st:X→List (PV U)
 | .c3 x0 x1 x2=>eA 32 [(0,.sl 5 x0),(3,.int .i64 x1),(4,.int .i64 x2)]
def begin (a0:List Int):Tr X A:=
 .jump (.c3 a0 (wr ((98347:Int)+(List.length a0:Int))) (0:Int))
def tree:X→Tr X A
 | .c3 x0 x1 x2=>
 .ite (decide (x2<(List.length x0:Int)))
  (.ite (decide (x2<(4000:Int)))
   (.aC ((0:Int)≤x2∧x2<(List.length x0:Int)) (.val ((jH .i64 (wr ((wr ((wr (x1*(131:Int)))+(wr (dz x0 x2))))+(7:Int))) (1073741823:Int)):Int) fun v1=> .jump (.c3 x0 v1 (wr (x2+(1:Int))))))
   (.ret (x0,(0:Int),x1)))
  (.ret (x0,(0:Int),x1))
def f (a0:List Int):Option A:=(begin a0).run (lp tree)
def Q:bE C:={PL with fM:=[(3,[0,3,4])]}
theorem e:df Pg C Q Tryz.f39 0 id st v o tree:=fun J K x=>by cases x<;>kernel_rfl
def told (a0:List Int):aa.Told A:=⟨f a0,fun r=>ae Pg C 39 (S a0) 0 (v r) (o r),fun r h=>dy v o Tryz.func39 rfl (of_decide_eq_true (by kernel_rfl)) (by rfl) (fun _=>rfl) e (fun J K=>by kernel_rfl) h⟩
end eJ
namespace cU
def S (a0:List Int) (a1 a2:Int):List (PV U):=aa.start C 58 [.ptr 58 0] [.box [.sl 5 a0,.int .i64 a1,.int .i64 a2]]
inductive X where
 | c3 (x0:Int) (x1:List Int) (x2 x3:Int)
def id:X→Nat
 | .c3 .. =>3
def st:X→List (PV U)
 | .c3 x0 x1 x2 x3=>eA 59 [(0,.ptr 58 0),(3,.int .i64 x0),(58,.box [.sl 5 x1,.int .i64 x2,.int .i64 x3])]
def begin (a0:List Int) (a1 a2:Int):Tr X A:=
 let u0_0:Tr X A:=(.aC ((0:Int)≤(33:Int)) (.val ((shiftDown .i64 (wr ((wr (a2*(6364136223846793005:Int)))+(1442695040888963407:Int))) (33:Int)):Int) fun v1=> .last (.aC ((0:Int)≤(45:Int)) (.val ((shiftDown .i64 (wr ((wr (a2*(6364136223846793005:Int)))+(1442695040888963407:Int))) (45:Int)):Int) fun v2=> .jump (.c3 (jH .i64 (z7 .i64 v1 v2) (255:Int)) a0 a1 (wr ((wr (a2*(6364136223846793005:Int)))+(1442695040888963407:Int))))))));let u0_1:Tr X A:=(.last (.aC ((0:Int)≤(45:Int)) (.val ((shiftDown .i64 (wr ((wr (a2*(6364136223846793005:Int)))+(1442695040888963407:Int))) (45:Int)):Int) fun v1=> .last (.aC ((0:Int)≤(33:Int)) (.val ((shiftDown .i64 (wr ((wr (a2*(6364136223846793005:Int)))+(1442695040888963407:Int))) (33:Int)):Int) fun v2=> .jump (.c3 (jH .i64 (z7 .i64 v2 v1) (255:Int)) a0 a1 (wr ((wr (a2*(6364136223846793005:Int)))+(1442695040888963407:Int)))))))));let u0_2:Tr X A:=(.both (u0_0) (u0_1)); .both (.both (u0_0)
  (.last (u0_2)))
  (.last (.both (u0_2)
   (u0_1)))
def tree:X→Tr X A
 | .c3 x0 x1 x2 x3=>
 .ite (decide (x2<(List.length x1:Int)))
  (.aC ((0:Int)≤x2∧x2<(List.length x1:Int)) (.last (.ret ((jH .i64 (wr (x0+(wr (dz x1 x2)))) (255:Int)),x1,(wr (x2+(1:Int))),x3))))
  (.ret (x0,x1,x2,x3))
def f (a0:List Int) (a1 a2:Int):Option A:=(begin a0 a1 a2).run (lp tree)
def Q:bE C:={PL with fM:=[(3,[0,3,58])],iH:=[(2,[4,9],(.take 0 [] (.take 1 [] (.take 2 [] (.take 5 [] (.take 6 [] (.take 7 [] (.alt 3 (.alt 4 (.take 8 [0,1,2,3,4,5,6,7] (.alt 9 (.take 10 [] (.take 11 [] (.take 12 [] .done))) .nil)) (.alt 8 (.alt 4 (.alt 9 (.take 10 [] (.take 11 [] (.take 12 [] .done))) .nil) (.alt 9 (.alt 4 (.take 10 [] (.take 11 [] (.take 12 [] .done))) .nil) .nil)) .nil)) (.alt 8 (.alt 3 (.alt 4 (.alt 9 (.take 10 [] (.take 11 [] (.take 12 [] .done))) .nil) (.alt 9 (.alt 4 (.take 10 [] (.take 11 [] (.take 12 [] .done))) .nil) .nil)) (.alt 9 (.take 3 [0,1,2,5,6,7,8,9] (.alt 4 (.take 10 [] (.take 11 [] (.take 12 [] .done))) .nil)) .nil)) .nil))))))))),(3,[],(.take 0 [] (.take 1 [] (.take 2 [] (.take 4 [] (.take 5 [] (.take 6 [] (.take 3 [0,1,2,4,5,6,7,8] (.take 7 [0,1,2,3,4,5,6] (.take 8 [] (.take 9 [] .done))))))))))),(4,[11],(.take 0 [] (.take 1 [] (.take 2 [] (.take 3 [] (.take 5 [] (.take 6 [] (.take 7 [] (.take 4 [0,1,2,3,5,6,7,8] (.take 8 [0,1,2,3,4,5,6,7] (.take 9 [] (.take 10 [0,1,2,3,4,5,6,7,8,9] (.alt 11 (.take 12 [] (.take 13 [] (.take 14 [] .done))) .nil)))))))))))))]}
theorem e:df Pg C Q Tryz.f94 1 id st v o tree:=fun J K x=>by cases x<;>kernel_rfl
def told (a0:List Int) (a1 a2:Int):aa.Told A:=⟨f a0 a1 a2,fun r=>ae Pg C 94 (S a0 a1 a2) 1 (v r) (o r),fun r h=>dy v o Tryz.func94 rfl (of_decide_eq_true (by kernel_rfl)) (by rfl) (fun _=>rfl) e (fun J K=>by kernel_rfl) h⟩
end cU
namespace ar
def S (a0:Int) (a1:List Int) (a2 a3:Int):List (PV U):=aa.start C 37 [.ptr 37 0,.int .i64 a0] [.box [.sl 5 a1,.int .i64 a2,.int .i64 a3]]
def begin (a0:Int) (a1:List Int) (a2 a3:Int):Tr Empty A:=
 .ite (decide (a0≤(0:Int)))
  (.ret ((0:Int),a1,a2,a3))
  (.ite (decide (a0≤(256:Int)))
   (.call (cU.told a1 a2 a3) fun t1=> .aC (a0≠0) (.ret ((Int.tmod t1.1 a0),t1.2.1,t1.2.2.1,t1.2.2.2)))
   (.call (cU.told a1 a2 a3) fun t1=> .call (cU.told t1.2.1 t1.2.2.1 t1.2.2.2) fun t2=> .call (cU.told t2.2.1 t2.2.2.1 t2.2.2.2) fun t3=> .call (cU.told t3.2.1 t3.2.2.1 t3.2.2.2) fun t4=> .val ((wr ((wr ((wr (t1.1*(16777216:Int)))+(wr (t2.1*(65536:Int)))))+(wr (t3.1*(256:Int))))):Int) fun v5=> .aC (a0≠0) (.ret ((Int.tmod (wr (v5+t4.1)) a0),t4.2.1,t4.2.2.1,t4.2.2.2))))
def f (a0:Int) (a1:List Int) (a2 a3:Int):Option A:=(begin a0 a1 a2 a3).run (lp aF)
def told (a0:Int) (a1:List Int) (a2 a3:Int):aa.Told A:=⟨f a0 a1 a2 a3,fun r=>ae Pg C 40 (S a0 a1 a2 a3) 1 (v r) (o r),fun r h=>aG (Q:=PL) v o Tryz.func40 rfl (of_decide_eq_true (by kernel_rfl)) (by rfl) (fun _=>rfl) (fun J K=>by kernel_rfl) h⟩
end ar
namespace bF
def S (a0:Int) (a1:List Int) (a2 a3:Int):List (PV U):=aa.start C 9 [.ptr 9 0,.int .i64 a0] [.box [.sl 5 a1,.int .i64 a2,.int .i64 a3]]
def begin (a0:Int) (a1:List Int) (a2 a3:Int):Tr Empty A:=
 .call (ar.told a0 a1 a2 a3) fun t1=> .ret ((decide (t1.1=(0:Int))),t1.2.1,t1.2.2.1,t1.2.2.2)
def f (a0:Int) (a1:List Int) (a2 a3:Int):Option A:=(begin a0 a1 a2 a3).run (lp aF)
def told (a0:Int) (a1:List Int) (a2 a3:Int):aa.Told A:=⟨f a0 a1 a2 a3,fun r=>ae Pg C 92 (S a0 a1 a2 a3) 1 (v r) (o r),fun r h=>aG (Q:=PL) v o Tryz.func92 rfl (of_decide_eq_true (by kernel_rfl)) (by rfl) (fun _=>rfl) (fun J K=>by kernel_rfl) h⟩
end bF
namespace b7
def S (a0 a1:List Int) (a2 a3:Int):List (PV U):=aa.start C 12 [.ptr 12 0,.sl 3 a0] [.box [.sl 5 a1,.int .i64 a2,.int .i64 a3]]
def begin (a0 a1:List Int) (a2 a3:Int):Tr Empty A:=
 .call (ar.told (List.length a0:Int) a1 a2 a3) fun t1=> .aC ((0:Int)≤t1.1∧t1.1<(List.length a0:Int)) (.ret ((dz a0 t1.1),t1.2.1,t1.2.2.1,t1.2.2.2))
def f (a0 a1:List Int) (a2 a3:Int):Option A:=(begin a0 a1 a2 a3).run (lp aF)
def told (a0 a1:List Int) (a2 a3:Int):aa.Told A:=⟨f a0 a1 a2 a3,fun r=>ae Pg C 91 (S a0 a1 a2 a3) 1 (v r) (o r),fun r h=>aG (Q:=PL) v o Tryz.func91 rfl (of_decide_eq_true (by kernel_rfl)) (by rfl) (fun _=>rfl) (fun J K=>by kernel_rfl) h⟩
end b7
namespace cH
def S (a0:List Int) (a1 a2:Int):List (PV U):=aa.start C 11 [.ptr 11 0] [.box [.sl 5 a0,.int .i64 a1,.int .i64 a2]]
def begin (a0:List Int) (a1 a2:Int):Tr Empty A:=
 .call (bF.told (2:Int) a0 a1 a2) fun t1=> .ite t1.1
  (.call (ar.told (5:Int) t1.2.1 t1.2.2.1 t1.2.2.2) fun t2=> .ret ((wr ((-1:Int)-t2.1)),t2.2.1,t2.2.2.1,t2.2.2.2))
  (.call (b7.told ([(0:Int),(1:Int),(2:Int),(3:Int),(10:Int),(999:Int)]) t1.2.1 t1.2.2.1 t1.2.2.2) fun t2=> .ret (t2.1,t2.2.1,t2.2.2.1,t2.2.2.2))
def f (a0:List Int) (a1 a2:Int):Option A:=(begin a0 a1 a2).run (lp aF)
def told (a0:List Int) (a1 a2:Int):aa.Told A:=⟨f a0 a1 a2,fun r=>ae Pg C 171 (S a0 a1 a2) 1 (v r) (o r),fun r h=>aG (Q:=PL) v o Tryz.func171 rfl (of_decide_eq_true (by kernel_rfl)) (by rfl) (fun _=>rfl) (fun J K=>by kernel_rfl) h⟩
end cH
namespace cW
def S (a0:List Int) (a1 a2:Int):List (PV U):=aa.start C 11 [.ptr 11 0] [.box [.sl 5 a0,.int .i64 a1,.int .i64 a2]]
def begin (a0:List Int) (a1 a2:Int):Tr Empty A:=
 .call (ar.told (7:Int) a0 a1 a2) fun t1=> .call (cH.told t1.2.1 t1.2.2.1 t1.2.2.2) fun t2=> .call (cH.told t2.2.1 t2.2.2.1 t2.2.2.2) fun t3=> .ret ((wr ((1:Int)+t1.1)),t2.1,t3.1,t3.2.1,t3.2.2.1,t3.2.2.2)
def f (a0:List Int) (a1 a2:Int):Option A:=(begin a0 a1 a2).run (lp aF)
def told (a0:List Int) (a1 a2:Int):aa.Told A:=⟨f a0 a1 a2,fun r=>ae Pg C 139 (S a0 a1 a2) 1 (v r) (o r),fun r h=>aG (Q:=PL) v o Tryz.func139 rfl (of_decide_eq_true (by kernel_rfl)) (by rfl) (fun _=>rfl) (fun J K=>by kernel_rfl) h⟩
end cW
namespace dE
def S (a0:List Int) (a1 a2:Int):List (PV U):=aa.start C 23 [.ptr 23 0] [.box [.sl 5 a0,.int .i64 a1,.int .i64 a2]]
def begin (a0:List Int) (a1 a2:Int):Tr Empty A:=
 .call (ar.told (7:Int) a0 a1 a2) fun t1=>let u1_0:Tr Empty A:=(.call (ar.told (5:Int) t1.2.1 t1.2.2.1 t1.2.2.2) fun t2=> .call (ar.told (4:Int) t2.2.1 t2.2.2.1 t2.2.2.2) fun t3=> .ret ((2:Int),t2.1,t3.1,(0:Int),(0:Int),(0:Int),t3.2.1,t3.2.2.1,t3.2.2.2));let u1_1:Tr Empty A:=(.ite (decide (t1.1=(2:Int))) (.call (cW.told t1.2.1 t1.2.2.1 t1.2.2.2) fun t2=> .ret ((3:Int),(0:Int),(0:Int),t2.1,t2.2.1,t2.2.2.1,t2.2.2.2.1,t2.2.2.2.2.1,t2.2.2.2.2.2)) (.call (ar.told (5:Int) t1.2.1 t1.2.2.1 t1.2.2.2) fun t2=> .call (cW.told t2.2.1 t2.2.2.1 t2.2.2.2) fun t3=> .ret ((1:Int),t2.1,(0:Int),t3.1,t3.2.1,t3.2.2.1,t3.2.2.2.1,t3.2.2.2.2.1,t3.2.2.2.2.2))); .ite (decide (t1.1=(0:Int)))
  (.ite (decide (t1.1=(0:Int)))
   (u1_0)
   (u1_1))
  (.ite (decide (t1.1=(1:Int)))
   (u1_0)
   (u1_1))
def f (a0:List Int) (a1 a2:Int):Option A:=(begin a0 a1 a2).run (lp aF)
def told (a0:List Int) (a1 a2:Int):aa.Told A:=⟨f a0 a1 a2,fun r=>ae Pg C 206 (S a0 a1 a2) 1 (v r) (o r),fun r h=>aG (Q:=PL) v o Tryz.func206 rfl (of_decide_eq_true (by kernel_rfl)) (by rfl) (fun _=>rfl) (fun J K=>by kernel_rfl) h⟩
end dE
end
end Go.Proofs.YtmapddgocpkgeaaGreat.Ev
