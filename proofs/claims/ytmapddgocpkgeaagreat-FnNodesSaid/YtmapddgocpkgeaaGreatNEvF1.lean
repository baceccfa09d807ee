/- Functions as trees, with their contracts. No conditions. -/
import Derived.Test.YtmapddgocpkgeaaGreatNEvF0
namespace Go.Proofs.YtmapddgocpkgeaaGreat.Ev
open Go.Proofs.YtmapddgocpkgeaaGreat.aa Go.RowKit
set_option linter.unusedVariables false
set_option maxRecDepth 100000
noncomputable section
namespace bb
def S (a0 a1:Int) (a2:List Int) (a3 a4:Int):List (PV U):=aa.start C 59 [.ptr 59 0,.int .i64 a0,.int .i64 a1] [.box [.sl 5 a2,.int .i64 a3,.int .i64 a4]]
abbrev I:=Int×Int×(List Int)×Int×Int
abbrev K:I→A→Prop:=fun i_ r=>ae Pg C 170 (S i_.1 i_.2.1 i_.2.2.1 i_.2.2.2.1 i_.2.2.2.2) 1 (v r) (o r)
inductive X where
 | c3 (x0 x1:Int) (x2:List aw) (x3:Int) (x4:List Int) (x5 x6:Int)
def id:X→Nat
 | .c3 .. =>3
def st:X→List (PV U)
 | .c3 x0 x1 x2 x3 x4 x5 x6=>eA 60 [(0,.ptr 59 0),(1,.int .i64 x0),(2,.int .i64 x1),(7,.own true 204 x2),(8,.int .i64 x3),(59,.box [.sl 5 x4,.int .i64 x5,.int .i64 x6])]
def begin (self_:Self I A K) (a0 a1:Int) (a2:List Int) (a3 a4:Int):Tr X A:=
 .jump (.c3 a0 a1 ([]:List aw) (0:Int) a2 a3 a4)
def tree (self_:Self I A K):X→Tr X A
 | .c3 x0 x1 x2 x3 x4 x5 x6=>
 let u0_0:Tr X A:=(.call (dE.told x4 x5 x6) fun t1=> .val ([(⟨t1.1,t1.2.1,t1.2.2.1,(⟨t1.2.2.2.1,t1.2.2.2.2.1,t1.2.2.2.2.2.1⟩:iZ)⟩:aw)]:List aw) fun v2=> .aC (((List.length x2:Int)+(List.length v2:Int))*(48:Nat)≤room) (.jump (.c3 x0 x1 (x2++v2) (wr (x3+(1:Int))) t1.2.2.2.2.2.2.1 t1.2.2.2.2.2.2.2.1 t1.2.2.2.2.2.2.2.2))); .ite (decide (x3<x0))
  (.ite (decide (x1<(2:Int)))
   (.ite (decide ((List.length x2:Int)<(6:Int)))
    (.call (bF.told (5:Int) x4 x5 x6) fun t1=> .ite t1.1
     (.call (ar.told (3:Int) t1.2.1 t1.2.2.1 t1.2.2.2) fun t2=> .call (bF.told (2:Int) t2.2.1 t2.2.2.1 t2.2.2.2) fun t3=> .ite t3.1
      (.call (cW.told t3.2.1 t3.2.2.1 t3.2.2.2) fun t4=> .aC (((List.length x2:Int)+(List.length ([(⟨(4:Int),(0:Int),(0:Int),(⟨t4.1,t4.2.1,t4.2.2.1⟩:iZ)⟩:aw)]):Int))*(48:Nat)≤room) (.call (ar.told (2:Int) t4.2.2.2.1 t4.2.2.2.2.1 t4.2.2.2.2.2) fun t5=> .call (self_.told ((wr ((1:Int)+t5.1)),(wr (x1+(1:Int))),t5.2.1,t5.2.2.1,t5.2.2.2)) fun t6=> .aC (((List.length (x2++[(⟨(4:Int),(0:Int),(0:Int),(⟨t4.1,t4.2.1,t4.2.2.1⟩:iZ)⟩:aw)]):Int)+(List.length t6.1:Int))*(48:Nat)≤room) (.val (((x2++[(⟨(4:Int),(0:Int),(0:Int),(⟨t4.1,t4.2.1,t4.2.2.1⟩:iZ)⟩:aw)])++t6.1):List aw) fun v7=> .aC (((List.length v7:Int)+(List.length ([(⟨(6:Int),(0:Int),(0:Int),(⟨(0:Int),(0:Int),(0:Int)⟩:iZ)⟩:aw)]):Int))*(48:Nat)≤room) (.val ((v7++[(⟨(6:Int),(0:Int),(0:Int),(⟨(0:Int),(0:Int),(0:Int)⟩:iZ)⟩:aw)]):List aw) fun v8=> .jump (.c3 x0 x1 v8 (wr (x3+(1:Int))) t6.2.1 t6.2.2.1 t6.2.2.2)))))
      (.val ([(⟨(5:Int),(0:Int),(wr ((1:Int)+t2.1)),(⟨(0:Int),(0:Int),(0:Int)⟩:iZ)⟩:aw)]:List aw) fun v4=> .aC (((List.length x2:Int)+(List.length v4:Int))*(48:Nat)≤room) (.call (ar.told (2:Int) t3.2.1 t3.2.2.1 t3.2.2.2) fun t5=> .call (self_.told ((wr ((1:Int)+t5.1)),(wr (x1+(1:Int))),t5.2.1,t5.2.2.1,t5.2.2.2)) fun t6=> .aC (((List.length (x2++v4):Int)+(List.length t6.1:Int))*(48:Nat)≤room) (.aC (((List.length ((x2++v4)++t6.1):Int)+(List.length ([(⟨(6:Int),(0:Int),(0:Int),(⟨(0:Int),(0:Int),(0:Int)⟩:iZ)⟩:aw)]):Int))*(48:Nat)≤room) (.val ((((x2++v4)++t6.1)++[(⟨(6:Int),(0:Int),(0:Int),(⟨(0:Int),(0:Int),(0:Int)⟩:iZ)⟩:aw)]):List aw) fun v7=> .jump (.c3 x0 x1 v7 (wr (x3+(1:Int))) t6.2.1 t6.2.2.1 t6.2.2.2))))))
     (.call (dE.told t1.2.1 t1.2.2.1 t1.2.2.2) fun t2=> .val ([(⟨t2.1,t2.2.1,t2.2.2.1,(⟨t2.2.2.2.1,t2.2.2.2.2.1,t2.2.2.2.2.2.1⟩:iZ)⟩:aw)]:List aw) fun v3=> .aC (((List.length x2:Int)+(List.length v3:Int))*(48:Nat)≤room) (.jump (.c3 x0 x1 (x2++v3) (wr (x3+(1:Int))) t2.2.2.2.2.2.2.1 t2.2.2.2.2.2.2.2.1 t2.2.2.2.2.2.2.2.2))))
    (u0_0))
   (u0_0))
  (.ret (x2,x4,x5,x6))
def Q:bE C:={PL with fM:=[(3,[0,1,2,7,8,59])]}
theorem e (self_:Self I A K):df Pg C Q Tryz.f170 1 id st v o (tree self_):=fun J K x=>by cases x<;>kernel_rfl
theorem b (self_:Self I A K) (a0 a1:Int) (a2:List Int) (a3 a4:Int):vM Pg C Q Tryz.f170 1 id st v o (S a0 a1 a2 a3 a4) (begin self_ a0 a1 a2 a3 a4):=fun J K=>by kernel_rfl
def step (self_:Self I A K):Self I A K:=⟨fun i_=>(begin self_ i_.1 i_.2.1 i_.2.2.1 i_.2.2.2.1 i_.2.2.2.2).run (lp (tree self_)),fun i_ r h=>gK G mixed Q Tryz.func170 rfl (of_decide_eq_true (by kernel_rfl)) (by rfl) id st v o (fun _=>rfl) (tree self_) (e self_) (begin self_ i_.1 i_.2.1 i_.2.2.1 i_.2.2.2.1 i_.2.2.2.2) (b self_ i_.1 i_.2.1 i_.2.2.1 i_.2.2.2.1 i_.2.2.2.2) h⟩
def f (a0 a1:Int) (a2:List Int) (a3 a4:Int):Option A:=(Self.iter step 8).f (a0,a1,a2,a3,a4)
def told (a0 a1:Int) (a2:List Int) (a3 a4:Int):aa.Told A:=⟨f a0 a1 a2 a3 a4,fun r=>ae Pg C 170 (S a0 a1 a2 a3 a4) 1 (v r) (o r),fun r h=>(Self.iter step 8).ok (a0,a1,a2,a3,a4) r h⟩
end bb
namespace fm
def S (a0:List Int) (a1 a2:Int):List (PV U):=aa.start C 7 [.ptr 7 0] [.box [.sl 5 a0,.int .i64 a1,.int .i64 a2]]
def begin (a0:List Int) (a1 a2:Int):Tr Empty A:=
 .call (ar.told (6:Int) a0 a1 a2) fun t1=> .call (bb.told t1.1 (0:Int) t1.2.1 t1.2.2.1 t1.2.2.2) fun t2=> .ret (t2.1,t2.2.1,t2.2.2.1,t2.2.2.2)
def f (a0:List Int) (a1 a2:Int):Option A:=(begin a0 a1 a2).run (lp aF)
def told (a0:List Int) (a1 a2:Int):aa.Told A:=⟨f a0 a1 a2,fun r=>ae Pg C 138 (S a0 a1 a2) 1 (v r) (o r),fun r h=>aG (Q:=PL) v o Tryz.func138 rfl (of_decide_eq_true (by kernel_rfl)) (by rfl) (fun _=>rfl) (fun J K=>by kernel_rfl) h⟩
end fm
namespace cF
def S (a0:List Int) (a1 a2:Int):List (PV U):=aa.start C 24 [.ptr 24 0] [.box [.sl 5 a0,.int .i64 a1,.int .i64 a2]]
inductive X where
 | c3 (x0 x1:List az) (x2:Int) (x3:List Int) (x4 x5:Int)
def id:X→Nat
 | .c3 .. =>3
def st:X→List (PV U)
 | .c3 x0 x1 x2 x3 x4 x5=>eA 25 [(0,.ptr 24 0),(2,.box [.own true 164 x0]),(3,.box [.own true 164 x1]),(4,.int .i64 x2),(24,.box [.sl 5 x3,.int .i64 x4,.int .i64 x5])]
def begin (a0:List Int) (a1 a2:Int):Tr X A:=
 .jump (.c3 ([]:List az) ([]:List az) (0:Int) a0 a1 a2)
def tree:X→Tr X A
 | .c3 x0 x1 x2 x3 x4 x5=>
 .call (ar.told (3:Int) x3 x4 x5) fun t1=> .ite (decide (x2<(wr ((1:Int)+t1.1))))
  (.both (.last (.call (fm.told t1.2.1 t1.2.2.1 t1.2.2.2) fun t2=> .last (.call (cW.told t2.2.1 t2.2.2.1 t2.2.2.2) fun t3=> .last (.last (.last (.aC (((List.length x1:Int)+(List.length ([(⟨t2.1,(⟨t3.1,t3.2.1,t3.2.2.1⟩:iZ)⟩:az)]):Int))*(48:Nat)≤room) (.last (.jump (.c3 x0 (x1++[(⟨t2.1,(⟨t3.1,t3.2.1,t3.2.2.1⟩:iZ)⟩:az)]) (wr (x2+(1:Int))) t3.2.2.2.1 t3.2.2.2.2.1 t3.2.2.2.2.2)))))))))
   (.last (.call (fm.told t1.2.1 t1.2.2.1 t1.2.2.2) fun t2=> .both (.last (.call (cW.told t2.2.1 t2.2.2.1 t2.2.2.2) fun t3=> .last (.last (.last (.aC (((List.length x1:Int)+(List.length ([(⟨t2.1,(⟨t3.1,t3.2.1,t3.2.2.1⟩:iZ)⟩:az)]):Int))*(48:Nat)≤room) (.last (.jump (.c3 x0 (x1++[(⟨t2.1,(⟨t3.1,t3.2.1,t3.2.2.1⟩:iZ)⟩:az)]) (wr (x2+(1:Int))) t3.2.2.2.1 t3.2.2.2.2.1 t3.2.2.2.2.2))))))))
    (.last (.call (cW.told t2.2.1 t2.2.2.1 t2.2.2.2) fun t3=>let u3_0:Tr X A:=(.last (.last (.aC (((List.length x1:Int)+(List.length ([(⟨t2.1,(⟨t3.1,t3.2.1,t3.2.2.1⟩:iZ)⟩:az)]):Int))*(48:Nat)≤room) (.last (.jump (.c3 x0 (x1++[(⟨t2.1,(⟨t3.1,t3.2.1,t3.2.2.1⟩:iZ)⟩:az)]) (wr (x2+(1:Int))) t3.2.2.2.1 t3.2.2.2.2.1 t3.2.2.2.2.2)))))); .both (.last (u3_0))
     (.last (.both (u3_0)
      (u3_0))))))))
  (.ret (x1,t1.2.1,t1.2.2.1,t1.2.2.2))
def f (a0:List Int) (a1 a2:Int):Option A:=(begin a0 a1 a2).run (lp tree)
def Q:bE C:={PL with fM:=[(3,[0,2,3,4,24])],iH:=[(5,[3,5,6,7,8,10],(.take 0 [] (.take 2 [] (.take 4 [] (.alt 1 (.alt 3 (.alt 5 (.alt 6 (.alt 7 (.alt 8 (.take 9 [] (.alt 10 .done .nil)) .nil) .nil) .nil) .nil) .nil) (.alt 3 (.alt 1 (.alt 5 (.alt 6 (.alt 7 (.alt 8 (.take 9 [] (.alt 10 .done .nil)) .nil) .nil) .nil) .nil) (.alt 5 (.alt 1 (.alt 6 (.alt 7 (.alt 8 (.take 9 [] (.alt 10 .done .nil)) .nil) .nil) .nil) (.alt 6 (.alt 1 (.alt 7 (.alt 8 (.take 9 [] (.alt 10 .done .nil)) .nil) .nil) (.alt 7 (.take 1 [0,2,3,4,5,6,7] (.alt 8 (.take 9 [] (.alt 10 .done .nil)) .nil)) .nil)) .nil)) .nil)) .nil))))))]}
theorem e:df Pg C Q Tryz.f86 1 id st v o tree:=fun J K x=>by cases x<;>kernel_rfl
def told (a0:List Int) (a1 a2:Int):aa.Told A:=⟨f a0 a1 a2,fun r=>ae Pg C 86 (S a0 a1 a2) 1 (v r) (o r),fun r h=>dy v o Tryz.func86 rfl (of_decide_eq_true (by kernel_rfl)) (by rfl) (fun _=>rfl) e (fun J K=>by kernel_rfl) h⟩
end cF
namespace eY
def S (a0:List Int) (a1 a2:Int):List (PV U):=aa.start C 23 [.ptr 23 0] [.box [.sl 5 a0,.int .i64 a1,.int .i64 a2]]
def begin (a0:List Int) (a1 a2:Int):Tr Empty A:=
 .call (ar.told (400:Int) a0 a1 a2) fun t1=> .call (ar.told (4:Int) t1.2.1 t1.2.2.1 t1.2.2.2) fun t2=> .call (ar.told (wr ((wr ((20:Int)+t1.1))+(1:Int))) t2.2.1 t2.2.2.1 t2.2.2.2) fun t3=> .call (ar.told (wr ((20:Int)+t1.1)) t3.2.1 t3.2.2.1 t3.2.2.2) fun t4=> .ret (t3.1,(wr ((20:Int)+t1.1)),(wr ((1:Int)+t4.1)),t2.1,t4.2.1,t4.2.2.1,t4.2.2.2)
def f (a0:List Int) (a1 a2:Int):Option A:=(begin a0 a1 a2).run (lp aF)
def told (a0:List Int) (a1 a2:Int):aa.Told A:=⟨f a0 a1 a2,fun r=>ae Pg C 87 (S a0 a1 a2) 1 (v r) (o r),fun r h=>aG (Q:=PL) v o Tryz.func87 rfl (of_decide_eq_true (by kernel_rfl)) (by rfl) (fun _=>rfl) (fun J K=>by kernel_rfl) h⟩
end eY
end
end Go.Proofs.YtmapddgocpkgeaaGreat.Ev
