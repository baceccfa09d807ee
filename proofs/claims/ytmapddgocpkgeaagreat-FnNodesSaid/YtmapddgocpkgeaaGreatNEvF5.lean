/- Functions as trees, with their contracts. No conditions. -/
import Derived.Test.YtmapddgocpkgeaaGreatNEvF4
namespace Go.Proofs.YtmapddgocpkgeaaGreat.Ev
open Go.Proofs.YtmapddgocpkgeaaGreat.aa Go.RowKit
set_option linter.unusedVariables false
set_option maxRecDepth 100000
noncomputable section
namespace aV
def S (a0:List az) (a1 a2:List Int) (a3 a4 a5 a6:Int):List (PV U):=aa.start C 43 [.agg [.sl 164 a0],.sl 3 a1,.sl 3 a2,.agg [.int .i64 a3,.int .i64 a4,.int .i64 a5,.int .i64 a6]] []
def begin (a0:List az) (a1 a2:List Int) (a3 a4 a5 a6:Int):Tr Empty A:=
 .call (fW.told a1) fun t1=> .ite (!t1.2)
  (.ret (([]:List az),([]:List Int),([]:List Int),(0:Int),(0:Int),(0:Int),(0:Int),(0:Int),(0:Int),(0:Int),(0:Int),([]:List Int),(0:Int),false))
  (.call (cv.told a0) fun t2=> .ite (!t2)
   (.ret (([]:List az),([]:List Int),([]:List Int),(0:Int),(0:Int),(0:Int),(0:Int),(0:Int),(0:Int),(0:Int),(0:Int),([]:List Int),(0:Int),false))
   (.call (eN.told a3 a4 a5 a6) fun t3=> .ite (!t3)
    (.ret (([]:List az),([]:List Int),([]:List Int),(0:Int),(0:Int),(0:Int),(0:Int),(0:Int),(0:Int),(0:Int),(0:Int),([]:List Int),(0:Int),false))
    (.call (bM.told a2) fun t4=>let u4_0:Tr Empty A:=(.last (.last (.call (ca.told a0) fun t5=> .last (.aC (((List.length ([]:List Int):Int)+(List.length a2:Int))*(8:Nat)≤room) (.last (.last (.ret (t5,t1.1,(([]:List Int)++a2),(0:Int),a3,a4,a5,a6,(0:Int),(0:Int),(0:Int),([]:List Int),(0:Int),true)))))))); .ite (!t4)
     (.ret (([]:List az),([]:List Int),([]:List Int),(0:Int),(0:Int),(0:Int),(0:Int),(0:Int),(0:Int),(0:Int),(0:Int),([]:List Int),(0:Int),false))
     (.both (.call (ca.told a0) fun t5=>let u5_0:Tr Empty A:=(.aC (((List.length ([]:List Int):Int)+(List.length a2:Int))*(8:Nat)≤room) (.last (.last (.ret (t5,t1.1,(([]:List Int)++a2),(0:Int),a3,a4,a5,a6,(0:Int),(0:Int),(0:Int),([]:List Int),(0:Int),true)))));let u5_1:Tr Empty A:=(.last (.last (u5_0))); .both (.both (u5_0)
      (u5_1))
       (.last (u5_1)))
      (.both (.both (.call (ca.told a0) fun t5=>let u5_0:Tr Empty A:=(.aC (((List.length ([]:List Int):Int)+(List.length a2:Int))*(8:Nat)≤room) (.last (.last (.ret (t5,t1.1,(([]:List Int)++a2),(0:Int),a3,a4,a5,a6,(0:Int),(0:Int),(0:Int),([]:List Int),(0:Int),true))))); .both (u5_0)
       (.last (.last (u5_0))))
        (u4_0))
       (.last (.both (.call (ca.told a0) fun t5=> .last (.last (.aC (((List.length ([]:List Int):Int)+(List.length a2:Int))*(8:Nat)≤room) (.last (.last (.ret (t5,t1.1,(([]:List Int)++a2),(0:Int),a3,a4,a5,a6,(0:Int),(0:Int),(0:Int),([]:List Int),(0:Int),true)))))))
        (u4_0))))))))
def f (a0:List az) (a1 a2:List Int) (a3 a4 a5 a6:Int):Option A:=(begin a0 a1 a2 a3 a4 a5 a6).run (lp aF)
def Q:bE C:={PL with iH:=[(4,[5,7,8],(.take 2 [] (.take 4 [] (.take 0 [2,3,4,6] (.alt 1 (.alt 3 (.alt 5 (.take 6 [0,1,2,3,4,5] (.alt 7 (.alt 8 (.take 9 [] .done) .nil) .nil)) (.alt 6 (.alt 5 (.alt 7 (.alt 8 (.take 9 [] .done) .nil) .nil) .nil) .nil)) (.alt 6 (.alt 3 (.alt 5 (.alt 7 (.alt 8 (.take 9 [] .done) .nil) .nil) .nil) .nil) .nil)) (.alt 3 (.alt 1 (.alt 5 (.take 6 [0,1,2,3,4,5] (.alt 7 (.alt 8 (.take 9 [] .done) .nil) .nil)) (.alt 6 (.alt 5 (.alt 7 (.alt 8 (.take 9 [] .done) .nil) .nil) .nil) .nil)) (.alt 6 (.alt 1 (.alt 5 (.alt 7 (.alt 8 (.take 9 [] .done) .nil) .nil) .nil) .nil) .nil)) (.alt 6 (.alt 1 (.alt 3 (.alt 5 (.alt 7 (.alt 8 (.take 9 [] .done) .nil) .nil) .nil) .nil) (.alt 3 (.alt 1 (.alt 5 (.alt 7 (.alt 8 (.take 9 [] .done) .nil) .nil) .nil) .nil) .nil)) .nil)))))))]}
def told (a0:List az) (a1 a2:List Int) (a3 a4 a5 a6:Int):aa.Told A:=⟨f a0 a1 a2 a3 a4 a5 a6,fun r=>ae Pg C 88 (S a0 a1 a2 a3 a4 a5 a6) 0 (v r) (o r),fun r h=>aG (Q:=Q) v o Tryz.func88 rfl (of_decide_eq_true (by kernel_rfl)) (by rfl) (fun _=>rfl) (fun J K=>by kernel_rfl) h⟩
end aV
namespace bz
def S (a0 a1 a2:Int):List (PV U):=aa.start C 27 [.int .i64 a0,.int .i64 a1,.int .i64 a2] []
def begin (a0 a1 a2:Int):Tr Empty A:=
 .call (aE.told a0 (0:Int) (5:Int)) fun t1=> .ite (!t1)
  (.ret ((-1:Int)))
  (.call (aE.told a1 (0:Int) (8:Int)) fun t2=> .ite (!t2)
   (.ret ((-1:Int)))
   (.call (aE.told a2 (0:Int) (24:Int)) fun t3=> .ite (!t3)
    (.ret ((-1:Int)))
    (.ret ((wr (a0+(wr ((8:Int)*(wr (a1+(wr ((16:Int)*a2))))))))))))
def f (a0 a1 a2:Int):Option A:=(begin a0 a1 a2).run (lp aF)
def told (a0 a1 a2:Int):aa.Told A:=⟨f a0 a1 a2,fun r=>ae Pg C 192 (S a0 a1 a2) 0 (v r) (o r),fun r h=>aG (Q:=PL) v o Tryz.func192 rfl (of_decide_eq_true (by kernel_rfl)) (by rfl) (fun _=>rfl) (fun J K=>by kernel_rfl) h⟩
end bz
namespace bk
def S (a0:Int):List (PV U):=aa.start C 30 [.int .i64 a0] []
def begin (a0:Int):Tr Empty A:=
 .ite (decide (a0<(0:Int)))
  (.ret ((-1:Int),(-1:Int),(-1:Int)))
  (.ite (decide (a0>(100000:Int)))
   (.ret ((-1:Int),(-1:Int),(-1:Int)))
   (.aC ((8:Int)≠0) (.aC ((8:Int)≠0) (.aC ((16:Int)≠0) (.aC ((128:Int)≠0) (.call (bz.told (Int.tmod a0 (8:Int)) (Int.tmod (wr (Int.tdiv a0 (8:Int))) (16:Int)) (wr (Int.tdiv a0 (128:Int)))) fun t1=> .ite (!decide (t1=a0))
    (.ret ((-1:Int),(-1:Int),(-1:Int)))
    (.ret ((Int.tmod a0 (8:Int)),(Int.tmod (wr (Int.tdiv a0 (8:Int))) (16:Int)),(wr (Int.tdiv a0 (128:Int)))))))))))
def f (a0:Int):Option A:=(begin a0).run (lp aF)
def told (a0:Int):aa.Told A:=⟨f a0,fun r=>ae Pg C 154 (S a0) 0 (v r) (o r),fun r h=>aG (Q:=PL) v o Tryz.func154 rfl (of_decide_eq_true (by kernel_rfl)) (by rfl) (fun _=>rfl) (fun J K=>by kernel_rfl) h⟩
end bk
namespace fC
def S (a0:List az) (a1:List Int):List (PV U):=aa.start C 72 [.agg [.sl 164 a0],.sl 3 a1] []
inductive X where
 | c7 (x0:List Int) (x1 x2:Int)
def id:X→Nat
 | .c7 .. =>7
def st:X→List (PV U)
 | .c7 x0 x1 x2=>eA 72 [(1,.sl 3 x0),(6,.int .i64 x1),(8,.int .i64 x2)]
def begin (a0:List az) (a1:List Int):Tr X A:=
 .call (cv.told a0) fun t1=> .ite (!t1)
  (.ret false)
  (.ite (!decide ((List.length a1:Int)=(49:Int)))
   (.ret false)
   (.aC ((0:Int)≤(8:Int)∧(8:Int)<(List.length a1:Int)) (.call (bk.told (dz a1 (8:Int))) fun t2=> .ite (decide (t2.1<(0:Int)))
    (.ret false)
    (.ite (decide (t2.1≥(List.length a0:Int)))
     (.ret false)
     (.aC ((0:Int)≤(0:Int)∧(0:Int)≤(8:Int)∧(8:Int)≤(List.length a1:Int)) (.call (bM.told (List.take (Int.toNat (8:Int)) a1)) fun t3=> .ite (!t3)
      (.ret false)
      (.aC ((0:Int)≤(25:Int)∧(25:Int)≤(wr ((25:Int)+t2.2.2))∧(wr ((25:Int)+t2.2.2))≤(List.length a1:Int)) (.call (bM.told (List.drop (Int.toNat (25:Int)) (List.take (Int.toNat (wr ((25:Int)+t2.2.2))) a1))) fun t4=> .ite (!t4)
       (.ret false)
       (.jump (.c7 a1 t2.2.1 (0:Int)))))))))))
def tree:X→Tr X A
 | .c7 x0 x1 x2=>
 .ite (decide (x2<x1))
  (.aC ((0:Int)≤(wr ((9:Int)+(wr ((2:Int)*x2))))∧(wr ((9:Int)+(wr ((2:Int)*x2))))<(List.length x0:Int)) (.call (aE.told (dz x0 (wr ((9:Int)+(wr ((2:Int)*x2))))) (0:Int) (7:Int)) fun t1=> .ite (!t1)
   (.ret false)
   (.aC ((0:Int)≤(wr ((wr ((9:Int)+(wr ((2:Int)*x2))))+(1:Int)))∧(wr ((wr ((9:Int)+(wr ((2:Int)*x2))))+(1:Int)))<(List.length x0:Int)) (.call (dH.told (dz x0 (wr ((wr ((9:Int)+(wr ((2:Int)*x2))))+(1:Int))))) fun t2=> .ite (!t2)
    (.ret false)
    (.jump (.c7 x0 x1 (wr (x2+(1:Int)))))))))
  (.ret true)
def f (a0:List az) (a1:List Int):Option A:=(begin a0 a1).run (lp tree)
def Q:bE C:={PL with fM:=[(7,[1,6,8])]}
theorem e:df Pg C Q Tryz.f111 0 id st v o tree:=fun J K x=>by cases x<;>kernel_rfl
def told (a0:List az) (a1:List Int):aa.Told A:=⟨f a0 a1,fun r=>ae Pg C 111 (S a0 a1) 0 (v r) (o r),fun r h=>dy v o Tryz.func111 rfl (of_decide_eq_true (by kernel_rfl)) (by rfl) (fun _=>rfl) e (fun J K=>by kernel_rfl) h⟩
end fC
namespace fw
def S (a0 a1:Int):List (PV U):=aa.start C 18 [.agg [.int .i64 a0,.int .i64 a1]] []
def begin (a0 a1:Int):Tr Empty A:=
 .ite (decide (a0≥(0:Int)))
  (.ite (decide (a0≤a1))
   (.ret ((decide (a1≤(1000000:Int)))))
   (.ret false))
  (.ret false)
def f (a0 a1:Int):Option A:=(begin a0 a1).run (lp aF)
def told (a0 a1:Int):aa.Told A:=⟨f a0 a1,fun r=>ae Pg C 114 (S a0 a1) 0 (v r) (o r),fun r h=>aG (Q:=PL) v o Tryz.func114 rfl (of_decide_eq_true (by kernel_rfl)) (by rfl) (fun _=>rfl) (fun J K=>by kernel_rfl) h⟩
end fw
namespace eO
def S (a0:List Int):List (PV U):=aa.start C 27 [.sl 3 a0] []
def begin (a0:List Int):Tr Empty A:=
 .ite (!decide ((List.length a0:Int)=(49:Int)))
  (.ret (([]:List Int)))
  (.aC ((0:Int)≤(8:Int)∧(8:Int)<(List.length a0:Int)) (.call (bk.told (dz a0 (8:Int))) fun t1=> .ite (decide (t1.2.2<(0:Int)))
   (.ret (([]:List Int)))
   (.aC ((0:Int)≤(25:Int)∧(25:Int)≤(wr ((25:Int)+t1.2.2))∧(wr ((25:Int)+t1.2.2))≤(List.length a0:Int)) (.aC (((List.length ([]:List Int):Int)+(List.length (List.drop (Int.toNat (25:Int)) (List.take (Int.toNat (wr ((25:Int)+t1.2.2))) a0)):Int))*(8:Nat)≤room) (.val ((([]:List Int)++(List.drop (Int.toNat (25:Int)) (List.take (Int.toNat (wr ((25:Int)+t1.2.2))) a0))):List Int) fun v2=> .ret v2)))))
def f (a0:List Int):Option A:=(begin a0).run (lp aF)
def told (a0:List Int):aa.Told A:=⟨f a0,fun r=>ae Pg C 156 (S a0) 0 (v r) (o r),fun r h=>aG (Q:=PL) v o Tryz.func156 rfl (of_decide_eq_true (by kernel_rfl)) (by rfl) (fun _=>rfl) (fun J K=>by kernel_rfl) h⟩
end eO
end
end Go.Proofs.YtmapddgocpkgeaaGreat.Ev
