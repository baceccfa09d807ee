/- Functions as trees, with their contracts. No conditions. -/
import Derived.Test.YtmapddgocpkgeaaGreatNEvF11
namespace Go.Proofs.YtmapddgocpkgeaaGreat.Ev
open Go.Proofs.YtmapddgocpkgeaaGreat.aa Go.RowKit
set_option linter.unusedVariables false
set_option maxRecDepth 100000
noncomputable section
namespace dU
def S (a0:List az) (a1:List Int) (a2:Int):List (PV U):=aa.start C 28 [.agg [.sl 164 a0],.sl 3 a1,.int .i64 a2] []
def begin (a0:List az) (a1:List Int) (a2:Int):Tr Empty A:=
 .aC ((0:Int)≤a2∧a2<(List.length a0:Int)) (.last (.call (cw.told a1 ((cy a0 a2).f1.f0) ((cy a0 a2).f1.f1) ((cy a0 a2).f1.f2)) fun t1=> .aC ((List.length a0:Int)≠0) (.ite (decide ((Int.tmod t1 (List.length a0:Int))<(0:Int)))
  (.ret ((wr ((Int.tmod t1 (List.length a0:Int))+(List.length a0:Int)))))
  (.ret ((Int.tmod t1 (List.length a0:Int)))))))
def f (a0:List az) (a1:List Int) (a2:Int):Option A:=(begin a0 a1 a2).run (lp aF)
def Q:bE C:={PL with iH:=[(1,[],(.take 0 [] (.take 1 [] (.take 3 [] (.take 8 [] (.take 2 [0,1,3,8,9,10] (.take 4 [] (.take 5 [] (.take 6 [0,1,2,3,4,5,8,9,10] (.take 9 [0,1,2,3,4,5,6,7,8] (.take 10 [] (.alt 7 (.take 11 [] (.take 12 [] .done)) .nil))))))))))))]}
def told (a0:List az) (a1:List Int) (a2:Int):aa.Told A:=⟨f a0 a1 a2,fun r=>ae Pg C 198 (S a0 a1 a2) 0 (v r) (o r),fun r h=>aG (Q:=Q) v o Tryz.func198 rfl (of_decide_eq_true (by kernel_rfl)) (by rfl) (fun _=>rfl) (fun J K=>by kernel_rfl) h⟩
end dU
namespace eD
def S (a0:List az) (a1 a2:List Int) (a3:Int):List (PV U):=aa.start C 71 [.agg [.sl 164 a0],.sl 3 a1,.sl 3 a2,.int .i64 a3] []
inductive X where
 | c8 (x0:List aO) (x1 x2 x3 x4 x5 x6:List Int) (x7:Int) (x8:Bool) (x9:List aO) (x10 x11:List Int) (x12 x13:Int)
def id:X→Nat
 | .c8 .. =>8
def st:X→List (PV U)
 | .c8 x0 x1 x2 x3 x4 x5 x6 x7 x8 x9 x10 x11 x12 x13=>eA 71 [(8,.box [.own true 179 x0,.own true 3 x1]),(12,.box [.own true 3 x2,.own true 3 x3,.own true 3 x4,.own true 3 x5,.sl 3 x6,.int .i64 x7,.bool x8,.own true 179 x9,.own true 3 x10,.own true 3 x11,.int .i64 x12,.int .i64 x13])]
def begin (a0:List az) (a1 a2:List Int) (a3:Int):Tr X A:=
 .aC ((0:Int)≤(8:Int)∧(8:Int)<(List.length a1:Int)) (.call (bk.told (dz a1 (8:Int))) fun t1=> .aC ((0:Int)≤t1.1∧t1.1<(List.length a0:Int)) (.call (dq.told ((cy a0 t1.1).f0) ((cy a0 t1.1).f1.f0) ((cy a0 t1.1).f1.f1) ((cy a0 t1.1).f1.f2)) fun t2=> .call (fg.told a1) fun t3=> .aC ((0:Int)≤t1.1∧t1.1<(List.length a0:Int)) (.call (aq.told ((cy a0 t1.1).f0) (0:Int) (List.length ((cy a0 t1.1).f0):Int) t3 ([]:List Int) ([]:List Int) ([]:List Int) a2 a3 true ([]:List aO) t2 ([]:List Int) t1.1 t1.2.2) fun t4=> .call (ez.told (1:Int) t4.1 t4.2.1 t4.2.2.1 t4.2.2.2.1 t4.2.2.2.2.1 t4.2.2.2.2.2.1 t4.2.2.2.2.2.2.1 t4.2.2.2.2.2.2.2.1 t4.2.2.2.2.2.2.2.2.1 t4.2.2.2.2.2.2.2.2.2.1 t4.2.2.2.2.2.2.2.2.2.2.1 t4.2.2.2.2.2.2.2.2.2.2.2) fun t5=>let u5_0:Tr X A:=(.last (.val ((if(wr (t1.2.2+(List.length t5.2.1:Int)))<(24:Int)then(wr (t1.2.2+(List.length t5.2.1:Int)))else(24:Int)):Int) fun v6=> .last (.call (dU.told a0 t5.1 t1.1) fun t7=> .last (.call (bz.told t7 (0:Int) v6) fun t8=> .last (.call (bX.told (8:Int) t8 t5.1 t5.2.1 t5.2.2.1 t5.2.2.2.1 t5.2.2.2.2.1 t5.2.2.2.2.2.1 t5.2.2.2.2.2.2.1 t5.2.2.2.2.2.2.2.1 t5.2.2.2.2.2.2.2.2.1 t5.2.2.2.2.2.2.2.2.2.1 t5.2.2.2.2.2.2.2.2.2.2.1 t5.2.2.2.2.2.2.2.2.2.2.2) fun t9=> .jump (.c8 ([]:List aO) ([]:List Int) t9.1 t9.2.1 t9.2.2.1 t9.2.2.2.1 t9.2.2.2.2.1 t9.2.2.2.2.2.1 t9.2.2.2.2.2.2.1 t9.2.2.2.2.2.2.2.1 t9.2.2.2.2.2.2.2.2.1 t9.2.2.2.2.2.2.2.2.2.1 t9.2.2.2.2.2.2.2.2.2.2.1 t9.2.2.2.2.2.2.2.2.2.2.2))))));let u5_1:Tr X A:=(.both (.both (.call (dU.told a0 t5.1 t1.1) fun t6=> .last (.val ((if(wr (t1.2.2+(List.length t5.2.1:Int)))<(24:Int)then(wr (t1.2.2+(List.length t5.2.1:Int)))else(24:Int)):Int) fun v7=> .last (.call (bz.told t6 (0:Int) v7) fun t8=> .last (.call (bX.told (8:Int) t8 t5.1 t5.2.1 t5.2.2.1 t5.2.2.2.1 t5.2.2.2.2.1 t5.2.2.2.2.2.1 t5.2.2.2.2.2.2.1 t5.2.2.2.2.2.2.2.1 t5.2.2.2.2.2.2.2.2.1 t5.2.2.2.2.2.2.2.2.2.1 t5.2.2.2.2.2.2.2.2.2.2.1 t5.2.2.2.2.2.2.2.2.2.2.2) fun t9=> .jump (.c8 ([]:List aO) ([]:List Int) t9.1 t9.2.1 t9.2.2.1 t9.2.2.2.1 t9.2.2.2.2.1 t9.2.2.2.2.2.1 t9.2.2.2.2.2.2.1 t9.2.2.2.2.2.2.2.1 t9.2.2.2.2.2.2.2.2.1 t9.2.2.2.2.2.2.2.2.2.1 t9.2.2.2.2.2.2.2.2.2.2.1 t9.2.2.2.2.2.2.2.2.2.2.2))))) (u5_0)) (u5_0)); .both (u5_1)
  (.both (u5_1)
   (u5_0)))))
def tree:X→Tr X A
 | .c8 x0 x1 x2 x3 x4 x5 x6 x7 x8 x9 x10 x11 x12 x13=>
 let u0_0:Tr X A:=(.last (.aC (((List.length ([]:List Int):Int)+(List.length x4:Int))*(8:Nat)≤room) (.last (.last (.ret (x9,(([]:List Int)++x4))))))); .both (.last (u0_0))
  (.last (.both (u0_0)
   (u0_0)))
def f (a0:List az) (a1 a2:List Int) (a3:Int):Option A:=(begin a0 a1 a2 a3).run (lp tree)
def Q:bE C:={PL with fM:=[(8,[8,12])],iH:=[(7,[12,14],(.take 1 [] (.take 2 [] (.take 4 [] (.take 6 [] (.take 7 [] (.take 8 [] (.take 9 [0,1,2,3,4,5,6,7,8] (.take 10 [] (.take 11 [] (.alt 0 (.alt 3 (.alt 5 (.alt 12 (.alt 13 (.alt 14 .done .nil) .nil) .nil) (.alt 12 (.alt 5 (.alt 13 (.alt 14 .done .nil) .nil) .nil) .nil)) (.alt 12 (.take 3 [0,1,2,4,6,7,8,9,10,11,12] (.alt 5 (.alt 13 (.alt 14 .done .nil) .nil) .nil)) .nil)) (.alt 3 (.alt 0 (.alt 5 (.alt 12 (.alt 13 (.alt 14 .done .nil) .nil) .nil) (.alt 12 (.alt 5 (.alt 13 (.alt 14 .done .nil) .nil) .nil) .nil)) (.alt 12 (.take 0 [1,2,3,4,6,7,8,9,10,11,12] (.alt 5 (.alt 13 (.alt 14 .done .nil) .nil) .nil)) .nil)) (.alt 12 (.take 0 [1,2,3,4,6,7,8,9,10,11,12] (.take 3 [0,1,2,4,6,7,8,9,10,11,12] (.alt 5 (.alt 13 (.alt 14 .done .nil) .nil) .nil))) .nil))))))))))))),(8,[6,7,8],(.take 0 [] (.take 3 [] (.take 4 [] (.take 5 [0,1,2,3,4] (.alt 1 (.alt 2 (.alt 6 (.alt 7 (.alt 8 .done .nil) .nil) .nil) .nil) (.alt 2 (.alt 1 (.alt 6 (.alt 7 (.alt 8 .done .nil) .nil) .nil) (.alt 6 (.take 1 [0,2,3,4,5,6] (.alt 7 (.alt 8 .done .nil) .nil)) .nil)) .nil)))))))]}
theorem e:df Pg C Q Tryz.f160 0 id st v o tree:=fun J K x=>by cases x<;>kernel_rfl
def told (a0:List az) (a1 a2:List Int) (a3:Int):aa.Told A:=⟨f a0 a1 a2 a3,fun r=>ae Pg C 160 (S a0 a1 a2 a3) 0 (v r) (o r),fun r h=>dy v o Tryz.func160 rfl (of_decide_eq_true (by kernel_rfl)) (by rfl) (fun _=>rfl) e (fun J K=>by kernel_rfl) h⟩
end eD
namespace cm
def S (a0:List aO) (a1:List Int) (a2:Int):List (PV U):=aa.start C 57 [.agg [.sl 179 a0,.sl 3 a1],.int .i64 a2] []
inductive X where
 | c4 (x0:Int) (x1:List aO) (x2:List Int) (x3 x4 x5:Int)
def id:X→Nat
 | .c4 .. =>4
def st:X→List (PV U)
 | .c4 x0 x1 x2 x3 x4 x5=>eA 57 [(1,.int .i64 x0),(2,.box [.sl 179 x1,.sl 3 x2]),(5,.int .i64 x3),(6,.int .i64 x4),(7,.int .i64 x5)]
def begin (a0:List aO) (a1:List Int) (a2:Int):Tr X A:=
 .jump (.c4 a2 a0 a1 (0:Int) (0:Int) (0:Int))
def tree:X→Tr X A
 | .c4 x0 x1 x2 x3 x4 x5=>
 .ite (decide (x3<(List.length x1:Int)))
  (.ite (decide (x0≥(0:Int)))
   (.aC ((0:Int)≤x3∧x3<(List.length x1:Int)) (.aC ((0:Int)≤(32:Int)) (.aC ((0:Int)≤(32:Int)) (.val ((shiftDown .i64 (wr (x4+(jH .i64 ((gq x1 x3).f0) (4294967295:Int)))) (32:Int)):Int) fun v1=> .val ((jH .i64 (wr (x4+(jH .i64 ((gq x1 x3).f0) (4294967295:Int)))) (4294967295:Int)):Int) fun v2=> .aC ((0:Int)≤(32:Int)) (.val ((decide ((wr ((wr (x5+(shiftDown .i64 ((gq x1 x3).f0) (32:Int))))+v1))>(shiftDown .i64 x0 (32:Int)))):Bool) fun v3=> .ite v3
    (.ret x3)
    (.aC ((0:Int)≤(32:Int)) (.val ((decide ((wr ((wr (x5+(shiftDown .i64 ((gq x1 x3).f0) (32:Int))))+v1))=(shiftDown .i64 x0 (32:Int)))):Bool) fun v4=>let u4_0:Tr X A:=(.jump (.c4 x0 x1 x2 (wr (x3+(1:Int))) v2 (wr ((wr (x5+(shiftDown .i64 ((gq x1 x3).f0) (32:Int))))+v1)))); .ite v4
     (.ite (decide (v2>(jH .i64 x0 (4294967295:Int))))
      (.ret x3)
      (u4_0))
     (u4_0))))))))
   (.ret x3))
  (.ret x3)
def f (a0:List aO) (a1:List Int) (a2:Int):Option A:=(begin a0 a1 a2).run (lp tree)
def Q:bE C:={PL with fM:=[(4,[1,2,5,6,7])]}
theorem e:df Pg C Q Tryz.f161 0 id st v o tree:=fun J K x=>by cases x<;>kernel_rfl
def told (a0:List aO) (a1:List Int) (a2:Int):aa.Told A:=⟨f a0 a1 a2,fun r=>ae Pg C 161 (S a0 a1 a2) 0 (v r) (o r),fun r h=>dy v o Tryz.func161 rfl (of_decide_eq_true (by kernel_rfl)) (by rfl) (fun _=>rfl) e (fun J K=>by kernel_rfl) h⟩
end cm
namespace cA
def S (a0:List aO) (a1:List Int) (a2:Int):List (PV U):=aa.start C 31 [.agg [.sl 179 a0,.sl 3 a1],.int .i64 a2] []
inductive X where
 | c3 (x0:Int) (x1:List aO) (x2:List Int) (x3 x4:Int)
def id:X→Nat
 | .c3 .. =>3
def st:X→List (PV U)
 | .c3 x0 x1 x2 x3 x4=>eA 31 [(1,.int .i64 x0),(2,.box [.sl 179 x1,.sl 3 x2]),(5,.int .i64 x3),(6,.int .i64 x4)]
def begin (a0:List aO) (a1:List Int) (a2:Int):Tr X A:=
 .jump (.c3 a2 a0 a1 (0:Int) (0:Int))
def tree:X→Tr X A
 | .c3 x0 x1 x2 x3 x4=>
 let u0_0:Tr X A:=(.jump (.c3 x0 x1 x2 x3 (wr (x4+(1:Int))))); .ite (decide (x4<x0))
  (.aC ((0:Int)≤x4∧x4<(List.length x1:Int)) (.ite (decide ((gq x1 x4).f1=(-1:Int)))
   (.aC ((0:Int)≤x4∧x4<(List.length x1:Int)) (.ite (decide ((gq x1 x4).f0=(5:Int)))
    (.jump (.c3 x0 x1 x2 (wr (x3+(1:Int))) (wr (x4+(1:Int)))))
    (u0_0)))
   (u0_0)))
  (.ret x3)
def f (a0:List aO) (a1:List Int) (a2:Int):Option A:=(begin a0 a1 a2).run (lp tree)
def Q:bE C:={PL with fM:=[(3,[1,2,5,6])]}
theorem e:df Pg C Q Tryz.f162 0 id st v o tree:=fun J K x=>by cases x<;>kernel_rfl
def told (a0:List aO) (a1:List Int) (a2:Int):aa.Told A:=⟨f a0 a1 a2,fun r=>ae Pg C 162 (S a0 a1 a2) 0 (v r) (o r),fun r h=>dy v o Tryz.func162 rfl (of_decide_eq_true (by kernel_rfl)) (by rfl) (fun _=>rfl) e (fun J K=>by kernel_rfl) h⟩
end cA
end
end Go.Proofs.YtmapddgocpkgeaaGreat.Ev
