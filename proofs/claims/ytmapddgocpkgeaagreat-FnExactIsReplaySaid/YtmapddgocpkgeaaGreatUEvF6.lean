/- Functions as trees, with their contracts. No conditions. -/
import Derived.Test.YtmapddgocpkgeaaGreatUEvF5
namespace Go.Proofs.YtmapddgocpkgeaaGreat.Ev
open Go.Proofs.YtmapddgocpkgeaaGreat.aa Go.RowKit
set_option linter.unusedVariables false
set_option maxRecDepth 100000
noncomputable section
namespace dH
def S (a0:List aC) (a1 a2:List Int) (a3:Int):List (PV U):=aa.start C 63 [.agg [.sl 164 a0],.sl 3 a1,.sl 3 a2,.int .i64 a3] []
inductive X where
 | c8 (x0:List aN) (x1:List Int) (x2:List aN) (x3:List Int) (x4 x5 x6:Int) (x7:List Int) (x8 x9 x10 x11 x12 x13 x14 x15:Bool) (x16:List Int)
def id:X→Nat
 | .c8 .. =>8
def st:X→List (PV U)
 | .c8 x0 x1 x2 x3 x4 x5 x6 x7 x8 x9 x10 x11 x12 x13 x14 x15 x16=>iC 63 [(8,.box [.own true 179 x0,.own true 3 x1]),(12,.box [.ptr 28 0]),(28,.box [.own true 179 x2,.own true 3 x3,.int .i64 x4,.int .i64 x5,.int .i64 x6,.own true 3 x7,.bool x8,.bool x9,.bool x10,.bool x11,.bool x12,.bool x13,.bool x14,.bool x15,.own true 3 x16])]
def begin (a0:List aC) (a1 a2:List Int) (a3:Int):Tr X A:=
 .bH ((0:Int)≤(8:Int)∧(8:Int)<(List.length a1:Int)) (.call (bC.told (dh a1 (8:Int))) fun t1=> .call (fQ.told a1) fun t2=> .bH ((0:Int)≤t1.1∧t1.1<(List.length a0:Int)) (.call (dS.told ((bG a0 t1.1).f0) ((bG a0 t1.1).f1.f0) ((bG a0 t1.1).f1.f1) ((bG a0 t1.1).f1.f2)) fun t3=> .call (bp.told ((bG a0 t1.1).f0) t3 a2 a3 ([]:List aN) ([]:List Int) t1.1 t1.2.2 (0:Int) ([]:List Int) false false false false false false false false t2) fun t4=> .call (cE.told (1:Int) t4.2.2.2.1 t4.2.2.2.2.1 t4.2.2.2.2.2.1 t4.2.2.2.2.2.2.1 t4.2.2.2.2.2.2.2.1 t4.2.2.2.2.2.2.2.2.1 t4.2.2.2.2.2.2.2.2.2.1 t4.2.2.2.2.2.2.2.2.2.2.1 t4.2.2.2.2.2.2.2.2.2.2.2.1 t4.2.2.2.2.2.2.2.2.2.2.2.2.1 t4.2.2.2.2.2.2.2.2.2.2.2.2.2.1 t4.2.2.2.2.2.2.2.2.2.2.2.2.2.2.1 t4.2.2.2.2.2.2.2.2.2.2.2.2.2.2.2.1 t4.2.2.2.2.2.2.2.2.2.2.2.2.2.2.2.2.1 t4.2.2.2.2.2.2.2.2.2.2.2.2.2.2.2.2.2) fun t5=>let u5_0:Tr X A:=(.last (.val ((if(wr (t1.2.2+t5.2.2.2.2.1))<(24:Int)then(wr (t1.2.2+t5.2.2.2.2.1))else(24:Int)):Int) fun v6=> .last (.call (fy.told a0 t5.2.2.2.2.2.2.2.2.2.2.2.2.2.2 t1.1) fun t7=> .last (.call (bQ.told t7 (0:Int) v6) fun t8=> .last (.call (bw.told (8:Int) t8 t5.1 t5.2.1 t5.2.2.1 t5.2.2.2.1 t5.2.2.2.2.1 t5.2.2.2.2.2.1 t5.2.2.2.2.2.2.1 t5.2.2.2.2.2.2.2.1 t5.2.2.2.2.2.2.2.2.1 t5.2.2.2.2.2.2.2.2.2.1 t5.2.2.2.2.2.2.2.2.2.2.1 t5.2.2.2.2.2.2.2.2.2.2.2.1 t5.2.2.2.2.2.2.2.2.2.2.2.2.1 t5.2.2.2.2.2.2.2.2.2.2.2.2.2.1 t5.2.2.2.2.2.2.2.2.2.2.2.2.2.2) fun t9=> .jump (.c8 ([]:List aN) ([]:List Int) t9.1 t9.2.1 t9.2.2.1 t9.2.2.2.1 t9.2.2.2.2.1 t9.2.2.2.2.2.1 t9.2.2.2.2.2.2.1 t9.2.2.2.2.2.2.2.1 t9.2.2.2.2.2.2.2.2.1 t9.2.2.2.2.2.2.2.2.2.1 t9.2.2.2.2.2.2.2.2.2.2.1 t9.2.2.2.2.2.2.2.2.2.2.2.1 t9.2.2.2.2.2.2.2.2.2.2.2.2.1 t9.2.2.2.2.2.2.2.2.2.2.2.2.2.1 t9.2.2.2.2.2.2.2.2.2.2.2.2.2.2))))));let u5_1:Tr X A:=(.both (.call (fy.told a0 t5.2.2.2.2.2.2.2.2.2.2.2.2.2.2 t1.1) fun t6=> .last (.val ((if(wr (t1.2.2+t5.2.2.2.2.1))<(24:Int)then(wr (t1.2.2+t5.2.2.2.2.1))else(24:Int)):Int) fun v7=> .last (.call (bQ.told t6 (0:Int) v7) fun t8=> .last (.call (bw.told (8:Int) t8 t5.1 t5.2.1 t5.2.2.1 t5.2.2.2.1 t5.2.2.2.2.1 t5.2.2.2.2.2.1 t5.2.2.2.2.2.2.1 t5.2.2.2.2.2.2.2.1 t5.2.2.2.2.2.2.2.2.1 t5.2.2.2.2.2.2.2.2.2.1 t5.2.2.2.2.2.2.2.2.2.2.1 t5.2.2.2.2.2.2.2.2.2.2.2.1 t5.2.2.2.2.2.2.2.2.2.2.2.2.1 t5.2.2.2.2.2.2.2.2.2.2.2.2.2.1 t5.2.2.2.2.2.2.2.2.2.2.2.2.2.2) fun t9=> .jump (.c8 ([]:List aN) ([]:List Int) t9.1 t9.2.1 t9.2.2.1 t9.2.2.2.1 t9.2.2.2.2.1 t9.2.2.2.2.2.1 t9.2.2.2.2.2.2.1 t9.2.2.2.2.2.2.2.1 t9.2.2.2.2.2.2.2.2.1 t9.2.2.2.2.2.2.2.2.2.1 t9.2.2.2.2.2.2.2.2.2.2.1 t9.2.2.2.2.2.2.2.2.2.2.2.1 t9.2.2.2.2.2.2.2.2.2.2.2.2.1 t9.2.2.2.2.2.2.2.2.2.2.2.2.2.1 t9.2.2.2.2.2.2.2.2.2.2.2.2.2.2))))) (u5_0));let u5_2:Tr X A:=(.both (u5_1) (u5_0));let u5_3:Tr X A:=(.both (u5_2) (u5_0));let u5_4:Tr X A:=(.both (u5_2) (u5_3));let u5_5:Tr X A:=(.both (u5_2) (.both (.both (u5_1) (.both (.call (fy.told a0 t5.2.2.2.2.2.2.2.2.2.2.2.2.2.2 t1.1) fun t6=>let u6_0:Tr X A:=(.last (.val ((if(wr (t1.2.2+t5.2.2.2.2.1))<(24:Int)then(wr (t1.2.2+t5.2.2.2.2.1))else(24:Int)):Int) fun v7=> .last (.call (bQ.told t6 (0:Int) v7) fun t8=> .last (.call (bw.told (8:Int) t8 t5.1 t5.2.1 t5.2.2.1 t5.2.2.2.1 t5.2.2.2.2.1 t5.2.2.2.2.2.1 t5.2.2.2.2.2.2.1 t5.2.2.2.2.2.2.2.1 t5.2.2.2.2.2.2.2.2.1 t5.2.2.2.2.2.2.2.2.2.1 t5.2.2.2.2.2.2.2.2.2.2.1 t5.2.2.2.2.2.2.2.2.2.2.2.1 t5.2.2.2.2.2.2.2.2.2.2.2.2.1 t5.2.2.2.2.2.2.2.2.2.2.2.2.2.1 t5.2.2.2.2.2.2.2.2.2.2.2.2.2.2) fun t9=> .jump (.c8 ([]:List aN) ([]:List Int) t9.1 t9.2.1 t9.2.2.1 t9.2.2.2.1 t9.2.2.2.2.1 t9.2.2.2.2.2.1 t9.2.2.2.2.2.2.1 t9.2.2.2.2.2.2.2.1 t9.2.2.2.2.2.2.2.2.1 t9.2.2.2.2.2.2.2.2.2.1 t9.2.2.2.2.2.2.2.2.2.2.1 t9.2.2.2.2.2.2.2.2.2.2.2.1 t9.2.2.2.2.2.2.2.2.2.2.2.2.1 t9.2.2.2.2.2.2.2.2.2.2.2.2.2.1 t9.2.2.2.2.2.2.2.2.2.2.2.2.2.2))))); .both (u6_0) (u6_0)) (u5_0))) (u5_0)));let u5_6:Tr X A:=(.both (u5_5) (u5_0)); .both (.both (u5_3)
  (.both (u5_4)
   (u5_0)))
  (.both (.both (u5_3)
    (u5_6))
   (.both (.both (u5_4)
     (.both (u5_5)
      (u5_6)))
    (u5_0)))))
def tree:X→Tr X A
 | .c8 x0 x1 x2 x3 x4 x5 x6 x7 x8 x9 x10 x11 x12 x13 x14 x15 x16=>
 .ret (x2,x3)
def f (a0:List aC) (a1 a2:List Int) (a3:Int):Option A:=(begin a0 a1 a2 a3).run (lp tree)
def Q:bA C:={PL with cb:=[(8,[8,12,28])],ca:=[(7,[14,16],(.take 6 [] (.take 8 [] (.take 9 [0,1,2,3,4,5,6,7,8] (.take 10 [] (.take 11 [] (.take 12 [0,1,2,3,4,5,6,7,8,9,10,11] (.take 13 [] (.alt 0 (.alt 1 (.alt 2 (.take 3 [] (.take 4 [] (.alt 5 (.alt 7 (.alt 14 (.alt 15 (.alt 16 .done .nil) .nil) .nil) (.alt 14 (.alt 7 (.alt 15 (.alt 16 .done .nil) .nil) .nil) .nil)) (.alt 14 (.take 5 [0,1,2,3,4,6,8,9,10,11,12,13,14] (.alt 7 (.alt 15 (.alt 16 .done .nil) .nil) .nil)) .nil)))) (.alt 14 (.take 2 [0,1,6,8,9,10,11,12,13,14] (.take 3 [] (.take 4 [] (.take 5 [0,1,2,3,4,6,8,9,10,11,12,13,14] (.alt 7 (.alt 15 (.alt 16 .done .nil) .nil) .nil))))) .nil)) (.alt 2 (.take 3 [] (.take 4 [] (.alt 1 (.alt 5 (.alt 7 (.alt 14 (.alt 15 (.alt 16 .done .nil) .nil) .nil) (.alt 14 (.alt 7 (.alt 15 (.alt 16 .done .nil) .nil) .nil) .nil)) (.alt 14 (.take 5 [0,1,2,3,4,6,8,9,10,11,12,13,14] (.alt 7 (.alt 15 (.alt 16 .done .nil) .nil) .nil)) .nil)) (.alt 5 (.alt 1 (.alt 7 (.alt 14 (.alt 15 (.alt 16 .done .nil) .nil) .nil) (.alt 14 (.alt 7 (.alt 15 (.alt 16 .done .nil) .nil) .nil) .nil)) (.alt 14 (.take 1 [0,2,3,4,5,6,8,9,10,11,12,13,14] (.alt 7 (.alt 15 (.alt 16 .done .nil) .nil) .nil)) .nil)) (.alt 14 (.take 1 [0,2,3,4,5,6,8,9,10,11,12,13,14] (.take 5 [0,1,2,3,4,6,8,9,10,11,12,13,14] (.alt 7 (.alt 15 (.alt 16 .done .nil) .nil) .nil))) .nil))))) (.alt 14 (.take 1 [0,2,3,4,5,6,8,9,10,11,12,13,14] (.take 2 [0,1,6,8,9,10,11,12,13,14] (.take 3 [] (.take 4 [] (.take 5 [0,1,2,3,4,6,8,9,10,11,12,13,14] (.alt 7 (.alt 15 (.alt 16 .done .nil) .nil) .nil)))))) .nil))) (.alt 1 (.alt 0 (.alt 2 (.take 3 [] (.take 4 [] (.alt 5 (.alt 7 (.alt 14 (.alt 15 (.alt 16 .done .nil) .nil) .nil) (.alt 14 (.alt 7 (.alt 15 (.alt 16 .done .nil) .nil) .nil) .nil)) (.alt 14 (.take 5 [0,1,2,3,4,6,8,9,10,11,12,13,14] (.alt 7 (.alt 15 (.alt 16 .done .nil) .nil) .nil)) .nil)))) (.alt 14 (.take 2 [0,1,6,8,9,10,11,12,13,14] (.take 3 [] (.take 4 [] (.take 5 [0,1,2,3,4,6,8,9,10,11,12,13,14] (.alt 7 (.alt 15 (.alt 16 .done .nil) .nil) .nil))))) .nil)) (.alt 2 (.take 3 [] (.take 4 [] (.alt 0 (.alt 5 (.alt 7 (.alt 14 (.alt 15 (.alt 16 .done .nil) .nil) .nil) (.alt 14 (.alt 7 (.alt 15 (.alt 16 .done .nil) .nil) .nil) .nil)) (.alt 14 (.take 5 [0,1,2,3,4,6,8,9,10,11,12,13,14] (.alt 7 (.alt 15 (.alt 16 .done .nil) .nil) .nil)) .nil)) (.alt 5 (.alt 0 (.alt 7 (.alt 14 (.alt 15 (.alt 16 .done .nil) .nil) .nil) (.alt 14 (.alt 7 (.alt 15 (.alt 16 .done .nil) .nil) .nil) .nil)) (.alt 7 (.alt 0 (.alt 14 (.alt 15 (.alt 16 .done .nil) .nil) .nil) (.alt 14 (.take 0 [1,2,3,4,5,6,7,8,9,10,11,12,13,14,15] (.alt 15 (.alt 16 .done .nil) .nil)) .nil)) (.alt 14 (.take 0 [1,2,3,4,5,6,7,8,9,10,11,12,13,14,15] (.alt 7 (.alt 15 (.alt 16 .done .nil) .nil) .nil)) .nil))) (.alt 14 (.take 0 [1,2,3,4,5,6,7,8,9,10,11,12,13,14,15] (.take 5 [0,1,2,3,4,6,8,9,10,11,12,13,14] (.alt 7 (.alt 15 (.alt 16 .done .nil) .nil) .nil))) .nil))))) (.alt 14 (.take 0 [1,2,3,4,5,6,7,8,9,10,11,12,13,14,15] (.take 2 [0,1,6,8,9,10,11,12,13,14] (.take 3 [] (.take 4 [] (.take 5 [0,1,2,3,4,6,8,9,10,11,12,13,14] (.alt 7 (.alt 15 (.alt 16 .done .nil) .nil) .nil)))))) .nil))) (.alt 2 (.take 3 [] (.take 4 [] (.alt 0 (.alt 1 (.alt 5 (.alt 7 (.alt 14 (.alt 15 (.alt 16 .done .nil) .nil) .nil) (.alt 14 (.alt 7 (.alt 15 (.alt 16 .done .nil) .nil) .nil) .nil)) (.alt 14 (.take 5 [0,1,2,3,4,6,8,9,10,11,12,13,14] (.alt 7 (.alt 15 (.alt 16 .done .nil) .nil) .nil)) .nil)) (.alt 5 (.alt 1 (.alt 7 (.alt 14 (.alt 15 (.alt 16 .done .nil) .nil) .nil) (.alt 14 (.alt 7 (.alt 15 (.alt 16 .done .nil) .nil) .nil) .nil)) (.alt 14 (.take 1 [0,2,3,4,5,6,8,9,10,11,12,13,14] (.alt 7 (.alt 15 (.alt 16 .done .nil) .nil) .nil)) .nil)) (.alt 14 (.take 1 [0,2,3,4,5,6,8,9,10,11,12,13,14] (.take 5 [0,1,2,3,4,6,8,9,10,11,12,13,14] (.alt 7 (.alt 15 (.alt 16 .done .nil) .nil) .nil))) .nil))) (.alt 1 (.alt 0 (.alt 5 (.alt 7 (.alt 14 (.alt 15 (.alt 16 .done .nil) .nil) .nil) (.alt 14 (.alt 7 (.alt 15 (.alt 16 .done .nil) .nil) .nil) .nil)) (.alt 14 (.take 5 [0,1,2,3,4,6,8,9,10,11,12,13,14] (.alt 7 (.alt 15 (.alt 16 .done .nil) .nil) .nil)) .nil)) (.alt 5 (.alt 0 (.alt 7 (.alt 14 (.alt 15 (.alt 16 .done .nil) .nil) .nil) (.alt 14 (.alt 7 (.alt 15 (.alt 16 .done .nil) .nil) .nil) .nil)) (.alt 7 (.alt 0 (.alt 14 (.alt 15 (.alt 16 .done .nil) .nil) .nil) (.alt 14 (.take 0 [1,2,3,4,5,6,7,8,9,10,11,12,13,14,15] (.alt 15 (.alt 16 .done .nil) .nil)) .nil)) (.alt 14 (.take 0 [1,2,3,4,5,6,7,8,9,10,11,12,13,14,15] (.alt 7 (.alt 15 (.alt 16 .done .nil) .nil) .nil)) .nil))) (.alt 14 (.take 0 [1,2,3,4,5,6,7,8,9,10,11,12,13,14,15] (.take 5 [0,1,2,3,4,6,8,9,10,11,12,13,14] (.alt 7 (.alt 15 (.alt 16 .done .nil) .nil) .nil))) .nil))) (.alt 5 (.alt 0 (.alt 1 (.alt 7 (.alt 14 (.alt 15 (.alt 16 .done .nil) .nil) .nil) (.alt 14 (.alt 7 (.alt 15 (.alt 16 .done .nil) .nil) .nil) .nil)) (.alt 14 (.take 1 [0,2,3,4,5,6,8,9,10,11,12,13,14] (.alt 7 (.alt 15 (.alt 16 .done .nil) .nil) .nil)) .nil)) (.alt 1 (.alt 0 (.alt 7 (.alt 14 (.alt 15 (.alt 16 .done .nil) .nil) .nil) (.alt 14 (.alt 7 (.alt 15 (.alt 16 .done .nil) .nil) .nil) .nil)) (.alt 7 (.alt 0 (.alt 14 (.alt 15 (.alt 16 .done .nil) .nil) .nil) (.alt 14 (.take 0 [1,2,3,4,5,6,7,8,9,10,11,12,13,14,15] (.alt 15 (.alt 16 .done .nil) .nil)) .nil)) (.alt 14 (.take 0 [1,2,3,4,5,6,7,8,9,10,11,12,13,14,15] (.alt 7 (.alt 15 (.alt 16 .done .nil) .nil) .nil)) .nil))) (.alt 14 (.take 0 [1,2,3,4,5,6,7,8,9,10,11,12,13,14,15] (.take 1 [0,2,3,4,5,6,8,9,10,11,12,13,14] (.alt 7 (.alt 15 (.alt 16 .done .nil) .nil) .nil))) .nil))) (.alt 14 (.take 0 [1,2,3,4,5,6,7,8,9,10,11,12,13,14,15] (.take 1 [0,2,3,4,5,6,8,9,10,11,12,13,14] (.take 5 [0,1,2,3,4,6,8,9,10,11,12,13,14] (.alt 7 (.alt 15 (.alt 16 .done .nil) .nil) .nil)))) .nil)))))) (.alt 14 (.take 0 [1,2,3,4,5,6,7,8,9,10,11,12,13,14,15] (.take 1 [0,2,3,4,5,6,8,9,10,11,12,13,14] (.take 2 [0,1,6,8,9,10,11,12,13,14] (.take 3 [] (.take 4 [] (.take 5 [0,1,2,3,4,6,8,9,10,11,12,13,14] (.alt 7 (.alt 15 (.alt 16 .done .nil) .nil) .nil))))))) .nil))))))))))))],bV:=[]}
theorem e:aW Pg C Q Tryz.f145 0 id st v o tree:=fun J K x=>by cases x<;>kernel_rfl
theorem b (a0:List aC) (a1 a2:List Int) (a3:Int):aX Pg C Q Tryz.f145 0 id st v o (S a0 a1 a2 a3) (begin a0 a1 a2 a3):=fun J K=>by kernel_rfl
def told (a0:List aC) (a1 a2:List Int) (a3:Int):aa.Told A:=⟨f a0 a1 a2 a3,fun r=>al Pg C 145 (S a0 a1 a2 a3) 0 (v r) (o r),fun r h=>ah G mixed Q Tryz.func145 rfl (of_decide_eq_true (by kernel_rfl)) (by rfl) id st v o (fun _=>rfl) tree e (begin a0 a1 a2 a3) (b a0 a1 a2 a3) h⟩
end dH
namespace aJ
def S (a0 a1 a2:Int):List (PV U):=aa.start C 11 [.agg [.int .i64 a0,.int .i64 a1,.int .i64 a2]] []
abbrev X:=Empty
def id:X→Nat:=fun _=>0
def st:X→List (PV U):=fun _=>[]
def begin (a0 a1 a2:Int):Tr X A:=
 .ite (decide (a1=(-1:Int)))
  (.ret ((decide (a0=(5:Int)))))
  (.ret false)
def tree:X→Tr X A:=fun _=> .fail
def f (a0 a1 a2:Int):Option A:=(begin a0 a1 a2).run (lp tree)
def Q:bA C:={PL with cb:=[],ca:=[],bV:=[]}
theorem e:aW Pg C Q Tryz.f146 0 id st v o tree:=fun J K x=>by cases x
theorem b (a0 a1 a2:Int):aX Pg C Q Tryz.f146 0 id st v o (S a0 a1 a2) (begin a0 a1 a2):=fun J K=>by kernel_rfl
def told (a0 a1 a2:Int):aa.Told A:=⟨f a0 a1 a2,fun r=>al Pg C 146 (S a0 a1 a2) 0 (v r) (o r),fun r h=>ah G mixed Q Tryz.func146 rfl (of_decide_eq_true (by kernel_rfl)) (by rfl) id st v o (fun _=>rfl) tree e (begin a0 a1 a2) (b a0 a1 a2) h⟩
end aJ
namespace aM
def S (a0:List aC) (a1 a2:List Int) (a3:Int) (a4:List (List Int)) (a5:Int):List (PV U):=aa.start C 66 [.ptr 66 0,.agg [.sl 164 a0],.sl 3 a1] [.box [.own true 3 a2,.int .i64 a3,.own true 27 a4,.int .i64 a5]]
inductive X where
 | c3 (x0:List aN) (x1:List Int) (x2 x3:Int) (x4:List Int) (x5:Int) (x6:List (List Int)) (x7:Int)
def id:X→Nat
 | .c3 .. =>3
def st:X→List (PV U)
 | .c3 x0 x1 x2 x3 x4 x5 x6 x7=>iC 67 [(0,.ptr 66 0),(7,.box [.own true 179 x0,.own true 3 x1]),(22,.nj (7,[0])),(23,.int .i64 x2),(24,.int .i64 x3),(66,.box [.own true 3 x4,.int .i64 x5,.own true 27 x6,.int .i64 x7])]
def begin (a0:List aC) (a1 a2:List Int) (a3:Int) (a4:List (List Int)) (a5:Int):Tr X A:=
 .both (.call (dH.told a0 a2 a1 a3) fun t1=> .last (.last (.jump (.c3 t1.1 t1.2 (List.length t1.1:Int) (0:Int) a2 a3 a4 a5))))
  (.last (.last (.call (dH.told a0 a2 a1 a3) fun t1=> .last (.jump (.c3 t1.1 t1.2 (List.length t1.1:Int) (0:Int) a2 a3 a4 a5)))))
def tree:X→Tr X A
 | .c3 x0 x1 x2 x3 x4 x5 x6 x7=>
 let u0_0:Tr X A:=(.last (.last (.bH (((List.length x6:Int)+(List.length ([x1]):Int))*(24:Nat)≤room) (.last (.ret (true,x4,x5,(x6++[x1]),x7)))))); .ite (decide (x3<x2))
  (.bH ((0:Int)≤x3∧x3<(List.length x0:Int)) (.call (aO.told ((kH x0 x3).f0) x4 x5 x6 x7) fun t1=> .ite (!t1.1)
   (.ret (false,t1.2.1,t1.2.2.1,t1.2.2.2.1,t1.2.2.2.2))
   (.call (aJ.told ((kH x0 x3).f0) ((kH x0 x3).f1) ((kH x0 x3).f2)) fun t2=> .ite t2
    (.ite (!decide ((kH x0 x3).f1=(-1:Int)))
     (.bH ((0:Int)≤(kH x0 x3).f1∧(kH x0 x3).f1<(List.length t1.2.1:Int)) (.last (.jump (.c3 x0 x1 x2 (wr (x3+(1:Int))) (List.set t1.2.1 (Int.toNat ((kH x0 x3).f1)) ((kH x0 x3).f2)) (wr (t1.2.2.1+(1:Int))) t1.2.2.2.1 t1.2.2.2.2))))
     (.jump (.c3 x0 x1 x2 (wr (x3+(1:Int))) t1.2.1 (wr (t1.2.2.1+(1:Int))) t1.2.2.2.1 t1.2.2.2.2)))
    (.ite (!decide ((kH x0 x3).f1=(-1:Int)))
     (.bH ((0:Int)≤(kH x0 x3).f1∧(kH x0 x3).f1<(List.length t1.2.1:Int)) (.last (.jump (.c3 x0 x1 x2 (wr (x3+(1:Int))) (List.set t1.2.1 (Int.toNat ((kH x0 x3).f1)) ((kH x0 x3).f2)) t1.2.2.1 t1.2.2.2.1 t1.2.2.2.2))))
     (.jump (.c3 x0 x1 x2 (wr (x3+(1:Int))) t1.2.1 t1.2.2.1 t1.2.2.2.1 t1.2.2.2.2))))))
  (.both (u0_0)
   (u0_0))
def f (a0:List aC) (a1 a2:List Int) (a3:Int) (a4:List (List Int)) (a5:Int):Option A:=(begin a0 a1 a2 a3 a4 a5).run (lp tree)
def Q:bA C:={PL with cb:=[(3,[0,7,22,23,24,66])],ca:=[(1,[12],(.take 1 [] (.take 2 [] (.take 3 [] (.take 5 [] (.take 6 [] (.take 7 [] (.take 8 [] (.take 0 [1,2,3,4,5,6,7,8,9,11] (.take 4 [0,1,2,3,5,6,7,8,9,11] (.take 9 [0,1,2,3,4,5,6,7,8,11] (.alt 10 (.alt 11 (.alt 12 .done .nil) .nil) (.alt 11 (.alt 10 (.alt 12 .done .nil) .nil) .nil))))))))))))),(10,[9],(.take 0 [] (.take 1 [] (.take 2 [] (.take 4 [] (.take 6 [] (.take 3 [0,1,2,4,5,6,7] (.take 5 [0,1,2,3,4,6,7] (.take 7 [0,1,2,3,4,5,6] (.take 8 [] (.alt 9 .done .nil))))))))))),(12,[7,8,11],(.take 0 [] (.take 1 [] (.take 2 [] (.take 3 [] (.take 5 [] (.take 6 [0,1,2,3,4,5] (.alt 4 (.alt 7 (.alt 8 (.take 9 [] (.take 10 [] (.alt 11 .done .nil))) .nil) .nil) (.alt 7 (.take 4 [0,1,2,3,5,6,7] (.alt 8 (.take 9 [] (.take 10 [] (.alt 11 .done .nil))) .nil)) .nil)))))))))],bV:=[]}
theorem e:aW Pg C Q Tryz.f100 1 id st v o tree:=fun J K x=>by cases x<;>kernel_rfl
theorem b (a0:List aC) (a1 a2:List Int) (a3:Int) (a4:List (List Int)) (a5:Int):aX Pg C Q Tryz.f100 1 id st v o (S a0 a1 a2 a3 a4 a5) (begin a0 a1 a2 a3 a4 a5):=fun J K=>by kernel_rfl
def told (a0:List aC) (a1 a2:List Int) (a3:Int) (a4:List (List Int)) (a5:Int):aa.Told A:=⟨f a0 a1 a2 a3 a4 a5,fun r=>al Pg C 100 (S a0 a1 a2 a3 a4 a5) 1 (v r) (o r),fun r h=>ah G mixed Q Tryz.func100 rfl (of_decide_eq_true (by kernel_rfl)) (by rfl) id st v o (fun _=>rfl) tree e (begin a0 a1 a2 a3 a4 a5) (b a0 a1 a2 a3 a4 a5) h⟩
end aM
namespace eS
def S (a0:List aC) (a1 a2:List Int) (a3 a4:Int):List (PV U):=aa.start C 30 [.agg [.sl 164 a0],.sl 3 a1,.sl 3 a2,.int .i64 a3,.int .i64 a4] []
inductive X where
 | c4 (x0:List Int) (x1:List aC) (x2:List Int) (x3:Int) (x4:List (List Int)) (x5:Int) (x6:List Int) (x7:Int) (x8:List (List Int)) (x9:Int)
def id:X→Nat
 | .c4 .. =>4
def st:X→List (PV U)
 | .c4 x0 x1 x2 x3 x4 x5 x6 x7 x8 x9=>iC 30 [(2,.sl 3 x0),(5,.box [.sl 164 x1]),(10,.box [.own true 3 x2,.int .i64 x3,.own true 27 x4,.int .i64 x5]),(11,.box [.own true 3 x6,.int .i64 x7,.own true 27 x8,.int .i64 x9])]
def begin (a0:List aC) (a1 a2:List Int) (a3 a4:Int):Tr X A:=
 .call (aT.told a1) fun t1=> .call (aH.told t1 a3 ([]:List (List Int)) a4) fun t2=> .ite (!t2.1)
  (.ret (t2.2.1,t2.2.2.1,t2.2.2.2.1,t2.2.2.2.2))
  (.jump (.c4 a2 a0 ([]:List Int) (0:Int) ([]:List (List Int)) (0:Int) t2.2.1 t2.2.2.1 t2.2.2.2.1 t2.2.2.2.2))
def tree:X→Tr X A
 | .c4 x0 x1 x2 x3 x4 x5 x6 x7 x8 x9=>
 .ite (decide ((List.length x8:Int)<(10:Int)))
  (.call (aM.told x1 x0 x6 x7 x8 x9) fun t1=> .ite t1.1
   (.jump (.c4 x0 x1 x2 x3 x4 x5 t1.2.1 t1.2.2.1 t1.2.2.2.1 t1.2.2.2.2))
   (.ret (t1.2.1,t1.2.2.1,t1.2.2.2.1,t1.2.2.2.2)))
  (.ret (x6,x7,x8,x9))
def f (a0:List aC) (a1 a2:List Int) (a3 a4:Int):Option A:=(begin a0 a1 a2 a3 a4).run (lp tree)
def Q:bA C:={PL with cb:=[(4,[2,5,10,11])],ca:=[],bV:=[]}
theorem e:aW Pg C Q Tryz.f45 0 id st v o tree:=fun J K x=>by cases x<;>kernel_rfl
theorem b (a0:List aC) (a1 a2:List Int) (a3 a4:Int):aX Pg C Q Tryz.f45 0 id st v o (S a0 a1 a2 a3 a4) (begin a0 a1 a2 a3 a4):=fun J K=>by kernel_rfl
def told (a0:List aC) (a1 a2:List Int) (a3 a4:Int):aa.Told A:=⟨f a0 a1 a2 a3 a4,fun r=>al Pg C 45 (S a0 a1 a2 a3 a4) 0 (v r) (o r),fun r h=>ah G mixed Q Tryz.func45 rfl (of_decide_eq_true (by kernel_rfl)) (by rfl) id st v o (fun _=>rfl) tree e (begin a0 a1 a2 a3 a4) (b a0 a1 a2 a3 a4) h⟩
end eS
namespace bx
def S (a0:List aC) (a1 a2:List Int) (a3 a4 a5 a6 a7 a8 a9 a10:Int) (a11:List Int) (a12 a13:Int):List (PV U):=aa.start C 66 [.agg [.sl 164 a0,.sl 3 a1,.sl 3 a2,.int .i64 a3,.int .i64 a4,.int .i64 a5,.int .i64 a6,.int .i64 a7,.int .i64 a8,.int .i64 a9,.int .i64 a10,.sl 3 a11,.int .i64 a12],.int .i64 a13] []
inductive X where
 | c9 (x0:List aC) (x1 x2:List Int) (x3 x4 x5 x6 x7 x8 x9 x10:Int) (x11:List Int) (x12:Int) (x13:List aC) (x14 x15:List Int) (x16 x17 x18 x19 x20 x21 x22 x23:Int) (x24:List Int) (x25:Int) (x26:List aC) (x27 x28:List Int) (x29 x30 x31 x32 x33 x34 x35 x36:Int) (x37:List Int) (x38:Int)
def id:X→Nat
 | .c9 .. =>9
def st:X→List (PV U)
 | .c9 x0 x1 x2 x3 x4 x5 x6 x7 x8 x9 x10 x11 x12 x13 x14 x15 x16 x17 x18 x19 x20 x21 x22 x23 x24 x25 x26 x27 x28 x29 x30 x31 x32 x33 x34 x35 x36 x37 x38=>iC 66 [(2,.box [.sl 164 x0,.sl 3 x1,.sl 3 x2,.int .i64 x3,.int .i64 x4,.int .i64 x5,.int .i64 x6,.int .i64 x7,.int .i64 x8,.int .i64 x9,.int .i64 x10,.sl 3 x11,.int .i64 x12]),(4,.box [.own true 164 x13,.own true 3 x14,.own true 3 x15,.int .i64 x16,.int .i64 x17,.int .i64 x18,.int .i64 x19,.int .i64 x20,.int .i64 x21,.int .i64 x22,.int .i64 x23,.own true 3 x24,.int .i64 x25]),(6,.box [.own true 164 x26,.own true 3 x27,.own true 3 x28,.int .i64 x29,.int .i64 x30,.int .i64 x31,.int .i64 x32,.int .i64 x33,.int .i64 x34,.int .i64 x35,.int .i64 x36,.own true 3 x37,.int .i64 x38])]
def begin (a0:List aC) (a1 a2:List Int) (a3 a4 a5 a6 a7 a8 a9 a10:Int) (a11:List Int) (a12 a13:Int):Tr X A:=
 .call (bh.told a0 a1 a2 a3 a4 a5 a6 a7 a8 a9 a10 a11 a12) fun t1=> .call (bF.told a0 a1 a2 a3 a4 a5 a6 a7 a8 a9 a10 a11 a12) fun t2=> .ite (!t2)
  (.ret (t1.1,t1.2.1,t1.2.2.1,t1.2.2.2.1,t1.2.2.2.2.1,t1.2.2.2.2.2.1,t1.2.2.2.2.2.2.1,t1.2.2.2.2.2.2.2.1,t1.2.2.2.2.2.2.2.2.1,t1.2.2.2.2.2.2.2.2.2.1,t1.2.2.2.2.2.2.2.2.2.2.1,t1.2.2.2.2.2.2.2.2.2.2.2.1,t1.2.2.2.2.2.2.2.2.2.2.2.2,false))
  (.call (ba.told a13) fun t3=> .ite (!t3)
   (.ret (t1.1,t1.2.1,t1.2.2.1,t1.2.2.2.1,t1.2.2.2.2.1,t1.2.2.2.2.2.1,t1.2.2.2.2.2.2.1,t1.2.2.2.2.2.2.2.1,t1.2.2.2.2.2.2.2.2.1,t1.2.2.2.2.2.2.2.2.2.1,t1.2.2.2.2.2.2.2.2.2.2.1,t1.2.2.2.2.2.2.2.2.2.2.2.1,t1.2.2.2.2.2.2.2.2.2.2.2.2,false))
   (.call (dF.told a13 t1.1 t1.2.1 t1.2.2.1 t1.2.2.2.1 t1.2.2.2.2.1 t1.2.2.2.2.2.1 t1.2.2.2.2.2.2.1 t1.2.2.2.2.2.2.2.1 t1.2.2.2.2.2.2.2.2.1 t1.2.2.2.2.2.2.2.2.2.1 t1.2.2.2.2.2.2.2.2.2.2.1 t1.2.2.2.2.2.2.2.2.2.2.2.1 t1.2.2.2.2.2.2.2.2.2.2.2.2) fun t4=> .call (gD.told a8 a9 (1:Int)) fun t5=> .ite (decide (t4.2.2.2.2.1≥t4.2.2.2.2.2.2.1))
    (.call (eS.told a0 a1 a2 a3 t4.2.2.2.2.1) fun t6=>let u6_0:Tr X A:=(.last (.last (.last (.jump (.c9 a0 a1 a2 a3 a4 a5 a6 a7 a8 a9 a10 a11 a12 ([]:List aC) ([]:List Int) ([]:List Int) (0:Int) (0:Int) (0:Int) (0:Int) (0:Int) (0:Int) (0:Int) (0:Int) ([]:List Int) (0:Int) t4.1 t6.1 t4.2.2.1 t6.2.1 (0:Int) t4.2.2.2.2.2.1 t4.2.2.2.2.2.2.1 t4.2.2.2.2.2.2.2.1 t5.1 t5.2 t4.2.2.2.2.2.2.2.2.2.2.1 t4.2.2.2.2.2.2.2.2.2.2.2.1 (wr (a12+(List.length t6.2.2.1:Int))))))));let u6_1:Tr X A:=(.last (u6_0));let u6_2:Tr X A:=(.both (u6_0) (u6_0));let u6_3:Tr X A:=(.last (u6_2));let u6_4:Tr X A:=(.both (u6_1) (u6_3));let u6_5:Tr X A:=(.last (.both (u6_2) (.both (u6_2) (u6_0))));let u6_6:Tr X A:=(.both (u6_4) (.both (.both (u6_1) (u6_1)) (u6_3))); .both (.both (u6_4)
      (.both (u6_4)
       (u6_5)))
     (.both (u6_6)
      (.both (u6_6)
       (u6_5))))
    (.jump (.c9 a0 a1 a2 a3 a4 a5 a6 a7 a8 a9 a10 a11 a12 ([]:List aC) ([]:List Int) ([]:List Int) (0:Int) (0:Int) (0:Int) (0:Int) (0:Int) (0:Int) (0:Int) (0:Int) ([]:List Int) (0:Int) t4.1 t4.2.1 t4.2.2.1 t4.2.2.2.1 t4.2.2.2.2.1 t4.2.2.2.2.2.1 t4.2.2.2.2.2.2.1 t4.2.2.2.2.2.2.2.1 t5.1 t5.2 t4.2.2.2.2.2.2.2.2.2.2.1 t4.2.2.2.2.2.2.2.2.2.2.2.1 t4.2.2.2.2.2.2.2.2.2.2.2.2))))
def tree:X→Tr X A
 | .c9 x0 x1 x2 x3 x4 x5 x6 x7 x8 x9 x10 x11 x12 x13 x14 x15 x16 x17 x18 x19 x20 x21 x22 x23 x24 x25 x26 x27 x28 x29 x30 x31 x32 x33 x34 x35 x36 x37 x38=>
 .call (bF.told x26 x27 x28 x29 x30 x31 x32 x33 x34 x35 x36 x37 x38) fun t1=> .ite (!t1)
  (.call (bh.told x0 x1 x2 x3 x4 x5 x6 x7 x8 x9 x10 x11 x12) fun t2=> .ret (t2.1,t2.2.1,t2.2.2.1,t2.2.2.2.1,t2.2.2.2.2.1,t2.2.2.2.2.2.1,t2.2.2.2.2.2.2.1,t2.2.2.2.2.2.2.2.1,t2.2.2.2.2.2.2.2.2.1,t2.2.2.2.2.2.2.2.2.2.1,t2.2.2.2.2.2.2.2.2.2.2.1,t2.2.2.2.2.2.2.2.2.2.2.2.1,t2.2.2.2.2.2.2.2.2.2.2.2.2,false))
  (.ret (x26,x27,x28,x29,x30,x31,x32,x33,x34,x35,x36,x37,x38,true))
def f (a0:List aC) (a1 a2:List Int) (a3 a4 a5 a6 a7 a8 a9 a10:Int) (a11:List Int) (a12 a13:Int):Option A:=(begin a0 a1 a2 a3 a4 a5 a6 a7 a8 a9 a10 a11 a12 a13).run (lp tree)
def Q:bA C:={PL with cb:=[(9,[2,4,6])],ca:=[(8,[11,13,15,18],(.take 0 [] (.take 2 [] (.take 4 [] (.take 6 [] (.take 1 [0,2,3,4,5,6,7,8,9] (.take 10 [] (.alt 3 (.alt 5 (.alt 7 (.take 8 [] (.take 9 [] (.alt 11 (.take 12 [] (.alt 13 (.take 14 [] (.alt 15 (.take 16 [] (.take 17 [] (.alt 18 .done .nil))) .nil)) .nil)) .nil))) (.alt 11 (.take 12 [] (.alt 7 (.take 8 [] (.take 9 [] (.alt 13 (.take 14 [] (.alt 15 (.take 16 [] (.take 17 [] (.alt 18 .done .nil))) .nil)) .nil))) (.alt 13 (.take 7 [0,1,2,3,4,5,6,10,11,12,13] (.take 8 [] (.take 9 [] (.take 14 [] (.alt 15 (.take 16 [] (.take 17 [] (.alt 18 .done .nil))) .nil))))) .nil))) .nil)) (.alt 7 (.take 8 [] (.alt 5 (.take 9 [] (.alt 11 (.take 12 [] (.alt 13 (.take 14 [] (.alt 15 (.take 16 [] (.take 17 [] (.alt 18 .done .nil))) .nil)) .nil)) .nil)) (.alt 11 (.take 12 [] (.alt 5 (.take 9 [] (.alt 13 (.take 14 [] (.alt 15 (.take 16 [] (.take 17 [] (.alt 18 .done .nil))) .nil)) .nil)) (.alt 13 (.take 5 [0,1,2,3,4,6,7,8,10,11,12,13] (.take 9 [] (.take 14 [] (.alt 15 (.take 16 [] (.take 17 [] (.alt 18 .done .nil))) .nil)))) .nil))) .nil))) (.alt 11 (.take 12 [] (.alt 5 (.alt 7 (.take 8 [] (.take 9 [] (.alt 13 (.take 14 [] (.alt 15 (.take 16 [] (.take 17 [] (.alt 18 .done .nil))) .nil)) .nil))) (.alt 13 (.take 7 [0,1,2,3,4,5,6,10,11,12,13] (.take 8 [] (.take 9 [] (.take 14 [] (.alt 15 (.take 16 [] (.take 17 [] (.alt 18 .done .nil))) .nil))))) .nil)) (.alt 7 (.take 8 [] (.alt 5 (.take 9 [] (.alt 13 (.take 14 [] (.alt 15 (.take 16 [] (.take 17 [] (.alt 18 .done .nil))) .nil)) .nil)) (.alt 13 (.take 5 [0,1,2,3,4,6,7,8,10,11,12,13] (.take 9 [] (.take 14 [] (.alt 15 (.take 16 [] (.take 17 [] (.alt 18 .done .nil))) .nil)))) .nil))) (.alt 13 (.take 5 [0,1,2,3,4,6,7,8,10,11,12,13] (.take 7 [0,1,2,3,4,5,6,10,11,12,13] (.take 8 [] (.take 9 [] (.take 14 [] (.alt 15 (.take 16 [] (.take 17 [] (.alt 18 .done .nil))) .nil)))))) .nil)))) .nil))) (.alt 5 (.alt 3 (.alt 7 (.take 8 [] (.take 9 [] (.alt 11 (.take 12 [] (.alt 13 (.take 14 [] (.alt 15 (.take 16 [] (.take 17 [] (.alt 18 .done .nil))) .nil)) .nil)) .nil))) (.alt 11 (.take 12 [] (.alt 7 (.take 8 [] (.take 9 [] (.alt 13 (.take 14 [] (.alt 15 (.take 16 [] (.take 17 [] (.alt 18 .done .nil))) .nil)) .nil))) (.alt 13 (.take 7 [0,1,2,3,4,5,6,10,11,12,13] (.take 8 [] (.take 9 [] (.take 14 [] (.alt 15 (.take 16 [] (.take 17 [] (.alt 18 .done .nil))) .nil))))) .nil))) .nil)) (.alt 7 (.take 8 [] (.take 9 [] (.alt 3 (.alt 11 (.take 12 [] (.alt 13 (.take 14 [] (.alt 15 (.take 16 [] (.take 17 [] (.alt 18 .done .nil))) .nil)) .nil)) .nil) (.alt 11 (.take 3 [0,1,2,4,5,6,7,8,9,10,11] (.take 12 [] (.alt 13 (.take 14 [] (.alt 15 (.take 16 [] (.take 17 [] (.alt 18 .done .nil))) .nil)) .nil))) .nil)))) (.alt 11 (.take 3 [0,1,2,4,5,6,7,8,9,10,11] (.take 12 [] (.alt 7 (.take 8 [] (.take 9 [] (.alt 13 (.take 14 [] (.alt 15 (.take 16 [] (.take 17 [] (.alt 18 .done .nil))) .nil)) .nil))) (.alt 13 (.take 7 [0,1,2,3,4,5,6,10,11,12,13] (.take 8 [] (.take 9 [] (.take 14 [] (.alt 15 (.take 16 [] (.take 17 [] (.alt 18 .done .nil))) .nil))))) .nil)))) .nil))) (.alt 7 (.take 8 [] (.alt 3 (.alt 5 (.take 9 [] (.alt 11 (.take 12 [] (.alt 13 (.take 14 [] (.alt 15 (.take 16 [] (.take 17 [] (.alt 18 .done .nil))) .nil)) .nil)) .nil)) (.alt 11 (.take 12 [] (.alt 5 (.take 9 [] (.alt 13 (.take 14 [] (.alt 15 (.take 16 [] (.take 17 [] (.alt 18 .done .nil))) .nil)) .nil)) (.alt 13 (.take 5 [0,1,2,3,4,6,7,8,10,11,12,13] (.take 9 [] (.take 14 [] (.alt 15 (.take 16 [] (.take 17 [] (.alt 18 .done .nil))) .nil)))) .nil))) .nil)) (.alt 5 (.take 9 [] (.alt 3 (.alt 11 (.take 12 [] (.alt 13 (.take 14 [] (.alt 15 (.take 16 [] (.take 17 [] (.alt 18 .done .nil))) .nil)) .nil)) .nil) (.alt 11 (.take 3 [0,1,2,4,5,6,7,8,9,10,11] (.take 12 [] (.alt 13 (.take 14 [] (.alt 15 (.take 16 [] (.take 17 [] (.alt 18 .done .nil))) .nil)) .nil))) .nil))) (.alt 11 (.take 3 [0,1,2,4,5,6,7,8,9,10,11] (.take 12 [] (.alt 5 (.take 9 [] (.alt 13 (.take 14 [] (.alt 15 (.take 16 [] (.take 17 [] (.alt 18 .done .nil))) .nil)) .nil)) (.alt 13 (.take 5 [0,1,2,3,4,6,7,8,10,11,12,13] (.take 9 [] (.take 14 [] (.alt 15 (.take 16 [] (.take 17 [] (.alt 18 .done .nil))) .nil)))) .nil)))) .nil)))) (.alt 11 (.take 3 [0,1,2,4,5,6,7,8,9,10,11] (.take 12 [] (.alt 5 (.alt 7 (.take 8 [] (.take 9 [] (.alt 13 (.take 14 [] (.alt 15 (.take 16 [] (.take 17 [] (.alt 18 .done .nil))) .nil)) .nil))) (.alt 13 (.take 7 [0,1,2,3,4,5,6,10,11,12,13] (.take 8 [] (.take 9 [] (.take 14 [] (.alt 15 (.take 16 [] (.take 17 [] (.alt 18 .done .nil))) .nil))))) .nil)) (.alt 7 (.take 8 [] (.alt 5 (.take 9 [] (.alt 13 (.take 14 [] (.alt 15 (.take 16 [] (.take 17 [] (.alt 18 .done .nil))) .nil)) .nil)) (.alt 13 (.take 5 [0,1,2,3,4,6,7,8,10,11,12,13] (.take 9 [] (.take 14 [] (.alt 15 (.take 16 [] (.take 17 [] (.alt 18 .done .nil))) .nil)))) .nil))) (.alt 13 (.take 5 [0,1,2,3,4,6,7,8,10,11,12,13] (.take 7 [0,1,2,3,4,5,6,10,11,12,13] (.take 8 [] (.take 9 [] (.take 14 [] (.alt 15 (.take 16 [] (.take 17 [] (.alt 18 .done .nil))) .nil)))))) .nil))))) .nil)))))))))))],bV:=[]}
theorem e:aW Pg C Q Tryz.f11 0 id st v o tree:=fun J K x=>by cases x<;>kernel_rfl
theorem b (a0:List aC) (a1 a2:List Int) (a3 a4 a5 a6 a7 a8 a9 a10:Int) (a11:List Int) (a12 a13:Int):aX Pg C Q Tryz.f11 0 id st v o (S a0 a1 a2 a3 a4 a5 a6 a7 a8 a9 a10 a11 a12 a13) (begin a0 a1 a2 a3 a4 a5 a6 a7 a8 a9 a10 a11 a12 a13):=fun J K=>by kernel_rfl
def told (a0:List aC) (a1 a2:List Int) (a3 a4 a5 a6 a7 a8 a9 a10:Int) (a11:List Int) (a12 a13:Int):aa.Told A:=⟨f a0 a1 a2 a3 a4 a5 a6 a7 a8 a9 a10 a11 a12 a13,fun r=>al Pg C 11 (S a0 a1 a2 a3 a4 a5 a6 a7 a8 a9 a10 a11 a12 a13) 0 (v r) (o r),fun r h=>ah G mixed Q Tryz.func11 rfl (of_decide_eq_true (by kernel_rfl)) (by rfl) id st v o (fun _=>rfl) tree e (begin a0 a1 a2 a3 a4 a5 a6 a7 a8 a9 a10 a11 a12 a13) (b a0 a1 a2 a3 a4 a5 a6 a7 a8 a9 a10 a11 a12 a13) h⟩
end bx
namespace dN
def S (a0 a1:Int):List (PV U):=aa.start C 11 [.agg [.int .i64 a0,.int .i64 a1]] []
abbrev X:=Empty
def id:X→Nat:=fun _=>0
def st:X→List (PV U):=fun _=>[]
def begin (a0 a1:Int):Tr X A:=
 .call (ck.told a0 a1) fun t1=> .ite (!t1)
  (.ret ((-1:Int)))
  (.ret ((wr (a1-a0))))
def tree:X→Tr X A:=fun _=> .fail
def f (a0 a1:Int):Option A:=(begin a0 a1).run (lp tree)
def Q:bA C:={PL with cb:=[],ca:=[],bV:=[]}
theorem e:aW Pg C Q Tryz.f133 0 id st v o tree:=fun J K x=>by cases x
theorem b (a0 a1:Int):aX Pg C Q Tryz.f133 0 id st v o (S a0 a1) (begin a0 a1):=fun J K=>by kernel_rfl
def told (a0 a1:Int):aa.Told A:=⟨f a0 a1,fun r=>al Pg C 133 (S a0 a1) 0 (v r) (o r),fun r h=>ah G mixed Q Tryz.func133 rfl (of_decide_eq_true (by kernel_rfl)) (by rfl) id st v o (fun _=>rfl) tree e (begin a0 a1) (b a0 a1) h⟩
end dN
namespace jO
def S (a0 a1:Int):List (PV U):=aa.start C 51 [.int .u64 a0,.int .u64 a1] []
abbrev X:=Empty
def id:X→Nat:=fun _=>0
def st:X→List (PV U):=fun _=>[]
def begin (a0 a1:Int):Tr X A:=
 .bH ((0:Int)≤(32:Int)) (.bH ((0:Int)≤(32:Int)) (.val ((IntKind.wrap .u64 ((pf .u64 a0 (4294967295:Int))*(pf .u64 a1 (4294967295:Int)))):Int) fun v1=> .bH ((0:Int)≤(32:Int)) (.val ((IntKind.wrap .u64 ((IntKind.wrap .u64 ((shiftDown .u64 a0 (32:Int))*(pf .u64 a1 (4294967295:Int))))+(shiftDown .u64 v1 (32:Int)))):Int) fun v2=> .bH ((0:Int)≤(32:Int)) (.val ((IntKind.wrap .u64 ((pf .u64 v2 (4294967295:Int))+(IntKind.wrap .u64 ((pf .u64 a0 (4294967295:Int))*(shiftDown .u64 a1 (32:Int)))))):Int) fun v3=> .val ((IntKind.wrap .u64 ((IntKind.wrap .u64 ((shiftDown .u64 a0 (32:Int))*(shiftDown .u64 a1 (32:Int))))+(shiftDown .u64 v2 (32:Int)))):Int) fun v4=> .bH ((0:Int)≤(32:Int)) (.ret ((IntKind.wrap .u64 (v4+(shiftDown .u64 v3 (32:Int)))),(IntKind.wrap .u64 (a0*a1))))))))
def tree:X→Tr X A:=fun _=> .fail
def f (a0 a1:Int):Option A:=(begin a0 a1).run (lp tree)
def Q:bA C:={PL with cb:=[],ca:=[],bV:=[]}
theorem e:aW Pg C Q Tryz.f205 0 id st v o tree:=fun J K x=>by cases x
theorem b (a0 a1:Int):aX Pg C Q Tryz.f205 0 id st v o (S a0 a1) (begin a0 a1):=fun J K=>by kernel_rfl
def told (a0 a1:Int):aa.Told A:=⟨f a0 a1,fun r=>al Pg C 205 (S a0 a1) 0 (v r) (o r),fun r h=>ah G mixed Q Tryz.func205 rfl (of_decide_eq_true (by kernel_rfl)) (by rfl) id st v o (fun _=>rfl) tree e (begin a0 a1) (b a0 a1) h⟩
end jO
namespace jn
def S (a0 a1:Int):List (PV U):=aa.start C 30 [.int .u64 a0,.int .u64 a1] []
abbrev X:=Empty
def id:X→Nat:=fun _=>0
def st:X→List (PV U):=fun _=>[]
def begin (a0 a1:Int):Tr X A:=
 .call (jO.told a0 a1) fun t1=> .ret (t1.1,t1.2)
def tree:X→Tr X A:=fun _=> .fail
def f (a0 a1:Int):Option A:=(begin a0 a1).run (lp tree)
def Q:bA C:={PL with cb:=[],ca:=[],bV:=[]}
theorem e:aW Pg C Q Tryz.f169 0 id st v o tree:=fun J K x=>by cases x
theorem b (a0 a1:Int):aX Pg C Q Tryz.f169 0 id st v o (S a0 a1) (begin a0 a1):=fun J K=>by kernel_rfl
def told (a0 a1:Int):aa.Told A:=⟨f a0 a1,fun r=>al Pg C 169 (S a0 a1) 0 (v r) (o r),fun r h=>ah G mixed Q Tryz.func169 rfl (of_decide_eq_true (by kernel_rfl)) (by rfl) id st v o (fun _=>rfl) tree e (begin a0 a1) (b a0 a1) h⟩
end jn
namespace bt
def S (a0:List Bool) (a1:Int):List (PV U):=aa.start C 48 [.sl 4 a0,.int .i64 a1] []
inductive X where
 | c8 (x0:List Bool) (x1:Int)
def id:X→Nat
 | .c8 .. =>8
def st:X→List (PV U)
 | .c8 x0 x1=>iC 48 [(7,.own true 4 x0),(8,.int .i64 x1)]
def begin (a0:List Bool) (a1:Int):Tr X A:=
 .ite (decide (a1<(0:Int)))
  (.fail)
  (.call (jn.told (IntKind.wrap .u64 (List.length a0:Int)) (IntKind.wrap .u64 a1)) fun t1=> .ite (decide (t1.1>(0:Int)))
   (.fail)
   (.ite (decide (t1.2>(9223372036854775807:Int)))
    (.fail)
    (.bH ((0:Int)≤(wr t1.2)∧(wr t1.2)≤(wr t1.2)∧(wr t1.2)*(1:Nat)≤room) (.ite (List.isEmpty (List.replicate (Int.toNat (wr t1.2)) false))
     (.jump (.c8 (List.replicate (Int.toNat (wr t1.2)) false) (0:Int)))
     (.bH ((0:Int)<(List.length (List.replicate (Int.toNat (wr t1.2)) false):Int)∧(0:Int)<(List.length a0:Int)) (.val ((List.take (List.length (List.replicate (Int.toNat (wr t1.2)) false)) a0++List.drop (List.length a0) (List.replicate (Int.toNat (wr t1.2)) false)):List Bool) fun v2=> .val ((if(List.length a0:Int)<(List.length (List.replicate (Int.toNat (wr t1.2)) false):Int)then(List.length a0:Int)else(List.length (List.replicate (Int.toNat (wr t1.2)) false):Int)):Int) fun v3=> .jump (.c8 v2 v3)))))))
def tree:X→Tr X A
 | .c8 x0 x1=>
 let u0_0:Tr X A:=(.last (.val ((List.take (Int.toNat x1) x0++(List.take ((Int.toNat (List.length x0:Int))-(Int.toNat x1)) (List.drop (Int.toNat (0:Int)) (List.take (Int.toNat x1) x0))++List.drop ((Int.toNat x1)+Int.toNat (if x1-(0:Int)<(List.length x0:Int)-x1 then x1-(0:Int)else(List.length x0:Int)-x1)) x0)):List Bool) fun v1=> .val ((if x1-(0:Int)<(List.length x0:Int)-x1 then x1-(0:Int)else(List.length x0:Int)-x1):Int) fun v2=> .jump (.c8 v1 (wr (x1+v2))))); .ite (decide (x1<(List.length x0:Int)))
  (.both (.bH ((0:Int)≤x1∧x1<(List.length x0:Int)∧(List.length x0:Int)≤(List.length x0:Int)) (.last (.bH ((0:Int)≤(0:Int)∧(0:Int)<x1∧x1≤(List.length x0:Int)) (u0_0))))
   (.last (.bH ((0:Int)≤(0:Int)∧(0:Int)<x1∧x1≤(List.length x0:Int)) (.last (.bH ((0:Int)≤x1∧x1<(List.length x0:Int)∧(List.length x0:Int)≤(List.length x0:Int)) (u0_0))))))
  (.ret x0)
def f (a0:List Bool) (a1:Int):Option A:=(begin a0 a1).run (lp tree)
def Q:bA C:={PL with cb:=[(8,[7,8])],ca:=[(9,[3,6,7],(.take 0 [] (.take 1 [] (.take 2 [] (.take 4 [] (.take 5 [] (.alt 3 (.alt 6 (.alt 7 (.take 8 [] (.take 9 [] .done)) .nil) .nil) (.alt 6 (.alt 3 (.alt 7 (.take 8 [] (.take 9 [] .done)) .nil) .nil) .nil))))))))],bV:=[]}
theorem e:aW Pg C Q Tryz.f134 0 id st v o tree:=fun J K x=>by cases x<;>kernel_rfl
theorem b (a0:List Bool) (a1:Int):aX Pg C Q Tryz.f134 0 id st v o (S a0 a1) (begin a0 a1):=fun J K=>by kernel_rfl
def told (a0:List Bool) (a1:Int):aa.Told A:=⟨f a0 a1,fun r=>al Pg C 134 (S a0 a1) 0 (v r) (o r),fun r h=>ah G mixed Q Tryz.func134 rfl (of_decide_eq_true (by kernel_rfl)) (by rfl) id st v o (fun _=>rfl) tree e (begin a0 a1) (b a0 a1) h⟩
end bt
namespace cU
def S (a0:List Int) (a1:Int):List (PV U):=aa.start C 33 [.sl 3 a0,.int .i64 a1] []
inductive X where
 | c6 (x0:List Int) (x1:List ju) (x2:Int)
def id:X→Nat
 | .c6 .. =>6
def st:X→List (PV U)
 | .c6 x0 x1 x2=>iC 33 [(5,.own true 3 x0),(6,.own true 182 x1),(7,.int .i64 x2)]
def begin (a0:List Int) (a1:Int):Tr X A:=
 .call (fH.told a0) fun t1=> .call (aI.told a1 (0:Int) (List.length t1:Int)) fun t2=> .ite (!t2)
  (.ret (([]:List ju)))
  (.jump (.c6 t1 ([]:List ju) a1))
def tree:X→Tr X A
 | .c6 x0 x1 x2=>
 .ite (decide (x2<(List.length x0:Int)))
  (.bH ((0:Int)≤x2∧x2<(List.length x0:Int)) (.bH (((List.length x1:Int)+(List.length ([(⟨x2,(dh x0 x2)⟩:ju)]):Int))*(16:Nat)≤room) (.jump (.c6 x0 (x1++[(⟨x2,(dh x0 x2)⟩:ju)]) (wr (x2+(1:Int)))))))
  (.ret x1)
def f (a0:List Int) (a1:Int):Option A:=(begin a0 a1).run (lp tree)
def Q:bA C:={PL with cb:=[(6,[5,6,7])],ca:=[],bV:=[]}
theorem e:aW Pg C Q Tryz.f102 0 id st v o tree:=fun J K x=>by cases x<;>kernel_rfl
theorem b (a0:List Int) (a1:Int):aX Pg C Q Tryz.f102 0 id st v o (S a0 a1) (begin a0 a1):=fun J K=>by kernel_rfl
def told (a0:List Int) (a1:Int):aa.Told A:=⟨f a0 a1,fun r=>al Pg C 102 (S a0 a1) 0 (v r) (o r),fun r h=>ah G mixed Q Tryz.func102 rfl (of_decide_eq_true (by kernel_rfl)) (by rfl) id st v o (fun _=>rfl) tree e (begin a0 a1) (b a0 a1) h⟩
end cU
namespace gS
def S (a0:List Int) (a1 a2:Int):List (PV U):=aa.start C 34 [.agg [.sl 3 a0],.agg [.int .i64 a1,.int .i64 a2]] []
abbrev X:=Empty
def id:X→Nat:=fun _=>0
def st:X→List (PV U):=fun _=>[]
def begin (a0:List Int) (a1 a2:Int):Tr X A:=
 .call (aT.told a0) fun t1=>let u1_0:Tr X A:=(.last (.ret ((t1++[a2]),(List.length (t1++[a2]):Int))));let u1_1:Tr X A:=(.both (.last (.ret (t1,(List.length t1:Int)))) (.last (.ret (t1,(List.length t1:Int))))); .ite (decide (a1=(List.length a0:Int)))
  (.ite (decide ((List.length a0:Int)<(255:Int)))
   (.bH (((List.length t1:Int)+(List.length ([a2]):Int))*(8:Nat)≤room) (.both (u1_0)
    (u1_0)))
   (u1_1))
  (u1_1)
def tree:X→Tr X A:=fun _=> .fail
def f (a0:List Int) (a1 a2:Int):Option A:=(begin a0 a1 a2).run (lp tree)
def Q:bA C:={PL with cb:=[],ca:=[(4,[4],(.take 1 [] (.take 0 [1,2,3] (.alt 2 (.take 3 [] (.alt 4 (.take 5 [] .done) .nil)) (.alt 4 (.take 2 [0,1,4] (.take 3 [] (.take 5 [] .done))) .nil)))))],bV:=[]}
theorem e:aW Pg C Q Tryz.f147 0 id st v o tree:=fun J K x=>by cases x
theorem b (a0:List Int) (a1 a2:Int):aX Pg C Q Tryz.f147 0 id st v o (S a0 a1 a2) (begin a0 a1 a2):=fun J K=>by kernel_rfl
def told (a0:List Int) (a1 a2:Int):aa.Told A:=⟨f a0 a1 a2,fun r=>al Pg C 147 (S a0 a1 a2) 0 (v r) (o r),fun r h=>ah G mixed Q Tryz.func147 rfl (of_decide_eq_true (by kernel_rfl)) (by rfl) id st v o (fun _=>rfl) tree e (begin a0 a1 a2) (b a0 a1 a2) h⟩
end gS
namespace bO
def S (a0:List Int) (a1:List ju) (a2:List Bool):List (PV U):=aa.start C 43 [.agg [.sl 3 a0],.sl 182 a1,.sl 4 a2] []
inductive X where
 | c3 (x0:List Bool) (x1 x2:List Int) (x3:List ju) (x4 x5:Int)
def id:X→Nat
 | .c3 .. =>3
def st:X→List (PV U)
 | .c3 x0 x1 x2 x3 x4 x5=>iC 43 [(2,.sl 4 x0),(6,.box [.own true 3 x1]),(8,.box [.own true 3 x2]),(15,.sl 182 x3),(16,.int .i64 x4),(17,.int .i64 x5)]
def begin (a0:List Int) (a1:List ju) (a2:List Bool):Tr X A:=
 .call (aT.told a0) fun t1=> .jump (.c3 a2 ([]:List Int) t1 a1 (List.length a1:Int) (0:Int))
def tree:X→Tr X A
 | .c3 x0 x1 x2 x3 x4 x5=>
 let u0_0:Tr X A:=(.jump (.c3 x0 x1 x2 x3 x4 (wr (x5+(1:Int))))); .ite (decide (x5<x4))
  (.bH ((0:Int)≤x5∧x5<(List.length x3:Int)) (.ite (decide (x5<(List.length x0:Int)))
   (.bH ((0:Int)≤x5∧x5<(List.length x0:Int)) (.ite (DT x0 x5)
    (.call (gS.told x2 ((AU x3 x5).f0) ((AU x3 x5).f1)) fun t1=> .jump (.c3 x0 x1 t1.1 x3 x4 (wr (x5+(1:Int)))))
    (u0_0)))
   (u0_0)))
  (.both (.last (.ret (x2,(List.length x2:Int))))
   (.last (.ret (x2,(List.length x2:Int)))))
def f (a0:List Int) (a1:List ju) (a2:List Bool):Option A:=(begin a0 a1 a2).run (lp tree)
def Q:bA C:={PL with cb:=[(3,[2,6,8,15,16,17])],ca:=[(8,[4],(.take 1 [] (.take 0 [1,2,3] (.alt 2 (.take 3 [] (.alt 4 (.take 5 [] .done) .nil)) (.alt 4 (.take 2 [0,1,4] (.take 3 [] (.take 5 [] .done))) .nil)))))],bV:=[]}
theorem e:aW Pg C Q Tryz.f101 0 id st v o tree:=fun J K x=>by cases x<;>kernel_rfl
theorem b (a0:List Int) (a1:List ju) (a2:List Bool):aX Pg C Q Tryz.f101 0 id st v o (S a0 a1 a2) (begin a0 a1 a2):=fun J K=>by kernel_rfl
def told (a0:List Int) (a1:List ju) (a2:List Bool):aa.Told A:=⟨f a0 a1 a2,fun r=>al Pg C 101 (S a0 a1 a2) 0 (v r) (o r),fun r h=>ah G mixed Q Tryz.func101 rfl (of_decide_eq_true (by kernel_rfl)) (by rfl) id st v o (fun _=>rfl) tree e (begin a0 a1 a2) (b a0 a1 a2) h⟩
end bO
namespace fu
def S (a0:List Int) (a1:Int) (a2:List Int) (a3:List Bool) (a4:Bool):List (PV U):=aa.start C 37 [.sl 3 a0,.agg [.int .i64 a1,.sl 3 a2],.sl 4 a3,.bool a4] []
abbrev X:=Empty
def id:X→Nat:=fun _=>0
def st:X→List (PV U):=fun _=>[]
def begin (a0:List Int) (a1:Int) (a2:List Int) (a3:List Bool) (a4:Bool):Tr X A:=
 .call (eK.told a1 a2) fun t1=> .call (gg.told a0 a1 a2) fun t2=> .ite (!t2)
  (.ret (t1.1,t1.2,false))
  (.both (.call (cU.told a0 a1) fun t3=> .both (.call (bO.told a2 t3 a3) fun t4=> .last (.last (.ite a4
   (.ret (t4.2,t4.1,true))
   (.ret (t1.1,t4.1,true)))))
    (.last (.last (.call (bO.told a2 t3 a3) fun t4=> .last (.ite a4
     (.ret (t4.2,t4.1,true))
     (.ret (t1.1,t4.1,true)))))))
   (.last (.last (.call (cU.told a0 a1) fun t3=> .last (.call (bO.told a2 t3 a3) fun t4=> .last (.ite a4
    (.ret (t4.2,t4.1,true))
    (.ret (t1.1,t4.1,true))))))))
def tree:X→Tr X A:=fun _=> .fail
def f (a0:List Int) (a1:Int) (a2:List Int) (a3:List Bool) (a4:Bool):Option A:=(begin a0 a1 a2 a3 a4).run (lp tree)
def Q:bA C:={PL with cb:=[],ca:=[(4,[12],(.take 0 [] (.take 2 [] (.take 3 [] (.take 6 [] (.take 1 [0,2,3,4,5,6,11] (.take 4 [0,1,2,3,6,11] (.alt 5 (.alt 7 (.take 8 [] (.take 9 [] (.take 10 [] (.alt 11 (.alt 12 (.take 13 [] .done) .nil) .nil)))) (.alt 11 (.alt 7 (.take 8 [] (.take 9 [] (.take 10 [] (.alt 12 (.take 13 [] .done) .nil)))) .nil) .nil)) (.alt 11 (.alt 5 (.alt 7 (.take 8 [] (.take 9 [] (.take 10 [] (.alt 12 (.take 13 [] .done) .nil)))) .nil) .nil) .nil)))))))))],bV:=[]}
theorem e:aW Pg C Q Tryz.f46 0 id st v o tree:=fun J K x=>by cases x
theorem b (a0:List Int) (a1:Int) (a2:List Int) (a3:List Bool) (a4:Bool):aX Pg C Q Tryz.f46 0 id st v o (S a0 a1 a2 a3 a4) (begin a0 a1 a2 a3 a4):=fun J K=>by kernel_rfl
def told (a0:List Int) (a1:Int) (a2:List Int) (a3:List Bool) (a4:Bool):aa.Told A:=⟨f a0 a1 a2 a3 a4,fun r=>al Pg C 46 (S a0 a1 a2 a3 a4) 0 (v r) (o r),fun r h=>ah G mixed Q Tryz.func46 rfl (of_decide_eq_true (by kernel_rfl)) (by rfl) id st v o (fun _=>rfl) tree e (begin a0 a1 a2 a3 a4) (b a0 a1 a2 a3 a4) h⟩
end fu
namespace il
def S (a0:List aC) (a1 a2:List Int) (a3 a4 a5 a6 a7 a8 a9 a10:Int) (a11:List Int) (a12:Int) (a13:List Bool) (a14:Bool):List (PV U):=aa.start C 27 [.agg [.sl 164 a0,.sl 3 a1,.sl 3 a2,.int .i64 a3,.int .i64 a4,.int .i64 a5,.int .i64 a6,.int .i64 a7,.int .i64 a8,.int .i64 a9,.int .i64 a10,.sl 3 a11,.int .i64 a12],.sl 4 a13,.bool a14] []
abbrev X:=Empty
def id:X→Nat:=fun _=>0
def st:X→List (PV U):=fun _=>[]
def begin (a0:List aC) (a1 a2:List Int) (a3 a4 a5 a6 a7 a8 a9 a10:Int) (a11:List Int) (a12:Int) (a13:List Bool) (a14:Bool):Tr X A:=
 .call (bh.told a0 a1 a2 a3 a4 a5 a6 a7 a8 a9 a10 a11 a12) fun t1=> .call (bF.told a0 a1 a2 a3 a4 a5 a6 a7 a8 a9 a10 a11 a12) fun t2=> .ite (!t2)
  (.ret (t1.1,t1.2.1,t1.2.2.1,t1.2.2.2.1,t1.2.2.2.2.1,t1.2.2.2.2.2.1,t1.2.2.2.2.2.2.1,t1.2.2.2.2.2.2.2.1,t1.2.2.2.2.2.2.2.2.1,t1.2.2.2.2.2.2.2.2.2.1,t1.2.2.2.2.2.2.2.2.2.2.1,t1.2.2.2.2.2.2.2.2.2.2.2.1,t1.2.2.2.2.2.2.2.2.2.2.2.2,false))
  (.call (fu.told a1 a10 a11 a13 a14) fun t3=> .ret (t1.1,t1.2.1,t1.2.2.1,t1.2.2.2.1,t1.2.2.2.2.1,t1.2.2.2.2.2.1,t1.2.2.2.2.2.2.1,t1.2.2.2.2.2.2.2.1,t1.2.2.2.2.2.2.2.2.1,t1.2.2.2.2.2.2.2.2.2.1,t3.1,t3.2.1,t1.2.2.2.2.2.2.2.2.2.2.2.2,true))
def tree:X→Tr X A:=fun _=> .fail
def f (a0:List aC) (a1 a2:List Int) (a3 a4 a5 a6 a7 a8 a9 a10:Int) (a11:List Int) (a12:Int) (a13:List Bool) (a14:Bool):Option A:=(begin a0 a1 a2 a3 a4 a5 a6 a7 a8 a9 a10 a11 a12 a13 a14).run (lp tree)
def Q:bA C:={PL with cb:=[],ca:=[],bV:=[]}
theorem e:aW Pg C Q Tryz.f12 0 id st v o tree:=fun J K x=>by cases x
theorem b (a0:List aC) (a1 a2:List Int) (a3 a4 a5 a6 a7 a8 a9 a10:Int) (a11:List Int) (a12:Int) (a13:List Bool) (a14:Bool):aX Pg C Q Tryz.f12 0 id st v o (S a0 a1 a2 a3 a4 a5 a6 a7 a8 a9 a10 a11 a12 a13 a14) (begin a0 a1 a2 a3 a4 a5 a6 a7 a8 a9 a10 a11 a12 a13 a14):=fun J K=>by kernel_rfl
def told (a0:List aC) (a1 a2:List Int) (a3 a4 a5 a6 a7 a8 a9 a10:Int) (a11:List Int) (a12:Int) (a13:List Bool) (a14:Bool):aa.Told A:=⟨f a0 a1 a2 a3 a4 a5 a6 a7 a8 a9 a10 a11 a12 a13 a14,fun r=>al Pg C 12 (S a0 a1 a2 a3 a4 a5 a6 a7 a8 a9 a10 a11 a12 a13 a14) 0 (v r) (o r),fun r h=>ah G mixed Q Tryz.func12 rfl (of_decide_eq_true (by kernel_rfl)) (by rfl) id st v o (fun _=>rfl) tree e (begin a0 a1 a2 a3 a4 a5 a6 a7 a8 a9 a10 a11 a12 a13 a14) (b a0 a1 a2 a3 a4 a5 a6 a7 a8 a9 a10 a11 a12 a13 a14) h⟩
end il
namespace dP
def S (a0 a1 a2 a3:Int):List (PV U):=aa.start C 33 [.agg [.int .i64 a0,.int .i64 a1],.agg [.int .i64 a2,.int .i64 a3]] []
abbrev X:=Empty
def id:X→Nat:=fun _=>0
def st:X→List (PV U):=fun _=>[]
def begin (a0 a1 a2 a3:Int):Tr X A:=
 .call (ck.told a0 a1) fun t1=> .ite (!t1)
  (.ret (a0,a1,false))
  (.call (ck.told a2 a3) fun t2=> .ite (!t2)
   (.ret (a0,a1,false))
   (.call (ck.told (if a2>a0 then a2 else a0) (if a3<a1 then a3 else a1)) fun t3=> .ite (!t3)
    (.ret (a0,a1,false))
    (.ret ((if a2>a0 then a2 else a0),(if a3<a1 then a3 else a1),true))))
def tree:X→Tr X A:=fun _=> .fail
def f (a0 a1 a2 a3:Int):Option A:=(begin a0 a1 a2 a3).run (lp tree)
def Q:bA C:={PL with cb:=[],ca:=[],bV:=[]}
theorem e:aW Pg C Q Tryz.f135 0 id st v o tree:=fun J K x=>by cases x
theorem b (a0 a1 a2 a3:Int):aX Pg C Q Tryz.f135 0 id st v o (S a0 a1 a2 a3) (begin a0 a1 a2 a3):=fun J K=>by kernel_rfl
def told (a0 a1 a2 a3:Int):aa.Told A:=⟨f a0 a1 a2 a3,fun r=>al Pg C 135 (S a0 a1 a2 a3) 0 (v r) (o r),fun r h=>ah G mixed Q Tryz.func135 rfl (of_decide_eq_true (by kernel_rfl)) (by rfl) id st v o (fun _=>rfl) tree e (begin a0 a1 a2 a3) (b a0 a1 a2 a3) h⟩
end dP
namespace gF
def S (a0:List aC) (a1 a2:List Int) (a3 a4 a5 a6 a7 a8 a9 a10:Int) (a11:List Int) (a12 a13 a14 a15:Int):List (PV U):=aa.start C 26 [.agg [.own true 164 a0,.own true 3 a1,.own true 3 a2,.int .i64 a3,.int .i64 a4,.int .i64 a5,.int .i64 a6,.int .i64 a7,.int .i64 a8,.int .i64 a9,.int .i64 a10,.own true 3 a11,.int .i64 a12],.agg [.int .i64 a13,.int .i64 a14,.int .i64 a15]] []
inductive X where
 | c2 (x0:List aC) (x1 x2:List Int) (x3 x4 x5 x6 x7 x8 x9 x10:Int) (x11:List Int) (x12 x13 x14 x15:Int) (x16:List aC) (x17 x18:List Int) (x19 x20 x21 x22 x23 x24 x25 x26:Int) (x27:List Int) (x28 x29 x30:Int)
def id:X→Nat
 | .c2 .. =>2
def st:X→List (PV U)
 | .c2 x0 x1 x2 x3 x4 x5 x6 x7 x8 x9 x10 x11 x12 x13 x14 x15 x16 x17 x18 x19 x20 x21 x22 x23 x24 x25 x26 x27 x28 x29 x30=>iC 26 [(2,.box [.own true 164 x0,.own true 3 x1,.own true 3 x2,.int .i64 x3,.int .i64 x4,.int .i64 x5,.int .i64 x6,.int .i64 x7,.int .i64 x8,.int .i64 x9,.int .i64 x10,.own true 3 x11,.int .i64 x12]),(3,.box [.int .i64 x13,.int .i64 x14,.int .i64 x15]),(4,.box [.own true 164 x16,.own true 3 x17,.own true 3 x18,.int .i64 x19,.int .i64 x20,.int .i64 x21,.int .i64 x22,.int .i64 x23,.int .i64 x24,.int .i64 x25,.int .i64 x26,.own true 3 x27,.int .i64 x28]),(9,.int .i64 x29),(10,.int .i64 x30)]
def begin (a0:List aC) (a1 a2:List Int) (a3 a4 a5 a6 a7 a8 a9 a10:Int) (a11:List Int) (a12 a13 a14 a15:Int):Tr X A:=
 .jump (.c2 a0 a1 a2 a3 a4 a5 a6 a7 a8 a9 a10 a11 a12 a13 a14 a15 ([]:List aC) ([]:List Int) ([]:List Int) (0:Int) (0:Int) (0:Int) (0:Int) (0:Int) (0:Int) (0:Int) (0:Int) ([]:List Int) (0:Int) a14 (0:Int))
def tree:X→Tr X A
 | .c2 x0 x1 x2 x3 x4 x5 x6 x7 x8 x9 x10 x11 x12 x13 x14 x15 x16 x17 x18 x19 x20 x21 x22 x23 x24 x25 x26 x27 x28 x29 x30=>
 let u0_0:Tr X A:=(.last (.ret (x0,x1,x2,x3,x4,x5,x6,x7,x8,x9,x10,x11,x12,x12))); .ite (decide (x30<x29))
  (.call (bx.told x0 x1 x2 x3 x4 x5 x6 x7 x8 x9 x10 x11 x12 x15) fun t1=>let u1_0:Tr X A:=(u0_0); .ite (!t1.2.2.2.2.2.2.2.2.2.2.2.2.2)
   (.both (u1_0)
    (u1_0))
   (.jump (.c2 t1.1 t1.2.1 t1.2.2.1 t1.2.2.2.1 t1.2.2.2.2.1 t1.2.2.2.2.2.1 t1.2.2.2.2.2.2.1 t1.2.2.2.2.2.2.2.1 t1.2.2.2.2.2.2.2.2.1 t1.2.2.2.2.2.2.2.2.2.1 t1.2.2.2.2.2.2.2.2.2.2.1 t1.2.2.2.2.2.2.2.2.2.2.2.1 t1.2.2.2.2.2.2.2.2.2.2.2.2.1 x13 x14 x15 x16 x17 x18 x19 x20 x21 x22 x23 x24 x25 x26 x27 x28 x29 (wr (x30+(1:Int))))))
  (.both (u0_0)
   (u0_0))
def f (a0:List aC) (a1 a2:List Int) (a3 a4 a5 a6 a7 a8 a9 a10:Int) (a11:List Int) (a12 a13 a14 a15:Int):Option A:=(begin a0 a1 a2 a3 a4 a5 a6 a7 a8 a9 a10 a11 a12 a13 a14 a15).run (lp tree)
def Q:bA C:={PL with cb:=[(2,[2,3,4,9,10])],ca:=[(7,[3],(.take 1 [] (.take 0 [1,2] (.alt 2 (.alt 3 (.take 4 [] .done) .nil) (.alt 3 (.take 2 [0,1,3] (.take 4 [] .done)) .nil)))))],bV:=[]}
theorem e:aW Pg C Q Tryz.f132 0 id st v o tree:=fun J K x=>by cases x<;>kernel_rfl
theorem b (a0:List aC) (a1 a2:List Int) (a3 a4 a5 a6 a7 a8 a9 a10:Int) (a11:List Int) (a12 a13 a14 a15:Int):aX Pg C Q Tryz.f132 0 id st v o (S a0 a1 a2 a3 a4 a5 a6 a7 a8 a9 a10 a11 a12 a13 a14 a15) (begin a0 a1 a2 a3 a4 a5 a6 a7 a8 a9 a10 a11 a12 a13 a14 a15):=fun J K=>by kernel_rfl
def told (a0:List aC) (a1 a2:List Int) (a3 a4 a5 a6 a7 a8 a9 a10:Int) (a11:List Int) (a12 a13 a14 a15:Int):aa.Told A:=⟨f a0 a1 a2 a3 a4 a5 a6 a7 a8 a9 a10 a11 a12 a13 a14 a15,fun r=>al Pg C 132 (S a0 a1 a2 a3 a4 a5 a6 a7 a8 a9 a10 a11 a12 a13 a14 a15) 0 (v r) (o r),fun r h=>ah G mixed Q Tryz.func132 rfl (of_decide_eq_true (by kernel_rfl)) (by rfl) id st v o (fun _=>rfl) tree e (begin a0 a1 a2 a3 a4 a5 a6 a7 a8 a9 a10 a11 a12 a13 a14 a15) (b a0 a1 a2 a3 a4 a5 a6 a7 a8 a9 a10 a11 a12 a13 a14 a15) h⟩
end gF
end
end Go.Proofs.YtmapddgocpkgeaaGreat.Ev
