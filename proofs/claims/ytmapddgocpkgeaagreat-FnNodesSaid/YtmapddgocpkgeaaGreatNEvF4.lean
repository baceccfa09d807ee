/- Functions as trees, with their contracts. No conditions. -/
import Derived.Test.YtmapddgocpkgeaaGreatNEvF3
namespace Go.Proofs.YtmapddgocpkgeaaGreat.Ev
open Go.Proofs.YtmapddgocpkgeaaGreat.aa Go.RowKit
set_option linter.unusedVariables false
set_option maxRecDepth 100000
noncomputable section
namespace ca
def S (a0:List az):List (PV U):=aa.start C 34 [.agg [.sl 164 a0]] []
inductive X where
 | c3 (x0 x1 x2:List az) (x3:Int)
 | c4 (x0 x1 x2:List az) (x3:Int)
def id:X→Nat
 | .c3 .. =>3
 | .c4 .. =>4
def st:X→List (PV U)
 | .c3 x0 x1 x2 x3=>eA 34 [(1,.box [.sl 164 x0]),(2,.box [.own true 164 x1]),(3,.box [.own true 164 x2]),(4,.int .i64 x3)]
 | .c4 x0 x1 x2 x3=>eA 34 [(1,.box [.sl 164 x0]),(2,.box [.own true 164 x1]),(3,.box [.own true 164 x2]),(4,.int .i64 x3)]
def begin (a0:List az):Tr X A:=
 .jump (.c3 a0 ([]:List az) ([]:List az) (0:Int))
def tree:X→Tr X A
 | .c3 x0 x1 x2 x3=>
 let u0_0:Tr X A:=(.last (.val ([(⟨(([]:List aw)++(cy x0 x3).f0),(⟨(cy x0 x3).f1.f0,(cy x0 x3).f1.f1,(cy x0 x3).f1.f2⟩:iZ)⟩:az)]:List az) fun v1=> .last (.aC (((List.length x2:Int)+(List.length v1:Int))*(48:Nat)≤room) (.last (.jump (.c4 x0 x1 (x2++v1) x3))))));let u0_1:Tr X A:=(.last (u0_0));let u0_2:Tr X A:=(.aC (((List.length ([]:List aw):Int)+(List.length ((cy x0 x3).f0):Int))*(48:Nat)≤room) (u0_1));let u0_3:Tr X A:=(.last (u0_2));let u0_4:Tr X A:=(.last (u0_3));let u0_5:Tr X A:=(.both (u0_2) (u0_4));let u0_6:Tr X A:=(.both (u0_1) (.last (.both (u0_0) (u0_0))));let u0_7:Tr X A:=(.aC (((List.length ([]:List aw):Int)+(List.length ((cy x0 x3).f0):Int))*(48:Nat)≤room) (u0_6));let u0_8:Tr X A:=(.both (u0_5) (.last (u0_4)));let u0_9:Tr X A:=(.both (.aC (((List.length ([]:List aw):Int)+(List.length ((cy x0 x3).f0):Int))*(48:Nat)≤room) (.aC ((0:Int)≤x3∧x3<(List.length x0:Int)) (u0_1))) (.last (.aC ((0:Int)≤x3∧x3<(List.length x0:Int)) (u0_5))));let u0_10:Tr X A:=(.last (.both (u0_3) (.last (u0_7))));let u0_11:Tr X A:=(.both (u0_5) (.both (u0_7) (u0_10))); .ite (decide (x3<(List.length x0:Int)))
  (.aC ((0:Int)≤x3∧x3<(List.length x0:Int)) (.both (.both (u0_9)
    (.last (.aC ((0:Int)≤x3∧x3<(List.length x0:Int)) (u0_8))))
   (.both (.both (u0_9)
     (.both (.aC (((List.length ([]:List aw):Int)+(List.length ((cy x0 x3).f0):Int))*(48:Nat)≤room) (.aC ((0:Int)≤x3∧x3<(List.length x0:Int)) (u0_6)))
      (.last (.aC ((0:Int)≤x3∧x3<(List.length x0:Int)) (u0_11)))))
    (.last (.aC ((0:Int)≤x3∧x3<(List.length x0:Int)) (.both (u0_8)
     (.both (u0_11)
      (.last (.both (u0_4)
       (u0_10))))))))))
  (.ret x2)
 | .c4 x0 x1 x2 x3=>
 .jump (.c3 x0 x1 x2 (wr (x3+(1:Int))))
def f (a0:List az):Option A:=(begin a0).run (lp tree)
def Q:bE C:={PL with fM:=[(3,[1,2,3,4]),(4,[1,2,3,4])],iH:=[(5,[9,16,17,18,20],(.take 0 [] (.take 3 [] (.take 5 [] (.take 10 [] (.take 12 [] (.take 4 [0,1,2,3,5,10,11,12,13,14,15] (.take 6 [] (.take 7 [] (.take 8 [0,1,2,3,4,5,6,7,10,11,12,13,14,15] (.alt 1 (.alt 2 (.alt 9 (.take 11 [0,1,2,3,4,5,6,7,8,9,10,12] (.take 13 [] (.take 14 [] (.take 15 [0,1,2,3,4,5,6,7,8,9,10,11,12,13,14] (.alt 16 (.alt 17 (.alt 18 (.take 19 [] (.alt 20 .done .nil)) .nil) .nil) .nil))))) (.alt 11 (.take 13 [] (.take 14 [] (.alt 9 (.take 15 [0,1,2,3,4,5,6,7,8,9,10,11,12,13,14] (.alt 16 (.alt 17 (.alt 18 (.take 19 [] (.alt 20 .done .nil)) .nil) .nil) .nil)) (.alt 15 (.alt 9 (.alt 16 (.alt 17 (.alt 18 (.take 19 [] (.alt 20 .done .nil)) .nil) .nil) .nil) .nil) .nil)))) .nil)) (.alt 11 (.take 13 [] (.take 14 [] (.alt 2 (.alt 9 (.take 15 [0,1,2,3,4,5,6,7,8,9,10,11,12,13,14] (.alt 16 (.alt 17 (.alt 18 (.take 19 [] (.alt 20 .done .nil)) .nil) .nil) .nil)) (.alt 15 (.alt 9 (.alt 16 (.alt 17 (.alt 18 (.take 19 [] (.alt 20 .done .nil)) .nil) .nil) .nil) .nil) .nil)) (.alt 15 (.alt 2 (.alt 9 (.alt 16 (.alt 17 (.alt 18 (.take 19 [] (.alt 20 .done .nil)) .nil) .nil) .nil) .nil) .nil) .nil)))) .nil)) (.alt 2 (.alt 1 (.alt 9 (.take 11 [0,1,2,3,4,5,6,7,8,9,10,12] (.take 13 [] (.take 14 [] (.take 15 [0,1,2,3,4,5,6,7,8,9,10,11,12,13,14] (.alt 16 (.alt 17 (.alt 18 (.take 19 [] (.alt 20 .done .nil)) .nil) .nil) .nil))))) (.alt 11 (.take 13 [] (.take 14 [] (.alt 9 (.take 15 [0,1,2,3,4,5,6,7,8,9,10,11,12,13,14] (.alt 16 (.alt 17 (.alt 18 (.take 19 [] (.alt 20 .done .nil)) .nil) .nil) .nil)) (.alt 15 (.alt 9 (.alt 16 (.alt 17 (.alt 18 (.take 19 [] (.alt 20 .done .nil)) .nil) .nil) .nil) .nil) .nil)))) .nil)) (.alt 9 (.take 11 [0,1,2,3,4,5,6,7,8,9,10,12] (.take 13 [] (.take 14 [] (.take 15 [0,1,2,3,4,5,6,7,8,9,10,11,12,13,14] (.alt 1 (.alt 16 (.alt 17 (.alt 18 (.take 19 [] (.alt 20 .done .nil)) .nil) .nil) .nil) (.alt 16 (.alt 1 (.alt 17 (.alt 18 (.take 19 [] (.alt 20 .done .nil)) .nil) .nil) (.alt 17 (.take 1 [0,2,3,4,5,6,7,8,9,10,11,12,13,14,15,16,17] (.alt 18 (.take 19 [] (.alt 20 .done .nil)) .nil)) .nil)) .nil)))))) (.alt 11 (.take 13 [] (.take 14 [] (.alt 1 (.alt 9 (.take 15 [0,1,2,3,4,5,6,7,8,9,10,11,12,13,14] (.alt 16 (.alt 17 (.alt 18 (.take 19 [] (.alt 20 .done .nil)) .nil) .nil) .nil)) (.alt 15 (.alt 9 (.alt 16 (.alt 17 (.alt 18 (.take 19 [] (.alt 20 .done .nil)) .nil) .nil) .nil) .nil) .nil)) (.alt 9 (.take 15 [0,1,2,3,4,5,6,7,8,9,10,11,12,13,14] (.alt 1 (.alt 16 (.alt 17 (.alt 18 (.take 19 [] (.alt 20 .done .nil)) .nil) .nil) .nil) (.alt 16 (.alt 1 (.alt 17 (.alt 18 (.take 19 [] (.alt 20 .done .nil)) .nil) .nil) (.alt 17 (.take 1 [0,2,3,4,5,6,7,8,9,10,11,12,13,14,15,16,17] (.alt 18 (.take 19 [] (.alt 20 .done .nil)) .nil)) .nil)) .nil))) (.alt 15 (.alt 1 (.alt 9 (.alt 16 (.alt 17 (.alt 18 (.take 19 [] (.alt 20 .done .nil)) .nil) .nil) .nil) .nil) (.alt 9 (.alt 1 (.alt 16 (.alt 17 (.alt 18 (.take 19 [] (.alt 20 .done .nil)) .nil) .nil) .nil) (.alt 16 (.alt 1 (.alt 17 (.alt 18 (.take 19 [] (.alt 20 .done .nil)) .nil) .nil) (.alt 17 (.take 1 [0,2,3,4,5,6,7,8,9,10,11,12,13,14,15,16,17] (.alt 18 (.take 19 [] (.alt 20 .done .nil)) .nil)) .nil)) .nil)) .nil)) .nil))))) .nil))) (.alt 11 (.take 13 [] (.take 14 [] (.alt 1 (.alt 2 (.alt 9 (.take 15 [0,1,2,3,4,5,6,7,8,9,10,11,12,13,14] (.alt 16 (.alt 17 (.alt 18 (.take 19 [] (.alt 20 .done .nil)) .nil) .nil) .nil)) (.alt 15 (.alt 9 (.alt 16 (.alt 17 (.alt 18 (.take 19 [] (.alt 20 .done .nil)) .nil) .nil) .nil) .nil) .nil)) (.alt 15 (.alt 2 (.alt 9 (.alt 16 (.alt 17 (.alt 18 (.take 19 [] (.alt 20 .done .nil)) .nil) .nil) .nil) .nil) .nil) .nil)) (.alt 2 (.alt 1 (.alt 9 (.take 15 [0,1,2,3,4,5,6,7,8,9,10,11,12,13,14] (.alt 16 (.alt 17 (.alt 18 (.take 19 [] (.alt 20 .done .nil)) .nil) .nil) .nil)) (.alt 15 (.alt 9 (.alt 16 (.alt 17 (.alt 18 (.take 19 [] (.alt 20 .done .nil)) .nil) .nil) .nil) .nil) .nil)) (.alt 9 (.take 15 [0,1,2,3,4,5,6,7,8,9,10,11,12,13,14] (.alt 1 (.alt 16 (.alt 17 (.alt 18 (.take 19 [] (.alt 20 .done .nil)) .nil) .nil) .nil) (.alt 16 (.alt 1 (.alt 17 (.alt 18 (.take 19 [] (.alt 20 .done .nil)) .nil) .nil) (.alt 17 (.take 1 [0,2,3,4,5,6,7,8,9,10,11,12,13,14,15,16,17] (.alt 18 (.take 19 [] (.alt 20 .done .nil)) .nil)) .nil)) .nil))) (.alt 15 (.alt 1 (.alt 9 (.alt 16 (.alt 17 (.alt 18 (.take 19 [] (.alt 20 .done .nil)) .nil) .nil) .nil) .nil) (.alt 9 (.alt 1 (.alt 16 (.alt 17 (.alt 18 (.take 19 [] (.alt 20 .done .nil)) .nil) .nil) .nil) (.alt 16 (.alt 1 (.alt 17 (.alt 18 (.take 19 [] (.alt 20 .done .nil)) .nil) .nil) (.alt 17 (.take 1 [0,2,3,4,5,6,7,8,9,10,11,12,13,14,15,16,17] (.alt 18 (.take 19 [] (.alt 20 .done .nil)) .nil)) .nil)) .nil)) .nil)) .nil))) (.alt 15 (.alt 1 (.alt 2 (.alt 9 (.alt 16 (.alt 17 (.alt 18 (.take 19 [] (.alt 20 .done .nil)) .nil) .nil) .nil) .nil) .nil) (.alt 2 (.alt 1 (.alt 9 (.alt 16 (.alt 17 (.alt 18 (.take 19 [] (.alt 20 .done .nil)) .nil) .nil) .nil) .nil) (.alt 9 (.alt 1 (.alt 16 (.alt 17 (.alt 18 (.take 19 [] (.alt 20 .done .nil)) .nil) .nil) .nil) (.alt 16 (.alt 1 (.alt 17 (.alt 18 (.take 19 [] (.alt 20 .done .nil)) .nil) .nil) (.alt 17 (.take 1 [0,2,3,4,5,6,7,8,9,10,11,12,13,14,15,16,17] (.alt 18 (.take 19 [] (.alt 20 .done .nil)) .nil)) .nil)) .nil)) .nil)) .nil)) .nil))))) .nil)))))))))))))]}
theorem e:df Pg C Q Tryz.f116 0 id st v o tree:=fun J K x=>by cases x<;>kernel_rfl
def told (a0:List az):aa.Told A:=⟨f a0,fun r=>ae Pg C 116 (S a0) 0 (v r) (o r),fun r h=>dy v o Tryz.func116 rfl (of_decide_eq_true (by kernel_rfl)) (by rfl) (fun _=>rfl) e (fun J K=>by kernel_rfl) h⟩
end ca
end
end Go.Proofs.YtmapddgocpkgeaaGreat.Ev
