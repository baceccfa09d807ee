/- Functions as trees, with their contracts. No conditions. -/
import Derived.Test.YtmapddgocpkgeaaGreatTEvF0
namespace Go.Proofs.YtmapddgocpkgeaaGreat.Ev
open Go.Proofs.YtmapddgocpkgeaaGreat.aa Go.RowKit
set_option linter.unusedVariables false
set_option maxRecDepth 100000
noncomputable section
namespace cT
def S (a0:List az):List (PV U):=aa.start C 34 [.agg [.sl 164 a0]] []
inductive X where
 | c3 (x0 x1 x2:List az) (x3:Int)
 | c4 (x0 x1 x2:List az) (x3:Int)
def id:X→Nat
 | .c3 .. =>3
 | .c4 .. =>4
def st:X→List (PV U)
 | .c3 x0 x1 x2 x3=>eH 34 [(1,.box [.sl 164 x0]),(2,.box [.own true 164 x1]),(3,.box [.own true 164 x2]),(4,.int .i64 x3)]
 | .c4 x0 x1 x2 x3=>eH 34 [(1,.box [.sl 164 x0]),(2,.box [.own true 164 x1]),(3,.box [.own true 164 x2]),(4,.int .i64 x3)]
def begin (a0:List az):Tr X A:=
 .jump (.c3 a0 ([]:List az) ([]:List az) (0:Int))
def tree:X→Tr X A
 | .c3 x0 x1 x2 x3=>
 let u0_0:Tr X A:=(.last (.val ([(⟨(([]:List aq)++(aV x0 x3).f0),(⟨(aV x0 x3).f1.f0,(aV x0 x3).f1.f1,(aV x0 x3).f1.f2⟩:iQ)⟩:az)]:List az) fun v1=> .last (.aG (((List.length x2:Int)+(List.length v1:Int))*(48:Nat)≤room) (.last (.jump (.c4 x0 x1 (x2++v1) x3))))));let u0_1:Tr X A:=(.last (u0_0));let u0_2:Tr X A:=(.aG (((List.length ([]:List aq):Int)+(List.length ((aV x0 x3).f0):Int))*(48:Nat)≤room) (u0_1));let u0_3:Tr X A:=(.last (u0_2));let u0_4:Tr X A:=(.last (u0_3));let u0_5:Tr X A:=(.both (u0_2) (u0_4));let u0_6:Tr X A:=(.both (u0_1) (.last (.both (u0_0) (u0_0))));let u0_7:Tr X A:=(.aG (((List.length ([]:List aq):Int)+(List.length ((aV x0 x3).f0):Int))*(48:Nat)≤room) (u0_6));let u0_8:Tr X A:=(.both (u0_5) (.last (u0_4)));let u0_9:Tr X A:=(.both (.aG (((List.length ([]:List aq):Int)+(List.length ((aV x0 x3).f0):Int))*(48:Nat)≤room) (.aG ((0:Int)≤x3∧x3<(List.length x0:Int)) (u0_1))) (.last (.aG ((0:Int)≤x3∧x3<(List.length x0:Int)) (u0_5))));let u0_10:Tr X A:=(.last (.both (u0_3) (.last (u0_7))));let u0_11:Tr X A:=(.both (u0_5) (.both (u0_7) (u0_10))); .ite (decide (x3<(List.length x0:Int)))
  (.aG ((0:Int)≤x3∧x3<(List.length x0:Int)) (.both (.both (u0_9)
    (.last (.aG ((0:Int)≤x3∧x3<(List.length x0:Int)) (u0_8))))
   (.both (.both (u0_9)
     (.both (.aG (((List.length ([]:List aq):Int)+(List.length ((aV x0 x3).f0):Int))*(48:Nat)≤room) (.aG ((0:Int)≤x3∧x3<(List.length x0:Int)) (u0_6)))
      (.last (.aG ((0:Int)≤x3∧x3<(List.length x0:Int)) (u0_11)))))
    (.last (.aG ((0:Int)≤x3∧x3<(List.length x0:Int)) (.both (u0_8)
     (.both (u0_11)
      (.last (.both (u0_4)
       (u0_10))))))))))
  (.ret x2)
 | .c4 x0 x1 x2 x3=>
 .jump (.c3 x0 x1 x2 (wr (x3+(1:Int))))
def f (a0:List az):Option A:=(begin a0).run (lp tree)
def Q:aE C:={PL with aU:=[(3,[1,2,3,4]),(4,[1,2,3,4])],aT:=[(5,[9,16,17,18,20],(.take 0 [] (.take 3 [] (.take 5 [] (.take 10 [] (.take 12 [] (.take 4 [0,1,2,3,5,10,11,12,13,14,15] (.take 6 [] (.take 7 [] (.take 8 [0,1,2,3,4,5,6,7,10,11,12,13,14,15] (.alt 1 (.alt 2 (.alt 9 (.take 11 [0,1,2,3,4,5,6,7,8,9,10,12] (.take 13 [] (.take 14 [] (.take 15 [0,1,2,3,4,5,6,7,8,9,10,11,12,13,14] (.alt 16 (.alt 17 (.alt 18 (.take 19 [] (.alt 20 .done .nil)) .nil) .nil) .nil))))) (.alt 11 (.take 13 [] (.take 14 [] (.alt 9 (.take 15 [0,1,2,3,4,5,6,7,8,9,10,11,12,13,14] (.alt 16 (.alt 17 (.alt 18 (.take 19 [] (.alt 20 .done .nil)) .nil) .nil) .nil)) (.alt 15 (.alt 9 (.alt 16 (.alt 17 (.alt 18 (.take 19 [] (.alt 20 .done .nil)) .nil) .nil) .nil) .nil) .nil)))) .nil)) (.alt 11 (.take 13 [] (.take 14 [] (.alt 2 (.alt 9 (.take 15 [0,1,2,3,4,5,6,7,8,9,10,11,12,13,14] (.alt 16 (.alt 17 (.alt 18 (.take 19 [] (.alt 20 .done .nil)) .nil) .nil) .nil)) (.alt 15 (.alt 9 (.alt 16 (.alt 17 (.alt 18 (.take 19 [] (.alt 20 .done .nil)) .nil) .nil) .nil) .nil) .nil)) (.alt 15 (.alt 2 (.alt 9 (.alt 16 (.alt 17 (.alt 18 (.take 19 [] (.alt 20 .done .nil)) .nil) .nil) .nil) .nil) .nil) .nil)))) .nil)) (.alt 2 (.alt 1 (.alt 9 (.take 11 [0,1,2,3,4,5,6,7,8,9,10,12] (.take 13 [] (.take 14 [] (.take 15 [0,1,2,3,4,5,6,7,8,9,10,11,12,13,14] (.alt 16 (.alt 17 (.alt 18 (.take 19 [] (.alt 20 .done .nil)) .nil) .nil) .nil))))) (.alt 11 (.take 13 [] (.take 14 [] (.alt 9 (.take 15 [0,1,2,3,4,5,6,7,8,9,10,11,12,13,14] (.alt 16 (.alt 17 (.alt 18 (.take 19 [] (.alt 20 .done .nil)) .nil) .nil) .nil)) (.alt 15 (.alt 9 (.alt 16 (.alt 17 (.alt 18 (.take 19 [] (.alt 20 .done .nil)) .nil) .nil) .nil) .nil) .nil)))) .nil)) (.alt 9 (.take 11 [0,1,2,3,4,5,6,7,8,9,10,12] (.take 13 [] (.take 14 [] (.take 15 [0,1,2,3,4,5,6,7,8,9,10,11,12,13,14] (.alt 1 (.alt 16 (.alt 17 (.alt 18 (.take 19 [] (.alt 20 .done .nil)) .nil) .nil) .nil) (.alt 16 (.alt 1 (.alt 17 (.alt 18 (.take 19 [] (.alt 20 .done .nil)) .nil) .nil) (.alt 17 (.take 1 [0,2,3,4,5,6,7,8,9,10,11,12,13,14,15,16,17] (.alt 18 (.take 19 [] (.alt 20 .done .nil)) .nil)) .nil)) .nil)))))) (.alt 11 (.take 13 [] (.take 14 [] (.alt 1 (.alt 9 (.take 15 [0,1,2,3,4,5,6,7,8,9,10,11,12,13,14] (.alt 16 (.alt 17 (.alt 18 (.take 19 [] (.alt 20 .done .nil)) .nil) .nil) .nil)) (.alt 15 (.alt 9 (.alt 16 (.alt 17 (.alt 18 (.take 19 [] (.alt 20 .done .nil)) .nil) .nil) .nil) .nil) .nil)) (.alt 9 (.take 15 [0,1,2,3,4,5,6,7,8,9,10,11,12,13,14] (.alt 1 (.alt 16 (.alt 17 (.alt 18 (.take 19 [] (.alt 20 .done .nil)) .nil) .nil) .nil) (.alt 16 (.alt 1 (.alt 17 (.alt 18 (.take 19 [] (.alt 20 .done .nil)) .nil) .nil) (.alt 17 (.take 1 [0,2,3,4,5,6,7,8,9,10,11,12,13,14,15,16,17] (.alt 18 (.take 19 [] (.alt 20 .done .nil)) .nil)) .nil)) .nil))) (.alt 15 (.alt 1 (.alt 9 (.alt 16 (.alt 17 (.alt 18 (.take 19 [] (.alt 20 .done .nil)) .nil) .nil) .nil) .nil) (.alt 9 (.alt 1 (.alt 16 (.alt 17 (.alt 18 (.take 19 [] (.alt 20 .done .nil)) .nil) .nil) .nil) (.alt 16 (.alt 1 (.alt 17 (.alt 18 (.take 19 [] (.alt 20 .done .nil)) .nil) .nil) (.alt 17 (.take 1 [0,2,3,4,5,6,7,8,9,10,11,12,13,14,15,16,17] (.alt 18 (.take 19 [] (.alt 20 .done .nil)) .nil)) .nil)) .nil)) .nil)) .nil))))) .nil))) (.alt 11 (.take 13 [] (.take 14 [] (.alt 1 (.alt 2 (.alt 9 (.take 15 [0,1,2,3,4,5,6,7,8,9,10,11,12,13,14] (.alt 16 (.alt 17 (.alt 18 (.take 19 [] (.alt 20 .done .nil)) .nil) .nil) .nil)) (.alt 15 (.alt 9 (.alt 16 (.alt 17 (.alt 18 (.take 19 [] (.alt 20 .done .nil)) .nil) .nil) .nil) .nil) .nil)) (.alt 15 (.alt 2 (.alt 9 (.alt 16 (.alt 17 (.alt 18 (.take 19 [] (.alt 20 .done .nil)) .nil) .nil) .nil) .nil) .nil) .nil)) (.alt 2 (.alt 1 (.alt 9 (.take 15 [0,1,2,3,4,5,6,7,8,9,10,11,12,13,14] (.alt 16 (.alt 17 (.alt 18 (.take 19 [] (.alt 20 .done .nil)) .nil) .nil) .nil)) (.alt 15 (.alt 9 (.alt 16 (.alt 17 (.alt 18 (.take 19 [] (.alt 20 .done .nil)) .nil) .nil) .nil) .nil) .nil)) (.alt 9 (.take 15 [0,1,2,3,4,5,6,7,8,9,10,11,12,13,14] (.alt 1 (.alt 16 (.alt 17 (.alt 18 (.take 19 [] (.alt 20 .done .nil)) .nil) .nil) .nil) (.alt 16 (.alt 1 (.alt 17 (.alt 18 (.take 19 [] (.alt 20 .done .nil)) .nil) .nil) (.alt 17 (.take 1 [0,2,3,4,5,6,7,8,9,10,11,12,13,14,15,16,17] (.alt 18 (.take 19 [] (.alt 20 .done .nil)) .nil)) .nil)) .nil))) (.alt 15 (.alt 1 (.alt 9 (.alt 16 (.alt 17 (.alt 18 (.take 19 [] (.alt 20 .done .nil)) .nil) .nil) .nil) .nil) (.alt 9 (.alt 1 (.alt 16 (.alt 17 (.alt 18 (.take 19 [] (.alt 20 .done .nil)) .nil) .nil) .nil) (.alt 16 (.alt 1 (.alt 17 (.alt 18 (.take 19 [] (.alt 20 .done .nil)) .nil) .nil) (.alt 17 (.take 1 [0,2,3,4,5,6,7,8,9,10,11,12,13,14,15,16,17] (.alt 18 (.take 19 [] (.alt 20 .done .nil)) .nil)) .nil)) .nil)) .nil)) .nil))) (.alt 15 (.alt 1 (.alt 2 (.alt 9 (.alt 16 (.alt 17 (.alt 18 (.take 19 [] (.alt 20 .done .nil)) .nil) .nil) .nil) .nil) .nil) (.alt 2 (.alt 1 (.alt 9 (.alt 16 (.alt 17 (.alt 18 (.take 19 [] (.alt 20 .done .nil)) .nil) .nil) .nil) .nil) (.alt 9 (.alt 1 (.alt 16 (.alt 17 (.alt 18 (.take 19 [] (.alt 20 .done .nil)) .nil) .nil) .nil) (.alt 16 (.alt 1 (.alt 17 (.alt 18 (.take 19 [] (.alt 20 .done .nil)) .nil) .nil) (.alt 17 (.take 1 [0,2,3,4,5,6,7,8,9,10,11,12,13,14,15,16,17] (.alt 18 (.take 19 [] (.alt 20 .done .nil)) .nil)) .nil)) .nil)) .nil)) .nil)) .nil))))) .nil)))))))))))))],aQ:=[]}
theorem e:ay Pg C Q Tryz.f116 0 id st v o tree:=fun J K x=>by cases x<;>kernel_rfl
theorem b (a0:List az):ax Pg C Q Tryz.f116 0 id st v o (S a0) (begin a0):=fun J K=>by kernel_rfl
def told (a0:List az):aa.Told A:=⟨f a0,fun r=>af Pg C 116 (S a0) 0 (v r) (o r),fun r h=>ae G mixed Q Tryz.func116 rfl (of_decide_eq_true (by kernel_rfl)) (by rfl) id st v o (fun _=>rfl) tree e (begin a0) (b a0) h⟩
end cT
namespace fp
def S (a0:Int) (a1:List Int):List (PV U):=aa.start C 12 [.agg [.int .i64 a0,.sl 3 a1]] []
abbrev X:=Empty
def id:X→Nat:=fun _=>0
def st:X→List (PV U):=fun _=>[]
def begin (a0:Int) (a1:List Int):Tr X A:=
 let u0_0:Tr X A:=(.last (.aG (((List.length ([]:List Int):Int)+(List.length a1:Int))*(8:Nat)≤room) (.last (.last (.last (.ret (a0,(([]:List Int)++a1)))))))); .both (.last (u0_0))
  (.last (.both (u0_0)
   (.last (.aG (((List.length ([]:List Int):Int)+(List.length a1:Int))*(8:Nat)≤room) (.both (.last (.last (.last (.ret (a0,(([]:List Int)++a1))))))
    (.last (.last (.last (.ret (a0,(([]:List Int)++a1)))))))))))
def tree:X→Tr X A:=fun _=> .fail
def f (a0:Int) (a1:List Int):Option A:=(begin a0 a1).run (lp tree)
def Q:aE C:={PL with aU:=[],aT:=[(1,[6,7,8,9],(.take 0 [] (.take 3 [] (.take 4 [] (.take 5 [0,1,2,3,4] (.alt 1 (.alt 2 (.alt 6 (.alt 7 (.alt 8 (.alt 9 .done .nil) .nil) .nil) .nil) .nil) (.alt 2 (.alt 1 (.alt 6 (.alt 7 (.alt 8 (.alt 9 .done .nil) .nil) .nil) .nil) (.alt 6 (.alt 1 (.alt 7 (.alt 8 (.alt 9 .done .nil) .nil) .nil) (.alt 7 (.take 1 [0,2,3,4,5,6,7] (.alt 8 (.alt 9 .done .nil) .nil)) .nil)) .nil)) .nil)))))))],aQ:=[]}
theorem e:ay Pg C Q Tryz.f117 0 id st v o tree:=fun J K x=>by cases x
theorem b (a0:Int) (a1:List Int):ax Pg C Q Tryz.f117 0 id st v o (S a0 a1) (begin a0 a1):=fun J K=>by kernel_rfl
def told (a0:Int) (a1:List Int):aa.Told A:=⟨f a0 a1,fun r=>af Pg C 117 (S a0 a1) 0 (v r) (o r),fun r h=>ae G mixed Q Tryz.func117 rfl (of_decide_eq_true (by kernel_rfl)) (by rfl) id st v o (fun _=>rfl) tree e (begin a0 a1) (b a0 a1) h⟩
end fp
namespace cG
def S (a0:List az) (a1 a2:List Int) (a3 a4 a5 a6 a7 a8 a9 a10:Int) (a11:List Int) (a12:Int):List (PV U):=aa.start C 22 [.agg [.sl 164 a0,.sl 3 a1,.sl 3 a2,.int .i64 a3,.int .i64 a4,.int .i64 a5,.int .i64 a6,.int .i64 a7,.int .i64 a8,.int .i64 a9,.int .i64 a10,.sl 3 a11,.int .i64 a12]] []
abbrev X:=Empty
def id:X→Nat:=fun _=>0
def st:X→List (PV U):=fun _=>[]
def begin (a0:List az) (a1 a2:List Int) (a3 a4 a5 a6 a7 a8 a9 a10:Int) (a11:List Int) (a12:Int):Tr X A:=
 .call (cT.told a0) fun t1=> .aG (((List.length ([]:List Int):Int)+(List.length a1:Int))*(8:Nat)≤room) (.aG (((List.length ([]:List Int):Int)+(List.length a2:Int))*(8:Nat)≤room) (.call (fp.told a10 a11) fun t2=> .ret (t1,(([]:List Int)++a1),(([]:List Int)++a2),a3,a4,a5,a6,a7,a8,a9,t2.1,t2.2,a12)))
def tree:X→Tr X A:=fun _=> .fail
def f (a0:List az) (a1 a2:List Int) (a3 a4 a5 a6 a7 a8 a9 a10:Int) (a11:List Int) (a12:Int):Option A:=(begin a0 a1 a2 a3 a4 a5 a6 a7 a8 a9 a10 a11 a12).run (lp tree)
def Q:aE C:={PL with aU:=[],aT:=[],aQ:=[]}
theorem e:ay Pg C Q Tryz.f61 0 id st v o tree:=fun J K x=>by cases x
theorem b (a0:List az) (a1 a2:List Int) (a3 a4 a5 a6 a7 a8 a9 a10:Int) (a11:List Int) (a12:Int):ax Pg C Q Tryz.f61 0 id st v o (S a0 a1 a2 a3 a4 a5 a6 a7 a8 a9 a10 a11 a12) (begin a0 a1 a2 a3 a4 a5 a6 a7 a8 a9 a10 a11 a12):=fun J K=>by kernel_rfl
def told (a0:List az) (a1 a2:List Int) (a3 a4 a5 a6 a7 a8 a9 a10:Int) (a11:List Int) (a12:Int):aa.Told A:=⟨f a0 a1 a2 a3 a4 a5 a6 a7 a8 a9 a10 a11 a12,fun r=>af Pg C 61 (S a0 a1 a2 a3 a4 a5 a6 a7 a8 a9 a10 a11 a12) 0 (v r) (o r),fun r h=>ae G mixed Q Tryz.func61 rfl (of_decide_eq_true (by kernel_rfl)) (by rfl) id st v o (fun _=>rfl) tree e (begin a0 a1 a2 a3 a4 a5 a6 a7 a8 a9 a10 a11 a12) (b a0 a1 a2 a3 a4 a5 a6 a7 a8 a9 a10 a11 a12) h⟩
end cG
namespace dq
def S (a0 a1 a2:Int):List (PV U):=aa.start C 21 [.int .i64 a0,.int .i64 a1,.int .i64 a2] []
abbrev X:=Empty
def id:X→Nat:=fun _=>0
def st:X→List (PV U):=fun _=>[]
def begin (a0 a1 a2:Int):Tr X A:=
 .ite (decide (a2<a1))
  (.ret a1)
  (.ite (decide (a0<a1))
   (.ret a1)
   (.ite (decide (a0>a2))
    (.ret a2)
    (.ret a0)))
def tree:X→Tr X A:=fun _=> .fail
def f (a0 a1 a2:Int):Option A:=(begin a0 a1 a2).run (lp tree)
def Q:aE C:={PL with aU:=[],aT:=[],aQ:=[]}
theorem e:ay Pg C Q Tryz.f157 0 id st v o tree:=fun J K x=>by cases x
theorem b (a0 a1 a2:Int):ax Pg C Q Tryz.f157 0 id st v o (S a0 a1 a2) (begin a0 a1 a2):=fun J K=>by kernel_rfl
def told (a0 a1 a2:Int):aa.Told A:=⟨f a0 a1 a2,fun r=>af Pg C 157 (S a0 a1 a2) 0 (v r) (o r),fun r h=>ae G mixed Q Tryz.func157 rfl (of_decide_eq_true (by kernel_rfl)) (by rfl) id st v o (fun _=>rfl) tree e (begin a0 a1 a2) (b a0 a1 a2) h⟩
end dq
namespace eX
def S (a0 a1 a2 a3 a4:Int):List (PV U):=aa.start C 17 [.agg [.int .i64 a0,.int .i64 a1,.int .i64 a2,.int .i64 a3],.int .i64 a4] []
abbrev X:=Empty
def id:X→Nat:=fun _=>0
def st:X→List (PV U):=fun _=>[]
def begin (a0 a1 a2 a3 a4:Int):Tr X A:=
 .call (dq.told (wr ((wr (a0+a4))-a3)) (0:Int) a1) fun t1=> .ret (t1,a1,a2,a3)
def tree:X→Tr X A:=fun _=> .fail
def f (a0 a1 a2 a3 a4:Int):Option A:=(begin a0 a1 a2 a3 a4).run (lp tree)
def Q:aE C:={PL with aU:=[],aT:=[],aQ:=[]}
theorem e:ay Pg C Q Tryz.f118 0 id st v o tree:=fun J K x=>by cases x
theorem b (a0 a1 a2 a3 a4:Int):ax Pg C Q Tryz.f118 0 id st v o (S a0 a1 a2 a3 a4) (begin a0 a1 a2 a3 a4):=fun J K=>by kernel_rfl
def told (a0 a1 a2 a3 a4:Int):aa.Told A:=⟨f a0 a1 a2 a3 a4,fun r=>af Pg C 118 (S a0 a1 a2 a3 a4) 0 (v r) (o r),fun r h=>ae G mixed Q Tryz.func118 rfl (of_decide_eq_true (by kernel_rfl)) (by rfl) id st v o (fun _=>rfl) tree e (begin a0 a1 a2 a3 a4) (b a0 a1 a2 a3 a4) h⟩
end eX
namespace gn
def S (a0 a1 a2 a3:Int):List (PV U):=aa.start C 18 [.agg [.int .i64 a0,.int .i64 a1],.int .i64 a2,.int .i64 a3] []
abbrev X:=Empty
def id:X→Nat:=fun _=>0
def st:X→List (PV U):=fun _=>[]
def begin (a0 a1 a2 a3:Int):Tr X A:=
 .ret ((if(wr (a0+a2))<(1000000:Int)then(wr (a0+a2))else(1000000:Int)),(if(wr (a1+a3))<(1000000:Int)then(wr (a1+a3))else(1000000:Int)))
def tree:X→Tr X A:=fun _=> .fail
def f (a0 a1 a2 a3:Int):Option A:=(begin a0 a1 a2 a3).run (lp tree)
def Q:aE C:={PL with aU:=[],aT:=[],aQ:=[]}
theorem e:ay Pg C Q Tryz.f130 0 id st v o tree:=fun J K x=>by cases x
theorem b (a0 a1 a2 a3:Int):ax Pg C Q Tryz.f130 0 id st v o (S a0 a1 a2 a3) (begin a0 a1 a2 a3):=fun J K=>by kernel_rfl
def told (a0 a1 a2 a3:Int):aa.Told A:=⟨f a0 a1 a2 a3,fun r=>af Pg C 130 (S a0 a1 a2 a3) 0 (v r) (o r),fun r h=>ae G mixed Q Tryz.func130 rfl (of_decide_eq_true (by kernel_rfl)) (by rfl) id st v o (fun _=>rfl) tree e (begin a0 a1 a2 a3) (b a0 a1 a2 a3) h⟩
end gn
namespace fD
def S (a0 a1 a2:Int):List (PV U):=aa.start C 18 [.agg [.int .i64 a0,.int .i64 a1],.int .i64 a2] []
abbrev X:=Empty
def id:X→Nat:=fun _=>0
def st:X→List (PV U):=fun _=>[]
def begin (a0 a1 a2:Int):Tr X A:=
 .call (ff.told a0 a1) fun t1=> .ite (!t1)
  (.ret (a0,a1))
  (.call (aH.told a2 (0:Int) (1000000:Int)) fun t2=> .ite (!t2)
   (.ret (a0,a1))
   (.call (gn.told a0 a1 a2 a2) fun t3=> .ret (t3.1,t3.2)))
def tree:X→Tr X A:=fun _=> .fail
def f (a0 a1 a2:Int):Option A:=(begin a0 a1 a2).run (lp tree)
def Q:aE C:={PL with aU:=[],aT:=[],aQ:=[]}
theorem e:ay Pg C Q Tryz.f119 0 id st v o tree:=fun J K x=>by cases x
theorem b (a0 a1 a2:Int):ax Pg C Q Tryz.f119 0 id st v o (S a0 a1 a2) (begin a0 a1 a2):=fun J K=>by kernel_rfl
def told (a0 a1 a2:Int):aa.Told A:=⟨f a0 a1 a2,fun r=>af Pg C 119 (S a0 a1 a2) 0 (v r) (o r),fun r h=>ae G mixed Q Tryz.func119 rfl (of_decide_eq_true (by kernel_rfl)) (by rfl) id st v o (fun _=>rfl) tree e (begin a0 a1 a2) (b a0 a1 a2) h⟩
end fD
namespace bd
def S (a0:List Int):List (PV U):=aa.start C 60 [.sl 3 a0] []
inductive X where
 | c6 (x0:List Int) (x1:List fY) (x2 x3 x4 x5:Int)
def id:X→Nat
 | .c6 .. =>6
def st:X→List (PV U)
 | .c6 x0 x1 x2 x3 x4 x5=>eH 60 [(0,.sl 3 x0),(3,.own true 173 x1),(4,.int .i64 x2),(5,.int .i64 x3),(6,.int .i64 x4),(7,.int .i64 x5)]
def begin (a0:List Int):Tr X A:=
 .ite (!decide ((List.length a0:Int)=(49:Int)))
  (.ret (([]:List fY)))
  (.aG ((0:Int)≤(8:Int)∧(8:Int)<(List.length a0:Int)) (.call (bg.told (eG a0 (8:Int))) fun t1=> .jump (.c6 a0 ([]:List fY) t1.1 t1.2.1 t1.2.2 (wr (t1.2.1-(1:Int))))))
def tree:X→Tr X A
 | .c6 x0 x1 x2 x3 x4 x5=>
 .ite (decide (x5≥(0:Int)))
  (.aG ((0:Int)≤(wr ((9:Int)+(wr ((2:Int)*x5))))∧(wr ((9:Int)+(wr ((2:Int)*x5))))<(List.length x0:Int)) (.call (aH.told (eG x0 (wr ((9:Int)+(wr ((2:Int)*x5))))) (0:Int) (7:Int)) fun t1=> .ite (!t1)
   (.ret (([]:List fY)))
   (.aG ((0:Int)≤(wr ((wr ((9:Int)+(wr ((2:Int)*x5))))+(1:Int)))∧(wr ((wr ((9:Int)+(wr ((2:Int)*x5))))+(1:Int)))<(List.length x0:Int)) (.val ([(⟨(eG x0 (wr ((9:Int)+(wr ((2:Int)*x5))))),(eG x0 (wr ((wr ((9:Int)+(wr ((2:Int)*x5))))+(1:Int))))⟩:fY)]:List fY) fun v2=> .aG (((List.length x1:Int)+(List.length v2:Int))*(16:Nat)≤room) (.jump (.c6 x0 (x1++v2) x2 x3 x4 (wr (x5-(1:Int)))))))))
  (.ite (decide (x3≤(0:Int)))
   (.ret x1)
   (.call (bu.told x2 (0:Int) x4) fun t1=> .aG (((List.length x1:Int)+(List.length ([(⟨(8:Int),t1⟩:fY)]):Int))*(16:Nat)≤room) (.ret ((x1++[(⟨(8:Int),t1⟩:fY)])))))
def f (a0:List Int):Option A:=(begin a0).run (lp tree)
def Q:aE C:={PL with aU:=[(6,[0,3,4,5,6,7])],aT:=[],aQ:=[]}
theorem e:ay Pg C Q Tryz.f158 0 id st v o tree:=fun J K x=>by cases x<;>kernel_rfl
theorem b (a0:List Int):ax Pg C Q Tryz.f158 0 id st v o (S a0) (begin a0):=fun J K=>by kernel_rfl
def told (a0:List Int):aa.Told A:=⟨f a0,fun r=>af Pg C 158 (S a0) 0 (v r) (o r),fun r h=>ae G mixed Q Tryz.func158 rfl (of_decide_eq_true (by kernel_rfl)) (by rfl) id st v o (fun _=>rfl) tree e (begin a0) (b a0) h⟩
end bd
namespace bF
def S (a0:List Int) (a1:List fY) (a2:Int):List (PV U):=aa.start C 45 [.sl 3 a0,.sl 173 a1,.int .i64 a2] []
inductive X where
 | c3 (x0:List Int) (x1:List fY) (x2:Int) (x3:List Int) (x4:Int)
def id:X→Nat
 | .c3 .. =>3
def st:X→List (PV U)
 | .c3 x0 x1 x2 x3 x4=>eH 45 [(0,.sl 3 x0),(1,.sl 173 x1),(2,.int .i64 x2),(7,.own true 3 x3),(8,.int .i64 x4)]
def begin (a0:List Int) (a1:List fY) (a2:Int):Tr X A:=
 .aG (((List.length ([]:List Int):Int)+(List.length a0:Int))*(8:Nat)≤room) (.jump (.c3 a0 a1 a2 (([]:List Int)++a0) (0:Int)))
def tree:X→Tr X A
 | .c3 x0 x1 x2 x3 x4=>
 .ite (decide (x4<(List.length x1:Int)))
  (.ite (decide (x4<x2))
   (.aG ((0:Int)≤x4∧x4<(List.length x1:Int)) (.call (aH.told ((mT x1 x4).f0) (0:Int) (wr ((List.length x0:Int)-(1:Int)))) fun t1=> .ite t1
    (.aG ((0:Int)≤x4∧x4<(List.length x1:Int)) (.aG ((0:Int)≤x4∧x4<(List.length x1:Int)) (.aG ((0:Int)≤(mT x1 x4).f0∧(mT x1 x4).f0<(List.length x3:Int)) (.last (.jump (.c3 x0 x1 x2 (List.set x3 (Int.toNat ((mT x1 x4).f0)) ((mT x1 x4).f1)) (wr (x4+(1:Int)))))))))
    (.jump (.c3 x0 x1 x2 x3 (wr (x4+(1:Int)))))))
   (.ret x3))
  (.ret x3)
def f (a0:List Int) (a1:List fY) (a2:Int):Option A:=(begin a0 a1 a2).run (lp tree)
def Q:aE C:={PL with aU:=[(3,[0,1,2,7,8])],aT:=[(6,[12],(.take 0 [] (.take 1 [] (.take 2 [] (.take 3 [] (.take 4 [] (.take 6 [] (.take 7 [] (.take 8 [] (.take 9 [] (.take 5 [0,1,2,3,4,6,7,8,9,10] (.take 10 [0,1,2,3,4,5,6,7,8,9] (.take 11 [] (.alt 12 .done .nil))))))))))))))],aQ:=[]}
theorem e:ay Pg C Q Tryz.f159 0 id st v o tree:=fun J K x=>by cases x<;>kernel_rfl
theorem b (a0:List Int) (a1:List fY) (a2:Int):ax Pg C Q Tryz.f159 0 id st v o (S a0 a1 a2) (begin a0 a1 a2):=fun J K=>by kernel_rfl
def told (a0:List Int) (a1:List fY) (a2:Int):aa.Told A:=⟨f a0 a1 a2,fun r=>af Pg C 159 (S a0 a1 a2) 0 (v r) (o r),fun r h=>ae G mixed Q Tryz.func159 rfl (of_decide_eq_true (by kernel_rfl)) (by rfl) id st v o (fun _=>rfl) tree e (begin a0 a1 a2) (b a0 a1 a2) h⟩
end bF
namespace gI
def S (a0:List aq) (a1 a2 a3:Int):List (PV U):=aa.start C 11 [.agg [.sl 204 a0,.int .i64 a1,.int .i64 a2,.int .i64 a3]] []
abbrev X:=Empty
def id:X→Nat:=fun _=>0
def st:X→List (PV U):=fun _=>[]
def begin (a0:List aq) (a1 a2 a3:Int):Tr X A:=
 .call (bt.told a0) fun t1=> .ite t1
  (.call (cf.told a1 a2 a3) fun t2=> .ret t2)
  (.ret false)
def tree:X→Tr X A:=fun _=> .fail
def f (a0:List aq) (a1 a2 a3:Int):Option A:=(begin a0 a1 a2 a3).run (lp tree)
def Q:aE C:={PL with aU:=[],aT:=[],aQ:=[]}
theorem e:ay Pg C Q Tryz.f226 0 id st v o tree:=fun J K x=>by cases x
theorem b (a0:List aq) (a1 a2 a3:Int):ax Pg C Q Tryz.f226 0 id st v o (S a0 a1 a2 a3) (begin a0 a1 a2 a3):=fun J K=>by kernel_rfl
def told (a0:List aq) (a1 a2 a3:Int):aa.Told A:=⟨f a0 a1 a2 a3,fun r=>af Pg C 226 (S a0 a1 a2 a3) 0 (v r) (o r),fun r h=>ae G mixed Q Tryz.func226 rfl (of_decide_eq_true (by kernel_rfl)) (by rfl) id st v o (fun _=>rfl) tree e (begin a0 a1 a2 a3) (b a0 a1 a2 a3) h⟩
end gI
namespace cB
def S (a0 a1 a2 a3 a4 a5:Int):List (PV U):=aa.start C 11 [.agg [.int .i64 a0,.int .i64 a1,.int .i64 a2,.int .i64 a3,.int .i64 a4,.int .i64 a5]] []
abbrev X:=Empty
def id:X→Nat:=fun _=>0
def st:X→List (PV U):=fun _=>[]
def begin (a0 a1 a2 a3 a4 a5:Int):Tr X A:=
 .ite (decide (a0=(1:Int)))
  (.ret true)
  (.ret ((decide (a0=(2:Int)))))
def tree:X→Tr X A:=fun _=> .fail
def f (a0 a1 a2 a3 a4 a5:Int):Option A:=(begin a0 a1 a2 a3 a4 a5).run (lp tree)
def Q:aE C:={PL with aU:=[],aT:=[],aQ:=[]}
theorem e:ay Pg C Q Tryz.f248 0 id st v o tree:=fun J K x=>by cases x
theorem b (a0 a1 a2 a3 a4 a5:Int):ax Pg C Q Tryz.f248 0 id st v o (S a0 a1 a2 a3 a4 a5) (begin a0 a1 a2 a3 a4 a5):=fun J K=>by kernel_rfl
def told (a0 a1 a2 a3 a4 a5:Int):aa.Told A:=⟨f a0 a1 a2 a3 a4 a5,fun r=>af Pg C 248 (S a0 a1 a2 a3 a4 a5) 0 (v r) (o r),fun r h=>ae G mixed Q Tryz.func248 rfl (of_decide_eq_true (by kernel_rfl)) (by rfl) id st v o (fun _=>rfl) tree e (begin a0 a1 a2 a3 a4 a5) (b a0 a1 a2 a3 a4 a5) h⟩
end cB
namespace bP
def S (a0:List Bool):List (PV U):=aa.start C 21 [.sl 4 a0] []
inductive X where
 | c3 (x0:List Bool) (x1:List Int) (x2:Int)
def id:X→Nat
 | .c3 .. =>3
def st:X→List (PV U)
 | .c3 x0 x1 x2=>eH 21 [(0,.sl 4 x0),(3,.own true 3 x1),(4,.int .i64 x2)]
def begin (a0:List Bool):Tr X A:=
 .jump (.c3 a0 ([]:List Int) (0:Int))
def tree:X→Tr X A
 | .c3 x0 x1 x2=>
 .ite (decide (x2<(List.length x0:Int)))
  (.aG ((0:Int)≤x2∧x2<(List.length x0:Int)) (.ite (CP x0 x2)
   (.aG (((List.length x1:Int)+(List.length ([x2]):Int))*(8:Nat)≤room) (.jump (.c3 x0 (x1++[x2]) (wr (x2+(1:Int))))))
   (.jump (.c3 x0 x1 (wr (x2+(1:Int)))))))
  (.ret x1)
def f (a0:List Bool):Option A:=(begin a0).run (lp tree)
def Q:aE C:={PL with aU:=[(3,[0,3,4])],aT:=[],aQ:=[]}
theorem e:ay Pg C Q Tryz.f249 0 id st v o tree:=fun J K x=>by cases x<;>kernel_rfl
theorem b (a0:List Bool):ax Pg C Q Tryz.f249 0 id st v o (S a0) (begin a0):=fun J K=>by kernel_rfl
def told (a0:List Bool):aa.Told A:=⟨f a0,fun r=>af Pg C 249 (S a0) 0 (v r) (o r),fun r h=>ae G mixed Q Tryz.func249 rfl (of_decide_eq_true (by kernel_rfl)) (by rfl) id st v o (fun _=>rfl) tree e (begin a0) (b a0) h⟩
end bP
namespace cW
def S (a0:List aq):List (PV U):=aa.start C 30 [.sl 204 a0] []
inductive X where
 | c3 (x0:List aq) (x1:List Bool) (x2:Int)
def id:X→Nat
 | .c3 .. =>3
def st:X→List (PV U)
 | .c3 x0 x1 x2=>eH 30 [(0,.sl 204 x0),(3,.own true 4 x1),(4,.int .i64 x2)]
def begin (a0:List aq):Tr X A:=
 .aG ((0:Int)≤(8:Int)∧(8:Int)≤(8:Int)∧(8:Int)*(1:Nat)≤room) (.jump (.c3 a0 (List.replicate (Int.toNat (8:Int)) false) (0:Int)))
def tree:X→Tr X A
 | .c3 x0 x1 x2=>
 .ite (decide (x2<(List.length x0:Int)))
  (.call (bt.told x0) fun t1=> .ite t1
   (.aG ((0:Int)≤x2∧x2<(List.length x0:Int)) (.call (cB.told ((ah x0 x2).f0) ((ah x0 x2).f1) ((ah x0 x2).f2) ((ah x0 x2).f3.f0) ((ah x0 x2).f3.f1) ((ah x0 x2).f3.f2)) fun t2=> .ite t2
    (.aG ((0:Int)≤x2∧x2<(List.length x0:Int)) (.aG ((0:Int)≤(ah x0 x2).f1∧(ah x0 x2).f1<(List.length x1:Int)) (.jump (.c3 x0 (List.set x1 (Int.toNat ((ah x0 x2).f1)) true) (wr (x2+(1:Int)))))))
    (.jump (.c3 x0 x1 (wr (x2+(1:Int)))))))
   (.call (bP.told x1) fun t2=> .ret t2))
  (.call (bP.told x1) fun t1=> .ret t1)
def f (a0:List aq):Option A:=(begin a0).run (lp tree)
def Q:aE C:={PL with aU:=[(3,[0,3,4])],aT:=[],aQ:=[]}
theorem e:ay Pg C Q Tryz.f227 0 id st v o tree:=fun J K x=>by cases x<;>kernel_rfl
theorem b (a0:List aq):ax Pg C Q Tryz.f227 0 id st v o (S a0) (begin a0):=fun J K=>by kernel_rfl
def told (a0:List aq):aa.Told A:=⟨f a0,fun r=>af Pg C 227 (S a0) 0 (v r) (o r),fun r h=>ae G mixed Q Tryz.func227 rfl (of_decide_eq_true (by kernel_rfl)) (by rfl) id st v o (fun _=>rfl) tree e (begin a0) (b a0) h⟩
end cW
namespace eN
def S (a0 a1 a2 a3 a4 a5:Int):List (PV U):=aa.start C 11 [.agg [.int .i64 a0,.int .i64 a1,.int .i64 a2,.int .i64 a3,.int .i64 a4,.int .i64 a5]] []
abbrev X:=Empty
def id:X→Nat:=fun _=>0
def st:X→List (PV U):=fun _=>[]
def begin (a0 a1 a2 a3 a4 a5:Int):Tr X A:=
 .ite (decide (a0=(4:Int)))
  (.ret true)
  (.ret ((decide (a0=(5:Int)))))
def tree:X→Tr X A:=fun _=> .fail
def f (a0 a1 a2 a3 a4 a5:Int):Option A:=(begin a0 a1 a2 a3 a4 a5).run (lp tree)
def Q:aE C:={PL with aU:=[],aT:=[],aQ:=[]}
theorem e:ay Pg C Q Tryz.f257 0 id st v o tree:=fun J K x=>by cases x
theorem b (a0 a1 a2 a3 a4 a5:Int):ax Pg C Q Tryz.f257 0 id st v o (S a0 a1 a2 a3 a4 a5) (begin a0 a1 a2 a3 a4 a5):=fun J K=>by kernel_rfl
def told (a0 a1 a2 a3 a4 a5:Int):aa.Told A:=⟨f a0 a1 a2 a3 a4 a5,fun r=>af Pg C 257 (S a0 a1 a2 a3 a4 a5) 0 (v r) (o r),fun r h=>ae G mixed Q Tryz.func257 rfl (of_decide_eq_true (by kernel_rfl)) (by rfl) id st v o (fun _=>rfl) tree e (begin a0 a1 a2 a3 a4 a5) (b a0 a1 a2 a3 a4 a5) h⟩
end eN
namespace cd
def S (a0:List aq) (a1:Int):List (PV U):=aa.start C 32 [.sl 204 a0,.int .i64 a1] []
inductive X where
 | c3 (x0:List aq) (x1 x2:Int)
def id:X→Nat
 | .c3 .. =>3
def st:X→List (PV U)
 | .c3 x0 x1 x2=>eH 32 [(0,.sl 204 x0),(5,.int .i64 x1),(6,.int .i64 x2)]
def begin (a0:List aq) (a1:Int):Tr X A:=
 .jump (.c3 a0 (0:Int) a1)
def tree:X→Tr X A
 | .c3 x0 x1 x2=>
 .ite (decide (x2<(List.length x0:Int)))
  (.aG ((0:Int)≤x2∧x2<(List.length x0:Int)) (.call (eN.told ((ah x0 x2).f0) ((ah x0 x2).f1) ((ah x0 x2).f2) ((ah x0 x2).f3.f0) ((ah x0 x2).f3.f1) ((ah x0 x2).f3.f2)) fun t1=> .ite t1
   (.aG ((0:Int)≤x2∧x2<(List.length x0:Int)) (.ite (decide ((ah x0 x2).f0=(6:Int)))
    (.ite (decide ((wr ((wr (x1+(1:Int)))-(1:Int)))=(0:Int)))
     (.ret x2)
     (.jump (.c3 x0 (wr ((wr (x1+(1:Int)))-(1:Int))) (wr (x2+(1:Int))))))
    (.jump (.c3 x0 (wr (x1+(1:Int))) (wr (x2+(1:Int)))))))
   (.aG ((0:Int)≤x2∧x2<(List.length x0:Int)) (.ite (decide ((ah x0 x2).f0=(6:Int)))
    (.ite (decide ((wr (x1-(1:Int)))=(0:Int)))
     (.ret x2)
     (.jump (.c3 x0 (wr (x1-(1:Int))) (wr (x2+(1:Int))))))
    (.jump (.c3 x0 x1 (wr (x2+(1:Int)))))))))
  (.ret ((-1:Int)))
def f (a0:List aq) (a1:Int):Option A:=(begin a0 a1).run (lp tree)
def Q:aE C:={PL with aU:=[(3,[0,5,6])],aT:=[],aQ:=[]}
theorem e:ay Pg C Q Tryz.f235 0 id st v o tree:=fun J K x=>by cases x<;>kernel_rfl
theorem b (a0:List aq) (a1:Int):ax Pg C Q Tryz.f235 0 id st v o (S a0 a1) (begin a0 a1):=fun J K=>by kernel_rfl
def told (a0:List aq) (a1:Int):aa.Told A:=⟨f a0 a1,fun r=>af Pg C 235 (S a0 a1) 0 (v r) (o r),fun r h=>ae G mixed Q Tryz.func235 rfl (of_decide_eq_true (by kernel_rfl)) (by rfl) id st v o (fun _=>rfl) tree e (begin a0 a1) (b a0 a1) h⟩
end cd
namespace cm
def S (a0:List aq):List (PV U):=aa.start C 39 [.sl 204 a0] []
inductive X where
 | c3 (x0:List aq) (x1:List Bool) (x2:Int)
def id:X→Nat
 | .c3 .. =>3
def st:X→List (PV U)
 | .c3 x0 x1 x2=>eH 39 [(0,.sl 204 x0),(3,.own true 4 x1),(4,.int .i64 x2)]
def begin (a0:List aq):Tr X A:=
 .aG ((0:Int)≤(8:Int)∧(8:Int)≤(8:Int)∧(8:Int)*(1:Nat)≤room) (.jump (.c3 a0 (List.replicate (Int.toNat (8:Int)) false) (0:Int)))
def tree:X→Tr X A
 | .c3 x0 x1 x2=>
 .ite (decide (x2<(List.length x0:Int)))
  (.call (bt.told x0) fun t1=> .ite t1
   (.aG ((0:Int)≤x2∧x2<(List.length x0:Int)) (.ite (decide ((ah x0 x2).f0=(4:Int)))
    (.call (cd.told x0 x2) fun t2=> .jump (.c3 x0 x1 (wr (t2+(1:Int)))))
    (.aG ((0:Int)≤x2∧x2<(List.length x0:Int)) (.call (cB.told ((ah x0 x2).f0) ((ah x0 x2).f1) ((ah x0 x2).f2) ((ah x0 x2).f3.f0) ((ah x0 x2).f3.f1) ((ah x0 x2).f3.f2)) fun t2=> .ite t2
     (.aG ((0:Int)≤x2∧x2<(List.length x0:Int)) (.aG ((0:Int)≤(ah x0 x2).f1∧(ah x0 x2).f1<(List.length x1:Int)) (.jump (.c3 x0 (List.set x1 (Int.toNat ((ah x0 x2).f1)) true) (wr (x2+(1:Int)))))))
     (.jump (.c3 x0 x1 (wr (x2+(1:Int)))))))))
   (.call (bP.told x1) fun t2=> .ret t2))
  (.call (bP.told x1) fun t1=> .ret t1)
def f (a0:List aq):Option A:=(begin a0).run (lp tree)
def Q:aE C:={PL with aU:=[(3,[0,3,4])],aT:=[],aQ:=[]}
theorem e:ay Pg C Q Tryz.f228 0 id st v o tree:=fun J K x=>by cases x<;>kernel_rfl
theorem b (a0:List aq):ax Pg C Q Tryz.f228 0 id st v o (S a0) (begin a0):=fun J K=>by kernel_rfl
def told (a0:List aq):aa.Told A:=⟨f a0,fun r=>af Pg C 228 (S a0) 0 (v r) (o r),fun r h=>ae G mixed Q Tryz.func228 rfl (of_decide_eq_true (by kernel_rfl)) (by rfl) id st v o (fun _=>rfl) tree e (begin a0) (b a0) h⟩
end cm
namespace cV
def S (a0 a1 a2:Int):List (PV U):=aa.start C 31 [.agg [.int .i64 a0,.int .i64 a1,.int .i64 a2]] []
inductive X where
 | c3 (x0 x1 x2:Int) (x3:List Int) (x4:Int)
def id:X→Nat
 | .c3 .. =>3
def st:X→List (PV U)
 | .c3 x0 x1 x2 x3 x4=>eH 31 [(1,.box [.int .i64 x0,.int .i64 x1,.int .i64 x2]),(3,.own true 3 x3),(4,.int .i64 x4)]
def begin (a0 a1 a2:Int):Tr X A:=
 .jump (.c3 a0 a1 a2 ([]:List Int) (0:Int))
def tree:X→Tr X A
 | .c3 x0 x1 x2 x3 x4=>
 .ite (decide (x4<(8:Int)))
  (.call (cf.told x0 x1 x2) fun t1=>let u1_0:Tr X A:=(.aG (((List.length x3:Int)+(List.length ([x4]):Int))*(8:Nat)≤room) (.jump (.c3 x0 x1 x2 (x3++[x4]) (wr (x4+(1:Int)))))); .ite t1
   (.ite (decide (x1=(wr ((-1:Int)-x4))))
    (u1_0)
    (.ite (decide (x2=(wr ((-1:Int)-x4))))
     (u1_0)
     (.jump (.c3 x0 x1 x2 x3 (wr (x4+(1:Int)))))))
   (.ret x3))
  (.ret x3)
def f (a0 a1 a2:Int):Option A:=(begin a0 a1 a2).run (lp tree)
def Q:aE C:={PL with aU:=[(3,[1,3,4])],aT:=[],aQ:=[]}
theorem e:ay Pg C Q Tryz.f262 0 id st v o tree:=fun J K x=>by cases x<;>kernel_rfl
theorem b (a0 a1 a2:Int):ax Pg C Q Tryz.f262 0 id st v o (S a0 a1 a2) (begin a0 a1 a2):=fun J K=>by kernel_rfl
def told (a0 a1 a2:Int):aa.Told A:=⟨f a0 a1 a2,fun r=>af Pg C 262 (S a0 a1 a2) 0 (v r) (o r),fun r h=>ae G mixed Q Tryz.func262 rfl (of_decide_eq_true (by kernel_rfl)) (by rfl) id st v o (fun _=>rfl) tree e (begin a0 a1 a2) (b a0 a1 a2) h⟩
end cV
namespace cb
def S (a0 a1 a2:Int) (a3 a4:List Bool):List (PV U):=aa.start C 30 [.iL (30,[]),.iL (31,[]),.agg [.int .i64 a0,.int .i64 a1,.int .i64 a2]] [.own true 4 a3,.own true 4 a4]
inductive X where
 | c3 (x0:List Int) (x1:Int) (x2 x3:List Bool)
def id:X→Nat
 | .c3 .. =>3
def st:X→List (PV U)
 | .c3 x0 x1 x2 x3=>eH 32 [(0,.iL (30,[])),(1,.iL (31,[])),(6,.own true 3 x0),(7,.int .i64 x1),(30,.own true 4 x2),(31,.own true 4 x3)]
def begin (a0 a1 a2:Int) (a3 a4:List Bool):Tr X A:=
 .call (cV.told a0 a1 a2) fun t1=> .jump (.c3 t1 (0:Int) a3 a4)
def tree:X→Tr X A
 | .c3 x0 x1 x2 x3=>
 .ite (decide (x1<(List.length x0:Int)))
  (.aG ((0:Int)≤x1∧x1<(List.length x0:Int)) (.aG ((0:Int)≤(eG x0 x1)∧(eG x0 x1)<(List.length x3:Int)) (.ite (!(CP x3 (eG x0 x1)))
   (.aG ((0:Int)≤x1∧x1<(List.length x0:Int)) (.aG ((0:Int)≤(eG x0 x1)∧(eG x0 x1)<(List.length x2:Int)) (.jump (.c3 x0 (wr (x1+(1:Int))) (List.set x2 (Int.toNat (eG x0 x1)) true) x3))))
   (.jump (.c3 x0 (wr (x1+(1:Int))) x2 x3)))))
  (.ret (x2,x3))
def f (a0 a1 a2:Int) (a3 a4:List Bool):Option A:=(begin a0 a1 a2 a3 a4).run (lp tree)
def Q:aE C:={PL with aU:=[(3,[0,1,6,7,30,31])],aT:=[],aQ:=[]}
theorem e:ay Pg C Q Tryz.f251 2 id st v o tree:=fun J K x=>by cases x<;>kernel_rfl
theorem b (a0 a1 a2:Int) (a3 a4:List Bool):ax Pg C Q Tryz.f251 2 id st v o (S a0 a1 a2 a3 a4) (begin a0 a1 a2 a3 a4):=fun J K=>by kernel_rfl
def told (a0 a1 a2:Int) (a3 a4:List Bool):aa.Told A:=⟨f a0 a1 a2 a3 a4,fun r=>af Pg C 251 (S a0 a1 a2 a3 a4) 2 (v r) (o r),fun r h=>ae G mixed Q Tryz.func251 rfl (of_decide_eq_true (by kernel_rfl)) (by rfl) id st v o (fun _=>rfl) tree e (begin a0 a1 a2 a3 a4) (b a0 a1 a2 a3 a4) h⟩
end cb
namespace bp
def S (a0:List aq) (a1 a2:Int) (a3 a4:List Bool):List (PV U):=aa.start C 83 [.sl 204 a0,.int .i64 a1,.int .i64 a2,.iL (83,[]),.iL (84,[])] [.own true 4 a3,.own true 4 a4]
abbrev I:=(List aq)×Int×Int×(List Bool)×(List Bool)
abbrev K:I→A→Prop:=fun i_ r=>af Pg C 250 (S i_.1 i_.2.1 i_.2.2.1 i_.2.2.2.1 i_.2.2.2.2) 2 (v r) (o r)
inductive X where
 | c1 (x0:List aq) (x1 x2:Int) (x3 x4:List Bool)
def id:X→Nat
 | .c1 .. =>1
def st:X→List (PV U)
 | .c1 x0 x1 x2 x3 x4=>eH 85 [(0,.sl 204 x0),(2,.int .i64 x1),(3,.iL (83,[])),(4,.iL (84,[])),(10,.int .i64 x2),(83,.own true 4 x3),(84,.own true 4 x4)]
def begin (self_:Self I A K) (a0:List aq) (a1 a2:Int) (a3 a4:List Bool):Tr X A:=
 .jump (.c1 a0 a2 a1 a3 a4)
def tree (self_:Self I A K):X→Tr X A
 | .c1 x0 x1 x2 x3 x4=>
 .ite (decide (x2<x1))
  (.aG ((0:Int)≤x2∧x2<(List.length x0:Int)) (.ite (decide ((ah x0 x2).f0=(1:Int)))
   (.call (cb.told ((ah x0 x2).f3.f0) ((ah x0 x2).f3.f1) ((ah x0 x2).f3.f2) x4 x3) fun t1=> .aG ((0:Int)≤(ah x0 x2).f1∧(ah x0 x2).f1<(List.length t1.2:Int)) (.jump (.c1 x0 x1 (wr (x2+(1:Int))) (List.set t1.2 (Int.toNat ((ah x0 x2).f1)) true) t1.1)))
   (.ite (decide ((ah x0 x2).f0=(2:Int)))
    (.aG ((0:Int)≤(ah x0 x2).f1∧(ah x0 x2).f1<(List.length x3:Int)) (.jump (.c1 x0 x1 (wr (x2+(1:Int))) (List.set x3 (Int.toNat ((ah x0 x2).f1)) true) x4)))
    (.ite (decide ((ah x0 x2).f0=(3:Int)))
     (.call (cb.told ((ah x0 x2).f3.f0) ((ah x0 x2).f3.f1) ((ah x0 x2).f3.f2) x4 x3) fun t1=> .jump (.c1 x0 x1 (wr (x2+(1:Int))) t1.2 t1.1))
     (.ite (decide ((ah x0 x2).f0=(4:Int)))
      (.call (cb.told ((ah x0 x2).f3.f0) ((ah x0 x2).f3.f1) ((ah x0 x2).f3.f2) x4 x3) fun t1=> .call (cd.told x0 x2) fun t2=> .aG (((List.length ([]:List Bool):Int)+(List.length t1.2:Int))*(1:Nat)≤room) (.call (self_.told (x0,(wr (x2+(1:Int))),t2,(([]:List Bool)++t1.2),t1.1)) fun t3=> .jump (.c1 x0 x1 (wr (t2+(1:Int))) t1.2 t3.2)))
      (.ite (decide ((ah x0 x2).f0=(5:Int)))
       (.call (cd.told x0 x2) fun t1=> .call (self_.told (x0,(wr (x2+(1:Int))),t1,x3,x4)) fun t2=> .jump (.c1 x0 x1 (wr (t1+(1:Int))) t2.1 t2.2))
       (.jump (.c1 x0 x1 (wr (x2+(1:Int))) x3 x4))))))))
  (.ret (x3,x4))
def Q:aE C:={PL with aU:=[(1,[0,2,3,4,10,83,84])],aT:=[],aQ:=[]}
theorem e (self_:Self I A K):ay Pg C Q Tryz.f250 2 id st v o (tree self_):=fun J K x=>by cases x<;>kernel_rfl
theorem b (self_:Self I A K) (a0:List aq) (a1 a2:Int) (a3 a4:List Bool):ax Pg C Q Tryz.f250 2 id st v o (S a0 a1 a2 a3 a4) (begin self_ a0 a1 a2 a3 a4):=fun J K=>by kernel_rfl
def step (self_:Self I A K):Self I A K:=⟨fun i_=>(begin self_ i_.1 i_.2.1 i_.2.2.1 i_.2.2.2.1 i_.2.2.2.2).run (lp (tree self_)),fun i_ r h=>ae G mixed Q Tryz.func250 rfl (of_decide_eq_true (by kernel_rfl)) (by rfl) id st v o (fun _=>rfl) (tree self_) (e self_) (begin self_ i_.1 i_.2.1 i_.2.2.1 i_.2.2.2.1 i_.2.2.2.2) (b self_ i_.1 i_.2.1 i_.2.2.1 i_.2.2.2.1 i_.2.2.2.2) h⟩
def f (a0:List aq) (a1 a2:Int) (a3 a4:List Bool):Option A:=(Self.iter step 8).f (a0,a1,a2,a3,a4)
def told (a0:List aq) (a1 a2:Int) (a3 a4:List Bool):aa.Told A:=⟨f a0 a1 a2 a3 a4,fun r=>af Pg C 250 (S a0 a1 a2 a3 a4) 2 (v r) (o r),fun r h=>(Self.iter step 8).ok (a0,a1,a2,a3,a4) r h⟩
end bp
namespace cD
def S (a0:List aq) (a1 a2 a3:Int):List (PV U):=aa.start C 30 [.agg [.sl 204 a0,.int .i64 a1,.int .i64 a2,.int .i64 a3]] []
abbrev X:=Empty
def id:X→Nat:=fun _=>0
def st:X→List (PV U):=fun _=>[]
def begin (a0:List aq) (a1 a2 a3:Int):Tr X A:=
 .aG ((0:Int)≤(8:Int)∧(8:Int)≤(8:Int)∧(8:Int)*(1:Nat)≤room) (.call (bt.told a0) fun t1=> .ite t1
  (.call (cf.told a1 a2 a3) fun t2=> .ite t2
   (.aG ((0:Int)≤(8:Int)∧(8:Int)≤(8:Int)∧(8:Int)*(1:Nat)≤room) (.call (bp.told a0 (0:Int) (List.length a0:Int) (List.replicate (Int.toNat (8:Int)) false) (List.replicate (Int.toNat (8:Int)) false)) fun t3=> .call (cb.told a1 a2 a3 t3.2 t3.1) fun t4=> .call (bP.told t4.1) fun t5=> .ret t5))
   (.call (bP.told (List.replicate (Int.toNat (8:Int)) false)) fun t3=> .ret t3))
  (.call (bP.told (List.replicate (Int.toNat (8:Int)) false)) fun t2=> .ret t2))
def tree:X→Tr X A:=fun _=> .fail
def f (a0:List aq) (a1 a2 a3:Int):Option A:=(begin a0 a1 a2 a3).run (lp tree)
def Q:aE C:={PL with aU:=[],aT:=[],aQ:=[]}
theorem e:ay Pg C Q Tryz.f229 0 id st v o tree:=fun J K x=>by cases x
theorem b (a0:List aq) (a1 a2 a3:Int):ax Pg C Q Tryz.f229 0 id st v o (S a0 a1 a2 a3) (begin a0 a1 a2 a3):=fun J K=>by kernel_rfl
def told (a0:List aq) (a1 a2 a3:Int):aa.Told A:=⟨f a0 a1 a2 a3,fun r=>af Pg C 229 (S a0 a1 a2 a3) 0 (v r) (o r),fun r h=>ae G mixed Q Tryz.func229 rfl (of_decide_eq_true (by kernel_rfl)) (by rfl) id st v o (fun _=>rfl) tree e (begin a0 a1 a2 a3) (b a0 a1 a2 a3) h⟩
end cD
namespace cw
def S (a0:List Int) (a1:Int):List (PV U):=aa.start C 18 [.sl 3 a0,.int .i64 a1] []
inductive X where
 | c2 (x0:List Int) (x1 x2:Int)
def id:X→Nat
 | .c2 .. =>2
def st:X→List (PV U)
 | .c2 x0 x1 x2=>eH 18 [(0,.sl 3 x0),(1,.int .i64 x1),(5,.int .i64 x2)]
def begin (a0:List Int) (a1:Int):Tr X A:=
 .jump (.c2 a0 a1 (0:Int))
def tree:X→Tr X A
 | .c2 x0 x1 x2=>
 .ite (decide (x2<(List.length x0:Int)))
  (.aG ((0:Int)≤x2∧x2<(List.length x0:Int)) (.ite (decide ((eG x0 x2)=x1))
   (.ret true)
   (.jump (.c2 x0 x1 (wr (x2+(1:Int)))))))
  (.ret false)
def f (a0:List Int) (a1:Int):Option A:=(begin a0 a1).run (lp tree)
def Q:aE C:={PL with aU:=[(2,[0,1,5])],aT:=[],aQ:=[]}
theorem e:ay Pg C Q Tryz.f230 0 id st v o tree:=fun J K x=>by cases x<;>kernel_rfl
theorem b (a0:List Int) (a1:Int):ax Pg C Q Tryz.f230 0 id st v o (S a0 a1) (begin a0 a1):=fun J K=>by kernel_rfl
def told (a0:List Int) (a1:Int):aa.Told A:=⟨f a0 a1,fun r=>af Pg C 230 (S a0 a1) 0 (v r) (o r),fun r h=>ae G mixed Q Tryz.func230 rfl (of_decide_eq_true (by kernel_rfl)) (by rfl) id st v o (fun _=>rfl) tree e (begin a0 a1) (b a0 a1) h⟩
end cw
namespace dc
def S (a0:List aq) (a1 a2 a3:Int):List (PV U):=aa.start C 50 [.agg [.sl 204 a0,.int .i64 a1,.int .i64 a2,.int .i64 a3]] []
inductive X where
 | c8 (x0 x1 x2 x3:List Int) (x4:Int)
def id:X→Nat
 | .c8 .. =>8
def st:X→List (PV U)
 | .c8 x0 x1 x2 x3 x4=>eH 50 [(3,.own true 3 x0),(4,.own true 3 x1),(5,.own true 3 x2),(6,.own true 3 x3),(7,.int .i64 x4)]
def begin (a0:List aq) (a1 a2 a3:Int):Tr X A:=
 .call (gI.told a0 a1 a2 a3) fun t1=> .ite (!t1)
  (.ret (([]:List Int)))
  (.call (cW.told a0) fun t2=> .call (cm.told a0) fun t3=> .call (cD.told a0 a1 a2 a3) fun t4=> .jump (.c8 ([]:List Int) t2 t3 t4 (0:Int)))
def tree:X→Tr X A
 | .c8 x0 x1 x2 x3 x4=>
 .ite (decide (x4<(List.length x1:Int)))
  (.aG ((0:Int)≤x4∧x4<(List.length x1:Int)) (.call (cw.told x3 (eG x1 x4)) fun t1=> .ite t1
   (.aG ((0:Int)≤x4∧x4<(List.length x1:Int)) (.aG (((List.length x0:Int)+(List.length ([(eG x1 x4)]):Int))*(8:Nat)≤room) (.jump (.c8 (x0++[(eG x1 x4)]) x1 x2 x3 (wr (x4+(1:Int)))))))
   (.aG ((0:Int)≤x4∧x4<(List.length x1:Int)) (.call (cw.told x2 (eG x1 x4)) fun t2=> .ite (!t2)
    (.aG ((0:Int)≤x4∧x4<(List.length x1:Int)) (.aG (((List.length x0:Int)+(List.length ([(eG x1 x4)]):Int))*(8:Nat)≤room) (.jump (.c8 (x0++[(eG x1 x4)]) x1 x2 x3 (wr (x4+(1:Int)))))))
    (.jump (.c8 x0 x1 x2 x3 (wr (x4+(1:Int)))))))))
  (.ret x0)
def f (a0:List aq) (a1 a2 a3:Int):Option A:=(begin a0 a1 a2 a3).run (lp tree)
def Q:aE C:={PL with aU:=[(8,[3,4,5,6,7])],aT:=[],aQ:=[]}
theorem e:ay Pg C Q Tryz.f193 0 id st v o tree:=fun J K x=>by cases x<;>kernel_rfl
theorem b (a0:List aq) (a1 a2 a3:Int):ax Pg C Q Tryz.f193 0 id st v o (S a0 a1 a2 a3) (begin a0 a1 a2 a3):=fun J K=>by kernel_rfl
def told (a0:List aq) (a1 a2 a3:Int):aa.Told A:=⟨f a0 a1 a2 a3,fun r=>af Pg C 193 (S a0 a1 a2 a3) 0 (v r) (o r),fun r h=>ae G mixed Q Tryz.func193 rfl (of_decide_eq_true (by kernel_rfl)) (by rfl) id st v o (fun _=>rfl) tree e (begin a0 a1 a2 a3) (b a0 a1 a2 a3) h⟩
end dc
namespace eY
def S (a0:List Int):List (PV U):=aa.start C 11 [.sl 3 a0] []
abbrev X:=Empty
def id:X→Nat:=fun _=>0
def st:X→List (PV U):=fun _=>[]
def begin (a0:List Int):Tr X A:=
 .ite (!decide ((List.length a0:Int)=(49:Int)))
  (.ret (([]:List Int)))
  (.aG ((0:Int)≤(0:Int)∧(0:Int)≤(8:Int)∧(8:Int)≤(List.length a0:Int)) (.aG (((List.length ([]:List Int):Int)+(List.length (List.take (Int.toNat (8:Int)) a0):Int))*(8:Nat)≤room) (.ret ((([]:List Int)++(List.take (Int.toNat (8:Int)) a0))))))
def tree:X→Tr X A:=fun _=> .fail
def f (a0:List Int):Option A:=(begin a0).run (lp tree)
def Q:aE C:={PL with aU:=[],aT:=[],aQ:=[]}
theorem e:ay Pg C Q Tryz.f194 0 id st v o tree:=fun J K x=>by cases x
theorem b (a0:List Int):ax Pg C Q Tryz.f194 0 id st v o (S a0) (begin a0):=fun J K=>by kernel_rfl
def told (a0:List Int):aa.Told A:=⟨f a0,fun r=>af Pg C 194 (S a0) 0 (v r) (o r),fun r h=>ae G mixed Q Tryz.func194 rfl (of_decide_eq_true (by kernel_rfl)) (by rfl) id st v o (fun _=>rfl) tree e (begin a0) (b a0) h⟩
end eY
namespace eT
def S (a0 a1 a2 a3 a4 a5:Int):List (PV U):=aa.start C 14 [.agg [.int .i64 a0,.int .i64 a1,.int .i64 a2,.int .i64 a3,.int .i64 a4,.int .i64 a5]] []
abbrev X:=Empty
def id:X→Nat:=fun _=>0
def st:X→List (PV U):=fun _=>[]
def begin (a0 a1 a2 a3 a4 a5:Int):Tr X A:=
 .ite (decide (a0=(1:Int)))
  (.ret ((2:Int)))
  (.ite (decide (a0=(2:Int)))
   (.ret ((5:Int)))
   (.ite (decide (a0=(3:Int)))
    (.ret ((4:Int)))
    (.ite (decide (a0=(4:Int)))
     (.ite (decide (a0=(4:Int)))
      (.ret ((1:Int)))
      (.ret ((0:Int))))
     (.ite (decide (a0=(5:Int)))
      (.ret ((1:Int)))
      (.ret ((0:Int)))))))
def tree:X→Tr X A:=fun _=> .fail
def f (a0 a1 a2 a3 a4 a5:Int):Option A:=(begin a0 a1 a2 a3 a4 a5).run (lp tree)
def Q:aE C:={PL with aU:=[],aT:=[],aQ:=[]}
theorem e:ay Pg C Q Tryz.f231 0 id st v o tree:=fun J K x=>by cases x
theorem b (a0 a1 a2 a3 a4 a5:Int):ax Pg C Q Tryz.f231 0 id st v o (S a0 a1 a2 a3 a4 a5) (begin a0 a1 a2 a3 a4 a5):=fun J K=>by kernel_rfl
def told (a0 a1 a2 a3 a4 a5:Int):aa.Told A:=⟨f a0 a1 a2 a3 a4 a5,fun r=>af Pg C 231 (S a0 a1 a2 a3 a4 a5) 0 (v r) (o r),fun r h=>ae G mixed Q Tryz.func231 rfl (of_decide_eq_true (by kernel_rfl)) (by rfl) id st v o (fun _=>rfl) tree e (begin a0 a1 a2 a3 a4 a5) (b a0 a1 a2 a3 a4 a5) h⟩
end eT
namespace dV
def S (a0:Int) (a1 a2 a3 a4 a5:List Int) (a6:Int) (a7:Bool) (a8:List aM) (a9 a10:List Int) (a11 a12:Int):List (PV U):=aa.start C 15 [.ptr 15 0,.int .i64 a0] [.box [.own true 3 a1,.own true 3 a2,.own true 3 a3,.own true 3 a4,.sl 3 a5,.int .i64 a6,.bool a7,.own true 179 a8,.own true 3 a9,.own true 3 a10,.int .i64 a11,.int .i64 a12]]
abbrev X:=Empty
def id:X→Nat:=fun _=>0
def st:X→List (PV U):=fun _=>[]
def begin (a0:Int) (a1 a2 a3 a4 a5:List Int) (a6:Int) (a7:Bool) (a8:List aM) (a9 a10:List Int) (a11 a12:Int):Tr X A:=
 .aG (((List.length a8:Int)+(List.length ([(⟨a0,(-1:Int),(0:Int)⟩:aM)]):Int))*(24:Nat)≤room) (.ret (a1,a2,a3,a4,a5,a6,a7,(a8++[(⟨a0,(-1:Int),(0:Int)⟩:aM)]),a9,a10,a11,a12))
def tree:X→Tr X A:=fun _=> .fail
def f (a0:Int) (a1 a2 a3 a4 a5:List Int) (a6:Int) (a7:Bool) (a8:List aM) (a9 a10:List Int) (a11 a12:Int):Option A:=(begin a0 a1 a2 a3 a4 a5 a6 a7 a8 a9 a10 a11 a12).run (lp tree)
def Q:aE C:={PL with aU:=[],aT:=[],aQ:=[]}
theorem e:ay Pg C Q Tryz.f196 1 id st v o tree:=fun J K x=>by cases x
theorem b (a0:Int) (a1 a2 a3 a4 a5:List Int) (a6:Int) (a7:Bool) (a8:List aM) (a9 a10:List Int) (a11 a12:Int):ax Pg C Q Tryz.f196 1 id st v o (S a0 a1 a2 a3 a4 a5 a6 a7 a8 a9 a10 a11 a12) (begin a0 a1 a2 a3 a4 a5 a6 a7 a8 a9 a10 a11 a12):=fun J K=>by kernel_rfl
def told (a0:Int) (a1 a2 a3 a4 a5:List Int) (a6:Int) (a7:Bool) (a8:List aM) (a9 a10:List Int) (a11 a12:Int):aa.Told A:=⟨f a0 a1 a2 a3 a4 a5 a6 a7 a8 a9 a10 a11 a12,fun r=>af Pg C 196 (S a0 a1 a2 a3 a4 a5 a6 a7 a8 a9 a10 a11 a12) 1 (v r) (o r),fun r h=>ae G mixed Q Tryz.func196 rfl (of_decide_eq_true (by kernel_rfl)) (by rfl) id st v o (fun _=>rfl) tree e (begin a0 a1 a2 a3 a4 a5 a6 a7 a8 a9 a10 a11 a12) (b a0 a1 a2 a3 a4 a5 a6 a7 a8 a9 a10 a11 a12) h⟩
end dV
namespace dZ
def S (a0:List Int) (a1:Int):List (PV U):=aa.start C 13 [.sl 3 a0,.int .i64 a1] []
abbrev X:=Empty
def id:X→Nat:=fun _=>0
def st:X→List (PV U):=fun _=>[]
def begin (a0:List Int) (a1:Int):Tr X A:=
 .ite (decide (a1<(0:Int)))
  (.aG ((0:Int)≤(wr ((-1:Int)-a1))∧(wr ((-1:Int)-a1))<(List.length a0:Int)) (.ret ((eG a0 (wr ((-1:Int)-a1))))))
  (.ret a1)
def tree:X→Tr X A:=fun _=> .fail
def f (a0:List Int) (a1:Int):Option A:=(begin a0 a1).run (lp tree)
def Q:aE C:={PL with aU:=[],aT:=[],aQ:=[]}
theorem e:ay Pg C Q Tryz.f252 0 id st v o tree:=fun J K x=>by cases x
theorem b (a0:List Int) (a1:Int):ax Pg C Q Tryz.f252 0 id st v o (S a0 a1) (begin a0 a1):=fun J K=>by kernel_rfl
def told (a0:List Int) (a1:Int):aa.Told A:=⟨f a0 a1,fun r=>af Pg C 252 (S a0 a1) 0 (v r) (o r),fun r h=>ae G mixed Q Tryz.func252 rfl (of_decide_eq_true (by kernel_rfl)) (by rfl) id st v o (fun _=>rfl) tree e (begin a0 a1) (b a0 a1) h⟩
end dZ
namespace bK
def S (a0:Int):List (PV U):=aa.start C 5 [.int .i64 a0] []
abbrev X:=Empty
def id:X→Nat:=fun _=>0
def st:X→List (PV U):=fun _=>[]
def begin (a0:Int):Tr X A:=
 .call (dq.told a0 (-1000000:Int) (1000000:Int)) fun t1=> .ret t1
def tree:X→Tr X A:=fun _=> .fail
def f (a0:Int):Option A:=(begin a0).run (lp tree)
def Q:aE C:={PL with aU:=[],aT:=[],aQ:=[]}
theorem e:ay Pg C Q Tryz.f263 0 id st v o tree:=fun J K x=>by cases x
theorem b (a0:Int):ax Pg C Q Tryz.f263 0 id st v o (S a0) (begin a0):=fun J K=>by kernel_rfl
def told (a0:Int):aa.Told A:=⟨f a0,fun r=>af Pg C 263 (S a0) 0 (v r) (o r),fun r h=>ae G mixed Q Tryz.func263 rfl (of_decide_eq_true (by kernel_rfl)) (by rfl) id st v o (fun _=>rfl) tree e (begin a0) (b a0) h⟩
end bK
namespace cZ
def S (a0 a1:Int):List (PV U):=aa.start C 11 [.int .i64 a0,.int .i64 a1] []
abbrev X:=Empty
def id:X→Nat:=fun _=>0
def st:X→List (PV U):=fun _=>[]
def begin (a0 a1:Int):Tr X A:=
 .call (bK.told a0) fun t1=> .call (bK.told a1) fun t2=> .call (bK.told (wr (t1+t2))) fun t3=> .ret t3
def tree:X→Tr X A:=fun _=> .fail
def f (a0 a1:Int):Option A:=(begin a0 a1).run (lp tree)
def Q:aE C:={PL with aU:=[],aT:=[],aQ:=[]}
theorem e:ay Pg C Q Tryz.f253 0 id st v o tree:=fun J K x=>by cases x
theorem b (a0 a1:Int):ax Pg C Q Tryz.f253 0 id st v o (S a0 a1) (begin a0 a1):=fun J K=>by kernel_rfl
def told (a0 a1:Int):aa.Told A:=⟨f a0 a1,fun r=>af Pg C 253 (S a0 a1) 0 (v r) (o r),fun r h=>ae G mixed Q Tryz.func253 rfl (of_decide_eq_true (by kernel_rfl)) (by rfl) id st v o (fun _=>rfl) tree e (begin a0 a1) (b a0 a1) h⟩
end cZ
namespace dB
def S (a0 a1:Int):List (PV U):=aa.start C 11 [.int .i64 a0,.int .i64 a1] []
abbrev X:=Empty
def id:X→Nat:=fun _=>0
def st:X→List (PV U):=fun _=>[]
def begin (a0 a1:Int):Tr X A:=
 .call (bK.told a0) fun t1=> .call (bK.told a1) fun t2=> .call (bK.told (wr (t1-t2))) fun t3=> .ret t3
def tree:X→Tr X A:=fun _=> .fail
def f (a0 a1:Int):Option A:=(begin a0 a1).run (lp tree)
def Q:aE C:={PL with aU:=[],aT:=[],aQ:=[]}
theorem e:ay Pg C Q Tryz.f254 0 id st v o tree:=fun J K x=>by cases x
theorem b (a0 a1:Int):ax Pg C Q Tryz.f254 0 id st v o (S a0 a1) (begin a0 a1):=fun J K=>by kernel_rfl
def told (a0 a1:Int):aa.Told A:=⟨f a0 a1,fun r=>af Pg C 254 (S a0 a1) 0 (v r) (o r),fun r h=>ae G mixed Q Tryz.func254 rfl (of_decide_eq_true (by kernel_rfl)) (by rfl) id st v o (fun _=>rfl) tree e (begin a0 a1) (b a0 a1) h⟩
end dB
namespace dU
def S (a0 a1:Int):List (PV U):=aa.start C 11 [.int .i64 a0,.int .i64 a1] []
abbrev X:=Empty
def id:X→Nat:=fun _=>0
def st:X→List (PV U):=fun _=>[]
def begin (a0 a1:Int):Tr X A:=
 .call (bK.told a0) fun t1=> .call (bK.told a1) fun t2=> .call (bK.told (wr (t1*t2))) fun t3=> .ret t3
def tree:X→Tr X A:=fun _=> .fail
def f (a0 a1:Int):Option A:=(begin a0 a1).run (lp tree)
def Q:aE C:={PL with aU:=[],aT:=[],aQ:=[]}
theorem e:ay Pg C Q Tryz.f255 0 id st v o tree:=fun J K x=>by cases x
theorem b (a0 a1:Int):ax Pg C Q Tryz.f255 0 id st v o (S a0 a1) (begin a0 a1):=fun J K=>by kernel_rfl
def told (a0 a1:Int):aa.Told A:=⟨f a0 a1,fun r=>af Pg C 255 (S a0 a1) 0 (v r) (o r),fun r h=>ae G mixed Q Tryz.func255 rfl (of_decide_eq_true (by kernel_rfl)) (by rfl) id st v o (fun _=>rfl) tree e (begin a0 a1) (b a0 a1) h⟩
end dU
namespace fA
def S (a0:Bool):List (PV U):=aa.start C 4 [.bool a0] []
abbrev X:=Empty
def id:X→Nat:=fun _=>0
def st:X→List (PV U):=fun _=>[]
def begin (a0:Bool):Tr X A:=
 .ite a0
  (.ret ((1:Int)))
  (.ret ((0:Int)))
def tree:X→Tr X A:=fun _=> .fail
def f (a0:Bool):Option A:=(begin a0).run (lp tree)
def Q:aE C:={PL with aU:=[],aT:=[],aQ:=[]}
theorem e:ay Pg C Q Tryz.f81 0 id st v o tree:=fun J K x=>by cases x
theorem b (a0:Bool):ax Pg C Q Tryz.f81 0 id st v o (S a0) (begin a0):=fun J K=>by kernel_rfl
def told (a0:Bool):aa.Told A:=⟨f a0,fun r=>af Pg C 81 (S a0) 0 (v r) (o r),fun r h=>ae G mixed Q Tryz.func81 rfl (of_decide_eq_true (by kernel_rfl)) (by rfl) id st v o (fun _=>rfl) tree e (begin a0) (b a0) h⟩
end fA
namespace cn
def S (a0:List Int) (a1 a2 a3:Int):List (PV U):=aa.start C 52 [.sl 3 a0,.agg [.int .i64 a1,.int .i64 a2,.int .i64 a3]] []
abbrev X:=Empty
def id:X→Nat:=fun _=>0
def st:X→List (PV U):=fun _=>[]
def begin (a0:List Int) (a1 a2 a3:Int):Tr X A:=
 .call (dZ.told a0 a2) fun t1=> .call (dZ.told a0 a3) fun t2=> .ite (decide (a1=(1:Int)))
  (.call (cZ.told t1 t2) fun t3=> .ret t3)
  (.ite (decide (a1=(2:Int)))
   (.call (dB.told t1 t2) fun t3=> .ret t3)
   (.ite (decide (a1=(3:Int)))
    (.call (dU.told t1 t2) fun t3=> .ret t3)
    (.ite (decide (a1=(4:Int)))
     (.ret ((if t2<t1 then t2 else t1)))
     (.ite (decide (a1=(5:Int)))
      (.ret ((if t2>t1 then t2 else t1)))
      (.ite (decide (a1=(6:Int)))
       (.call (fA.told (decide (t1<t2))) fun t3=> .ret t3)
       (.call (fA.told (decide (t1=t2))) fun t3=> .ret t3))))))
def tree:X→Tr X A:=fun _=> .fail
def f (a0:List Int) (a1 a2 a3:Int):Option A:=(begin a0 a1 a2 a3).run (lp tree)
def Q:aE C:={PL with aU:=[],aT:=[],aQ:=[]}
theorem e:ay Pg C Q Tryz.f233 0 id st v o tree:=fun J K x=>by cases x
theorem b (a0:List Int) (a1 a2 a3:Int):ax Pg C Q Tryz.f233 0 id st v o (S a0 a1 a2 a3) (begin a0 a1 a2 a3):=fun J K=>by kernel_rfl
def told (a0:List Int) (a1 a2 a3:Int):aa.Told A:=⟨f a0 a1 a2 a3,fun r=>af Pg C 233 (S a0 a1 a2 a3) 0 (v r) (o r),fun r h=>ae G mixed Q Tryz.func233 rfl (of_decide_eq_true (by kernel_rfl)) (by rfl) id st v o (fun _=>rfl) tree e (begin a0 a1 a2 a3) (b a0 a1 a2 a3) h⟩
end cn
end
end Go.Proofs.YtmapddgocpkgeaaGreat.Ev
