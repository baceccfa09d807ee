/- Functions as trees, with their contracts. No conditions. -/
import Derived.Test.YtpndhhellhfegaaGreatDoorREvF18
namespace Go.Proofs.YtpndhhellhfegaaGreatDoor.Ev
open Go.Proofs.YtpndhhellhfegaaGreatDoor.aa Go.RowKit
set_option linter.unusedVariables false
set_option maxRecDepth 100000
noncomputable section
namespace eX
def S (a0:List bR) (a1 a2:List Int) (a3 a4 a5 a6 a7 a8 a9 a10:Int) (a11:List Int) (a12:Int):List (PV U):=aa.start C 9 [.agg [.sl 88 a0,.sl 3 a1,.sl 3 a2,.int .i64 a3,.int .i64 a4,.int .i64 a5,.int .i64 a6,.int .i64 a7,.int .i64 a8,.int .i64 a9,.int .i64 a10,.sl 3 a11,.int .i64 a12]] []
def begin (a0:List bR) (a1 a2:List Int) (a3 a4 a5 a6 a7 a8 a9 a10:Int) (a11:List Int) (a12:Int):Tr Empty A:=
 .call (cy.told a0 a1 a2 a3 a4 a5 a6 a7 a8 a9 a10 a11 a12) fun t1=> .ite (!t1)
  (.ret (([]:List Int)))
  (.call (di.told a1) fun t2=> .ret t2)
def f (a0:List bR) (a1 a2:List Int) (a3 a4 a5 a6 a7 a8 a9 a10:Int) (a11:List Int) (a12:Int):Option A:=(begin a0 a1 a2 a3 a4 a5 a6 a7 a8 a9 a10 a11 a12).run (lp aB)
def told (a0:List bR) (a1 a2:List Int) (a3 a4 a5 a6 a7 a8 a9 a10:Int) (a11:List Int) (a12:Int):aa.Told A:=⟨f a0 a1 a2 a3 a4 a5 a6 a7 a8 a9 a10 a11 a12,fun r=>ah Pg C 17 (S a0 a1 a2 a3 a4 a5 a6 a7 a8 a9 a10 a11 a12) 0 (v r) (o r),fun r h=>aY (Q:=PL) v o Tryz.func17 rfl (of_decide_eq_true (by kernel_rfl)) (by rfl) (fun _=>rfl) (fun J K=>by kernel_rfl) h⟩
end eX
namespace cB
def S (a0:List bR) (a1 a2:List Int) (a3 a4 a5 a6 a7 a8 a9 a10:Int) (a11:List Int) (a12:Int):List (PV U):=aa.start C 59 [.agg [.sl 88 a0,.sl 3 a1,.sl 3 a2,.int .i64 a3,.int .i64 a4,.int .i64 a5,.int .i64 a6,.int .i64 a7,.int .i64 a8,.int .i64 a9,.int .i64 a10,.sl 3 a11,.int .i64 a12]] []
def begin (a0:List bR) (a1 a2:List Int) (a3 a4 a5 a6 a7 a8 a9 a10:Int) (a11:List Int) (a12:Int):Tr Empty A:=
 .call (cy.told a0 a1 a2 a3 a4 a5 a6 a7 a8 a9 a10 a11 a12) fun t1=> .ite (!t1)
  (.ret (([]:List ByteArray)))
  (.ax ((0:Int)≤(8:Int)∧(8:Int)<(List.length a1:Int)) (.call (aS.told (cT a1 (8:Int))) fun t2=> .ax (true=true) (.call (bh.told (⟨#[116,97,115,107]⟩:ByteArray) ([t2.1])) fun t3=> .ax (true=true) (.ax (true=true) (.call (bh.told (⟨#[100,111,110,101]⟩:ByteArray) ([a12])) fun t4=> .ax (true=true) (.call (eX.told a0 a1 a2 a3 a4 a5 a6 a7 a8 a9 a10 a11 a12) fun t5=> .ax (true=true) (.ax (true=true) (.ax (true=true) (.call (bh.told (⟨#[115,101,110,116]⟩:ByteArray) ([(List.length t5:Int)])) fun t6=> .ax (true=true) (.ax (true=true) (.call (bh.told (⟨#[103,111,116]⟩:ByteArray) ([(List.length a11:Int)])) fun t7=> .ax (true=true) (.ax (true=true) (.call (bh.told (⟨#[97,99,107,101,100]⟩:ByteArray) ([a10])) fun t8=> .ax (true=true) (.ax (true=true) (.call (bh.told (⟨#[99,104,97,114,103,101]⟩:ByteArray) ([a4])) fun t9=> .ax (true=true) (.call (bA.told a8) fun t10=> .ax (true=true) (.ax (((⟨#[99,108,111,99,107,32]⟩:ByteArray).size:Int)+t10.size≤room) (.ax (true=true) (.ax ((((⟨#[99,108,111,99,107,32]⟩:ByteArray)++t10).size:Int)+(⟨#[46,46]⟩:ByteArray).size≤room) (.ax (true=true) (.call (bA.told a9) fun t11=> .ax (true=true) (.ax (((((⟨#[99,108,111,99,107,32]⟩:ByteArray)++t10)++(⟨#[46,46]⟩:ByteArray)).size:Int)+t11.size≤room) (.val (((((⟨#[99,108,111,99,107,32]⟩:ByteArray)++t10)++(⟨#[46,46]⟩:ByteArray))++t11):ByteArray) fun v12=> .ax (true=true) (.ax (true=true) (.ret ([t3,t4,t6,t7,t8,t9,v12]))))))))))))))))))))))))))
def f (a0:List bR) (a1 a2:List Int) (a3 a4 a5 a6 a7 a8 a9 a10:Int) (a11:List Int) (a12:Int):Option A:=(begin a0 a1 a2 a3 a4 a5 a6 a7 a8 a9 a10 a11 a12).run (lp aB)
def Q:ck C:={PL with kI:=[(4,[],(.take 0 [] (.take 3 [] (.take 12 [] (.take 13 [] (.take 14 [] (.take 19 [] (.take 20 [] (.take 24 [] (.take 25 [] (.take 29 [] (.take 30 [] (.take 35 [] (.take 36 [] (.take 4 [0,1,2,3,7,12,13,14,15,16,17,19,20,21,22,24,25,26,27,29,30,31,35,36,37] (.take 7 [0,1,2,3,4,5,6,12,13,14,15,16,17,19,20,21,22,24,25,26,27,29,30,31,35,36,37] (.take 15 [0,1,2,3,4,5,6,7,8,9,10,11,12,13,14,19,20,21,22,24,25,26,27,29,30,31,35,36,37] (.take 16 [] (.take 21 [0,1,2,3,4,5,6,7,8,9,10,11,12,13,14,15,16,17,18,19,20,24,25,26,27,29,30,31,35,36,37] (.take 26 [0,1,2,3,4,5,6,7,8,9,10,11,12,13,14,15,16,17,18,19,20,21,22,23,24,25,29,30,31,35,36,37] (.take 31 [0,1,2,3,4,5,6,7,8,9,10,11,12,13,14,15,16,17,18,19,20,21,22,23,24,25,26,27,28,29,30,35,36,37] (.take 37 [0,1,2,3,4,5,6,7,8,9,10,11,12,13,14,15,16,17,18,19,20,21,22,23,24,25,26,27,28,29,30,31,32,33,34,35,36] (.batch [1,2,5,6,8,9,10,11,17,18,22,23,27,28,32,33,34,38,39,40] (.take 41 [] .done))))))))))))))))))))))))]}
def told (a0:List bR) (a1 a2:List Int) (a3 a4 a5 a6 a7 a8 a9 a10:Int) (a11:List Int) (a12:Int):aa.Told A:=⟨f a0 a1 a2 a3 a4 a5 a6 a7 a8 a9 a10 a11 a12,fun r=>ah Pg C 8 (S a0 a1 a2 a3 a4 a5 a6 a7 a8 a9 a10 a11 a12) 0 (v r) (o r),fun r h=>aY (Q:=Q) v o Tryz.func8 rfl (of_decide_eq_true (by kernel_rfl)) (by rfl) (fun _=>rfl) (fun J K=>by kernel_rfl) h⟩
end cB
namespace aT
def S (a0 a1:List aw):List (PV U):=aa.start C 26 [.sl 122 a0,.sl 122 a1] []
inductive X where
 | c4 (x0 x1:List aw) (x2 x3:Int)
def id:X→Nat
 | .c4 .. =>4
def st:X→List (PV U)
 | .c4 x0 x1 x2 x3=>gf 26 [(0,.sl 122 x0),(1,.sl 122 x1),(12,.int .i64 x2),(13,.int .i64 x3)]
def begin (a0 a1:List aw):Tr X A:=
 .ite (!decide ((List.length a0:Int)=(List.length a1:Int)))
  (.ret false)
  (.jump (.c4 a0 a1 (List.length a0:Int) (0:Int)))
def tree:X→Tr X A
 | .c4 x0 x1 x2 x3=>
 .ite (decide (x3<x2))
  (.ax ((0:Int)≤x3∧x3<(List.length x0:Int)) (.ax ((0:Int)≤x3∧x3<(List.length x1:Int)) (.last (.val ((!(decide ((aj x0 x3).f0=(aj x1 x3).f0)&&(decide ((aj x0 x3).f1=(aj x1 x3).f1)&&(decide ((aj x0 x3).f2=(aj x1 x3).f2)&&(decide ((aj x0 x3).f3.f0=(aj x1 x3).f3.f0)&&(decide ((aj x0 x3).f3.f1=(aj x1 x3).f3.f1)&&(decide ((aj x0 x3).f3.f2=(aj x1 x3).f3.f2)&&true))))))):Bool) fun v1=> .ite v1
   (.ret false)
   (.jump (.c4 x0 x1 x2 (wr (x3+(1:Int)))))))))
  (.ret true)
def f (a0 a1:List aw):Option A:=(begin a0 a1).run (lp tree)
def Q:ck C:={PL with gT:=[(4,[0,1,12,13])],kI:=[(6,[],(.take 0 [] (.take 1 [] (.take 2 [] (.take 4 [] (.take 5 [] (.take 6 [] (.take 3 [0,1,2,4,5,6,7] (.take 7 [0,1,2,3,4,5,6] (.alt 8 .done .nil))))))))))]}
theorem e:fr Pg C Q Tryz.f87 0 id st v o tree:=fun J K x=>by cases x<;>kernel_rfl
def told (a0 a1:List aw):aa.Told A:=⟨f a0 a1,fun r=>ah Pg C 87 (S a0 a1) 0 (v r) (o r),fun r h=>fI v o Tryz.func87 rfl (of_decide_eq_true (by kernel_rfl)) (by rfl) (fun _=>rfl) e (fun J K=>by kernel_rfl) h⟩
end aT
namespace eO
def S (a0:List aw) (a1 a2 a3:Int) (a4:List aw) (a5 a6 a7:Int):List (PV U):=aa.start C 17 [.agg [.sl 122 a0,.int .i64 a1,.int .i64 a2,.int .i64 a3],.agg [.sl 122 a4,.int .i64 a5,.int .i64 a6,.int .i64 a7]] []
def begin (a0:List aw) (a1 a2 a3:Int) (a4:List aw) (a5 a6 a7:Int):Tr Empty A:=
 .call (aT.told a0 a4) fun t1=> .ite t1
  (.ret ((decide (a1=a5)&&(decide (a2=a6)&&(decide (a3=a7)&&true)))))
  (.ret false)
def f (a0:List aw) (a1 a2 a3:Int) (a4:List aw) (a5 a6 a7:Int):Option A:=(begin a0 a1 a2 a3 a4 a5 a6 a7).run (lp aB)
def told (a0:List aw) (a1 a2 a3:Int) (a4:List aw) (a5 a6 a7:Int):aa.Told A:=⟨f a0 a1 a2 a3 a4 a5 a6 a7,fun r=>ah Pg C 49 (S a0 a1 a2 a3 a4 a5 a6 a7) 0 (v r) (o r),fun r h=>aY (Q:=PL) v o Tryz.func49 rfl (of_decide_eq_true (by kernel_rfl)) (by rfl) (fun _=>rfl) (fun J K=>by kernel_rfl) h⟩
end eO
namespace ar
def S (a0 a1:List bR):List (PV U):=aa.start C 32 [.sl 88 a0,.sl 88 a1,.fn 49 []] []
inductive X where
 | c4 (x0 x1:List bR) (x2 x3:Int)
def id:X→Nat
 | .c4 .. =>4
def st:X→List (PV U)
 | .c4 x0 x1 x2 x3=>gf 32 [(1,.sl 88 x0),(2,.fn 49 []),(15,.sl 88 x1),(16,.int .i64 x2),(17,.int .i64 x3)]
def begin (a0 a1:List bR):Tr X A:=
 .ite (!decide ((List.length a0:Int)=(List.length a1:Int)))
  (.ret false)
  (.jump (.c4 a1 a0 (List.length a0:Int) (0:Int)))
def tree:X→Tr X A
 | .c4 x0 x1 x2 x3=>
 .ite (decide (x3<x2))
  (.ax ((0:Int)≤x3∧x3<(List.length x1:Int)) (.ax ((0:Int)≤x3∧x3<(List.length x0:Int)) (.call (eO.told ((cS x1 x3).f0) ((cS x1 x3).f1.f0) ((cS x1 x3).f1.f1) ((cS x1 x3).f1.f2) ((cS x0 x3).f0) ((cS x0 x3).f1.f0) ((cS x0 x3).f1.f1) ((cS x0 x3).f1.f2)) fun t1=> .ite (!t1)
   (.ret false)
   (.jump (.c4 x0 x1 x2 (wr (x3+(1:Int))))))))
  (.ret true)
def f (a0 a1:List bR):Option A:=(begin a0 a1).run (lp tree)
def Q:ck C:={PL with gT:=[(4,[1,2,15,16,17])]}
theorem e:fr Pg C Q Tryz.f48 0 id st v o tree:=fun J K x=>by cases x<;>kernel_rfl
def told (a0 a1:List bR):aa.Told A:=⟨f a0 a1,fun r=>ah Pg C 48 (S a0 a1) 0 (v r) (o r),fun r h=>fI v o Tryz.func48 rfl (of_decide_eq_true (by kernel_rfl)) (by rfl) (fun _=>rfl) e (fun J K=>by kernel_rfl) h⟩
end ar
end
end Go.Proofs.YtpndhhellhfegaaGreatDoor.Ev
