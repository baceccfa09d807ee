/- Functions as trees, with their contracts. No conditions. -/
import Derived.Test.YtpndhhellhfegaaGreatDoorREvF16
namespace Go.Proofs.YtpndhhellhfegaaGreatDoor.Ev
open Go.Proofs.YtpndhhellhfegaaGreatDoor.aa Go.RowKit
set_option linter.unusedVariables false
set_option maxRecDepth 100000
noncomputable section
namespace cZ
def S (a0:List aw) (a1 a2 a3:Int):List (PV U):=aa.start C 6 [.agg [.sl 122 a0,.int .i64 a1,.int .i64 a2,.int .i64 a3]] []
def begin (a0:List aw) (a1 a2 a3:Int):Tr Empty A:=
 .call (cX.told a0 a1 a2 a3) fun t1=> .ret ((!t1))
def f (a0:List aw) (a1 a2 a3:Int):Option A:=(begin a0 a1 a2 a3).run (lp aB)
def told (a0:List aw) (a1 a2 a3:Int):aa.Told A:=⟨f a0 a1 a2 a3,fun r=>ah Pg C 117 (S a0 a1 a2 a3) 0 (v r) (o r),fun r h=>aY (Q:=PL) v o Tryz.func117 rfl (of_decide_eq_true (by kernel_rfl)) (by rfl) (fun _=>rfl) (fun J K=>by kernel_rfl) h⟩
end cZ
namespace an
def S (a0:List bR):List (PV U):=aa.start C 19 [.sl 88 a0,.fn 117 []] []
inductive X where
 | c2 (x0:List bR) (x1 x2:Int)
def id:X→Nat
 | .c2 .. =>2
def st:X→List (PV U)
 | .c2 x0 x1 x2=>gf 19 [(0,.sl 88 x0),(1,.fn 117 []),(7,.int .i64 x1),(8,.int .i64 x2)]
def begin (a0:List bR):Tr X A:=
 .jump (.c2 a0 (List.length a0:Int) (0:Int))
def tree:X→Tr X A
 | .c2 x0 x1 x2=>
 .ite (decide (x2<x1))
  (.ax ((0:Int)≤x2∧x2<(List.length x0:Int)) (.call (cZ.told ((cS x0 x2).f0) ((cS x0 x2).f1.f0) ((cS x0 x2).f1.f1) ((cS x0 x2).f1.f2)) fun t1=> .ite t1
   (.ret x2)
   (.jump (.c2 x0 x1 (wr (x2+(1:Int)))))))
  (.ret ((-1:Int)))
def f (a0:List bR):Option A:=(begin a0).run (lp tree)
def Q:ck C:={PL with gT:=[(2,[0,1,7,8])]}
theorem e:fr Pg C Q Tryz.f138 0 id st v o tree:=fun J K x=>by cases x<;>kernel_rfl
def told (a0:List bR):aa.Told A:=⟨f a0,fun r=>ah Pg C 138 (S a0) 0 (v r) (o r),fun r h=>fI v o Tryz.func138 rfl (of_decide_eq_true (by kernel_rfl)) (by rfl) (fun _=>rfl) e (fun J K=>by kernel_rfl) h⟩
end an
namespace ay
def S (a0:List bR):List (PV U):=aa.start C 9 [.sl 88 a0,.fn 117 []] []
def begin (a0:List bR):Tr Empty A:=
 .call (an.told a0) fun t1=> .ret ((decide (t1≥(0:Int))))
def f (a0:List bR):Option A:=(begin a0).run (lp aB)
def told (a0:List bR):aa.Told A:=⟨f a0,fun r=>ah Pg C 116 (S a0) 0 (v r) (o r),fun r h=>aY (Q:=PL) v o Tryz.func116 rfl (of_decide_eq_true (by kernel_rfl)) (by rfl) (fun _=>rfl) (fun J K=>by kernel_rfl) h⟩
end ay
namespace cQ
def S (a0:List bR):List (PV U):=aa.start C 13 [.agg [.sl 88 a0]] []
def begin (a0:List bR):Tr Empty A:=
 .call (aG.told (List.length a0:Int) (1:Int) (6:Int)) fun t1=> .ite t1
  (.call (ay.told a0) fun t2=> .ret ((!t2)))
  (.ret false)
def f (a0:List bR):Option A:=(begin a0).run (lp aB)
def told (a0:List bR):aa.Told A:=⟨f a0,fun r=>ah Pg C 94 (S a0) 0 (v r) (o r),fun r h=>aY (Q:=PL) v o Tryz.func94 rfl (of_decide_eq_true (by kernel_rfl)) (by rfl) (fun _=>rfl) (fun J K=>by kernel_rfl) h⟩
end cQ
namespace dK
def S (a0:Int):List (PV U):=aa.start C 5 [.int .i64 a0] []
def begin (a0:Int):Tr Empty A:=
 .call (aG.told a0 (-1000000:Int) (1000000:Int)) fun t1=> .ret t1
def f (a0:Int):Option A:=(begin a0).run (lp aB)
def told (a0:Int):aa.Told A:=⟨f a0,fun r=>ah Pg C 96 (S a0) 0 (v r) (o r),fun r h=>aY (Q:=PL) v o Tryz.func96 rfl (of_decide_eq_true (by kernel_rfl)) (by rfl) (fun _=>rfl) (fun J K=>by kernel_rfl) h⟩
end dK
namespace cY
def S (a0:Int):List (PV U):=aa.start C 6 [.int .i64 a0] []
def begin (a0:Int):Tr Empty A:=
 .call (dK.told a0) fun t1=> .ret ((!t1))
def f (a0:Int):Option A:=(begin a0).run (lp aB)
def told (a0:Int):aa.Told A:=⟨f a0,fun r=>ah Pg C 98 (S a0) 0 (v r) (o r),fun r h=>aY (Q:=PL) v o Tryz.func98 rfl (of_decide_eq_true (by kernel_rfl)) (by rfl) (fun _=>rfl) (fun J K=>by kernel_rfl) h⟩
end cY
namespace az
def S (a0:List Int):List (PV U):=aa.start C 19 [.sl 3 a0,.fn 98 []] []
inductive X where
 | c2 (x0:List Int) (x1 x2:Int)
def id:X→Nat
 | .c2 .. =>2
def st:X→List (PV U)
 | .c2 x0 x1 x2=>gf 19 [(0,.sl 3 x0),(1,.fn 98 []),(7,.int .i64 x1),(8,.int .i64 x2)]
def begin (a0:List Int):Tr X A:=
 .jump (.c2 a0 (List.length a0:Int) (0:Int))
def tree:X→Tr X A
 | .c2 x0 x1 x2=>
 .ite (decide (x2<x1))
  (.ax ((0:Int)≤x2∧x2<(List.length x0:Int)) (.call (cY.told (cT x0 x2)) fun t1=> .ite t1
   (.ret x2)
   (.jump (.c2 x0 x1 (wr (x2+(1:Int)))))))
  (.ret ((-1:Int)))
def f (a0:List Int):Option A:=(begin a0).run (lp tree)
def Q:ck C:={PL with gT:=[(2,[0,1,7,8])]}
theorem e:fr Pg C Q Tryz.f119 0 id st v o tree:=fun J K x=>by cases x<;>kernel_rfl
def told (a0:List Int):aa.Told A:=⟨f a0,fun r=>ah Pg C 119 (S a0) 0 (v r) (o r),fun r h=>fI v o Tryz.func119 rfl (of_decide_eq_true (by kernel_rfl)) (by rfl) (fun _=>rfl) e (fun J K=>by kernel_rfl) h⟩
end az
namespace aE
def S (a0:List Int):List (PV U):=aa.start C 9 [.sl 3 a0,.fn 98 []] []
def begin (a0:List Int):Tr Empty A:=
 .call (az.told a0) fun t1=> .ret ((decide (t1≥(0:Int))))
def f (a0:List Int):Option A:=(begin a0).run (lp aB)
def told (a0:List Int):aa.Told A:=⟨f a0,fun r=>ah Pg C 97 (S a0) 0 (v r) (o r),fun r h=>aY (Q:=PL) v o Tryz.func97 rfl (of_decide_eq_true (by kernel_rfl)) (by rfl) (fun _=>rfl) (fun J K=>by kernel_rfl) h⟩
end aE
namespace cg
def S (a0:List Int):List (PV U):=aa.start C 6 [.sl 3 a0] []
def begin (a0:List Int):Tr Empty A:=
 .call (aE.told a0) fun t1=> .ret ((!t1))
def f (a0:List Int):Option A:=(begin a0).run (lp aB)
def told (a0:List Int):aa.Told A:=⟨f a0,fun r=>ah Pg C 66 (S a0) 0 (v r) (o r),fun r h=>aY (Q:=PL) v o Tryz.func66 rfl (of_decide_eq_true (by kernel_rfl)) (by rfl) (fun _=>rfl) (fun J K=>by kernel_rfl) h⟩
end cg
namespace bd
def S (a0 a1 a2:Int):List (PV U):=aa.start C 27 [.int .i64 a0,.int .i64 a1,.int .i64 a2] []
def begin (a0 a1 a2:Int):Tr Empty A:=
 .call (aG.told a0 (0:Int) (5:Int)) fun t1=> .ite (!t1)
  (.ret ((-1:Int)))
  (.call (aG.told a1 (0:Int) (8:Int)) fun t2=> .ite (!t2)
   (.ret ((-1:Int)))
   (.call (aG.told a2 (0:Int) (24:Int)) fun t3=> .ite (!t3)
    (.ret ((-1:Int)))
    (.ret ((wr (a0+(wr ((8:Int)*(wr (a1+(wr ((16:Int)*a2))))))))))))
def f (a0 a1 a2:Int):Option A:=(begin a0 a1 a2).run (lp aB)
def told (a0 a1 a2:Int):aa.Told A:=⟨f a0 a1 a2,fun r=>ah Pg C 70 (S a0 a1 a2) 0 (v r) (o r),fun r h=>aY (Q:=PL) v o Tryz.func70 rfl (of_decide_eq_true (by kernel_rfl)) (by rfl) (fun _=>rfl) (fun J K=>by kernel_rfl) h⟩
end bd
namespace aS
def S (a0:Int):List (PV U):=aa.start C 28 [.int .i64 a0] []
def begin (a0:Int):Tr Empty A:=
 .ax ((8:Int)≠0) (.ax ((8:Int)≠0) (.ax ((16:Int)≠0) (.ax ((128:Int)≠0) (.ite (decide (a0<(0:Int)))
  (.ret ((-1:Int),(-1:Int),(-1:Int)))
  (.call (bd.told (Int.tmod a0 (8:Int)) (Int.tmod (wr (Int.tdiv a0 (8:Int))) (16:Int)) (wr (Int.tdiv a0 (128:Int)))) fun t1=> .ite (!decide (t1=a0))
   (.ret ((-1:Int),(-1:Int),(-1:Int)))
   (.ret ((Int.tmod a0 (8:Int)),(Int.tmod (wr (Int.tdiv a0 (8:Int))) (16:Int)),(wr (Int.tdiv a0 (128:Int))))))))))
def f (a0:Int):Option A:=(begin a0).run (lp aB)
def told (a0:Int):aa.Told A:=⟨f a0,fun r=>ah Pg C 33 (S a0) 0 (v r) (o r),fun r h=>aY (Q:=PL) v o Tryz.func33 rfl (of_decide_eq_true (by kernel_rfl)) (by rfl) (fun _=>rfl) (fun J K=>by kernel_rfl) h⟩
end aS
namespace fa
def S (a0:List bR) (a1:List Int):List (PV U):=aa.start C 72 [.agg [.sl 88 a0],.sl 3 a1] []
inductive X where
 | c7 (x0:List Int) (x1 x2:Int)
def id:X→Nat
 | .c7 .. =>7
def st:X→List (PV U)
 | .c7 x0 x1 x2=>gf 72 [(1,.sl 3 x0),(48,.int .i64 x1),(49,.int .i64 x2)]
def begin (a0:List bR) (a1:List Int):Tr X A:=
 .call (cQ.told a0) fun t1=> .ite (!t1)
  (.ret false)
  (.ite (!decide ((List.length a1:Int)=(49:Int)))
   (.ret false)
   (.ax ((0:Int)≤(0:Int)∧(0:Int)≤(8:Int)∧(8:Int)≤(List.length a1:Int)) (.call (cg.told (List.take (Int.toNat (8:Int)) a1)) fun t2=> .ite (!t2)
    (.ret false)
    (.ax ((0:Int)≤(8:Int)∧(8:Int)<(List.length a1:Int)) (.call (aS.told (cT a1 (8:Int))) fun t3=> .ite (decide (t3.1<(0:Int)))
     (.ret false)
     (.ite (decide (t3.1≥(List.length a0:Int)))
      (.ret false)
      (.ax ((0:Int)≤(25:Int)∧(25:Int)≤(wr ((25:Int)+t3.2.2))∧(wr ((25:Int)+t3.2.2))≤(List.length a1:Int)) (.call (cg.told (List.drop (Int.toNat (25:Int)) (List.take (Int.toNat (wr ((25:Int)+t3.2.2))) a1))) fun t4=> .ite (!t4)
       (.ret false)
       (.jump (.c7 a1 t3.2.1 (0:Int)))))))))))
def tree:X→Tr X A
 | .c7 x0 x1 x2=>
 .ite (decide (x2<x1))
  (.ax ((0:Int)≤(wr ((9:Int)+(wr ((2:Int)*x2))))∧(wr ((9:Int)+(wr ((2:Int)*x2))))<(List.length x0:Int)) (.call (dG.told (cT x0 (wr ((9:Int)+(wr ((2:Int)*x2)))))) fun t1=> .ite (!t1)
   (.ret false)
   (.ax ((0:Int)≤(wr ((wr ((9:Int)+(wr ((2:Int)*x2))))+(1:Int)))∧(wr ((wr ((9:Int)+(wr ((2:Int)*x2))))+(1:Int)))<(List.length x0:Int)) (.call (dK.told (cT x0 (wr ((wr ((9:Int)+(wr ((2:Int)*x2))))+(1:Int))))) fun t2=> .ite (!t2)
    (.ret false)
    (.jump (.c7 x0 x1 (wr (x2+(1:Int)))))))))
  (.ret true)
def f (a0:List bR) (a1:List Int):Option A:=(begin a0 a1).run (lp tree)
def Q:ck C:={PL with gT:=[(7,[1,48,49])]}
theorem e:fr Pg C Q Tryz.f64 0 id st v o tree:=fun J K x=>by cases x<;>kernel_rfl
def told (a0:List bR) (a1:List Int):aa.Told A:=⟨f a0 a1,fun r=>ah Pg C 64 (S a0 a1) 0 (v r) (o r),fun r h=>fI v o Tryz.func64 rfl (of_decide_eq_true (by kernel_rfl)) (by rfl) (fun _=>rfl) e (fun J K=>by kernel_rfl) h⟩
end fa
end
end Go.Proofs.YtpndhhellhfegaaGreatDoor.Ev
