/- Functions as trees, with their contracts. No conditions. -/
import Derived.Test.YtmapddgocpkgeaaGreatNEvF17
namespace Go.Proofs.YtmapddgocpkgeaaGreat.Ev
open Go.Proofs.YtmapddgocpkgeaaGreat.aa Go.RowKit
set_option linter.unusedVariables false
set_option maxRecDepth 100000
noncomputable section
namespace ax
def S (a0:List az):List (PV U):=aa.start C 9 [.sl 164 a0,.fn 149 []] []
def begin (a0:List az):Tr Empty A:=
 .call (an.told a0) fun t1=> .ret ((decide (t1≥(0:Int))))
def f (a0:List az):Option A:=(begin a0).run (lp aF)
def told (a0:List az):aa.Told A:=⟨f a0,fun r=>ae Pg C 148 (S a0) 0 (v r) (o r),fun r h=>aG (Q:=PL) v o Tryz.func148 rfl (of_decide_eq_true (by kernel_rfl)) (by rfl) (fun _=>rfl) (fun J K=>by kernel_rfl) h⟩
end ax
namespace dm
def S (a0:List az):List (PV U):=aa.start C 13 [.agg [.sl 164 a0]] []
def begin (a0:List az):Tr Empty A:=
 .call (aK.told (List.length a0:Int) (1:Int) (6:Int)) fun t1=> .ite t1
  (.call (ax.told a0) fun t2=> .ret ((!t2)))
  (.ret false)
def f (a0:List az):Option A:=(begin a0).run (lp aF)
def told (a0:List az):aa.Told A:=⟨f a0,fun r=>ae Pg C 103 (S a0) 0 (v r) (o r),fun r h=>aG (Q:=PL) v o Tryz.func103 rfl (of_decide_eq_true (by kernel_rfl)) (by rfl) (fun _=>rfl) (fun J K=>by kernel_rfl) h⟩
end dm
namespace eP
def S (a0:Int):List (PV U):=aa.start C 5 [.int .i64 a0] []
def begin (a0:Int):Tr Empty A:=
 .call (aK.told a0 (-1000000:Int) (1000000:Int)) fun t1=> .ret t1
def f (a0:Int):Option A:=(begin a0).run (lp aF)
def told (a0:Int):aa.Told A:=⟨f a0,fun r=>ae Pg C 106 (S a0) 0 (v r) (o r),fun r h=>aG (Q:=PL) v o Tryz.func106 rfl (of_decide_eq_true (by kernel_rfl)) (by rfl) (fun _=>rfl) (fun J K=>by kernel_rfl) h⟩
end eP
namespace dw
def S (a0:Int):List (PV U):=aa.start C 6 [.int .i64 a0] []
def begin (a0:Int):Tr Empty A:=
 .call (eP.told a0) fun t1=> .ret ((!t1))
def f (a0:Int):Option A:=(begin a0).run (lp aF)
def told (a0:Int):aa.Told A:=⟨f a0,fun r=>ae Pg C 108 (S a0) 0 (v r) (o r),fun r h=>aG (Q:=PL) v o Tryz.func108 rfl (of_decide_eq_true (by kernel_rfl)) (by rfl) (fun _=>rfl) (fun J K=>by kernel_rfl) h⟩
end dw
namespace ay
def S (a0:List Int):List (PV U):=aa.start C 19 [.sl 3 a0,.fn 108 []] []
inductive X where
 | c2 (x0:List Int) (x1 x2:Int)
def id:X→Nat
 | .c2 .. =>2
def st:X→List (PV U)
 | .c2 x0 x1 x2=>eA 19 [(0,.sl 3 x0),(1,.fn 108 []),(7,.int .i64 x1),(8,.int .i64 x2)]
def begin (a0:List Int):Tr X A:=
 .jump (.c2 a0 (List.length a0:Int) (0:Int))
def tree:X→Tr X A
 | .c2 x0 x1 x2=>
 .ite (decide (x2<x1))
  (.aC ((0:Int)≤x2∧x2<(List.length x0:Int)) (.call (dw.told (dz x0 x2)) fun t1=> .ite t1
   (.ret x2)
   (.jump (.c2 x0 x1 (wr (x2+(1:Int)))))))
  (.ret ((-1:Int)))
def f (a0:List Int):Option A:=(begin a0).run (lp tree)
def Q:bE C:={PL with fM:=[(2,[0,1,7,8])]}
theorem e:df Pg C Q Tryz.f152 0 id st v o tree:=fun J K x=>by cases x<;>kernel_rfl
def told (a0:List Int):aa.Told A:=⟨f a0,fun r=>ae Pg C 152 (S a0) 0 (v r) (o r),fun r h=>dy v o Tryz.func152 rfl (of_decide_eq_true (by kernel_rfl)) (by rfl) (fun _=>rfl) e (fun J K=>by kernel_rfl) h⟩
end ay
namespace aH
def S (a0:List Int):List (PV U):=aa.start C 9 [.sl 3 a0,.fn 108 []] []
def begin (a0:List Int):Tr Empty A:=
 .call (ay.told a0) fun t1=> .ret ((decide (t1≥(0:Int))))
def f (a0:List Int):Option A:=(begin a0).run (lp aF)
def told (a0:List Int):aa.Told A:=⟨f a0,fun r=>ae Pg C 107 (S a0) 0 (v r) (o r),fun r h=>aG (Q:=PL) v o Tryz.func107 rfl (of_decide_eq_true (by kernel_rfl)) (by rfl) (fun _=>rfl) (fun J K=>by kernel_rfl) h⟩
end aH
namespace cu
def S (a0:List Int):List (PV U):=aa.start C 6 [.sl 3 a0] []
def begin (a0:List Int):Tr Empty A:=
 .call (aH.told a0) fun t1=> .ret ((!t1))
def f (a0:List Int):Option A:=(begin a0).run (lp aF)
def told (a0:List Int):aa.Told A:=⟨f a0,fun r=>ae Pg C 49 (S a0) 0 (v r) (o r),fun r h=>aG (Q:=PL) v o Tryz.func49 rfl (of_decide_eq_true (by kernel_rfl)) (by rfl) (fun _=>rfl) (fun J K=>by kernel_rfl) h⟩
end cu
namespace bq
def S (a0 a1 a2:Int):List (PV U):=aa.start C 27 [.int .i64 a0,.int .i64 a1,.int .i64 a2] []
def begin (a0 a1 a2:Int):Tr Empty A:=
 .call (aK.told a0 (0:Int) (5:Int)) fun t1=> .ite (!t1)
  (.ret ((-1:Int)))
  (.call (aK.told a1 (0:Int) (8:Int)) fun t2=> .ite (!t2)
   (.ret ((-1:Int)))
   (.call (aK.told a2 (0:Int) (24:Int)) fun t3=> .ite (!t3)
    (.ret ((-1:Int)))
    (.ret ((wr (a0+(wr ((8:Int)*(wr (a1+(wr ((16:Int)*a2))))))))))))
def f (a0 a1 a2:Int):Option A:=(begin a0 a1 a2).run (lp aF)
def told (a0 a1 a2:Int):aa.Told A:=⟨f a0 a1 a2,fun r=>ae Pg C 151 (S a0 a1 a2) 0 (v r) (o r),fun r h=>aG (Q:=PL) v o Tryz.func151 rfl (of_decide_eq_true (by kernel_rfl)) (by rfl) (fun _=>rfl) (fun J K=>by kernel_rfl) h⟩
end bq
namespace bm
def S (a0:Int):List (PV U):=aa.start C 28 [.int .i64 a0] []
def begin (a0:Int):Tr Empty A:=
 .aC ((8:Int)≠0) (.aC ((8:Int)≠0) (.aC ((16:Int)≠0) (.aC ((128:Int)≠0) (.ite (decide (a0<(0:Int)))
  (.ret ((-1:Int),(-1:Int),(-1:Int)))
  (.call (bq.told (Int.tmod a0 (8:Int)) (Int.tmod (wr (Int.tdiv a0 (8:Int))) (16:Int)) (wr (Int.tdiv a0 (128:Int)))) fun t1=> .ite (!decide (t1=a0))
   (.ret ((-1:Int),(-1:Int),(-1:Int)))
   (.ret ((Int.tmod a0 (8:Int)),(Int.tmod (wr (Int.tdiv a0 (8:Int))) (16:Int)),(wr (Int.tdiv a0 (128:Int))))))))))
def f (a0:Int):Option A:=(begin a0).run (lp aF)
def told (a0:Int):aa.Told A:=⟨f a0,fun r=>ae Pg C 104 (S a0) 0 (v r) (o r),fun r h=>aG (Q:=PL) v o Tryz.func104 rfl (of_decide_eq_true (by kernel_rfl)) (by rfl) (fun _=>rfl) (fun J K=>by kernel_rfl) h⟩
end bm
namespace fB
def S (a0:List az) (a1:List Int):List (PV U):=aa.start C 72 [.agg [.sl 164 a0],.sl 3 a1] []
inductive X where
 | c7 (x0:List Int) (x1 x2:Int)
def id:X→Nat
 | .c7 .. =>7
def st:X→List (PV U)
 | .c7 x0 x1 x2=>eA 72 [(1,.sl 3 x0),(48,.int .i64 x1),(49,.int .i64 x2)]
def begin (a0:List az) (a1:List Int):Tr X A:=
 .call (dm.told a0) fun t1=> .ite (!t1)
  (.ret false)
  (.ite (!decide ((List.length a1:Int)=(49:Int)))
   (.ret false)
   (.aC ((0:Int)≤(0:Int)∧(0:Int)≤(8:Int)∧(8:Int)≤(List.length a1:Int)) (.call (cu.told (List.take (Int.toNat (8:Int)) a1)) fun t2=> .ite (!t2)
    (.ret false)
    (.aC ((0:Int)≤(8:Int)∧(8:Int)<(List.length a1:Int)) (.call (bm.told (dz a1 (8:Int))) fun t3=> .ite (decide (t3.1<(0:Int)))
     (.ret false)
     (.ite (decide (t3.1≥(List.length a0:Int)))
      (.ret false)
      (.aC ((0:Int)≤(25:Int)∧(25:Int)≤(wr ((25:Int)+t3.2.2))∧(wr ((25:Int)+t3.2.2))≤(List.length a1:Int)) (.call (cu.told (List.drop (Int.toNat (25:Int)) (List.take (Int.toNat (wr ((25:Int)+t3.2.2))) a1))) fun t4=> .ite (!t4)
       (.ret false)
       (.jump (.c7 a1 t3.2.1 (0:Int)))))))))))
def tree:X→Tr X A
 | .c7 x0 x1 x2=>
 .ite (decide (x2<x1))
  (.aC ((0:Int)≤(wr ((9:Int)+(wr ((2:Int)*x2))))∧(wr ((9:Int)+(wr ((2:Int)*x2))))<(List.length x0:Int)) (.call (eF.told (dz x0 (wr ((9:Int)+(wr ((2:Int)*x2)))))) fun t1=> .ite (!t1)
   (.ret false)
   (.aC ((0:Int)≤(wr ((wr ((9:Int)+(wr ((2:Int)*x2))))+(1:Int)))∧(wr ((wr ((9:Int)+(wr ((2:Int)*x2))))+(1:Int)))<(List.length x0:Int)) (.call (eP.told (dz x0 (wr ((wr ((9:Int)+(wr ((2:Int)*x2))))+(1:Int))))) fun t2=> .ite (!t2)
    (.ret false)
    (.jump (.c7 x0 x1 (wr (x2+(1:Int)))))))))
  (.ret true)
def f (a0:List az) (a1:List Int):Option A:=(begin a0 a1).run (lp tree)
def Q:bE C:={PL with fM:=[(7,[1,48,49])]}
theorem e:df Pg C Q Tryz.f47 0 id st v o tree:=fun J K x=>by cases x<;>kernel_rfl
def told (a0:List az) (a1:List Int):aa.Told A:=⟨f a0 a1,fun r=>ae Pg C 47 (S a0 a1) 0 (v r) (o r),fun r h=>dy v o Tryz.func47 rfl (of_decide_eq_true (by kernel_rfl)) (by rfl) (fun _=>rfl) e (fun J K=>by kernel_rfl) h⟩
end fB
namespace fF
def S (a0 a1 a2 a3:Int):List (PV U):=aa.start C 25 [.agg [.int .i64 a0,.int .i64 a1,.int .i64 a2,.int .i64 a3]] []
def begin (a0 a1 a2 a3:Int):Tr Empty A:=
 .call (aK.told a1 (1:Int) (5000:Int)) fun t1=> .ite t1
  (.call (aK.told a0 (0:Int) a1) fun t2=> .ite t2
   (.call (aK.told a2 (1:Int) a1) fun t3=> .ite t3
    (.call (aK.told a3 (0:Int) (100:Int)) fun t4=> .ret t4)
    (.ret false))
   (.ret false))
  (.ret false)
def f (a0 a1 a2 a3:Int):Option A:=(begin a0 a1 a2 a3).run (lp aF)
def told (a0 a1 a2 a3:Int):aa.Told A:=⟨f a0 a1 a2 a3,fun r=>ae Pg C 48 (S a0 a1 a2 a3) 0 (v r) (o r),fun r h=>aG (Q:=PL) v o Tryz.func48 rfl (of_decide_eq_true (by kernel_rfl)) (by rfl) (fun _=>rfl) (fun J K=>by kernel_rfl) h⟩
end fF
namespace fb
def S (a0 a1:Int):List (PV U):=aa.start C 18 [.agg [.int .i64 a0,.int .i64 a1]] []
def begin (a0 a1:Int):Tr Empty A:=
 .ite (decide (a0≥(0:Int)))
  (.ite (decide (a0≤a1))
   (.ret ((decide (a1≤(1000000:Int)))))
   (.ret false))
  (.ret false)
def f (a0 a1:Int):Option A:=(begin a0 a1).run (lp aF)
def told (a0 a1:Int):aa.Told A:=⟨f a0 a1,fun r=>ae Pg C 51 (S a0 a1) 0 (v r) (o r),fun r h=>aG (Q:=PL) v o Tryz.func51 rfl (of_decide_eq_true (by kernel_rfl)) (by rfl) (fun _=>rfl) (fun J K=>by kernel_rfl) h⟩
end fb
end
end Go.Proofs.YtmapddgocpkgeaaGreat.Ev
