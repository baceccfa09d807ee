/- Functions as trees, with their contracts. No conditions. -/
import Derived.Test.YtmapddgocpkgeaaGreatNEvF2
namespace Go.Proofs.YtmapddgocpkgeaaGreat.Ev
open Go.Proofs.YtmapddgocpkgeaaGreat.aa Go.RowKit
set_option linter.unusedVariables false
set_option maxRecDepth 100000
noncomputable section
namespace bx
def S (a0:List aw):List (PV U):=aa.start C 41 [.sl 204 a0] []
inductive X where
 | c3 (x0:List aw) (x1 x2:Int)
def id:X→Nat
 | .c3 .. =>3
def st:X→List (PV U)
 | .c3 x0 x1 x2=>eA 41 [(0,.sl 204 x0),(3,.int .i64 x1),(4,.int .i64 x2)]
def begin (a0:List aw):Tr X A:=
 .jump (.c3 a0 (0:Int) (0:Int))
def tree:X→Tr X A
 | .c3 x0 x1 x2=>
 .ite (decide (x2<(List.length x0:Int)))
  (.aC ((0:Int)≤x2∧x2<(List.length x0:Int)) (.call (fV.told ((ak x0 x2).f0) ((ak x0 x2).f1) ((ak x0 x2).f2) ((ak x0 x2).f3.f0) ((ak x0 x2).f3.f1) ((ak x0 x2).f3.f2)) fun t1=>let u1_0:Tr X A:=(.call (aE.told (wr (x1+(1:Int))) (0:Int) (3:Int)) fun t2=> .ite (!t2) (.ret false) (.jump (.c3 x0 (wr (x1+(1:Int))) (wr (x2+(1:Int))))));let u1_1:Tr X A:=(.ite (decide ((ak x0 x2).f0=(6:Int))) (.call (aE.told (wr (x1-(1:Int))) (0:Int) (3:Int)) fun t2=> .ite (!t2) (.ret false) (.jump (.c3 x0 (wr (x1-(1:Int))) (wr (x2+(1:Int)))))) (.call (aE.told x1 (0:Int) (3:Int)) fun t2=> .ite (!t2) (.ret false) (.jump (.c3 x0 x1 (wr (x2+(1:Int))))))); .ite (!t1)
   (.ret false)
   (.aC ((0:Int)≤x2∧x2<(List.length x0:Int)) (.ite (decide ((ak x0 x2).f0=(4:Int)))
    (.ite (decide ((ak x0 x2).f0=(4:Int)))
     (u1_0)
     (u1_1))
    (.ite (decide ((ak x0 x2).f0=(5:Int)))
     (u1_0)
     (u1_1))))))
  (.ite (decide (x1=(0:Int)))
   (.ret ((decide ((List.length x0:Int)≤(24:Int)))))
   (.ret false))
def f (a0:List aw):Option A:=(begin a0).run (lp tree)
def Q:bE C:={PL with fM:=[(3,[0,3,4,37,38,39])]}
theorem e:df Pg C Q Tryz.f173 0 id st v o tree:=fun J K x=>by cases x<;>kernel_rfl
def told (a0:List aw):aa.Told A:=⟨f a0,fun r=>ae Pg C 173 (S a0) 0 (v r) (o r),fun r h=>dy v o Tryz.func173 rfl (of_decide_eq_true (by kernel_rfl)) (by rfl) (fun _=>rfl) e (fun J K=>by kernel_rfl) h⟩
end bx
namespace cv
def S (a0:List az):List (PV U):=aa.start C 33 [.agg [.sl 164 a0]] []
inductive X where
 | c2 (x0:List az) (x1:Int)
def id:X→Nat
 | .c2 .. =>2
def st:X→List (PV U)
 | .c2 x0 x1=>eA 33 [(1,.box [.sl 164 x0]),(3,.int .i64 x1)]
def begin (a0:List az):Tr X A:=
 .jump (.c2 a0 (0:Int))
def tree:X→Tr X A
 | .c2 x0 x1=>
 .ite (decide (x1<(List.length x0:Int)))
  (.aC ((0:Int)≤x1∧x1<(List.length x0:Int)) (.call (bx.told ((cy x0 x1).f0)) fun t1=> .ite (!t1)
   (.ret false)
   (.aC ((0:Int)≤x1∧x1<(List.length x0:Int)) (.call (cq.told ((cy x0 x1).f1.f0) ((cy x0 x1).f1.f1) ((cy x0 x1).f1.f2)) fun t2=> .ite (!t2)
    (.ret false)
    (.jump (.c2 x0 (wr (x1+(1:Int)))))))))
  (.call (aE.told (List.length x0:Int) (1:Int) (6:Int)) fun t1=> .ret t1)
def f (a0:List az):Option A:=(begin a0).run (lp tree)
def Q:bE C:={PL with fM:=[(2,[1,3])]}
theorem e:df Pg C Q Tryz.f141 0 id st v o tree:=fun J K x=>by cases x<;>kernel_rfl
def told (a0:List az):aa.Told A:=⟨f a0,fun r=>ae Pg C 141 (S a0) 0 (v r) (o r),fun r h=>dy v o Tryz.func141 rfl (of_decide_eq_true (by kernel_rfl)) (by rfl) (fun _=>rfl) e (fun J K=>by kernel_rfl) h⟩
end cv
namespace eN
def S (a0 a1 a2 a3:Int):List (PV U):=aa.start C 25 [.agg [.int .i64 a0,.int .i64 a1,.int .i64 a2,.int .i64 a3]] []
def begin (a0 a1 a2 a3:Int):Tr Empty A:=
 .call (aE.told a1 (1:Int) (5000:Int)) fun t1=> .ite t1
  (.call (aE.told a0 (0:Int) a1) fun t2=> .ite t2
   (.call (aE.told a2 (1:Int) a1) fun t3=> .ite t3
    (.call (aE.told a3 (0:Int) (100:Int)) fun t4=> .ret t4)
    (.ret false))
   (.ret false))
  (.ret false)
def f (a0 a1 a2 a3:Int):Option A:=(begin a0 a1 a2 a3).run (lp aF)
def told (a0 a1 a2 a3:Int):aa.Told A:=⟨f a0 a1 a2 a3,fun r=>ae Pg C 112 (S a0 a1 a2 a3) 0 (v r) (o r),fun r h=>aG (Q:=PL) v o Tryz.func112 rfl (of_decide_eq_true (by kernel_rfl)) (by rfl) (fun _=>rfl) (fun J K=>by kernel_rfl) h⟩
end eN
namespace bM
def S (a0:List Int):List (PV U):=aa.start C 16 [.sl 3 a0] []
inductive X where
 | c2 (x0:List Int) (x1:Int)
def id:X→Nat
 | .c2 .. =>2
def st:X→List (PV U)
 | .c2 x0 x1=>eA 16 [(0,.sl 3 x0),(3,.int .i64 x1)]
def begin (a0:List Int):Tr X A:=
 .jump (.c2 a0 (0:Int))
def tree:X→Tr X A
 | .c2 x0 x1=>
 .ite (decide (x1<(List.length x0:Int)))
  (.aC ((0:Int)≤x1∧x1<(List.length x0:Int)) (.call (dH.told (dz x0 x1)) fun t1=> .ite (!t1)
   (.ret false)
   (.jump (.c2 x0 (wr (x1+(1:Int)))))))
  (.ret true)
def f (a0:List Int):Option A:=(begin a0).run (lp tree)
def Q:bE C:={PL with fM:=[(2,[0,3])]}
theorem e:df Pg C Q Tryz.f113 0 id st v o tree:=fun J K x=>by cases x<;>kernel_rfl
def told (a0:List Int):aa.Told A:=⟨f a0,fun r=>ae Pg C 113 (S a0) 0 (v r) (o r),fun r h=>dy v o Tryz.func113 rfl (of_decide_eq_true (by kernel_rfl)) (by rfl) (fun _=>rfl) e (fun J K=>by kernel_rfl) h⟩
end bM
end
end Go.Proofs.YtmapddgocpkgeaaGreat.Ev
