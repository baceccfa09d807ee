/- Functions as trees, with their contracts. No conditions. -/
import Derived.Test.YtpndhhellhfegaaGreatDoorREvF2
namespace Go.Proofs.YtpndhhellhfegaaGreatDoor.Ev
open Go.Proofs.YtpndhhellhfegaaGreatDoor.aa Go.RowKit
set_option linter.unusedVariables false
set_option maxRecDepth 100000
noncomputable section
namespace bm
def S (a0:List aw):List (PV U):=aa.start C 41 [.sl 122 a0] []
inductive X where
 | c3 (x0:List aw) (x1 x2:Int)
def id:X→Nat
 | .c3 .. =>3
def st:X→List (PV U)
 | .c3 x0 x1 x2=>gf 41 [(0,.sl 122 x0),(3,.int .i64 x1),(4,.int .i64 x2)]
def begin (a0:List aw):Tr X A:=
 .jump (.c3 a0 (0:Int) (0:Int))
def tree:X→Tr X A
 | .c3 x0 x1 x2=>
 .ite (decide (x2<(List.length x0:Int)))
  (.ax ((0:Int)≤x2∧x2<(List.length x0:Int)) (.call (fD.told ((aj x0 x2).f0) ((aj x0 x2).f1) ((aj x0 x2).f2) ((aj x0 x2).f3.f0) ((aj x0 x2).f3.f1) ((aj x0 x2).f3.f2)) fun t1=>let u1_0:Tr X A:=(.call (aC.told (wr (x1+(1:Int))) (0:Int) (3:Int)) fun t2=> .ite (!t2) (.ret false) (.jump (.c3 x0 (wr (x1+(1:Int))) (wr (x2+(1:Int))))));let u1_1:Tr X A:=(.ite (decide ((aj x0 x2).f0=(6:Int))) (.call (aC.told (wr (x1-(1:Int))) (0:Int) (3:Int)) fun t2=> .ite (!t2) (.ret false) (.jump (.c3 x0 (wr (x1-(1:Int))) (wr (x2+(1:Int)))))) (.call (aC.told x1 (0:Int) (3:Int)) fun t2=> .ite (!t2) (.ret false) (.jump (.c3 x0 x1 (wr (x2+(1:Int))))))); .ite (!t1)
   (.ret false)
   (.ax ((0:Int)≤x2∧x2<(List.length x0:Int)) (.ite (decide ((aj x0 x2).f0=(4:Int)))
    (.ite (decide ((aj x0 x2).f0=(4:Int)))
     (u1_0)
     (u1_1))
    (.ite (decide ((aj x0 x2).f0=(5:Int)))
     (u1_0)
     (u1_1))))))
  (.ite (decide (x1=(0:Int)))
   (.ret ((decide ((List.length x0:Int)≤(24:Int)))))
   (.ret false))
def f (a0:List aw):Option A:=(begin a0).run (lp tree)
def Q:ck C:={PL with gT:=[(3,[0,3,4,37,38,39])]}
theorem e:fr Pg C Q Tryz.f112 0 id st v o tree:=fun J K x=>by cases x<;>kernel_rfl
def told (a0:List aw):aa.Told A:=⟨f a0,fun r=>ah Pg C 112 (S a0) 0 (v r) (o r),fun r h=>fI v o Tryz.func112 rfl (of_decide_eq_true (by kernel_rfl)) (by rfl) (fun _=>rfl) e (fun J K=>by kernel_rfl) h⟩
end bm
namespace cj
def S (a0:List bR):List (PV U):=aa.start C 33 [.agg [.sl 88 a0]] []
inductive X where
 | c2 (x0:List bR) (x1:Int)
def id:X→Nat
 | .c2 .. =>2
def st:X→List (PV U)
 | .c2 x0 x1=>gf 33 [(1,.box [.sl 88 x0]),(3,.int .i64 x1)]
def begin (a0:List bR):Tr X A:=
 .jump (.c2 a0 (0:Int))
def tree:X→Tr X A
 | .c2 x0 x1=>
 .ite (decide (x1<(List.length x0:Int)))
  (.ax ((0:Int)≤x1∧x1<(List.length x0:Int)) (.call (bm.told ((cS x0 x1).f0)) fun t1=> .ite (!t1)
   (.ret false)
   (.ax ((0:Int)≤x1∧x1<(List.length x0:Int)) (.call (cb.told ((cS x0 x1).f1.f0) ((cS x0 x1).f1.f1) ((cS x0 x1).f1.f2)) fun t2=> .ite (!t2)
    (.ret false)
    (.jump (.c2 x0 (wr (x1+(1:Int)))))))))
  (.call (aC.told (List.length x0:Int) (1:Int) (6:Int)) fun t1=> .ret t1)
def f (a0:List bR):Option A:=(begin a0).run (lp tree)
def Q:ck C:={PL with gT:=[(2,[1,3])]}
theorem e:fr Pg C Q Tryz.f89 0 id st v o tree:=fun J K x=>by cases x<;>kernel_rfl
def told (a0:List bR):aa.Told A:=⟨f a0,fun r=>ah Pg C 89 (S a0) 0 (v r) (o r),fun r h=>fI v o Tryz.func89 rfl (of_decide_eq_true (by kernel_rfl)) (by rfl) (fun _=>rfl) e (fun J K=>by kernel_rfl) h⟩
end cj
namespace dM
def S (a0 a1 a2 a3:Int):List (PV U):=aa.start C 25 [.agg [.int .i64 a0,.int .i64 a1,.int .i64 a2,.int .i64 a3]] []
def begin (a0 a1 a2 a3:Int):Tr Empty A:=
 .call (aC.told a1 (1:Int) (5000:Int)) fun t1=> .ite t1
  (.call (aC.told a0 (0:Int) a1) fun t2=> .ite t2
   (.call (aC.told a2 (1:Int) a1) fun t3=> .ite t3
    (.call (aC.told a3 (0:Int) (100:Int)) fun t4=> .ret t4)
    (.ret false))
   (.ret false))
  (.ret false)
def f (a0 a1 a2 a3:Int):Option A:=(begin a0 a1 a2 a3).run (lp aB)
def told (a0 a1 a2 a3:Int):aa.Told A:=⟨f a0 a1 a2 a3,fun r=>ah Pg C 55 (S a0 a1 a2 a3) 0 (v r) (o r),fun r h=>aY (Q:=PL) v o Tryz.func55 rfl (of_decide_eq_true (by kernel_rfl)) (by rfl) (fun _=>rfl) (fun J K=>by kernel_rfl) h⟩
end dM
namespace bH
def S (a0:List Int):List (PV U):=aa.start C 16 [.sl 3 a0] []
inductive X where
 | c2 (x0:List Int) (x1:Int)
def id:X→Nat
 | .c2 .. =>2
def st:X→List (PV U)
 | .c2 x0 x1=>gf 16 [(0,.sl 3 x0),(3,.int .i64 x1)]
def begin (a0:List Int):Tr X A:=
 .jump (.c2 a0 (0:Int))
def tree:X→Tr X A
 | .c2 x0 x1=>
 .ite (decide (x1<(List.length x0:Int)))
  (.ax ((0:Int)≤x1∧x1<(List.length x0:Int)) (.call (df.told (cT x0 x1)) fun t1=> .ite (!t1)
   (.ret false)
   (.jump (.c2 x0 (wr (x1+(1:Int)))))))
  (.ret true)
def f (a0:List Int):Option A:=(begin a0).run (lp tree)
def Q:ck C:={PL with gT:=[(2,[0,3])]}
theorem e:fr Pg C Q Tryz.f56 0 id st v o tree:=fun J K x=>by cases x<;>kernel_rfl
def told (a0:List Int):aa.Told A:=⟨f a0,fun r=>ah Pg C 56 (S a0) 0 (v r) (o r),fun r h=>fI v o Tryz.func56 rfl (of_decide_eq_true (by kernel_rfl)) (by rfl) (fun _=>rfl) e (fun J K=>by kernel_rfl) h⟩
end bH
end
end Go.Proofs.YtpndhhellhfegaaGreatDoor.Ev
