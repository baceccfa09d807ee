/- Functions as trees, with their contracts. No conditions. -/
import Derived.Test.YtpndhhellhfegaaGreatDoorREvF15
namespace Go.Proofs.YtpndhhellhfegaaGreatDoor.Ev
open Go.Proofs.YtpndhhellhfegaaGreatDoor.aa Go.RowKit
set_option linter.unusedVariables false
set_option maxRecDepth 100000
noncomputable section
namespace dS
def S (a0:List Int):List (PV U):=aa.start C 6 [.sl 5 a0] []
def begin (a0:List Int):Tr Empty A:=
 .call (eR.told a0) fun t1=> .call (bk.told t1.1 t1.2.1 t1.2.2) fun t2=> .ret (t2.1,t2.2.1,t2.2.2.1,t2.2.2.2.1,t2.2.2.2.2.1,t2.2.2.2.2.2.1,t2.2.2.2.2.2.2.1,t2.2.2.2.2.2.2.2.1,t2.2.2.2.2.2.2.2.2.1,t2.2.2.2.2.2.2.2.2.2.1,t2.2.2.2.2.2.2.2.2.2.2.1,t2.2.2.2.2.2.2.2.2.2.2.2.1,t2.2.2.2.2.2.2.2.2.2.2.2.2.1)
def f (a0:List Int):Option A:=(begin a0).run (lp aB)
def told (a0:List Int):aa.Told A:=⟨f a0,fun r=>ah Pg C 15 (S a0) 0 (v r) (o r),fun r h=>aY (Q:=PL) v o Tryz.func15 rfl (of_decide_eq_true (by kernel_rfl)) (by rfl) (fun _=>rfl) (fun J K=>by kernel_rfl) h⟩
end dS
namespace aG
def S (a0 a1 a2:Int):List (PV U):=aa.start C 15 [.int .i64 a0,.int .i64 a1,.int .i64 a2] []
def begin (a0 a1 a2:Int):Tr Empty A:=
 .ite (decide (a0≥a1))
  (.ret ((decide (a0≤a2))))
  (.ret false)
def f (a0 a1 a2:Int):Option A:=(begin a0 a1 a2).run (lp aB)
def told (a0 a1 a2:Int):aa.Told A:=⟨f a0 a1 a2,fun r=>ah Pg C 67 (S a0 a1 a2) 0 (v r) (o r),fun r h=>aY (Q:=PL) v o Tryz.func67 rfl (of_decide_eq_true (by kernel_rfl)) (by rfl) (fun _=>rfl) (fun J K=>by kernel_rfl) h⟩
end aG
namespace bU
def S (a0:Int):List (PV U):=aa.start C 9 [.int .i64 a0] []
def begin (a0:Int):Tr Empty A:=
 .ite (decide (a0=(1:Int)))
  (.ret true)
  (.ret ((decide (a0=(2:Int)))))
def f (a0:Int):Option A:=(begin a0).run (lp aB)
def told (a0:Int):aa.Told A:=⟨f a0,fun r=>ah Pg C 168 (S a0) 0 (v r) (o r),fun r h=>aY (Q:=PL) v o Tryz.func168 rfl (of_decide_eq_true (by kernel_rfl)) (by rfl) (fun _=>rfl) (fun J K=>by kernel_rfl) h⟩
end bU
namespace dG
def S (a0:Int):List (PV U):=aa.start C 5 [.int .i64 a0] []
def begin (a0:Int):Tr Empty A:=
 .call (aG.told a0 (0:Int) (7:Int)) fun t1=> .ret t1
def f (a0:Int):Option A:=(begin a0).run (lp aB)
def told (a0:Int):aa.Told A:=⟨f a0,fun r=>ah Pg C 95 (S a0) 0 (v r) (o r),fun r h=>aY (Q:=PL) v o Tryz.func95 rfl (of_decide_eq_true (by kernel_rfl)) (by rfl) (fun _=>rfl) (fun J K=>by kernel_rfl) h⟩
end dG
namespace cK
def S (a0:Int):List (PV U):=aa.start C 13 [.int .i64 a0] []
def begin (a0:Int):Tr Empty A:=
 .ite (decide (a0=(1:Int)))
  (.ret true)
  (.ite (decide (a0=(3:Int)))
   (.ret true)
   (.ret ((decide (a0=(4:Int))))))
def f (a0:Int):Option A:=(begin a0).run (lp aB)
def told (a0:Int):aa.Told A:=⟨f a0,fun r=>ah Pg C 169 (S a0) 0 (v r) (o r),fun r h=>aY (Q:=PL) v o Tryz.func169 rfl (of_decide_eq_true (by kernel_rfl)) (by rfl) (fun _=>rfl) (fun J K=>by kernel_rfl) h⟩
end cK
namespace dz
def S (a0:Int):List (PV U):=aa.start C 5 [.int .i64 a0] []
def begin (a0:Int):Tr Empty A:=
 .call (aG.told a0 (-8:Int) (999:Int)) fun t1=> .ret t1
def f (a0:Int):Option A:=(begin a0).run (lp aB)
def told (a0:Int):aa.Told A:=⟨f a0,fun r=>ah Pg C 159 (S a0) 0 (v r) (o r),fun r h=>aY (Q:=PL) v o Tryz.func159 rfl (of_decide_eq_true (by kernel_rfl)) (by rfl) (fun _=>rfl) (fun J K=>by kernel_rfl) h⟩
end dz
namespace cH
def S (a0 a1 a2:Int):List (PV U):=aa.start C 16 [.agg [.int .i64 a0,.int .i64 a1,.int .i64 a2]] []
def begin (a0 a1 a2:Int):Tr Empty A:=
 .call (aG.told a0 (1:Int) (7:Int)) fun t1=> .ite t1
  (.call (dz.told a1) fun t2=> .ite t2
   (.call (dz.told a2) fun t3=> .ret t3)
   (.ret false))
  (.ret false)
def f (a0 a1 a2:Int):Option A:=(begin a0 a1 a2).run (lp aB)
def told (a0 a1 a2:Int):aa.Told A:=⟨f a0 a1 a2,fun r=>ah Pg C 140 (S a0 a1 a2) 0 (v r) (o r),fun r h=>aY (Q:=PL) v o Tryz.func140 rfl (of_decide_eq_true (by kernel_rfl)) (by rfl) (fun _=>rfl) (fun J K=>by kernel_rfl) h⟩
end cH
namespace bT
def S (a0:Int):List (PV U):=aa.start C 5 [.int .i64 a0] []
def begin (a0:Int):Tr Empty A:=
 .call (aG.told a0 (0:Int) (3:Int)) fun t1=> .ret t1
def f (a0:Int):Option A:=(begin a0).run (lp aB)
def told (a0:Int):aa.Told A:=⟨f a0,fun r=>ah Pg C 170 (S a0) 0 (v r) (o r),fun r h=>aY (Q:=PL) v o Tryz.func170 rfl (of_decide_eq_true (by kernel_rfl)) (by rfl) (fun _=>rfl) (fun J K=>by kernel_rfl) h⟩
end bT
namespace dm
def S (a0 a1 a2 a3 a4 a5:Int):List (PV U):=aa.start C 65 [.agg [.int .i64 a0,.int .i64 a1,.int .i64 a2,.int .i64 a3,.int .i64 a4,.int .i64 a5]] []
inductive X where
 | c3 (x0 x1 x2 x3 x4 x5:Int)
 | c5 (x0 x1 x2 x3 x4 x5:Int)
def id:X→Nat
 | .c3 .. =>3
 | .c5 .. =>5
def st:X→List (PV U)
 | .c3 x0 x1 x2 x3 x4 x5=>gf 65 [(1,.box [.int .i64 x0,.int .i64 x1,.int .i64 x2,.int .i64 x3,.int .i64 x4,.int .i64 x5])]
 | .c5 x0 x1 x2 x3 x4 x5=>gf 65 [(1,.box [.int .i64 x0,.int .i64 x1,.int .i64 x2,.int .i64 x3,.int .i64 x4,.int .i64 x5])]
def begin (a0 a1 a2 a3 a4 a5:Int):Tr X A:=
 .call (aG.told a0 (1:Int) (6:Int)) fun t1=> .ite (!t1)
  (.ret false)
  (.call (bU.told a0) fun t2=> .ite t2
   (.call (dG.told a1) fun t3=> .ite (!t3)
    (.ret false)
    (.call (bU.told a0) fun t4=>let u4_0:Tr X A:=(.jump (.c3 a0 a1 a2 a3 a4 a5)); .ite (!t4)
     (.ite (!decide (a1=(0:Int)))
      (.ret false)
      (u4_0))
     (u4_0)))
   (.call (bU.told a0) fun t3=>let u3_0:Tr X A:=(.jump (.c3 a0 a1 a2 a3 a4 a5)); .ite (!t3)
    (.ite (!decide (a1=(0:Int)))
     (.ret false)
     (u3_0))
    (u3_0)))
def tree:X→Tr X A
 | .c3 x0 x1 x2 x3 x4 x5=>
 .call (cK.told x0) fun t1=> .ite t1
  (.call (cH.told x3 x4 x5) fun t2=> .ite (!t2)
   (.ret false)
   (.call (cK.told x0) fun t3=> .ite (!t3)
    (.val ((!(decide (x3=(0:Int))&&(decide (x4=(0:Int))&&(decide (x5=(0:Int))&&true)))):Bool) fun v4=> .ite v4
     (.ret false)
     (.jump (.c5 x0 x1 x2 x3 x4 x5)))
    (.jump (.c5 x0 x1 x2 x3 x4 x5))))
  (.call (cK.told x0) fun t2=> .ite (!t2)
   (.val ((!(decide (x3=(0:Int))&&(decide (x4=(0:Int))&&(decide (x5=(0:Int))&&true)))):Bool) fun v3=> .ite v3
    (.ret false)
    (.jump (.c5 x0 x1 x2 x3 x4 x5)))
   (.jump (.c5 x0 x1 x2 x3 x4 x5)))
 | .c5 x0 x1 x2 x3 x4 x5=>
 .ite (decide (x0=(2:Int)))
  (.call (bT.told x2) fun t1=> .ret t1)
  (.ite (decide (x0=(5:Int)))
   (.call (aG.told x2 (1:Int) (5:Int)) fun t1=> .ret t1)
   (.ret ((decide (x2=(0:Int))))))
def f (a0 a1 a2 a3 a4 a5:Int):Option A:=(begin a0 a1 a2 a3 a4 a5).run (lp tree)
def Q:ck C:={PL with gT:=[(3,[1,33,34,35,36,39,40,41,42,43,44,45,46,47,48]),(5,[1])]}
theorem e:fr Pg C Q Tryz.f157 0 id st v o tree:=fun J K x=>by cases x<;>kernel_rfl
def told (a0 a1 a2 a3 a4 a5:Int):aa.Told A:=⟨f a0 a1 a2 a3 a4 a5,fun r=>ah Pg C 157 (S a0 a1 a2 a3 a4 a5) 0 (v r) (o r),fun r h=>fI v o Tryz.func157 rfl (of_decide_eq_true (by kernel_rfl)) (by rfl) (fun _=>rfl) e (fun J K=>by kernel_rfl) h⟩
end dm
namespace bI
def S (a0:Int):List (PV U):=aa.start C 9 [.int .i64 a0] []
def begin (a0:Int):Tr Empty A:=
 .ite (decide (a0=(4:Int)))
  (.ret true)
  (.ret ((decide (a0=(5:Int)))))
def f (a0:Int):Option A:=(begin a0).run (lp aB)
def told (a0:Int):aa.Told A:=⟨f a0,fun r=>ah Pg C 158 (S a0) 0 (v r) (o r),fun r h=>aY (Q:=PL) v o Tryz.func158 rfl (of_decide_eq_true (by kernel_rfl)) (by rfl) (fun _=>rfl) (fun J K=>by kernel_rfl) h⟩
end bI
namespace bQ
def S (a0:List aw):List (PV U):=aa.start C 39 [.sl 122 a0] []
inductive X where
 | c3 (x0:List aw) (x1:Int) (x2:List aw) (x3 x4:Int)
 | c12
def id:X→Nat
 | .c3 .. =>3
 | .c12 .. =>12
def st:X→List (PV U)
 | .c3 x0 x1 x2 x3 x4=>gf 39 [(0,.sl 122 x0),(3,.int .i64 x1),(6,.sl 122 x2),(7,.int .i64 x3),(8,.int .i64 x4)]
 | .c12=>gf 39 []
def begin (a0:List aw):Tr X A:=
 .jump (.c3 a0 (0:Int) a0 (List.length a0:Int) (0:Int))
def tree:X→Tr X A
 | .c3 x0 x1 x2 x3 x4=>
 .ite (decide (x4<x3))
  (.ax ((0:Int)≤x4∧x4<(List.length x2:Int)) (.call (dm.told ((aj x2 x4).f0) ((aj x2 x4).f1) ((aj x2 x4).f2) ((aj x2 x4).f3.f0) ((aj x2 x4).f3.f1) ((aj x2 x4).f3.f2)) fun t1=> .ite (!t1)
   (.ret false)
   (.call (bI.told ((aj x2 x4).f0)) fun t2=>let u2_0:Tr X A:=(.jump (.c12)); .ite t2
    (.ite (decide ((aj x2 x4).f0=(6:Int)))
     (.ite (decide ((wr ((wr (x1+(1:Int)))-(1:Int)))<(0:Int)))
      (u2_0)
      (.ite (decide ((wr ((wr (x1+(1:Int)))-(1:Int)))>(3:Int)))
       (u2_0)
       (.jump (.c3 x0 (wr ((wr (x1+(1:Int)))-(1:Int))) x2 x3 (wr (x4+(1:Int)))))))
     (.ite (decide ((wr (x1+(1:Int)))<(0:Int)))
      (u2_0)
      (.ite (decide ((wr (x1+(1:Int)))>(3:Int)))
       (u2_0)
       (.jump (.c3 x0 (wr (x1+(1:Int))) x2 x3 (wr (x4+(1:Int))))))))
    (.ite (decide ((aj x2 x4).f0=(6:Int)))
     (.ite (decide ((wr (x1-(1:Int)))<(0:Int)))
      (u2_0)
      (.ite (decide ((wr (x1-(1:Int)))>(3:Int)))
       (u2_0)
       (.jump (.c3 x0 (wr (x1-(1:Int))) x2 x3 (wr (x4+(1:Int)))))))
     (.ite (decide (x1<(0:Int)))
      (u2_0)
      (.ite (decide (x1>(3:Int)))
       (u2_0)
       (.jump (.c3 x0 x1 x2 x3 (wr (x4+(1:Int)))))))))))
  (.ite (decide (x1=(0:Int)))
   (.ret ((decide ((List.length x0:Int)≤(24:Int)))))
   (.ret false))
 | .c12=>
 .ret false
def f (a0:List aw):Option A:=(begin a0).run (lp tree)
def Q:ck C:={PL with gT:=[(3,[0,3,6,7,8,35,36,37]),(12,[])]}
theorem e:fr Pg C Q Tryz.f139 0 id st v o tree:=fun J K x=>by cases x<;>kernel_rfl
def told (a0:List aw):aa.Told A:=⟨f a0,fun r=>ah Pg C 139 (S a0) 0 (v r) (o r),fun r h=>fI v o Tryz.func139 rfl (of_decide_eq_true (by kernel_rfl)) (by rfl) (fun _=>rfl) e (fun J K=>by kernel_rfl) h⟩
end bQ
namespace cX
def S (a0:List aw) (a1 a2 a3:Int):List (PV U):=aa.start C 11 [.agg [.sl 122 a0,.int .i64 a1,.int .i64 a2,.int .i64 a3]] []
def begin (a0:List aw) (a1 a2 a3:Int):Tr Empty A:=
 .call (bQ.told a0) fun t1=> .ite t1
  (.call (cH.told a1 a2 a3) fun t2=> .ret t2)
  (.ret false)
def f (a0:List aw) (a1 a2 a3:Int):Option A:=(begin a0 a1 a2 a3).run (lp aB)
def told (a0:List aw) (a1 a2 a3:Int):aa.Told A:=⟨f a0 a1 a2 a3,fun r=>ah Pg C 118 (S a0 a1 a2 a3) 0 (v r) (o r),fun r h=>aY (Q:=PL) v o Tryz.func118 rfl (of_decide_eq_true (by kernel_rfl)) (by rfl) (fun _=>rfl) (fun J K=>by kernel_rfl) h⟩
end cX
end
end Go.Proofs.YtpndhhellhfegaaGreatDoor.Ev
