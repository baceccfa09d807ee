/- Functions as trees, with their contracts. No conditions. -/
import Derived.Test.YtmapddgocpkgeaaGreatNEvF16
namespace Go.Proofs.YtmapddgocpkgeaaGreat.Ev
open Go.Proofs.YtmapddgocpkgeaaGreat.aa Go.RowKit
set_option linter.unusedVariables false
set_option maxRecDepth 100000
noncomputable section
namespace dd
def S (a0:Int):List (PV U):=aa.start C 13 [.int .i64 a0] []
def begin (a0:Int):Tr Empty A:=
 .ite (decide (a0=(1:Int)))
  (.ret true)
  (.ite (decide (a0=(3:Int)))
   (.ret true)
   (.ret ((decide (a0=(4:Int))))))
def f (a0:Int):Option A:=(begin a0).run (lp aF)
def told (a0:Int):aa.Told A:=⟨f a0,fun r=>ae Pg C 246 (S a0) 0 (v r) (o r),fun r h=>aG (Q:=PL) v o Tryz.func246 rfl (of_decide_eq_true (by kernel_rfl)) (by rfl) (fun _=>rfl) (fun J K=>by kernel_rfl) h⟩
end dd
namespace ek
def S (a0:Int):List (PV U):=aa.start C 5 [.int .i64 a0] []
def begin (a0:Int):Tr Empty A:=
 .call (aK.told a0 (-8:Int) (999:Int)) fun t1=> .ret t1
def f (a0:Int):Option A:=(begin a0).run (lp aF)
def told (a0:Int):aa.Told A:=⟨f a0,fun r=>ae Pg C 225 (S a0) 0 (v r) (o r),fun r h=>aG (Q:=PL) v o Tryz.func225 rfl (of_decide_eq_true (by kernel_rfl)) (by rfl) (fun _=>rfl) (fun J K=>by kernel_rfl) h⟩
end ek
namespace da
def S (a0 a1 a2:Int):List (PV U):=aa.start C 16 [.agg [.int .i64 a0,.int .i64 a1,.int .i64 a2]] []
def begin (a0 a1 a2:Int):Tr Empty A:=
 .call (aK.told a0 (1:Int) (7:Int)) fun t1=> .ite t1
  (.call (ek.told a1) fun t2=> .ite t2
   (.call (ek.told a2) fun t3=> .ret t3)
   (.ret false))
  (.ret false)
def f (a0 a1 a2:Int):Option A:=(begin a0 a1 a2).run (lp aF)
def told (a0 a1 a2:Int):aa.Told A:=⟨f a0 a1 a2,fun r=>ae Pg C 190 (S a0 a1 a2) 0 (v r) (o r),fun r h=>aG (Q:=PL) v o Tryz.func190 rfl (of_decide_eq_true (by kernel_rfl)) (by rfl) (fun _=>rfl) (fun J K=>by kernel_rfl) h⟩
end da
namespace bY
def S (a0:Int):List (PV U):=aa.start C 5 [.int .i64 a0] []
def begin (a0:Int):Tr Empty A:=
 .call (aK.told a0 (0:Int) (3:Int)) fun t1=> .ret t1
def f (a0:Int):Option A:=(begin a0).run (lp aF)
def told (a0:Int):aa.Told A:=⟨f a0,fun r=>ae Pg C 223 (S a0) 0 (v r) (o r),fun r h=>aG (Q:=PL) v o Tryz.func223 rfl (of_decide_eq_true (by kernel_rfl)) (by rfl) (fun _=>rfl) (fun J K=>by kernel_rfl) h⟩
end bY
namespace dJ
def S (a0 a1 a2 a3 a4 a5:Int):List (PV U):=aa.start C 65 [.agg [.int .i64 a0,.int .i64 a1,.int .i64 a2,.int .i64 a3,.int .i64 a4,.int .i64 a5]] []
inductive X where
 | c3 (x0 x1 x2 x3 x4 x5:Int)
 | c5 (x0 x1 x2 x3 x4 x5:Int)
def id:X→Nat
 | .c3 .. =>3
 | .c5 .. =>5
def st:X→List (PV U)
 | .c3 x0 x1 x2 x3 x4 x5=>eA 65 [(1,.box [.int .i64 x0,.int .i64 x1,.int .i64 x2,.int .i64 x3,.int .i64 x4,.int .i64 x5])]
 | .c5 x0 x1 x2 x3 x4 x5=>eA 65 [(1,.box [.int .i64 x0,.int .i64 x1,.int .i64 x2,.int .i64 x3,.int .i64 x4,.int .i64 x5])]
def begin (a0 a1 a2 a3 a4 a5:Int):Tr X A:=
 .call (aK.told a0 (1:Int) (6:Int)) fun t1=> .ite (!t1)
  (.ret false)
  (.call (bZ.told a0) fun t2=> .ite t2
   (.call (eF.told a1) fun t3=> .ite (!t3)
    (.ret false)
    (.call (bZ.told a0) fun t4=>let u4_0:Tr X A:=(.jump (.c3 a0 a1 a2 a3 a4 a5)); .ite (!t4)
     (.ite (!decide (a1=(0:Int)))
      (.ret false)
      (u4_0))
     (u4_0)))
   (.call (bZ.told a0) fun t3=>let u3_0:Tr X A:=(.jump (.c3 a0 a1 a2 a3 a4 a5)); .ite (!t3)
    (.ite (!decide (a1=(0:Int)))
     (.ret false)
     (u3_0))
    (u3_0)))
def tree:X→Tr X A
 | .c3 x0 x1 x2 x3 x4 x5=>
 .call (dd.told x0) fun t1=> .ite t1
  (.call (da.told x3 x4 x5) fun t2=> .ite (!t2)
   (.ret false)
   (.call (dd.told x0) fun t3=> .ite (!t3)
    (.val ((!(decide (x3=(0:Int))&&(decide (x4=(0:Int))&&(decide (x5=(0:Int))&&true)))):Bool) fun v4=> .ite v4
     (.ret false)
     (.jump (.c5 x0 x1 x2 x3 x4 x5)))
    (.jump (.c5 x0 x1 x2 x3 x4 x5))))
  (.call (dd.told x0) fun t2=> .ite (!t2)
   (.val ((!(decide (x3=(0:Int))&&(decide (x4=(0:Int))&&(decide (x5=(0:Int))&&true)))):Bool) fun v3=> .ite v3
    (.ret false)
    (.jump (.c5 x0 x1 x2 x3 x4 x5)))
   (.jump (.c5 x0 x1 x2 x3 x4 x5)))
 | .c5 x0 x1 x2 x3 x4 x5=>
 .ite (decide (x0=(2:Int)))
  (.call (bY.told x2) fun t1=> .ret t1)
  (.ite (decide (x0=(5:Int)))
   (.call (aK.told x2 (1:Int) (5:Int)) fun t1=> .ret t1)
   (.ret ((decide (x2=(0:Int))))))
def f (a0 a1 a2 a3 a4 a5:Int):Option A:=(begin a0 a1 a2 a3 a4 a5).run (lp tree)
def Q:bE C:={PL with fM:=[(3,[1,33,34,35,36,39,40,41,42,43,44,45,46,47,48]),(5,[1])]}
theorem e:df Pg C Q Tryz.f217 0 id st v o tree:=fun J K x=>by cases x<;>kernel_rfl
def told (a0 a1 a2 a3 a4 a5:Int):aa.Told A:=⟨f a0 a1 a2 a3 a4 a5,fun r=>ae Pg C 217 (S a0 a1 a2 a3 a4 a5) 0 (v r) (o r),fun r h=>dy v o Tryz.func217 rfl (of_decide_eq_true (by kernel_rfl)) (by rfl) (fun _=>rfl) e (fun J K=>by kernel_rfl) h⟩
end dJ
namespace bN
def S (a0:Int):List (PV U):=aa.start C 9 [.int .i64 a0] []
def begin (a0:Int):Tr Empty A:=
 .ite (decide (a0=(4:Int)))
  (.ret true)
  (.ret ((decide (a0=(5:Int)))))
def f (a0:Int):Option A:=(begin a0).run (lp aF)
def told (a0:Int):aa.Told A:=⟨f a0,fun r=>ae Pg C 215 (S a0) 0 (v r) (o r),fun r h=>aG (Q:=PL) v o Tryz.func215 rfl (of_decide_eq_true (by kernel_rfl)) (by rfl) (fun _=>rfl) (fun J K=>by kernel_rfl) h⟩
end bN
namespace bU
def S (a0:List aw):List (PV U):=aa.start C 39 [.sl 204 a0] []
inductive X where
 | c3 (x0:List aw) (x1:Int) (x2:List aw) (x3 x4:Int)
 | c12
def id:X→Nat
 | .c3 .. =>3
 | .c12 .. =>12
def st:X→List (PV U)
 | .c3 x0 x1 x2 x3 x4=>eA 39 [(0,.sl 204 x0),(3,.int .i64 x1),(6,.sl 204 x2),(7,.int .i64 x3),(8,.int .i64 x4)]
 | .c12=>eA 39 []
def begin (a0:List aw):Tr X A:=
 .jump (.c3 a0 (0:Int) a0 (List.length a0:Int) (0:Int))
def tree:X→Tr X A
 | .c3 x0 x1 x2 x3 x4=>
 .ite (decide (x4<x3))
  (.aC ((0:Int)≤x4∧x4<(List.length x2:Int)) (.call (dJ.told ((ak x2 x4).f0) ((ak x2 x4).f1) ((ak x2 x4).f2) ((ak x2 x4).f3.f0) ((ak x2 x4).f3.f1) ((ak x2 x4).f3.f2)) fun t1=> .ite (!t1)
   (.ret false)
   (.call (bN.told ((ak x2 x4).f0)) fun t2=>let u2_0:Tr X A:=(.jump (.c12)); .ite t2
    (.ite (decide ((ak x2 x4).f0=(6:Int)))
     (.ite (decide ((wr ((wr (x1+(1:Int)))-(1:Int)))<(0:Int)))
      (u2_0)
      (.ite (decide ((wr ((wr (x1+(1:Int)))-(1:Int)))>(3:Int)))
       (u2_0)
       (.jump (.c3 x0 (wr ((wr (x1+(1:Int)))-(1:Int))) x2 x3 (wr (x4+(1:Int)))))))
     (.ite (decide ((wr (x1+(1:Int)))<(0:Int)))
      (u2_0)
      (.ite (decide ((wr (x1+(1:Int)))>(3:Int)))
       (u2_0)
       (.jump (.c3 x0 (wr (x1+(1:Int))) x2 x3 (wr (x4+(1:Int))))))))
    (.ite (decide ((ak x2 x4).f0=(6:Int)))
     (.ite (decide ((wr (x1-(1:Int)))<(0:Int)))
      (u2_0)
      (.ite (decide ((wr (x1-(1:Int)))>(3:Int)))
       (u2_0)
       (.jump (.c3 x0 (wr (x1-(1:Int))) x2 x3 (wr (x4+(1:Int)))))))
     (.ite (decide (x1<(0:Int)))
      (u2_0)
      (.ite (decide (x1>(3:Int)))
       (u2_0)
       (.jump (.c3 x0 x1 x2 x3 (wr (x4+(1:Int)))))))))))
  (.ite (decide (x1=(0:Int)))
   (.ret ((decide ((List.length x0:Int)≤(24:Int)))))
   (.ret false))
 | .c12=>
 .ret false
def f (a0:List aw):Option A:=(begin a0).run (lp tree)
def Q:bE C:={PL with fM:=[(3,[0,3,6,7,8,35,36,37]),(12,[])]}
theorem e:df Pg C Q Tryz.f189 0 id st v o tree:=fun J K x=>by cases x<;>kernel_rfl
def told (a0:List aw):aa.Told A:=⟨f a0,fun r=>ae Pg C 189 (S a0) 0 (v r) (o r),fun r h=>dy v o Tryz.func189 rfl (of_decide_eq_true (by kernel_rfl)) (by rfl) (fun _=>rfl) e (fun J K=>by kernel_rfl) h⟩
end bU
namespace du
def S (a0:List aw) (a1 a2 a3:Int):List (PV U):=aa.start C 11 [.agg [.sl 204 a0,.int .i64 a1,.int .i64 a2,.int .i64 a3]] []
def begin (a0:List aw) (a1 a2 a3:Int):Tr Empty A:=
 .call (bU.told a0) fun t1=> .ite t1
  (.call (da.told a1 a2 a3) fun t2=> .ret t2)
  (.ret false)
def f (a0:List aw) (a1 a2 a3:Int):Option A:=(begin a0 a1 a2 a3).run (lp aF)
def told (a0:List aw) (a1 a2 a3:Int):aa.Told A:=⟨f a0 a1 a2 a3,fun r=>ae Pg C 150 (S a0 a1 a2 a3) 0 (v r) (o r),fun r h=>aG (Q:=PL) v o Tryz.func150 rfl (of_decide_eq_true (by kernel_rfl)) (by rfl) (fun _=>rfl) (fun J K=>by kernel_rfl) h⟩
end du
namespace dx
def S (a0:List aw) (a1 a2 a3:Int):List (PV U):=aa.start C 6 [.agg [.sl 204 a0,.int .i64 a1,.int .i64 a2,.int .i64 a3]] []
def begin (a0:List aw) (a1 a2 a3:Int):Tr Empty A:=
 .call (du.told a0 a1 a2 a3) fun t1=> .ret ((!t1))
def f (a0:List aw) (a1 a2 a3:Int):Option A:=(begin a0 a1 a2 a3).run (lp aF)
def told (a0:List aw) (a1 a2 a3:Int):aa.Told A:=⟨f a0 a1 a2 a3,fun r=>ae Pg C 149 (S a0 a1 a2 a3) 0 (v r) (o r),fun r h=>aG (Q:=PL) v o Tryz.func149 rfl (of_decide_eq_true (by kernel_rfl)) (by rfl) (fun _=>rfl) (fun J K=>by kernel_rfl) h⟩
end dx
namespace an
def S (a0:List az):List (PV U):=aa.start C 19 [.sl 164 a0,.fn 149 []] []
inductive X where
 | c2 (x0:List az) (x1 x2:Int)
def id:X→Nat
 | .c2 .. =>2
def st:X→List (PV U)
 | .c2 x0 x1 x2=>eA 19 [(0,.sl 164 x0),(1,.fn 149 []),(7,.int .i64 x1),(8,.int .i64 x2)]
def begin (a0:List az):Tr X A:=
 .jump (.c2 a0 (List.length a0:Int) (0:Int))
def tree:X→Tr X A
 | .c2 x0 x1 x2=>
 .ite (decide (x2<x1))
  (.aC ((0:Int)≤x2∧x2<(List.length x0:Int)) (.call (dx.told ((cy x0 x2).f0) ((cy x0 x2).f1.f0) ((cy x0 x2).f1.f1) ((cy x0 x2).f1.f2)) fun t1=> .ite t1
   (.ret x2)
   (.jump (.c2 x0 x1 (wr (x2+(1:Int)))))))
  (.ret ((-1:Int)))
def f (a0:List az):Option A:=(begin a0).run (lp tree)
def Q:bE C:={PL with fM:=[(2,[0,1,7,8])]}
theorem e:df Pg C Q Tryz.f188 0 id st v o tree:=fun J K x=>by cases x<;>kernel_rfl
def told (a0:List az):aa.Told A:=⟨f a0,fun r=>ae Pg C 188 (S a0) 0 (v r) (o r),fun r h=>dy v o Tryz.func188 rfl (of_decide_eq_true (by kernel_rfl)) (by rfl) (fun _=>rfl) e (fun J K=>by kernel_rfl) h⟩
end an
end
end Go.Proofs.YtmapddgocpkgeaaGreat.Ev
