/- Functions as trees, with their contracts. No conditions. -/
import Derived.Test.YtmapddgocpkgeaaGreatNEvF22
namespace Go.Proofs.YtmapddgocpkgeaaGreat.Ev
open Go.Proofs.YtmapddgocpkgeaaGreat.aa Go.RowKit
set_option linter.unusedVariables false
set_option maxRecDepth 100000
noncomputable section
namespace bt
def S (a0:List aw) (a1 a2 a3:Int):List (PV U):=aa.start C 36 [.agg [.sl 204 a0,.int .i64 a1,.int .i64 a2,.int .i64 a3]] []
inductive X where
 | c8 (x0:List Int) (x1 x2 x3 x4 x5 x6 x7 x8:Bool) (x9:Int)
def id:X→Nat
 | .c8 .. =>8
def st:X→List (PV U)
 | .c8 x0 x1 x2 x3 x4 x5 x6 x7 x8 x9=>eA 36 [(4,.own true 3 x0),(24,.agg [.bool x1,.bool x2,.bool x3,.bool x4,.bool x5,.bool x6,.bool x7,.bool x8]),(25,.int .i64 x9)]
def begin (a0:List aw) (a1 a2 a3:Int):Tr X A:=
 .call (du.told a0 a1 a2 a3) fun t1=> .ite (!t1)
  (.ret (([]:List Int)))
  (.call (aD.told a0 false false false false false false false false false false false false false false false false) fun t2=> .call (bo.told a1 a2 a3 t2.1 t2.2.1 t2.2.2.1 t2.2.2.2.1 t2.2.2.2.2.1 t2.2.2.2.2.2.1 t2.2.2.2.2.2.2.1 t2.2.2.2.2.2.2.2.1 t2.2.2.2.2.2.2.2.2.1 t2.2.2.2.2.2.2.2.2.2.1 t2.2.2.2.2.2.2.2.2.2.2.1 t2.2.2.2.2.2.2.2.2.2.2.2.1 t2.2.2.2.2.2.2.2.2.2.2.2.2.1 t2.2.2.2.2.2.2.2.2.2.2.2.2.2.1 t2.2.2.2.2.2.2.2.2.2.2.2.2.2.2.1 t2.2.2.2.2.2.2.2.2.2.2.2.2.2.2.2) fun t3=> .jump (.c8 ([]:List Int) t3.2.2.2.2.2.2.2.2.1 t3.2.2.2.2.2.2.2.2.2.1 t3.2.2.2.2.2.2.2.2.2.2.1 t3.2.2.2.2.2.2.2.2.2.2.2.1 t3.2.2.2.2.2.2.2.2.2.2.2.2.1 t3.2.2.2.2.2.2.2.2.2.2.2.2.2.1 t3.2.2.2.2.2.2.2.2.2.2.2.2.2.2.1 t3.2.2.2.2.2.2.2.2.2.2.2.2.2.2.2 (0:Int)))
def tree:X→Tr X A
 | .c8 x0 x1 x2 x3 x4 x5 x6 x7 x8 x9=>
 .ite (decide (x9<(8:Int)))
  (.aC ((0:Int)≤x9∧x9<(8:Int)) (.ite (List.getD [x1,x2,x3,x4,x5,x6,x7,x8] (Int.toNat x9) false)
   (.aC (((List.length x0:Int)+(List.length ([x9]):Int))*(8:Nat)≤room) (.jump (.c8 (x0++[x9]) x1 x2 x3 x4 x5 x6 x7 x8 (wr (x9+(1:Int))))))
   (.jump (.c8 x0 x1 x2 x3 x4 x5 x6 x7 x8 (wr (x9+(1:Int)))))))
  (.ret x0)
def f (a0:List aw) (a1 a2 a3:Int):Option A:=(begin a0 a1 a2 a3).run (lp tree)
def Q:bE C:={PL with fM:=[(8,[4,24,25])]}
theorem e:df Pg C Q Tryz.f209 0 id st v o tree:=fun J K x=>by cases x<;>kernel_rfl
def told (a0:List aw) (a1 a2 a3:Int):aa.Told A:=⟨f a0 a1 a2 a3,fun r=>ae Pg C 209 (S a0 a1 a2 a3) 0 (v r) (o r),fun r h=>dy v o Tryz.func209 rfl (of_decide_eq_true (by kernel_rfl)) (by rfl) (fun _=>rfl) e (fun J K=>by kernel_rfl) h⟩
end bt
namespace cC
def S (a0:Int) (a1:List Bool):List (PV U):=aa.start C 9 [.int .i64 a0,.ptr 9 0] [.box [.own true 4 a1]]
def begin (a0:Int) (a1:List Bool):Tr Empty A:=
 .aC ((0:Int)≤a0∧a0<(List.length a1:Int)) (.ret ((!(Dt a1 a0)),a1))
def f (a0:Int) (a1:List Bool):Option A:=(begin a0 a1).run (lp aF)
def told (a0:Int) (a1:List Bool):aa.Told A:=⟨f a0 a1,fun r=>ae Pg C 242 (S a0 a1) 1 (v r) (o r),fun r h=>aG (Q:=PL) v o Tryz.func242 rfl (of_decide_eq_true (by kernel_rfl)) (by rfl) (fun _=>rfl) (fun J K=>by kernel_rfl) h⟩
end cC
namespace dV
def S (a0:List aw) (a1:List Bool):List (PV U):=aa.start C 34 [.sl 204 a0,.fn 242 [.ptr 34 0]] [.box [.own true 4 a1]]
inductive X where
 | c3 (x0:List Int) (x1:List aw) (x2 x3:Int) (x4:List Bool)
def id:X→Nat
 | .c3 .. =>3
def st:X→List (PV U)
 | .c3 x0 x1 x2 x3 x4=>eA 35 [(1,.fn 242 [.ptr 34 0]),(5,.own true 3 x0),(9,.sl 204 x1),(10,.int .i64 x2),(11,.int .i64 x3),(34,.box [.own true 4 x4])]
def begin (a0:List aw) (a1:List Bool):Tr X A:=
 .jump (.c3 ([]:List Int) a0 (List.length a0:Int) (0:Int) a1)
def tree:X→Tr X A
 | .c3 x0 x1 x2 x3 x4=>
 .ite (decide (x3<x2))
  (.aC ((0:Int)≤x3∧x3<(List.length x1:Int)) (.call (bZ.told ((ak x1 x3).f0)) fun t1=> .ite t1
   (.call (cC.told x3 x4) fun t2=> .ite t2.1
    (.aC (((List.length x0:Int)+(List.length ([(ak x1 x3).f1]):Int))*(8:Nat)≤room) (.jump (.c3 (x0++[(ak x1 x3).f1]) x1 x2 (wr (x3+(1:Int))) t2.2)))
    (.jump (.c3 x0 x1 x2 (wr (x3+(1:Int))) t2.2)))
   (.jump (.c3 x0 x1 x2 (wr (x3+(1:Int))) x4))))
  (.call (slices_Sort_int.told x0) fun t1=> .call (slices_Compact_int.told t1) fun t2=> .ret (t2,x4))
def f (a0:List aw) (a1:List Bool):Option A:=(begin a0 a1).run (lp tree)
def Q:bE C:={PL with fM:=[(3,[1,5,9,10,11,34])]}
theorem e:df Pg C Q Tryz.f241 1 id st v o tree:=fun J K x=>by cases x<;>kernel_rfl
def told (a0:List aw) (a1:List Bool):aa.Told A:=⟨f a0 a1,fun r=>ae Pg C 241 (S a0 a1) 1 (v r) (o r),fun r h=>dy v o Tryz.func241 rfl (of_decide_eq_true (by kernel_rfl)) (by rfl) (fun _=>rfl) e (fun J K=>by kernel_rfl) h⟩
end dV
namespace bj
def S (a0:List aw):List (PV U):=aa.start C 38 [.sl 204 a0] []
inductive X where
 | c5 (x0:List aw) (x1:List Bool) (x2:List aw) (x3 x4:Int)
 | c9 (x0:List aw) (x1:List Bool) (x2 x3:Int) (x4:List aw) (x5 x6:Int)
def id:X→Nat
 | .c5 .. =>5
 | .c9 .. =>9
def st:X→List (PV U)
 | .c5 x0 x1 x2 x3 x4=>eA 38 [(0,.sl 204 x0),(3,.box [.own true 4 x1]),(13,.sl 204 x2),(14,.int .i64 x3),(15,.int .i64 x4)]
 | .c9 x0 x1 x2 x3 x4 x5 x6=>eA 38 [(0,.sl 204 x0),(3,.box [.own true 4 x1]),(4,.int .i64 x2),(6,.int .i64 x3),(13,.sl 204 x4),(14,.int .i64 x5),(15,.int .i64 x6)]
def begin (a0:List aw):Tr X A:=
 .call (bU.told a0) fun t1=> .ite (!t1)
  (.ret (([]:List Int)))
  (.aC ((0:Int)≤(List.length a0:Int)∧(List.length a0:Int)≤(List.length a0:Int)∧(List.length a0:Int)*(1:Nat)≤room) (.jump (.c5 a0 (List.replicate (Int.toNat (List.length a0:Int)) false) a0 (List.length a0:Int) (0:Int))))
def tree:X→Tr X A
 | .c5 x0 x1 x2 x3 x4=>
 .ite (decide (x4<x3))
  (.aC ((0:Int)≤x4∧x4<(List.length x2:Int)) (.ite (decide ((ak x2 x4).f0=(4:Int)))
   (.jump (.c9 x0 x1 x4 x4 x2 x3 x4))
   (.jump (.c5 x0 x1 x2 x3 (wr (x4+(1:Int)))))))
  (.call (dV.told x0 x1) fun t1=> .ret t1.1)
 | .c9 x0 x1 x2 x3 x4 x5 x6=>
 .call (cT.told x0 x2) fun t1=> .ite (decide (x3≤t1))
  (.aC ((0:Int)≤x3∧x3<(List.length x1:Int)) (.jump (.c9 x0 (List.set x1 (Int.toNat x3) true) x2 (wr (x3+(1:Int))) x4 x5 x6)))
  (.jump (.c5 x0 x1 x4 x5 (wr (x6+(1:Int)))))
def f (a0:List aw):Option A:=(begin a0).run (lp tree)
def Q:bE C:={PL with fM:=[(5,[0,3,13,14,15]),(9,[0,3,4,6,13,14,15])]}
theorem e:df Pg C Q Tryz.f210 0 id st v o tree:=fun J K x=>by cases x<;>kernel_rfl
def told (a0:List aw):aa.Told A:=⟨f a0,fun r=>ae Pg C 210 (S a0) 0 (v r) (o r),fun r h=>dy v o Tryz.func210 rfl (of_decide_eq_true (by kernel_rfl)) (by rfl) (fun _=>rfl) e (fun J K=>by kernel_rfl) h⟩
end bj
namespace dO
def S (a0:Int):List (PV U):=aa.start C 3 [.int .i64 a0] []
def begin (a0:Int):Tr Empty A:=
 .ret true
def f (a0:Int):Option A:=(begin a0).run (lp aF)
def told (a0:Int):aa.Told A:=⟨f a0,fun r=>ae Pg C 243 (S a0) 0 (v r) (o r),fun r h=>aG (Q:=PL) v o Tryz.func243 rfl (of_decide_eq_true (by kernel_rfl)) (by rfl) (fun _=>rfl) (fun J K=>by kernel_rfl) h⟩
end dO
namespace cP
def S (a0:List aw):List (PV U):=aa.start C 34 [.sl 204 a0,.fn 243 []] []
inductive X where
 | c3 (x0:List Int) (x1:List aw) (x2 x3:Int)
def id:X→Nat
 | .c3 .. =>3
def st:X→List (PV U)
 | .c3 x0 x1 x2 x3=>eA 34 [(1,.fn 243 []),(5,.own true 3 x0),(9,.sl 204 x1),(10,.int .i64 x2),(11,.int .i64 x3)]
def begin (a0:List aw):Tr X A:=
 .jump (.c3 ([]:List Int) a0 (List.length a0:Int) (0:Int))
def tree:X→Tr X A
 | .c3 x0 x1 x2 x3=>
 .ite (decide (x3<x2))
  (.aC ((0:Int)≤x3∧x3<(List.length x1:Int)) (.call (bZ.told ((ak x1 x3).f0)) fun t1=> .ite t1
   (.call (dO.told x3) fun t2=> .ite t2
    (.aC (((List.length x0:Int)+(List.length ([(ak x1 x3).f1]):Int))*(8:Nat)≤room) (.jump (.c3 (x0++[(ak x1 x3).f1]) x1 x2 (wr (x3+(1:Int))))))
    (.jump (.c3 x0 x1 x2 (wr (x3+(1:Int))))))
   (.jump (.c3 x0 x1 x2 (wr (x3+(1:Int)))))))
  (.call (slices_Sort_int.told x0) fun t1=> .call (slices_Compact_int.told t1) fun t2=> .ret t2)
def f (a0:List aw):Option A:=(begin a0).run (lp tree)
def Q:bE C:={PL with fM:=[(3,[1,5,9,10,11])]}
theorem e:df Pg C Q Tryz.f241 0 id st v o tree:=fun J K x=>by cases x<;>kernel_rfl
def told (a0:List aw):aa.Told A:=⟨f a0,fun r=>ae Pg C 241 (S a0) 0 (v r) (o r),fun r h=>dy v o Tryz.func241 rfl (of_decide_eq_true (by kernel_rfl)) (by rfl) (fun _=>rfl) e (fun J K=>by kernel_rfl) h⟩
end cP
namespace eU
def S (a0:List aw):List (PV U):=aa.start C 8 [.sl 204 a0] []
def begin (a0:List aw):Tr Empty A:=
 .call (bU.told a0) fun t1=> .ite (!t1)
  (.ret (([]:List Int)))
  (.call (cP.told a0) fun t2=> .ret t2)
def f (a0:List aw):Option A:=(begin a0).run (lp aF)
def Q:bE C:={PL with ret:=fun f_=>lookup f_ ((241,(⟨cP.A,cP.v,cP.o⟩:Ef C))::Aw)}
def told (a0:List aw):aa.Told A:=⟨f a0,fun r=>ae Pg C 212 (S a0) 0 (v r) (o r),fun r h=>aG (Q:=Q) v o Tryz.func212 rfl (of_decide_eq_true (by kernel_rfl)) (by rfl) (fun _=>rfl) (fun J K=>by kernel_rfl) h⟩
end eU
namespace cj
def S (a0:List Int) (a1:Int):List (PV U):=aa.start C 19 [.sl 3 a0,.int .i64 a1] []
inductive X where
 | c2 (x0:List Int) (x1 x2 x3:Int)
def id:X→Nat
 | .c2 .. =>2
def st:X→List (PV U)
 | .c2 x0 x1 x2 x3=>eA 19 [(0,.sl 3 x0),(1,.int .i64 x1),(7,.int .i64 x2),(8,.int .i64 x3)]
def begin (a0:List Int) (a1:Int):Tr X A:=
 .jump (.c2 a0 a1 (List.length a0:Int) (0:Int))
def tree:X→Tr X A
 | .c2 x0 x1 x2 x3=>
 .ite (decide (x3<x2))
  (.aC ((0:Int)≤x3∧x3<(List.length x0:Int)) (.ite (decide (x1=(dz x0 x3)))
   (.ret x3)
   (.jump (.c2 x0 x1 x2 (wr (x3+(1:Int)))))))
  (.ret ((-1:Int)))
def f (a0:List Int) (a1:Int):Option A:=(begin a0 a1).run (lp tree)
def Q:bE C:={PL with fM:=[(2,[0,1,7,8])]}
theorem e:df Pg C Q Tryz.f261 0 id st v o tree:=fun J K x=>by cases x<;>kernel_rfl
def told (a0:List Int) (a1:Int):aa.Told A:=⟨f a0 a1,fun r=>ae Pg C 261 (S a0 a1) 0 (v r) (o r),fun r h=>dy v o Tryz.func261 rfl (of_decide_eq_true (by kernel_rfl)) (by rfl) (fun _=>rfl) e (fun J K=>by kernel_rfl) h⟩
end cj
namespace cD
def S (a0:List Int) (a1:Int):List (PV U):=aa.start C 9 [.sl 3 a0,.int .i64 a1] []
def begin (a0:List Int) (a1:Int):Tr Empty A:=
 .call (cj.told a0 a1) fun t1=> .ret ((decide (t1≥(0:Int))))
def f (a0:List Int) (a1:Int):Option A:=(begin a0 a1).run (lp aF)
def told (a0:List Int) (a1:Int):aa.Told A:=⟨f a0 a1,fun r=>ae Pg C 244 (S a0 a1) 0 (v r) (o r),fun r h=>aG (Q:=PL) v o Tryz.func244 rfl (of_decide_eq_true (by kernel_rfl)) (by rfl) (fun _=>rfl) (fun J K=>by kernel_rfl) h⟩
end cD
end
end Go.Proofs.YtmapddgocpkgeaaGreat.Ev
