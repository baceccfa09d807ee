/- Functions as trees, with their contracts. No conditions. -/
import Derived.Test.YtmapddgocpkgeaaGreatNEvF18
namespace Go.Proofs.YtmapddgocpkgeaaGreat.Ev
open Go.Proofs.YtmapddgocpkgeaaGreat.aa Go.RowKit
set_option linter.unusedVariables false
set_option maxRecDepth 100000
noncomputable section
namespace dD
def S (a0:List Int):List (PV U):=aa.start C 24 [.sl 3 a0] []
def begin (a0:List Int):Tr Empty A:=
 .ite (!decide ((List.length a0:Int)=(49:Int)))
  (.ret (([]:List Int)))
  (.aC ((0:Int)≤(8:Int)∧(8:Int)<(List.length a0:Int)) (.call (bm.told (dz a0 (8:Int))) fun t1=> .ite (decide (t1.2.2<(0:Int)))
   (.ret (([]:List Int)))
   (.aC ((0:Int)≤(25:Int)∧(25:Int)≤(wr ((25:Int)+t1.2.2))∧(wr ((25:Int)+t1.2.2))≤(List.length a0:Int)) (.call (aL.told (List.drop (Int.toNat (25:Int)) (List.take (Int.toNat (wr ((25:Int)+t1.2.2))) a0))) fun t2=> .ret t2))))
def f (a0:List Int):Option A:=(begin a0).run (lp aF)
def told (a0:List Int):aa.Told A:=⟨f a0,fun r=>ae Pg C 54 (S a0) 0 (v r) (o r),fun r h=>aG (Q:=PL) v o Tryz.func54 rfl (of_decide_eq_true (by kernel_rfl)) (by rfl) (fun _=>rfl) (fun J K=>by kernel_rfl) h⟩
end dD
namespace ck
def S (a0 a1:List Int):List (PV U):=aa.start C 26 [.sl 3 a0,.sl 3 a1] []
inductive X where
 | c4 (x0 x1:List Int) (x2 x3:Int)
def id:X→Nat
 | .c4 .. =>4
def st:X→List (PV U)
 | .c4 x0 x1 x2 x3=>eA 26 [(0,.sl 3 x0),(1,.sl 3 x1),(12,.int .i64 x2),(13,.int .i64 x3)]
def begin (a0 a1:List Int):Tr X A:=
 .ite (!decide ((List.length a0:Int)=(List.length a1:Int)))
  (.ret false)
  (.jump (.c4 a0 a1 (List.length a0:Int) (0:Int)))
def tree:X→Tr X A
 | .c4 x0 x1 x2 x3=>
 .ite (decide (x3<x2))
  (.aC ((0:Int)≤x3∧x3<(List.length x0:Int)) (.aC ((0:Int)≤x3∧x3<(List.length x1:Int)) (.ite (!decide ((dz x0 x3)=(dz x1 x3)))
   (.ret false)
   (.jump (.c4 x0 x1 x2 (wr (x3+(1:Int))))))))
  (.ret true)
def f (a0 a1:List Int):Option A:=(begin a0 a1).run (lp tree)
def Q:bE C:={PL with fM:=[(4,[0,1,12,13])],iH:=[(6,[],(.take 0 [] (.take 1 [] (.take 2 [] (.take 4 [] (.take 5 [] (.take 6 [] (.take 3 [0,1,2,4,5,6,7] (.take 7 [0,1,2,3,4,5,6] (.take 8 [] .done))))))))))]}
theorem e:df Pg C Q Tryz.f53 0 id st v o tree:=fun J K x=>by cases x<;>kernel_rfl
def told (a0 a1:List Int):aa.Told A:=⟨f a0 a1,fun r=>ae Pg C 53 (S a0 a1) 0 (v r) (o r),fun r h=>dy v o Tryz.func53 rfl (of_decide_eq_true (by kernel_rfl)) (by rfl) (fun _=>rfl) e (fun J K=>by kernel_rfl) h⟩
end ck
namespace cI
def S (a0 a1:List Int):List (PV U):=aa.start C 18 [.sl 3 a0,.sl 3 a1] []
def begin (a0 a1:List Int):Tr Empty A:=
 .ite (decide ((List.length a0:Int)≤(List.length a1:Int)))
  (.aC ((0:Int)≤(0:Int)∧(0:Int)≤(List.length a0:Int)∧(List.length a0:Int)≤(List.length a1:Int)) (.call (ck.told a0 (List.take (Int.toNat (List.length a0:Int)) a1)) fun t1=> .ret t1))
  (.ret false)
def f (a0 a1:List Int):Option A:=(begin a0 a1).run (lp aF)
def told (a0 a1:List Int):aa.Told A:=⟨f a0 a1,fun r=>ae Pg C 14 (S a0 a1) 0 (v r) (o r),fun r h=>aG (Q:=PL) v o Tryz.func14 rfl (of_decide_eq_true (by kernel_rfl)) (by rfl) (fun _=>rfl) (fun J K=>by kernel_rfl) h⟩
end cI
namespace fv
def S (a0:List Int) (a1:Int) (a2:List Int):List (PV U):=aa.start C 20 [.sl 3 a0,.agg [.int .i64 a1,.sl 3 a2]] []
def begin (a0:List Int) (a1:Int) (a2:List Int):Tr Empty A:=
 .last (.call (aK.told a1 (0:Int) (List.length a2:Int)) fun t1=> .ite t1
  (.last (.call (dD.told a0) fun t2=> .last (.call (cI.told a2 t2) fun t3=> .ret t3)))
  (.last (.last (.ret false))))
def f (a0:List Int) (a1:Int) (a2:List Int):Option A:=(begin a0 a1 a2).run (lp aF)
def Q:bE C:={PL with iH:=[(1,[],(.take 0 [] (.take 2 [] (.take 3 [] (.take 1 [0,2,3,4,5] (.take 4 [0,1,2,3] (.take 5 [] (.alt 6 (.take 7 [] (.take 8 [] (.take 9 [] (.take 11 [] (.take 10 [0,1,2,3,4,5,6,7,8,9,11,12] (.alt 12 (.alt 13 (.take 14 [] (.take 15 [] .done)) .nil) .nil)))))) .nil))))))))]}
def told (a0:List Int) (a1:Int) (a2:List Int):aa.Told A:=⟨f a0 a1 a2,fun r=>ae Pg C 52 (S a0 a1 a2) 0 (v r) (o r),fun r h=>aG (Q:=Q) v o Tryz.func52 rfl (of_decide_eq_true (by kernel_rfl)) (by rfl) (fun _=>rfl) (fun J K=>by kernel_rfl) h⟩
end fv
namespace cJ
def S (a0:List az) (a1 a2:List Int) (a3 a4 a5 a6 a7 a8 a9 a10:Int) (a11:List Int) (a12:Int):List (PV U):=aa.start C 40 [.agg [.sl 164 a0,.sl 3 a1,.sl 3 a2,.int .i64 a3,.int .i64 a4,.int .i64 a5,.int .i64 a6,.int .i64 a7,.int .i64 a8,.int .i64 a9,.int .i64 a10,.sl 3 a11,.int .i64 a12]] []
def begin (a0:List az) (a1 a2:List Int) (a3 a4 a5 a6 a7 a8 a9 a10:Int) (a11:List Int) (a12:Int):Tr Empty A:=
 .call (fB.told a0 a1) fun t1=> .ite t1
  (.call (fF.told a4 a5 a6 a7) fun t2=> .ite t2
   (.call (cu.told a2) fun t3=> .ite t3
    (.call (aK.told a3 (0:Int) (400000:Int)) fun t4=> .ite t4
     (.call (fb.told a8 a9) fun t5=> .ite t5
      (.call (fv.told a1 a10 a11) fun t6=> .ite t6
       (.call (aK.told a12 (0:Int) (100000:Int)) fun t7=> .ret t7)
       (.ret false))
      (.ret false))
     (.ret false))
    (.ret false))
   (.ret false))
  (.ret false)
def f (a0:List az) (a1 a2:List Int) (a3 a4 a5 a6 a7 a8 a9 a10:Int) (a11:List Int) (a12:Int):Option A:=(begin a0 a1 a2 a3 a4 a5 a6 a7 a8 a9 a10 a11 a12).run (lp aF)
def told (a0:List az) (a1 a2:List Int) (a3 a4 a5 a6 a7 a8 a9 a10:Int) (a11:List Int) (a12:Int):aa.Told A:=⟨f a0 a1 a2 a3 a4 a5 a6 a7 a8 a9 a10 a11 a12,fun r=>ae Pg C 13 (S a0 a1 a2 a3 a4 a5 a6 a7 a8 a9 a10 a11 a12) 0 (v r) (o r),fun r h=>aG (Q:=PL) v o Tryz.func13 rfl (of_decide_eq_true (by kernel_rfl)) (by rfl) (fun _=>rfl) (fun J K=>by kernel_rfl) h⟩
end cJ
namespace dA
def S (a0:Int):List (PV U):=aa.start C 5 [.int .i64 a0] []
def begin (a0:Int):Tr Empty A:=
 .call (aK.told a0 (0:Int) (1000:Int)) fun t1=> .ret t1
def f (a0:Int):Option A:=(begin a0).run (lp aF)
def told (a0:Int):aa.Told A:=⟨f a0,fun r=>ae Pg C 42 (S a0) 0 (v r) (o r),fun r h=>aG (Q:=PL) v o Tryz.func42 rfl (of_decide_eq_true (by kernel_rfl)) (by rfl) (fun _=>rfl) (fun J K=>by kernel_rfl) h⟩
end dA
namespace db
def S (a0 a1 a2:Int):List (PV U):=aa.start C 16 [.int .i64 a0,.int .i64 a1,.int .i64 a2] []
def begin (a0 a1 a2:Int):Tr Empty A:=
 .ite (decide (a2<a1))
  (.ret a1)
  (.ret ((if a2<(if a1>a0 then a1 else a0)then a2 else(if a1>a0 then a1 else a0))))
def f (a0 a1 a2:Int):Option A:=(begin a0 a1 a2).run (lp aF)
def told (a0 a1 a2:Int):aa.Told A:=⟨f a0 a1 a2,fun r=>ae Pg C 97 (S a0 a1 a2) 0 (v r) (o r),fun r h=>aG (Q:=PL) v o Tryz.func97 rfl (of_decide_eq_true (by kernel_rfl)) (by rfl) (fun _=>rfl) (fun J K=>by kernel_rfl) h⟩
end db
namespace dj
def S (a0:Int) (a1:List az) (a2 a3:List Int) (a4 a5 a6 a7 a8 a9 a10 a11:Int) (a12:List Int) (a13:Int):List (PV U):=aa.start C 23 [.ptr 23 4,.int .i64 a0] [.box [.own true 164 a1,.own true 3 a2,.own true 3 a3,.int .i64 a4,.int .i64 a5,.int .i64 a6,.int .i64 a7,.int .i64 a8,.int .i64 a9,.int .i64 a10,.int .i64 a11,.own true 3 a12,.int .i64 a13]]
def begin (a0:Int) (a1:List az) (a2 a3:List Int) (a4 a5 a6 a7 a8 a9 a10 a11:Int) (a12:List Int) (a13:Int):Tr Empty A:=
 .last (.call (db.told (wr ((wr (a5+a0))-a8)) (0:Int) a6) fun t1=> .last (.ret (a1,a2,a3,a4,t1,a6,a7,a8,a9,a10,a11,a12,a13)))
def f (a0:Int) (a1:List az) (a2 a3:List Int) (a4 a5 a6 a7 a8 a9 a10 a11:Int) (a12:List Int) (a13:Int):Option A:=(begin a0 a1 a2 a3 a4 a5 a6 a7 a8 a9 a10 a11 a12 a13).run (lp aF)
def Q:bE C:={PL with iH:=[(0,[19],(.take 0 [] (.take 1 [] (.take 2 [] (.take 3 [] (.take 5 [] (.take 7 [] (.take 8 [] (.take 9 [] (.take 12 [] (.take 13 [] (.take 14 [] (.take 4 [0,1,2,3,5,7,8,9,10,12,13,14,15] (.take 6 [] (.take 10 [0,1,2,3,4,5,6,7,8,9,12,13,14,15] (.take 11 [] (.take 15 [0,1,2,3,4,5,6,7,8,9,10,11,12,13,14] (.alt 16 (.take 17 [] (.take 18 [] (.alt 19 .done .nil))) .nil))))))))))))))))))]}
def told (a0:Int) (a1:List az) (a2 a3:List Int) (a4 a5 a6 a7 a8 a9 a10 a11:Int) (a12:List Int) (a13:Int):aa.Told A:=⟨f a0 a1 a2 a3 a4 a5 a6 a7 a8 a9 a10 a11 a12 a13,fun r=>ae Pg C 43 (S a0 a1 a2 a3 a4 a5 a6 a7 a8 a9 a10 a11 a12 a13) 1 (v r) (o r),fun r h=>aG (Q:=Q) v o Tryz.func43 rfl (of_decide_eq_true (by kernel_rfl)) (by rfl) (fun _=>rfl) (fun J K=>by kernel_rfl) h⟩
end dj
namespace fP
def S (a0 a1 a2 a3:Int):List (PV U):=aa.start C 29 [.agg [.int .i64 a0,.int .i64 a1],.int .i64 a2,.int .i64 a3] []
def begin (a0 a1 a2 a3:Int):Tr Empty A:=
 .call (fb.told a0 a1) fun t1=> .ite (!t1)
  (.ret (a0,a1))
  (.call (fb.told a2 a3) fun t2=> .ite (!t2)
   (.ret (a0,a1))
   (.ret ((if(wr (a0+a2))<(1000000:Int)then(wr (a0+a2))else(1000000:Int)),(if(wr (a1+a3))<(1000000:Int)then(wr (a1+a3))else(1000000:Int)))))
def f (a0 a1 a2 a3:Int):Option A:=(begin a0 a1 a2 a3).run (lp aF)
def told (a0 a1 a2 a3:Int):aa.Told A:=⟨f a0 a1 a2 a3,fun r=>ae Pg C 98 (S a0 a1 a2 a3) 0 (v r) (o r),fun r h=>aG (Q:=PL) v o Tryz.func98 rfl (of_decide_eq_true (by kernel_rfl)) (by rfl) (fun _=>rfl) (fun J K=>by kernel_rfl) h⟩
end fP
namespace fL
def S (a0 a1 a2:Int):List (PV U):=aa.start C 9 [.agg [.int .i64 a0,.int .i64 a1],.int .i64 a2] []
def begin (a0 a1 a2:Int):Tr Empty A:=
 .call (fP.told a0 a1 a2 a2) fun t1=> .ret (t1.1,t1.2)
def f (a0 a1 a2:Int):Option A:=(begin a0 a1 a2).run (lp aF)
def told (a0 a1 a2:Int):aa.Told A:=⟨f a0 a1 a2,fun r=>ae Pg C 44 (S a0 a1 a2) 0 (v r) (o r),fun r h=>aG (Q:=PL) v o Tryz.func44 rfl (of_decide_eq_true (by kernel_rfl)) (by rfl) (fun _=>rfl) (fun J K=>by kernel_rfl) h⟩
end fL
end
end Go.Proofs.YtmapddgocpkgeaaGreat.Ev
