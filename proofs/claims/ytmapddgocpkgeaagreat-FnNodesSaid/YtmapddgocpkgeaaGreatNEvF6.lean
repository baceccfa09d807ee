/- Functions as trees, with their contracts. No conditions. -/
import Derived.Test.YtmapddgocpkgeaaGreatNEvF5
namespace Go.Proofs.YtmapddgocpkgeaaGreat.Ev
open Go.Proofs.YtmapddgocpkgeaaGreat.aa Go.RowKit
set_option linter.unusedVariables false
set_option maxRecDepth 100000
noncomputable section
namespace bT
def S (a0 a1:List Int):List (PV U):=aa.start C 27 [.sl 3 a0,.sl 3 a1] []
inductive X where
 | c2 (x0 x1:List Int) (x2:Int)
def id:X→Nat
 | .c2 .. =>2
def st:X→List (PV U)
 | .c2 x0 x1 x2=>eA 27 [(0,.sl 3 x0),(1,.sl 3 x1),(5,.int .i64 x2)]
def begin (a0 a1:List Int):Tr X A:=
 .jump (.c2 a0 a1 (0:Int))
def tree:X→Tr X A
 | .c2 x0 x1 x2=>
 .ite (decide (x2<(List.length x0:Int)))
  (.ite (decide (x2≥(List.length x1:Int)))
   (.ret false)
   (.aC ((0:Int)≤x2∧x2<(List.length x0:Int)) (.aC ((0:Int)≤x2∧x2<(List.length x1:Int)) (.ite (!decide ((dz x0 x2)=(dz x1 x2)))
    (.ret false)
    (.jump (.c2 x0 x1 (wr (x2+(1:Int)))))))))
  (.ret true)
def f (a0 a1:List Int):Option A:=(begin a0 a1).run (lp tree)
def Q:bE C:={PL with fM:=[(2,[0,1,5])],iH:=[(4,[],(.take 0 [] (.take 1 [] (.take 2 [] (.take 3 [] (.take 4 [] (.take 5 [] (.take 6 [] (.take 7 [] (.take 9 [] (.take 10 [] (.take 11 [] (.take 8 [0,1,2,3,4,5,6,7,9,10,11,12] (.take 12 [0,1,2,3,4,5,6,7,8,9,10,11] (.take 13 [] (.take 14 [] .done))))))))))))))))]}
theorem e:df Pg C Q Tryz.f155 0 id st v o tree:=fun J K x=>by cases x<;>kernel_rfl
def told (a0 a1:List Int):aa.Told A:=⟨f a0 a1,fun r=>ae Pg C 155 (S a0 a1) 0 (v r) (o r),fun r h=>dy v o Tryz.func155 rfl (of_decide_eq_true (by kernel_rfl)) (by rfl) (fun _=>rfl) e (fun J K=>by kernel_rfl) h⟩
end bT
namespace fu
def S (a0:List Int) (a1:Int) (a2:List Int):List (PV U):=aa.start C 20 [.sl 3 a0,.agg [.int .i64 a1,.sl 3 a2]] []
def begin (a0:List Int) (a1:Int) (a2:List Int):Tr Empty A:=
 .last (.call (aE.told a1 (0:Int) (List.length a2:Int)) fun t1=> .ite t1
  (.last (.call (eO.told a0) fun t2=> .last (.call (bT.told a2 t2) fun t3=> .ret t3)))
  (.last (.last (.ret false))))
def f (a0:List Int) (a1:Int) (a2:List Int):Option A:=(begin a0 a1 a2).run (lp aF)
def Q:bE C:={PL with iH:=[(1,[],(.take 0 [] (.take 2 [] (.take 3 [] (.take 1 [0,2,3,4,5] (.take 4 [0,1,2,3] (.take 5 [] (.alt 6 (.take 7 [] (.take 8 [] (.take 9 [] (.take 11 [] (.take 10 [0,1,2,3,4,5,6,7,8,9,11,12] (.alt 12 (.alt 13 (.take 14 [] (.take 15 [] .done)) .nil) .nil)))))) .nil))))))))]}
def told (a0:List Int) (a1:Int) (a2:List Int):aa.Told A:=⟨f a0 a1 a2,fun r=>ae Pg C 115 (S a0 a1 a2) 0 (v r) (o r),fun r h=>aG (Q:=Q) v o Tryz.func115 rfl (of_decide_eq_true (by kernel_rfl)) (by rfl) (fun _=>rfl) (fun J K=>by kernel_rfl) h⟩
end fu
namespace eZ
def S (a0:List az) (a1 a2:List Int) (a3 a4 a5 a6 a7 a8 a9 a10:Int) (a11:List Int) (a12:Int):List (PV U):=aa.start C 40 [.agg [.sl 164 a0,.sl 3 a1,.sl 3 a2,.int .i64 a3,.int .i64 a4,.int .i64 a5,.int .i64 a6,.int .i64 a7,.int .i64 a8,.int .i64 a9,.int .i64 a10,.sl 3 a11,.int .i64 a12]] []
def begin (a0:List az) (a1 a2:List Int) (a3 a4 a5 a6 a7 a8 a9 a10:Int) (a11:List Int) (a12:Int):Tr Empty A:=
 .call (fC.told a0 a1) fun t1=> .ite t1
  (.call (eN.told a4 a5 a6 a7) fun t2=> .ite t2
   (.call (bM.told a2) fun t3=> .ite t3
    (.call (aE.told a3 (0:Int) (400000:Int)) fun t4=> .ite t4
     (.call (fw.told a8 a9) fun t5=> .ite t5
      (.call (fu.told a1 a10 a11) fun t6=> .ite t6
       (.call (aE.told a12 (0:Int) (100000:Int)) fun t7=> .ret t7)
       (.ret false))
      (.ret false))
     (.ret false))
    (.ret false))
   (.ret false))
  (.ret false)
def f (a0:List az) (a1 a2:List Int) (a3 a4 a5 a6 a7 a8 a9 a10:Int) (a11:List Int) (a12:Int):Option A:=(begin a0 a1 a2 a3 a4 a5 a6 a7 a8 a9 a10 a11 a12).run (lp aF)
def told (a0:List az) (a1 a2:List Int) (a3 a4 a5 a6 a7 a8 a9 a10:Int) (a11:List Int) (a12:Int):aa.Told A:=⟨f a0 a1 a2 a3 a4 a5 a6 a7 a8 a9 a10 a11 a12,fun r=>ae Pg C 59 (S a0 a1 a2 a3 a4 a5 a6 a7 a8 a9 a10 a11 a12) 0 (v r) (o r),fun r h=>aG (Q:=PL) v o Tryz.func59 rfl (of_decide_eq_true (by kernel_rfl)) (by rfl) (fun _=>rfl) (fun J K=>by kernel_rfl) h⟩
end eZ
namespace eQ
def S (a0:Int) (a1:List Int):List (PV U):=aa.start C 12 [.agg [.int .i64 a0,.sl 3 a1]] []
def begin (a0:Int) (a1:List Int):Tr Empty A:=
 let u0_0:Tr Empty A:=(.last (.aC (((List.length ([]:List Int):Int)+(List.length a1:Int))*(8:Nat)≤room) (.last (.last (.last (.ret (a0,(([]:List Int)++a1)))))))); .both (.last (u0_0))
  (.last (.both (u0_0)
   (.last (.aC (((List.length ([]:List Int):Int)+(List.length a1:Int))*(8:Nat)≤room) (.both (.last (.last (.last (.ret (a0,(([]:List Int)++a1))))))
    (.last (.last (.last (.ret (a0,(([]:List Int)++a1)))))))))))
def f (a0:Int) (a1:List Int):Option A:=(begin a0 a1).run (lp aF)
def Q:bE C:={PL with iH:=[(1,[6,7,8,9],(.take 0 [] (.take 3 [] (.take 4 [] (.take 5 [0,1,2,3,4] (.alt 1 (.alt 2 (.alt 6 (.alt 7 (.alt 8 (.alt 9 .done .nil) .nil) .nil) .nil) .nil) (.alt 2 (.alt 1 (.alt 6 (.alt 7 (.alt 8 (.alt 9 .done .nil) .nil) .nil) .nil) (.alt 6 (.alt 1 (.alt 7 (.alt 8 (.alt 9 .done .nil) .nil) .nil) (.alt 7 (.take 1 [0,2,3,4,5,6,7] (.alt 8 (.alt 9 .done .nil) .nil)) .nil)) .nil)) .nil)))))))]}
def told (a0:Int) (a1:List Int):aa.Told A:=⟨f a0 a1,fun r=>ae Pg C 117 (S a0 a1) 0 (v r) (o r),fun r h=>aG (Q:=Q) v o Tryz.func117 rfl (of_decide_eq_true (by kernel_rfl)) (by rfl) (fun _=>rfl) (fun J K=>by kernel_rfl) h⟩
end eQ
namespace cV
def S (a0:List az) (a1 a2:List Int) (a3 a4 a5 a6 a7 a8 a9 a10:Int) (a11:List Int) (a12:Int):List (PV U):=aa.start C 22 [.agg [.sl 164 a0,.sl 3 a1,.sl 3 a2,.int .i64 a3,.int .i64 a4,.int .i64 a5,.int .i64 a6,.int .i64 a7,.int .i64 a8,.int .i64 a9,.int .i64 a10,.sl 3 a11,.int .i64 a12]] []
def begin (a0:List az) (a1 a2:List Int) (a3 a4 a5 a6 a7 a8 a9 a10:Int) (a11:List Int) (a12:Int):Tr Empty A:=
 .call (ca.told a0) fun t1=> .aC (((List.length ([]:List Int):Int)+(List.length a1:Int))*(8:Nat)≤room) (.aC (((List.length ([]:List Int):Int)+(List.length a2:Int))*(8:Nat)≤room) (.call (eQ.told a10 a11) fun t2=> .ret (t1,(([]:List Int)++a1),(([]:List Int)++a2),a3,a4,a5,a6,a7,a8,a9,t2.1,t2.2,a12)))
def f (a0:List az) (a1 a2:List Int) (a3 a4 a5 a6 a7 a8 a9 a10:Int) (a11:List Int) (a12:Int):Option A:=(begin a0 a1 a2 a3 a4 a5 a6 a7 a8 a9 a10 a11 a12).run (lp aF)
def told (a0:List az) (a1 a2:List Int) (a3 a4 a5 a6 a7 a8 a9 a10:Int) (a11:List Int) (a12:Int):aa.Told A:=⟨f a0 a1 a2 a3 a4 a5 a6 a7 a8 a9 a10 a11 a12,fun r=>ae Pg C 61 (S a0 a1 a2 a3 a4 a5 a6 a7 a8 a9 a10 a11 a12) 0 (v r) (o r),fun r h=>aG (Q:=PL) v o Tryz.func61 rfl (of_decide_eq_true (by kernel_rfl)) (by rfl) (fun _=>rfl) (fun J K=>by kernel_rfl) h⟩
end cV
namespace dB
def S (a0 a1 a2:Int):List (PV U):=aa.start C 21 [.int .i64 a0,.int .i64 a1,.int .i64 a2] []
def begin (a0 a1 a2:Int):Tr Empty A:=
 .ite (decide (a2<a1))
  (.ret a1)
  (.ite (decide (a0<a1))
   (.ret a1)
   (.ite (decide (a0>a2))
    (.ret a2)
    (.ret a0)))
def f (a0 a1 a2:Int):Option A:=(begin a0 a1 a2).run (lp aF)
def told (a0 a1 a2:Int):aa.Told A:=⟨f a0 a1 a2,fun r=>ae Pg C 157 (S a0 a1 a2) 0 (v r) (o r),fun r h=>aG (Q:=PL) v o Tryz.func157 rfl (of_decide_eq_true (by kernel_rfl)) (by rfl) (fun _=>rfl) (fun J K=>by kernel_rfl) h⟩
end dB
namespace ff
def S (a0 a1 a2 a3 a4:Int):List (PV U):=aa.start C 17 [.agg [.int .i64 a0,.int .i64 a1,.int .i64 a2,.int .i64 a3],.int .i64 a4] []
def begin (a0 a1 a2 a3 a4:Int):Tr Empty A:=
 .call (dB.told (wr ((wr (a0+a4))-a3)) (0:Int) a1) fun t1=> .ret (t1,a1,a2,a3)
def f (a0 a1 a2 a3 a4:Int):Option A:=(begin a0 a1 a2 a3 a4).run (lp aF)
def told (a0 a1 a2 a3 a4:Int):aa.Told A:=⟨f a0 a1 a2 a3 a4,fun r=>ae Pg C 118 (S a0 a1 a2 a3 a4) 0 (v r) (o r),fun r h=>aG (Q:=PL) v o Tryz.func118 rfl (of_decide_eq_true (by kernel_rfl)) (by rfl) (fun _=>rfl) (fun J K=>by kernel_rfl) h⟩
end ff
namespace gi
def S (a0 a1 a2 a3:Int):List (PV U):=aa.start C 18 [.agg [.int .i64 a0,.int .i64 a1],.int .i64 a2,.int .i64 a3] []
def begin (a0 a1 a2 a3:Int):Tr Empty A:=
 .ret ((if(wr (a0+a2))<(1000000:Int)then(wr (a0+a2))else(1000000:Int)),(if(wr (a1+a3))<(1000000:Int)then(wr (a1+a3))else(1000000:Int)))
def f (a0 a1 a2 a3:Int):Option A:=(begin a0 a1 a2 a3).run (lp aF)
def told (a0 a1 a2 a3:Int):aa.Told A:=⟨f a0 a1 a2 a3,fun r=>ae Pg C 130 (S a0 a1 a2 a3) 0 (v r) (o r),fun r h=>aG (Q:=PL) v o Tryz.func130 rfl (of_decide_eq_true (by kernel_rfl)) (by rfl) (fun _=>rfl) (fun J K=>by kernel_rfl) h⟩
end gi
namespace fH
def S (a0 a1 a2:Int):List (PV U):=aa.start C 18 [.agg [.int .i64 a0,.int .i64 a1],.int .i64 a2] []
def begin (a0 a1 a2:Int):Tr Empty A:=
 .call (fw.told a0 a1) fun t1=> .ite (!t1)
  (.ret (a0,a1))
  (.call (aE.told a2 (0:Int) (1000000:Int)) fun t2=> .ite (!t2)
   (.ret (a0,a1))
   (.call (gi.told a0 a1 a2 a2) fun t3=> .ret (t3.1,t3.2)))
def f (a0 a1 a2:Int):Option A:=(begin a0 a1 a2).run (lp aF)
def told (a0 a1 a2:Int):aa.Told A:=⟨f a0 a1 a2,fun r=>ae Pg C 119 (S a0 a1 a2) 0 (v r) (o r),fun r h=>aG (Q:=PL) v o Tryz.func119 rfl (of_decide_eq_true (by kernel_rfl)) (by rfl) (fun _=>rfl) (fun J K=>by kernel_rfl) h⟩
end fH
end
end Go.Proofs.YtmapddgocpkgeaaGreat.Ev
