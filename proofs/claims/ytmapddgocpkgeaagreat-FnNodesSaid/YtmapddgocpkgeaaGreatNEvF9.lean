/- Functions as trees, with their contracts. No conditions. -/
import Derived.Test.YtmapddgocpkgeaaGreatNEvF8
namespace Go.Proofs.YtmapddgocpkgeaaGreat.Ev
open Go.Proofs.YtmapddgocpkgeaaGreat.aa Go.RowKit
set_option linter.unusedVariables false
set_option maxRecDepth 100000
noncomputable section
namespace dq
def S (a0:List aw) (a1 a2 a3:Int):List (PV U):=aa.start C 50 [.agg [.sl 204 a0,.int .i64 a1,.int .i64 a2,.int .i64 a3]] []
inductive X where
 | c8 (x0 x1 x2 x3:List Int) (x4:Int)
def id:X→Nat
 | .c8 .. =>8
def st:X→List (PV U)
 | .c8 x0 x1 x2 x3 x4=>eA 50 [(3,.own true 3 x0),(4,.own true 3 x1),(5,.own true 3 x2),(6,.own true 3 x3),(7,.int .i64 x4)]
def begin (a0:List aw) (a1 a2 a3:Int):Tr X A:=
 .call (gB.told a0 a1 a2 a3) fun t1=> .ite (!t1)
  (.ret (([]:List Int)))
  (.call (di.told a0) fun t2=> .call (cz.told a0) fun t3=> .call (cR.told a0 a1 a2 a3) fun t4=> .jump (.c8 ([]:List Int) t2 t3 t4 (0:Int)))
def tree:X→Tr X A
 | .c8 x0 x1 x2 x3 x4=>
 .ite (decide (x4<(List.length x1:Int)))
  (.aC ((0:Int)≤x4∧x4<(List.length x1:Int)) (.call (cK.told x3 (dz x1 x4)) fun t1=> .ite t1
   (.aC ((0:Int)≤x4∧x4<(List.length x1:Int)) (.aC (((List.length x0:Int)+(List.length ([(dz x1 x4)]):Int))*(8:Nat)≤room) (.jump (.c8 (x0++[(dz x1 x4)]) x1 x2 x3 (wr (x4+(1:Int)))))))
   (.aC ((0:Int)≤x4∧x4<(List.length x1:Int)) (.call (cK.told x2 (dz x1 x4)) fun t2=> .ite (!t2)
    (.aC ((0:Int)≤x4∧x4<(List.length x1:Int)) (.aC (((List.length x0:Int)+(List.length ([(dz x1 x4)]):Int))*(8:Nat)≤room) (.jump (.c8 (x0++[(dz x1 x4)]) x1 x2 x3 (wr (x4+(1:Int)))))))
    (.jump (.c8 x0 x1 x2 x3 (wr (x4+(1:Int)))))))))
  (.ret x0)
def f (a0:List aw) (a1 a2 a3:Int):Option A:=(begin a0 a1 a2 a3).run (lp tree)
def Q:bE C:={PL with fM:=[(8,[3,4,5,6,7])]}
theorem e:df Pg C Q Tryz.f193 0 id st v o tree:=fun J K x=>by cases x<;>kernel_rfl
def told (a0:List aw) (a1 a2 a3:Int):aa.Told A:=⟨f a0 a1 a2 a3,fun r=>ae Pg C 193 (S a0 a1 a2 a3) 0 (v r) (o r),fun r h=>dy v o Tryz.func193 rfl (of_decide_eq_true (by kernel_rfl)) (by rfl) (fun _=>rfl) e (fun J K=>by kernel_rfl) h⟩
end dq
namespace fg
def S (a0:List Int):List (PV U):=aa.start C 11 [.sl 3 a0] []
def begin (a0:List Int):Tr Empty A:=
 .ite (!decide ((List.length a0:Int)=(49:Int)))
  (.ret (([]:List Int)))
  (.aC ((0:Int)≤(0:Int)∧(0:Int)≤(8:Int)∧(8:Int)≤(List.length a0:Int)) (.aC (((List.length ([]:List Int):Int)+(List.length (List.take (Int.toNat (8:Int)) a0):Int))*(8:Nat)≤room) (.ret ((([]:List Int)++(List.take (Int.toNat (8:Int)) a0))))))
def f (a0:List Int):Option A:=(begin a0).run (lp aF)
def told (a0:List Int):aa.Told A:=⟨f a0,fun r=>ae Pg C 194 (S a0) 0 (v r) (o r),fun r h=>aG (Q:=PL) v o Tryz.func194 rfl (of_decide_eq_true (by kernel_rfl)) (by rfl) (fun _=>rfl) (fun J K=>by kernel_rfl) h⟩
end fg
namespace fl
def S (a0 a1 a2 a3 a4 a5:Int):List (PV U):=aa.start C 14 [.agg [.int .i64 a0,.int .i64 a1,.int .i64 a2,.int .i64 a3,.int .i64 a4,.int .i64 a5]] []
def begin (a0 a1 a2 a3 a4 a5:Int):Tr Empty A:=
 .ite (decide (a0=(1:Int)))
  (.ret ((2:Int)))
  (.ite (decide (a0=(2:Int)))
   (.ret ((5:Int)))
   (.ite (decide (a0=(3:Int)))
    (.ret ((4:Int)))
    (.ite (decide (a0=(4:Int)))
     (.ite (decide (a0=(4:Int)))
      (.ret ((1:Int)))
      (.ret ((0:Int))))
     (.ite (decide (a0=(5:Int)))
      (.ret ((1:Int)))
      (.ret ((0:Int)))))))
def f (a0 a1 a2 a3 a4 a5:Int):Option A:=(begin a0 a1 a2 a3 a4 a5).run (lp aF)
def told (a0 a1 a2 a3 a4 a5:Int):aa.Told A:=⟨f a0 a1 a2 a3 a4 a5,fun r=>ae Pg C 231 (S a0 a1 a2 a3 a4 a5) 0 (v r) (o r),fun r h=>aG (Q:=PL) v o Tryz.func231 rfl (of_decide_eq_true (by kernel_rfl)) (by rfl) (fun _=>rfl) (fun J K=>by kernel_rfl) h⟩
end fl
namespace ez
def S (a0:Int) (a1 a2 a3 a4 a5:List Int) (a6:Int) (a7:Bool) (a8:List aO) (a9 a10:List Int) (a11 a12:Int):List (PV U):=aa.start C 15 [.ptr 15 0,.int .i64 a0] [.box [.own true 3 a1,.own true 3 a2,.own true 3 a3,.own true 3 a4,.sl 3 a5,.int .i64 a6,.bool a7,.own true 179 a8,.own true 3 a9,.own true 3 a10,.int .i64 a11,.int .i64 a12]]
def begin (a0:Int) (a1 a2 a3 a4 a5:List Int) (a6:Int) (a7:Bool) (a8:List aO) (a9 a10:List Int) (a11 a12:Int):Tr Empty A:=
 .aC (((List.length a8:Int)+(List.length ([(⟨a0,(-1:Int),(0:Int)⟩:aO)]):Int))*(24:Nat)≤room) (.ret (a1,a2,a3,a4,a5,a6,a7,(a8++[(⟨a0,(-1:Int),(0:Int)⟩:aO)]),a9,a10,a11,a12))
def f (a0:Int) (a1 a2 a3 a4 a5:List Int) (a6:Int) (a7:Bool) (a8:List aO) (a9 a10:List Int) (a11 a12:Int):Option A:=(begin a0 a1 a2 a3 a4 a5 a6 a7 a8 a9 a10 a11 a12).run (lp aF)
def told (a0:Int) (a1 a2 a3 a4 a5:List Int) (a6:Int) (a7:Bool) (a8:List aO) (a9 a10:List Int) (a11 a12:Int):aa.Told A:=⟨f a0 a1 a2 a3 a4 a5 a6 a7 a8 a9 a10 a11 a12,fun r=>ae Pg C 196 (S a0 a1 a2 a3 a4 a5 a6 a7 a8 a9 a10 a11 a12) 1 (v r) (o r),fun r h=>aG (Q:=PL) v o Tryz.func196 rfl (of_decide_eq_true (by kernel_rfl)) (by rfl) (fun _=>rfl) (fun J K=>by kernel_rfl) h⟩
end ez
namespace eE
def S (a0:List Int) (a1:Int):List (PV U):=aa.start C 13 [.sl 3 a0,.int .i64 a1] []
def begin (a0:List Int) (a1:Int):Tr Empty A:=
 .ite (decide (a1<(0:Int)))
  (.aC ((0:Int)≤(wr ((-1:Int)-a1))∧(wr ((-1:Int)-a1))<(List.length a0:Int)) (.ret ((dz a0 (wr ((-1:Int)-a1))))))
  (.ret a1)
def f (a0:List Int) (a1:Int):Option A:=(begin a0 a1).run (lp aF)
def told (a0:List Int) (a1:Int):aa.Told A:=⟨f a0 a1,fun r=>ae Pg C 252 (S a0 a1) 0 (v r) (o r),fun r h=>aG (Q:=PL) v o Tryz.func252 rfl (of_decide_eq_true (by kernel_rfl)) (by rfl) (fun _=>rfl) (fun J K=>by kernel_rfl) h⟩
end eE
namespace bP
def S (a0:Int):List (PV U):=aa.start C 5 [.int .i64 a0] []
def begin (a0:Int):Tr Empty A:=
 .call (dB.told a0 (-1000000:Int) (1000000:Int)) fun t1=> .ret t1
def f (a0:Int):Option A:=(begin a0).run (lp aF)
def told (a0:Int):aa.Told A:=⟨f a0,fun r=>ae Pg C 263 (S a0) 0 (v r) (o r),fun r h=>aG (Q:=PL) v o Tryz.func263 rfl (of_decide_eq_true (by kernel_rfl)) (by rfl) (fun _=>rfl) (fun J K=>by kernel_rfl) h⟩
end bP
namespace dk
def S (a0 a1:Int):List (PV U):=aa.start C 11 [.int .i64 a0,.int .i64 a1] []
def begin (a0 a1:Int):Tr Empty A:=
 .call (bP.told a0) fun t1=> .call (bP.told a1) fun t2=> .call (bP.told (wr (t1+t2))) fun t3=> .ret t3
def f (a0 a1:Int):Option A:=(begin a0 a1).run (lp aF)
def told (a0 a1:Int):aa.Told A:=⟨f a0 a1,fun r=>ae Pg C 253 (S a0 a1) 0 (v r) (o r),fun r h=>aG (Q:=PL) v o Tryz.func253 rfl (of_decide_eq_true (by kernel_rfl)) (by rfl) (fun _=>rfl) (fun J K=>by kernel_rfl) h⟩
end dk
namespace dP
def S (a0 a1:Int):List (PV U):=aa.start C 11 [.int .i64 a0,.int .i64 a1] []
def begin (a0 a1:Int):Tr Empty A:=
 .call (bP.told a0) fun t1=> .call (bP.told a1) fun t2=> .call (bP.told (wr (t1-t2))) fun t3=> .ret t3
def f (a0 a1:Int):Option A:=(begin a0 a1).run (lp aF)
def told (a0 a1:Int):aa.Told A:=⟨f a0 a1,fun r=>ae Pg C 254 (S a0 a1) 0 (v r) (o r),fun r h=>aG (Q:=PL) v o Tryz.func254 rfl (of_decide_eq_true (by kernel_rfl)) (by rfl) (fun _=>rfl) (fun J K=>by kernel_rfl) h⟩
end dP
namespace dZ
def S (a0 a1:Int):List (PV U):=aa.start C 11 [.int .i64 a0,.int .i64 a1] []
def begin (a0 a1:Int):Tr Empty A:=
 .call (bP.told a0) fun t1=> .call (bP.told a1) fun t2=> .call (bP.told (wr (t1*t2))) fun t3=> .ret t3
def f (a0 a1:Int):Option A:=(begin a0 a1).run (lp aF)
def told (a0 a1:Int):aa.Told A:=⟨f a0 a1,fun r=>ae Pg C 255 (S a0 a1) 0 (v r) (o r),fun r h=>aG (Q:=PL) v o Tryz.func255 rfl (of_decide_eq_true (by kernel_rfl)) (by rfl) (fun _=>rfl) (fun J K=>by kernel_rfl) h⟩
end dZ
namespace fJ
def S (a0:Bool):List (PV U):=aa.start C 4 [.bool a0] []
def begin (a0:Bool):Tr Empty A:=
 .ite a0
  (.ret ((1:Int)))
  (.ret ((0:Int)))
def f (a0:Bool):Option A:=(begin a0).run (lp aF)
def told (a0:Bool):aa.Told A:=⟨f a0,fun r=>ae Pg C 81 (S a0) 0 (v r) (o r),fun r h=>aG (Q:=PL) v o Tryz.func81 rfl (of_decide_eq_true (by kernel_rfl)) (by rfl) (fun _=>rfl) (fun J K=>by kernel_rfl) h⟩
end fJ
namespace cw
def S (a0:List Int) (a1 a2 a3:Int):List (PV U):=aa.start C 52 [.sl 3 a0,.agg [.int .i64 a1,.int .i64 a2,.int .i64 a3]] []
def begin (a0:List Int) (a1 a2 a3:Int):Tr Empty A:=
 .call (eE.told a0 a2) fun t1=> .call (eE.told a0 a3) fun t2=> .ite (decide (a1=(1:Int)))
  (.call (dk.told t1 t2) fun t3=> .ret t3)
  (.ite (decide (a1=(2:Int)))
   (.call (dP.told t1 t2) fun t3=> .ret t3)
   (.ite (decide (a1=(3:Int)))
    (.call (dZ.told t1 t2) fun t3=> .ret t3)
    (.ite (decide (a1=(4:Int)))
     (.ret ((if t2<t1 then t2 else t1)))
     (.ite (decide (a1=(5:Int)))
      (.ret ((if t2>t1 then t2 else t1)))
      (.ite (decide (a1=(6:Int)))
       (.call (fJ.told (decide (t1<t2))) fun t3=> .ret t3)
       (.call (fJ.told (decide (t1=t2))) fun t3=> .ret t3))))))
def f (a0:List Int) (a1 a2 a3:Int):Option A:=(begin a0 a1 a2 a3).run (lp aF)
def told (a0:List Int) (a1 a2 a3:Int):aa.Told A:=⟨f a0 a1 a2 a3,fun r=>ae Pg C 233 (S a0 a1 a2 a3) 0 (v r) (o r),fun r h=>aG (Q:=PL) v o Tryz.func233 rfl (of_decide_eq_true (by kernel_rfl)) (by rfl) (fun _=>rfl) (fun J K=>by kernel_rfl) h⟩
end cw
end
end Go.Proofs.YtmapddgocpkgeaaGreat.Ev
