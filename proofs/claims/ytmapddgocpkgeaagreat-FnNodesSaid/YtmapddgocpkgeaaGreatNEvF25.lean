/- Functions as trees, with their contracts. No conditions. -/
import Derived.Test.YtmapddgocpkgeaaGreatNEvF24
namespace Go.Proofs.YtmapddgocpkgeaaGreat.Ev
open Go.Proofs.YtmapddgocpkgeaaGreat.aa Go.RowKit
set_option linter.unusedVariables false
set_option maxRecDepth 100000
noncomputable section
namespace fi
def S (a0:List Int) (a1:Int):List (PV U):=aa.start C 13 [.sl 3 a0,.int .i64 a1] []
def begin (a0:List Int) (a1:Int):Tr Empty A:=
 .ite (decide (a1<(0:Int)))
  (.aC ((0:Int)≤(wr ((-1:Int)-a1))∧(wr ((-1:Int)-a1))<(List.length a0:Int)) (.ret ((dz a0 (wr ((-1:Int)-a1))))))
  (.ret a1)
def f (a0:List Int) (a1:Int):Option A:=(begin a0 a1).run (lp aF)
def told (a0:List Int) (a1:Int):aa.Told A:=⟨f a0 a1,fun r=>ae Pg C 219 (S a0 a1) 0 (v r) (o r),fun r h=>aG (Q:=PL) v o Tryz.func219 rfl (of_decide_eq_true (by kernel_rfl)) (by rfl) (fun _=>rfl) (fun J K=>by kernel_rfl) h⟩
end fi
namespace bQ
def S (a0:Int):List (PV U):=aa.start C 5 [.int .i64 a0] []
def begin (a0:Int):Tr Empty A:=
 .call (db.told a0 (-1000000:Int) (1000000:Int)) fun t1=> .ret t1
def f (a0:Int):Option A:=(begin a0).run (lp aF)
def told (a0:Int):aa.Told A:=⟨f a0,fun r=>ae Pg C 247 (S a0) 0 (v r) (o r),fun r h=>aG (Q:=PL) v o Tryz.func247 rfl (of_decide_eq_true (by kernel_rfl)) (by rfl) (fun _=>rfl) (fun J K=>by kernel_rfl) h⟩
end bQ
namespace dn
def S (a0 a1:Int):List (PV U):=aa.start C 11 [.int .i64 a0,.int .i64 a1] []
def begin (a0 a1:Int):Tr Empty A:=
 .call (bQ.told a0) fun t1=> .call (bQ.told a1) fun t2=> .call (bQ.told (wr (t1+t2))) fun t3=> .ret t3
def f (a0 a1:Int):Option A:=(begin a0 a1).run (lp aF)
def told (a0 a1:Int):aa.Told A:=⟨f a0 a1,fun r=>ae Pg C 220 (S a0 a1) 0 (v r) (o r),fun r h=>aG (Q:=PL) v o Tryz.func220 rfl (of_decide_eq_true (by kernel_rfl)) (by rfl) (fun _=>rfl) (fun J K=>by kernel_rfl) h⟩
end dn
namespace ey
def S (a0 a1:Int):List (PV U):=aa.start C 11 [.int .i64 a0,.int .i64 a1] []
def begin (a0 a1:Int):Tr Empty A:=
 .call (bQ.told a0) fun t1=> .call (bQ.told a1) fun t2=> .call (bQ.told (wr (t1-t2))) fun t3=> .ret t3
def f (a0 a1:Int):Option A:=(begin a0 a1).run (lp aF)
def told (a0 a1:Int):aa.Told A:=⟨f a0 a1,fun r=>ae Pg C 221 (S a0 a1) 0 (v r) (o r),fun r h=>aG (Q:=PL) v o Tryz.func221 rfl (of_decide_eq_true (by kernel_rfl)) (by rfl) (fun _=>rfl) (fun J K=>by kernel_rfl) h⟩
end ey
namespace dW
def S (a0 a1:Int):List (PV U):=aa.start C 11 [.int .i64 a0,.int .i64 a1] []
def begin (a0 a1:Int):Tr Empty A:=
 .call (bQ.told a0) fun t1=> .call (bQ.told a1) fun t2=> .call (bQ.told (wr (t1*t2))) fun t3=> .ret t3
def f (a0 a1:Int):Option A:=(begin a0 a1).run (lp aF)
def told (a0 a1:Int):aa.Told A:=⟨f a0 a1,fun r=>ae Pg C 222 (S a0 a1) 0 (v r) (o r),fun r h=>aG (Q:=PL) v o Tryz.func222 rfl (of_decide_eq_true (by kernel_rfl)) (by rfl) (fun _=>rfl) (fun J K=>by kernel_rfl) h⟩
end dW
namespace gM
def S (a0:Bool):List (PV U):=aa.start C 4 [.bool a0] []
def begin (a0:Bool):Tr Empty A:=
 .ite a0
  (.ret ((1:Int)))
  (.ret ((0:Int)))
def f (a0:Bool):Option A:=(begin a0).run (lp aF)
def told (a0:Bool):aa.Told A:=⟨f a0,fun r=>ae Pg C 136 (S a0) 0 (v r) (o r),fun r h=>aG (Q:=PL) v o Tryz.func136 rfl (of_decide_eq_true (by kernel_rfl)) (by rfl) (fun _=>rfl) (fun J K=>by kernel_rfl) h⟩
end gM
namespace cr
def S (a0:List Int) (a1 a2 a3:Int):List (PV U):=aa.start C 60 [.sl 3 a0,.agg [.int .i64 a1,.int .i64 a2,.int .i64 a3]] []
def begin (a0:List Int) (a1 a2 a3:Int):Tr Empty A:=
 .call (fz.told a0) fun t1=> .ite (!t1)
  (.ret ((0:Int)))
  (.call (da.told a1 a2 a3) fun t2=> .ite (!t2)
   (.ret ((0:Int)))
   (.last (.call (fi.told a0 a2) fun t3=> .last (.call (fi.told a0 a3) fun t4=> .ite (decide (a1=(1:Int)))
    (.call (dn.told t3 t4) fun t5=> .ret t5)
    (.ite (decide (a1=(2:Int)))
     (.call (ey.told t3 t4) fun t5=> .ret t5)
     (.ite (decide (a1=(3:Int)))
      (.call (dW.told t3 t4) fun t5=> .ret t5)
      (.ite (decide (a1=(4:Int)))
       (.ret ((if t4<t3 then t4 else t3)))
       (.ite (decide (a1=(5:Int)))
        (.ret ((if t4>t3 then t4 else t3)))
        (.ite (decide (a1=(6:Int)))
         (.call (gM.told (decide (t3<t4))) fun t5=> .ret t5)
         (.call (gM.told (decide (t3=t4))) fun t5=> .ret t5))))))))))
def f (a0:List Int) (a1 a2 a3:Int):Option A:=(begin a0 a1 a2 a3).run (lp aF)
def Q:bE C:={PL with iH:=[(3,[],(.take 0 [] (.take 1 [] (.take 4 [] (.take 5 [] (.take 2 [0,1,4,5,6] (.take 6 [0,1,2,3,4,5] (.alt 3 (.alt 7 (.take 8 [] (.take 9 [] .done)) .nil) .nil))))))))]}
def told (a0:List Int) (a1 a2 a3:Int):aa.Told A:=⟨f a0 a1 a2 a3,fun r=>ae Pg C 183 (S a0 a1 a2 a3) 0 (v r) (o r),fun r h=>aG (Q:=Q) v o Tryz.func183 rfl (of_decide_eq_true (by kernel_rfl)) (by rfl) (fun _=>rfl) (fun J K=>by kernel_rfl) h⟩
end cr
namespace aX
def S (a0 a1:Int) (a2:List aO) (a3:List Int) (a4 a5 a6:Int) (a7:List Int) (a8 a9 a10 a11 a12 a13 a14 a15:Bool) (a16:List Int):List (PV U):=aa.start C 20 [.ptr 20 0,.int .i64 a0,.int .i64 a1] [.box [.own true 179 a2,.own true 3 a3,.int .i64 a4,.int .i64 a5,.int .i64 a6,.own true 3 a7,.bool a8,.bool a9,.bool a10,.bool a11,.bool a12,.bool a13,.bool a14,.bool a15,.own true 3 a16]]
def begin (a0 a1:Int) (a2:List aO) (a3:List Int) (a4 a5 a6:Int) (a7:List Int) (a8 a9 a10 a11 a12 a13 a14 a15:Bool) (a16:List Int):Tr Empty A:=
 .aC (((List.length a2:Int)+(List.length ([(⟨(3:Int),a0,a1⟩:aO)]):Int))*(24:Nat)≤room) (.ret ((a2++[(⟨(3:Int),a0,a1⟩:aO)]),a3,a4,a5,a6,a7,a8,a9,a10,a11,a12,a13,a14,a15,a16))
def f (a0 a1:Int) (a2:List aO) (a3:List Int) (a4 a5 a6:Int) (a7:List Int) (a8 a9 a10 a11 a12 a13 a14 a15:Bool) (a16:List Int):Option A:=(begin a0 a1 a2 a3 a4 a5 a6 a7 a8 a9 a10 a11 a12 a13 a14 a15 a16).run (lp aF)
def told (a0 a1:Int) (a2:List aO) (a3:List Int) (a4 a5 a6:Int) (a7:List Int) (a8 a9 a10 a11 a12 a13 a14 a15:Bool) (a16:List Int):aa.Told A:=⟨f a0 a1 a2 a3 a4 a5 a6 a7 a8 a9 a10 a11 a12 a13 a14 a15 a16,fun r=>ae Pg C 186 (S a0 a1 a2 a3 a4 a5 a6 a7 a8 a9 a10 a11 a12 a13 a14 a15 a16) 1 (v r) (o r),fun r h=>aG (Q:=PL) v o Tryz.func186 rfl (of_decide_eq_true (by kernel_rfl)) (by rfl) (fun _=>rfl) (fun J K=>by kernel_rfl) h⟩
end aX
end
end Go.Proofs.YtmapddgocpkgeaaGreat.Ev
