/- Functions as trees, with their contracts. No conditions. -/
import Derived.Test.YtmapddgocpkgeaaGreatNEvF29
namespace Go.Proofs.YtmapddgocpkgeaaGreat.Ev
open Go.Proofs.YtmapddgocpkgeaaGreat.aa Go.RowKit
set_option linter.unusedVariables false
set_option maxRecDepth 100000
noncomputable section
namespace aS
def S (a0 a1 a2:Int):List (PV U):=aa.start C 11 [.agg [.int .i64 a0,.int .i64 a1,.int .i64 a2]] []
def begin (a0 a1 a2:Int):Tr Empty A:=
 .ite (decide (a1=(-1:Int)))
  (.ret ((decide (a0=(5:Int)))))
  (.ret false)
def f (a0 a1 a2:Int):Option A:=(begin a0 a1 a2).run (lp aF)
def told (a0 a1 a2:Int):aa.Told A:=⟨f a0 a1 a2,fun r=>ae Pg C 146 (S a0 a1 a2) 0 (v r) (o r),fun r h=>aG (Q:=PL) v o Tryz.func146 rfl (of_decide_eq_true (by kernel_rfl)) (by rfl) (fun _=>rfl) (fun J K=>by kernel_rfl) h⟩
end aS
namespace aY
def S (a0:List az) (a1 a2:List Int) (a3:Int) (a4:List (List Int)) (a5:Int):List (PV U):=aa.start C 66 [.ptr 66 0,.agg [.sl 164 a0],.sl 3 a1] [.box [.own true 3 a2,.int .i64 a3,.own true 27 a4,.int .i64 a5]]
inductive X where
 | c3 (x0:List aO) (x1:List Int) (x2 x3:Int) (x4:List Int) (x5:Int) (x6:List (List Int)) (x7:Int)
def id:X→Nat
 | .c3 .. =>3
def st:X→List (PV U)
 | .c3 x0 x1 x2 x3 x4 x5 x6 x7=>eA 67 [(0,.ptr 66 0),(7,.box [.own true 179 x0,.own true 3 x1]),(22,.iV (7,[0])),(23,.int .i64 x2),(24,.int .i64 x3),(66,.box [.own true 3 x4,.int .i64 x5,.own true 27 x6,.int .i64 x7])]
def begin (a0:List az) (a1 a2:List Int) (a3:Int) (a4:List (List Int)) (a5:Int):Tr X A:=
 .both (.call (dF.told a0 a2 a1 a3) fun t1=> .last (.last (.jump (.c3 t1.1 t1.2 (List.length t1.1:Int) (0:Int) a2 a3 a4 a5))))
  (.last (.last (.call (dF.told a0 a2 a1 a3) fun t1=> .last (.jump (.c3 t1.1 t1.2 (List.length t1.1:Int) (0:Int) a2 a3 a4 a5)))))
def tree:X→Tr X A
 | .c3 x0 x1 x2 x3 x4 x5 x6 x7=>
 let u0_0:Tr X A:=(.last (.last (.aC (((List.length x6:Int)+(List.length ([x1]):Int))*(24:Nat)≤room) (.last (.ret (true,x4,x5,(x6++[x1]),x7)))))); .ite (decide (x3<x2))
  (.aC ((0:Int)≤x3∧x3<(List.length x0:Int)) (.call (aW.told ((gq x0 x3).f0) x4 x5 x6 x7) fun t1=> .ite (!t1.1)
   (.ret (false,t1.2.1,t1.2.2.1,t1.2.2.2.1,t1.2.2.2.2))
   (.call (aS.told ((gq x0 x3).f0) ((gq x0 x3).f1) ((gq x0 x3).f2)) fun t2=> .ite t2
    (.ite (!decide ((gq x0 x3).f1=(-1:Int)))
     (.aC ((0:Int)≤(gq x0 x3).f1∧(gq x0 x3).f1<(List.length t1.2.1:Int)) (.last (.jump (.c3 x0 x1 x2 (wr (x3+(1:Int))) (List.set t1.2.1 (Int.toNat ((gq x0 x3).f1)) ((gq x0 x3).f2)) (wr (t1.2.2.1+(1:Int))) t1.2.2.2.1 t1.2.2.2.2))))
     (.jump (.c3 x0 x1 x2 (wr (x3+(1:Int))) t1.2.1 (wr (t1.2.2.1+(1:Int))) t1.2.2.2.1 t1.2.2.2.2)))
    (.ite (!decide ((gq x0 x3).f1=(-1:Int)))
     (.aC ((0:Int)≤(gq x0 x3).f1∧(gq x0 x3).f1<(List.length t1.2.1:Int)) (.last (.jump (.c3 x0 x1 x2 (wr (x3+(1:Int))) (List.set t1.2.1 (Int.toNat ((gq x0 x3).f1)) ((gq x0 x3).f2)) t1.2.2.1 t1.2.2.2.1 t1.2.2.2.2))))
     (.jump (.c3 x0 x1 x2 (wr (x3+(1:Int))) t1.2.1 t1.2.2.1 t1.2.2.2.1 t1.2.2.2.2))))))
  (.both (u0_0)
   (u0_0))
def f (a0:List az) (a1 a2:List Int) (a3:Int) (a4:List (List Int)) (a5:Int):Option A:=(begin a0 a1 a2 a3 a4 a5).run (lp tree)
def Q:bE C:={PL with fM:=[(3,[0,7,22,23,24,66])],iH:=[(1,[12],(.take 1 [] (.take 2 [] (.take 3 [] (.take 5 [] (.take 6 [] (.take 7 [] (.take 8 [] (.take 0 [1,2,3,4,5,6,7,8,9,11] (.take 4 [0,1,2,3,5,6,7,8,9,11] (.take 9 [0,1,2,3,4,5,6,7,8,11] (.alt 10 (.alt 11 (.alt 12 .done .nil) .nil) (.alt 11 (.alt 10 (.alt 12 .done .nil) .nil) .nil))))))))))))),(10,[9],(.take 0 [] (.take 1 [] (.take 2 [] (.take 4 [] (.take 6 [] (.take 3 [0,1,2,4,5,6,7] (.take 5 [0,1,2,3,4,6,7] (.take 7 [0,1,2,3,4,5,6] (.take 8 [] (.alt 9 .done .nil))))))))))),(12,[7,8,11],(.take 0 [] (.take 1 [] (.take 2 [] (.take 3 [] (.take 5 [] (.take 6 [0,1,2,3,4,5] (.alt 4 (.alt 7 (.alt 8 (.take 9 [] (.take 10 [] (.alt 11 .done .nil))) .nil) .nil) (.alt 7 (.take 4 [0,1,2,3,5,6,7] (.alt 8 (.take 9 [] (.take 10 [] (.alt 11 .done .nil))) .nil)) .nil)))))))))]}
theorem e:df Pg C Q Tryz.f100 1 id st v o tree:=fun J K x=>by cases x<;>kernel_rfl
def told (a0:List az) (a1 a2:List Int) (a3:Int) (a4:List (List Int)) (a5:Int):aa.Told A:=⟨f a0 a1 a2 a3 a4 a5,fun r=>ae Pg C 100 (S a0 a1 a2 a3 a4 a5) 1 (v r) (o r),fun r h=>dy v o Tryz.func100 rfl (of_decide_eq_true (by kernel_rfl)) (by rfl) (fun _=>rfl) e (fun J K=>by kernel_rfl) h⟩
end aY
namespace fG
def S (a0:List az) (a1 a2:List Int) (a3 a4:Int):List (PV U):=aa.start C 30 [.agg [.sl 164 a0],.sl 3 a1,.sl 3 a2,.int .i64 a3,.int .i64 a4] []
inductive X where
 | c4 (x0:List Int) (x1:List az) (x2:List Int) (x3:Int) (x4:List (List Int)) (x5:Int) (x6:List Int) (x7:Int) (x8:List (List Int)) (x9:Int)
def id:X→Nat
 | .c4 .. =>4
def st:X→List (PV U)
 | .c4 x0 x1 x2 x3 x4 x5 x6 x7 x8 x9=>eA 30 [(2,.sl 3 x0),(5,.box [.sl 164 x1]),(10,.box [.own true 3 x2,.int .i64 x3,.own true 27 x4,.int .i64 x5]),(11,.box [.own true 3 x6,.int .i64 x7,.own true 27 x8,.int .i64 x9])]
def begin (a0:List az) (a1 a2:List Int) (a3 a4:Int):Tr X A:=
 .call (aL.told a1) fun t1=> .call (aP.told t1 a3 ([]:List (List Int)) a4) fun t2=> .ite (!t2.1)
  (.ret (t2.2.1,t2.2.2.1,t2.2.2.2.1,t2.2.2.2.2))
  (.jump (.c4 a2 a0 ([]:List Int) (0:Int) ([]:List (List Int)) (0:Int) t2.2.1 t2.2.2.1 t2.2.2.2.1 t2.2.2.2.2))
def tree:X→Tr X A
 | .c4 x0 x1 x2 x3 x4 x5 x6 x7 x8 x9=>
 .ite (decide ((List.length x8:Int)<(10:Int)))
  (.call (aY.told x1 x0 x6 x7 x8 x9) fun t1=> .ite t1.1
   (.jump (.c4 x0 x1 x2 x3 x4 x5 t1.2.1 t1.2.2.1 t1.2.2.2.1 t1.2.2.2.2))
   (.ret (t1.2.1,t1.2.2.1,t1.2.2.2.1,t1.2.2.2.2)))
  (.ret (x6,x7,x8,x9))
def f (a0:List az) (a1 a2:List Int) (a3 a4:Int):Option A:=(begin a0 a1 a2 a3 a4).run (lp tree)
def Q:bE C:={PL with fM:=[(4,[2,5,10,11])]}
theorem e:df Pg C Q Tryz.f45 0 id st v o tree:=fun J K x=>by cases x<;>kernel_rfl
def told (a0:List az) (a1 a2:List Int) (a3 a4:Int):aa.Told A:=⟨f a0 a1 a2 a3 a4,fun r=>ae Pg C 45 (S a0 a1 a2 a3 a4) 0 (v r) (o r),fun r h=>dy v o Tryz.func45 rfl (of_decide_eq_true (by kernel_rfl)) (by rfl) (fun _=>rfl) e (fun J K=>by kernel_rfl) h⟩
end fG
end
end Go.Proofs.YtmapddgocpkgeaaGreat.Ev
