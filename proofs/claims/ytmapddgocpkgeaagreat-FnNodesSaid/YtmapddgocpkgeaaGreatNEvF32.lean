/- Functions as trees, with their contracts. No conditions. -/
import Derived.Test.YtmapddgocpkgeaaGreatNEvF31
namespace Go.Proofs.YtmapddgocpkgeaaGreat.Ev
open Go.Proofs.YtmapddgocpkgeaaGreat.aa Go.RowKit
set_option linter.unusedVariables false
set_option maxRecDepth 100000
noncomputable section
namespace cM
def S (a0:List Int) (a1:Int):List (PV U):=aa.start C 33 [.sl 3 a0,.int .i64 a1] []
inductive X where
 | c6 (x0:List Int) (x1:List iw) (x2:Int)
def id:X→Nat
 | .c6 .. =>6
def st:X→List (PV U)
 | .c6 x0 x1 x2=>eA 33 [(5,.own true 3 x0),(6,.own true 182 x1),(7,.int .i64 x2)]
def begin (a0:List Int) (a1:Int):Tr X A:=
 .call (dD.told a0) fun t1=> .call (aK.told a1 (0:Int) (List.length t1:Int)) fun t2=> .ite (!t2)
  (.ret (([]:List iw)))
  (.jump (.c6 t1 ([]:List iw) a1))
def tree:X→Tr X A
 | .c6 x0 x1 x2=>
 .ite (decide (x2<(List.length x0:Int)))
  (.aC ((0:Int)≤x2∧x2<(List.length x0:Int)) (.aC (((List.length x1:Int)+(List.length ([(⟨x2,(dz x0 x2)⟩:iw)]):Int))*(16:Nat)≤room) (.jump (.c6 x0 (x1++[(⟨x2,(dz x0 x2)⟩:iw)]) (wr (x2+(1:Int)))))))
  (.ret x1)
def f (a0:List Int) (a1:Int):Option A:=(begin a0 a1).run (lp tree)
def Q:bE C:={PL with fM:=[(6,[5,6,7])]}
theorem e:df Pg C Q Tryz.f102 0 id st v o tree:=fun J K x=>by cases x<;>kernel_rfl
def told (a0:List Int) (a1:Int):aa.Told A:=⟨f a0 a1,fun r=>ae Pg C 102 (S a0 a1) 0 (v r) (o r),fun r h=>dy v o Tryz.func102 rfl (of_decide_eq_true (by kernel_rfl)) (by rfl) (fun _=>rfl) e (fun J K=>by kernel_rfl) h⟩
end cM
namespace fE
def S (a0:List Int) (a1 a2:Int):List (PV U):=aa.start C 34 [.agg [.sl 3 a0],.agg [.int .i64 a1,.int .i64 a2]] []
def begin (a0:List Int) (a1 a2:Int):Tr Empty A:=
 .call (aL.told a0) fun t1=>let u1_0:Tr Empty A:=(.last (.ret ((t1++[a2]),(List.length (t1++[a2]):Int))));let u1_1:Tr Empty A:=(.both (.last (.ret (t1,(List.length t1:Int)))) (.last (.ret (t1,(List.length t1:Int))))); .ite (decide (a1=(List.length a0:Int)))
  (.ite (decide ((List.length a0:Int)<(255:Int)))
   (.aC (((List.length t1:Int)+(List.length ([a2]):Int))*(8:Nat)≤room) (.both (u1_0)
    (u1_0)))
   (u1_1))
  (u1_1)
def f (a0:List Int) (a1 a2:Int):Option A:=(begin a0 a1 a2).run (lp aF)
def Q:bE C:={PL with iH:=[(4,[4],(.take 1 [] (.take 0 [1,2,3] (.alt 2 (.take 3 [] (.alt 4 (.take 5 [] .done) .nil)) (.alt 4 (.take 2 [0,1,4] (.take 3 [] (.take 5 [] .done))) .nil)))))]}
def told (a0:List Int) (a1 a2:Int):aa.Told A:=⟨f a0 a1 a2,fun r=>ae Pg C 147 (S a0 a1 a2) 0 (v r) (o r),fun r h=>aG (Q:=Q) v o Tryz.func147 rfl (of_decide_eq_true (by kernel_rfl)) (by rfl) (fun _=>rfl) (fun J K=>by kernel_rfl) h⟩
end fE
namespace bI
def S (a0:List Int) (a1:List iw) (a2:List Bool):List (PV U):=aa.start C 43 [.agg [.sl 3 a0],.sl 182 a1,.sl 4 a2] []
inductive X where
 | c3 (x0:List Bool) (x1 x2:List Int) (x3:List iw) (x4 x5:Int)
def id:X→Nat
 | .c3 .. =>3
def st:X→List (PV U)
 | .c3 x0 x1 x2 x3 x4 x5=>eA 43 [(2,.sl 4 x0),(6,.box [.own true 3 x1]),(8,.box [.own true 3 x2]),(15,.sl 182 x3),(16,.int .i64 x4),(17,.int .i64 x5)]
def begin (a0:List Int) (a1:List iw) (a2:List Bool):Tr X A:=
 .call (aL.told a0) fun t1=> .jump (.c3 a2 ([]:List Int) t1 a1 (List.length a1:Int) (0:Int))
def tree:X→Tr X A
 | .c3 x0 x1 x2 x3 x4 x5=>
 let u0_0:Tr X A:=(.jump (.c3 x0 x1 x2 x3 x4 (wr (x5+(1:Int))))); .ite (decide (x5<x4))
  (.aC ((0:Int)≤x5∧x5<(List.length x3:Int)) (.ite (decide (x5<(List.length x0:Int)))
   (.aC ((0:Int)≤x5∧x5<(List.length x0:Int)) (.ite (Dt x0 x5)
    (.call (fE.told x2 ((yg x3 x5).f0) ((yg x3 x5).f1)) fun t1=> .jump (.c3 x0 x1 t1.1 x3 x4 (wr (x5+(1:Int)))))
    (u0_0)))
   (u0_0)))
  (.both (.last (.ret (x2,(List.length x2:Int))))
   (.last (.ret (x2,(List.length x2:Int)))))
def f (a0:List Int) (a1:List iw) (a2:List Bool):Option A:=(begin a0 a1 a2).run (lp tree)
def Q:bE C:={PL with fM:=[(3,[2,6,8,15,16,17])],iH:=[(8,[4],(.take 1 [] (.take 0 [1,2,3] (.alt 2 (.take 3 [] (.alt 4 (.take 5 [] .done) .nil)) (.alt 4 (.take 2 [0,1,4] (.take 3 [] (.take 5 [] .done))) .nil)))))]}
theorem e:df Pg C Q Tryz.f101 0 id st v o tree:=fun J K x=>by cases x<;>kernel_rfl
def told (a0:List Int) (a1:List iw) (a2:List Bool):aa.Told A:=⟨f a0 a1 a2,fun r=>ae Pg C 101 (S a0 a1 a2) 0 (v r) (o r),fun r h=>dy v o Tryz.func101 rfl (of_decide_eq_true (by kernel_rfl)) (by rfl) (fun _=>rfl) e (fun J K=>by kernel_rfl) h⟩
end bI
namespace eu
def S (a0:List Int) (a1:Int) (a2:List Int) (a3:List Bool) (a4:Bool):List (PV U):=aa.start C 37 [.sl 3 a0,.agg [.int .i64 a1,.sl 3 a2],.sl 4 a3,.bool a4] []
def begin (a0:List Int) (a1:Int) (a2:List Int) (a3:List Bool) (a4:Bool):Tr Empty A:=
 .call (dN.told a1 a2) fun t1=> .call (fv.told a0 a1 a2) fun t2=> .ite (!t2)
  (.ret (t1.1,t1.2,false))
  (.both (.call (cM.told a0 a1) fun t3=> .both (.call (bI.told a2 t3 a3) fun t4=> .last (.last (.ite a4
   (.ret (t4.2,t4.1,true))
   (.ret (t1.1,t4.1,true)))))
    (.last (.last (.call (bI.told a2 t3 a3) fun t4=> .last (.ite a4
     (.ret (t4.2,t4.1,true))
     (.ret (t1.1,t4.1,true)))))))
   (.last (.last (.call (cM.told a0 a1) fun t3=> .last (.call (bI.told a2 t3 a3) fun t4=> .last (.ite a4
    (.ret (t4.2,t4.1,true))
    (.ret (t1.1,t4.1,true))))))))
def f (a0:List Int) (a1:Int) (a2:List Int) (a3:List Bool) (a4:Bool):Option A:=(begin a0 a1 a2 a3 a4).run (lp aF)
def Q:bE C:={PL with iH:=[(4,[12],(.take 0 [] (.take 2 [] (.take 3 [] (.take 6 [] (.take 1 [0,2,3,4,5,6,11] (.take 4 [0,1,2,3,6,11] (.alt 5 (.alt 7 (.take 8 [] (.take 9 [] (.take 10 [] (.alt 11 (.alt 12 (.take 13 [] .done) .nil) .nil)))) (.alt 11 (.alt 7 (.take 8 [] (.take 9 [] (.take 10 [] (.alt 12 (.take 13 [] .done) .nil)))) .nil) .nil)) (.alt 11 (.alt 5 (.alt 7 (.take 8 [] (.take 9 [] (.take 10 [] (.alt 12 (.take 13 [] .done) .nil)))) .nil) .nil) .nil)))))))))]}
def told (a0:List Int) (a1:Int) (a2:List Int) (a3:List Bool) (a4:Bool):aa.Told A:=⟨f a0 a1 a2 a3 a4,fun r=>ae Pg C 46 (S a0 a1 a2 a3 a4) 0 (v r) (o r),fun r h=>aG (Q:=Q) v o Tryz.func46 rfl (of_decide_eq_true (by kernel_rfl)) (by rfl) (fun _=>rfl) (fun J K=>by kernel_rfl) h⟩
end eu
namespace fa
def S (a0:List az) (a1 a2:List Int) (a3 a4 a5 a6 a7 a8 a9 a10:Int) (a11:List Int) (a12:Int) (a13:List Bool) (a14:Bool):List (PV U):=aa.start C 27 [.agg [.sl 164 a0,.sl 3 a1,.sl 3 a2,.int .i64 a3,.int .i64 a4,.int .i64 a5,.int .i64 a6,.int .i64 a7,.int .i64 a8,.int .i64 a9,.int .i64 a10,.sl 3 a11,.int .i64 a12],.sl 4 a13,.bool a14] []
def begin (a0:List az) (a1 a2:List Int) (a3 a4 a5 a6 a7 a8 a9 a10:Int) (a11:List Int) (a12:Int) (a13:List Bool) (a14:Bool):Tr Empty A:=
 .call (cZ.told a0 a1 a2 a3 a4 a5 a6 a7 a8 a9 a10 a11 a12) fun t1=> .call (cJ.told a0 a1 a2 a3 a4 a5 a6 a7 a8 a9 a10 a11 a12) fun t2=> .ite (!t2)
  (.ret (t1.1,t1.2.1,t1.2.2.1,t1.2.2.2.1,t1.2.2.2.2.1,t1.2.2.2.2.2.1,t1.2.2.2.2.2.2.1,t1.2.2.2.2.2.2.2.1,t1.2.2.2.2.2.2.2.2.1,t1.2.2.2.2.2.2.2.2.2.1,t1.2.2.2.2.2.2.2.2.2.2.1,t1.2.2.2.2.2.2.2.2.2.2.2.1,t1.2.2.2.2.2.2.2.2.2.2.2.2,false))
  (.call (eu.told a1 a10 a11 a13 a14) fun t3=> .ret (t1.1,t1.2.1,t1.2.2.1,t1.2.2.2.1,t1.2.2.2.2.1,t1.2.2.2.2.2.1,t1.2.2.2.2.2.2.1,t1.2.2.2.2.2.2.2.1,t1.2.2.2.2.2.2.2.2.1,t1.2.2.2.2.2.2.2.2.2.1,t3.1,t3.2.1,t1.2.2.2.2.2.2.2.2.2.2.2.2,true))
def f (a0:List az) (a1 a2:List Int) (a3 a4 a5 a6 a7 a8 a9 a10:Int) (a11:List Int) (a12:Int) (a13:List Bool) (a14:Bool):Option A:=(begin a0 a1 a2 a3 a4 a5 a6 a7 a8 a9 a10 a11 a12 a13 a14).run (lp aF)
def told (a0:List az) (a1 a2:List Int) (a3 a4 a5 a6 a7 a8 a9 a10:Int) (a11:List Int) (a12:Int) (a13:List Bool) (a14:Bool):aa.Told A:=⟨f a0 a1 a2 a3 a4 a5 a6 a7 a8 a9 a10 a11 a12 a13 a14,fun r=>ae Pg C 12 (S a0 a1 a2 a3 a4 a5 a6 a7 a8 a9 a10 a11 a12 a13 a14) 0 (v r) (o r),fun r h=>aG (Q:=PL) v o Tryz.func12 rfl (of_decide_eq_true (by kernel_rfl)) (by rfl) (fun _=>rfl) (fun J K=>by kernel_rfl) h⟩
end fa
namespace fA
def S (a0:List az) (a1 a2:List Int) (a3 a4 a5 a6 a7 a8 a9 a10:Int) (a11:List Int) (a12:Int):List (PV U):=aa.start C 9 [.agg [.sl 164 a0,.sl 3 a1,.sl 3 a2,.int .i64 a3,.int .i64 a4,.int .i64 a5,.int .i64 a6,.int .i64 a7,.int .i64 a8,.int .i64 a9,.int .i64 a10,.sl 3 a11,.int .i64 a12]] []
def begin (a0:List az) (a1 a2:List Int) (a3 a4 a5 a6 a7 a8 a9 a10:Int) (a11:List Int) (a12:Int):Tr Empty A:=
 .call (cJ.told a0 a1 a2 a3 a4 a5 a6 a7 a8 a9 a10 a11 a12) fun t1=> .ite (!t1)
  (.ret (([]:List Int)))
  (.call (dD.told a1) fun t2=> .ret t2)
def f (a0:List az) (a1 a2:List Int) (a3 a4 a5 a6 a7 a8 a9 a10:Int) (a11:List Int) (a12:Int):Option A:=(begin a0 a1 a2 a3 a4 a5 a6 a7 a8 a9 a10 a11 a12).run (lp aF)
def told (a0:List az) (a1 a2:List Int) (a3 a4 a5 a6 a7 a8 a9 a10:Int) (a11:List Int) (a12:Int):aa.Told A:=⟨f a0 a1 a2 a3 a4 a5 a6 a7 a8 a9 a10 a11 a12,fun r=>ae Pg C 15 (S a0 a1 a2 a3 a4 a5 a6 a7 a8 a9 a10 a11 a12) 0 (v r) (o r),fun r h=>aG (Q:=PL) v o Tryz.func15 rfl (of_decide_eq_true (by kernel_rfl)) (by rfl) (fun _=>rfl) (fun J K=>by kernel_rfl) h⟩
end fA
namespace dX
def S (a0:Int) (a1:List Int):List (PV U):=aa.start C 7 [.agg [.int .i64 a0,.sl 3 a1]] []
def begin (a0:Int) (a1:List Int):Tr Empty A:=
 .call (aL.told a1) fun t1=> .ret t1
def f (a0:Int) (a1:List Int):Option A:=(begin a0 a1).run (lp aF)
def told (a0:Int) (a1:List Int):aa.Told A:=⟨f a0 a1,fun r=>ae Pg C 16 (S a0 a1) 0 (v r) (o r),fun r h=>aG (Q:=PL) v o Tryz.func16 rfl (of_decide_eq_true (by kernel_rfl)) (by rfl) (fun _=>rfl) (fun J K=>by kernel_rfl) h⟩
end dX
end
end Go.Proofs.YtmapddgocpkgeaaGreat.Ev
