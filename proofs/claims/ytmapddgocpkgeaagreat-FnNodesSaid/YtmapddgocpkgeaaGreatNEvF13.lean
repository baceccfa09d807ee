/- Functions as trees, with their contracts. No conditions. -/
import Derived.Test.YtmapddgocpkgeaaGreatNEvF12
namespace Go.Proofs.YtmapddgocpkgeaaGreat.Ev
open Go.Proofs.YtmapddgocpkgeaaGreat.aa Go.RowKit
set_option linter.unusedVariables false
set_option maxRecDepth 100000
noncomputable section
namespace bD
def S (a0:List az) (a1 a2:List Int) (a3 a4:Int):List (PV U):=aa.start C 114 [.agg [.sl 164 a0],.sl 3 a1,.sl 3 a2,.int .i64 a3,.int .i64 a4] []
inductive X where
 | c8 (x0:List Int) (x1:List az) (x2:List Int) (x3:Int) (x4:List (List Int)) (x5:Int) (x6:List Int) (x7:Int) (x8:List (List Int)) (x9:Int)
 | c12 (x0:List Int) (x1:List az) (x2:List Int) (x3:Int) (x4:List (List Int)) (x5:Int) (x6:List Int) (x7:Int) (x8:List (List Int)) (x9 x10:Int) (x11:List aO) (x12:List Int) (x13:Int)
def id:X→Nat
 | .c8 .. =>8
 | .c12 .. =>12
def st:X→List (PV U)
 | .c8 x0 x1 x2 x3 x4 x5 x6 x7 x8 x9=>eA 114 [(2,.sl 3 x0),(5,.box [.sl 164 x1]),(10,.box [.own true 3 x2,.int .i64 x3,.own true 27 x4,.int .i64 x5]),(11,.box [.own true 3 x6,.int .i64 x7,.own true 27 x8,.int .i64 x9])]
 | .c12 x0 x1 x2 x3 x4 x5 x6 x7 x8 x9 x10 x11 x12 x13=>eA 114 [(2,.sl 3 x0),(5,.box [.sl 164 x1]),(10,.box [.own true 3 x2,.int .i64 x3,.own true 27 x4,.int .i64 x5]),(11,.box [.own true 3 x6,.int .i64 x7,.own true 27 x8,.int .i64 x9]),(13,.int .i64 x10),(14,.box [.own true 179 x11,.own true 3 x12]),(15,.int .i64 x13)]
def begin (a0:List az) (a1 a2:List Int) (a3 a4:Int):Tr X A:=
 .call (ba.told a1) fun t1=> .aC ((3:Int)≠0) (.val ((if(wr (Int.tdiv a4 (3:Int)))<(List.length t1:Int)then(wr (Int.tdiv a4 (3:Int)))else(List.length t1:Int)):Int) fun v2=> .call (bJ.told a1 t1 v2) fun t3=> .ite (decide (v2<(List.length t1:Int)))
  (.ret (t3,a3,([]:List (List Int)),(wr (a4-(wr (v2*(3:Int)))))))
  (.jump (.c8 a2 a0 ([]:List Int) (0:Int) ([]:List (List Int)) (0:Int) t3 a3 ([]:List (List Int)) (wr (a4-(wr (v2*(3:Int))))))))
def tree:X→Tr X A
 | .c8 x0 x1 x2 x3 x4 x5 x6 x7 x8 x9=>
 .ite (decide ((List.length x8:Int)<(10:Int)))
  (.call (eD.told x1 x6 x0 x7) fun t1=> .call (cm.told t1.1 t1.2 x9) fun t2=> .jump (.c12 x0 x1 x2 x3 x4 x5 x6 x7 x8 x9 t2 t1.1 t1.2 (0:Int)))
  (.ret (x6,x7,x8,x9))
 | .c12 x0 x1 x2 x3 x4 x5 x6 x7 x8 x9 x10 x11 x12 x13=>
 .ite (decide (x13<x10))
  (.aC ((0:Int)≤x13∧x13<(List.length x11:Int)) (.last (.aC ((0:Int)≤x13∧x13<(List.length x11:Int)) (.ite (!decide ((gq x11 x13).f1=(-1:Int)))
   (.aC ((0:Int)≤x13∧x13<(List.length x11:Int)) (.aC ((0:Int)≤x13∧x13<(List.length x11:Int)) (.aC ((0:Int)≤(gq x11 x13).f1∧(gq x11 x13).f1<(List.length x6:Int)) (.last (.jump (.c12 x0 x1 x2 x3 x4 x5 (List.set x6 (Int.toNat ((gq x11 x13).f1)) ((gq x11 x13).f2)) x7 x8 (wr (x9-(gq x11 x13).f0)) x10 x11 x12 (wr (x13+(1:Int)))))))))
   (.jump (.c12 x0 x1 x2 x3 x4 x5 x6 x7 x8 (wr (x9-(gq x11 x13).f0)) x10 x11 x12 (wr (x13+(1:Int)))))))))
  (.last (.call (cA.told x11 x12 x10) fun t1=> .last (.ite (decide (x10<(List.length x11:Int)))
   (.ret (x6,(wr (x7+t1)),x8,x9))
   (.aC (((List.length x8:Int)+(List.length ([x12]):Int))*(24:Nat)≤room) (.jump (.c8 x0 x1 x2 x3 x4 x5 x6 (wr (x7+t1)) (x8++[x12]) x9))))))
def f (a0:List az) (a1 a2:List Int) (a3 a4:Int):Option A:=(begin a0 a1 a2 a3 a4).run (lp tree)
def Q:bE C:={PL with fM:=[(8,[2,5,10,11]),(12,[2,5,10,11,13,14,15])],iH:=[(14,[10],(.take 0 [] (.take 2 [] (.take 4 [] (.take 1 [0,2,3,4,5,6,7] (.take 3 [0,1,2,4] (.take 5 [] (.take 6 [] (.take 7 [0,1,2,3,4,5,6] (.take 8 [] (.take 9 [] (.alt 10 .done .nil)))))))))))),(16,[15],(.take 0 [] (.take 2 [] (.take 4 [] (.take 8 [] (.take 10 [] (.take 1 [0,2,3,4,5,6,7,8,9,10,11,12,13] (.take 3 [0,1,2,4,8,9,10,11,12,13] (.take 5 [] (.take 6 [] (.take 7 [0,1,2,3,4,5,6,8,9,10,11,12,13] (.take 9 [0,1,2,3,4,5,6,7,8,10] (.take 11 [] (.take 12 [] (.take 13 [0,1,2,3,4,5,6,7,8,9,10,11,12] (.take 14 [] (.alt 15 .done .nil))))))))))))))))),(17,[7],(.take 0 [] (.take 3 [] (.take 1 [0,2,3,4] (.take 2 [0,1,3] (.alt 4 (.take 5 [] (.take 6 [] (.alt 7 .done .nil))) .nil))))))]}
theorem e:df Pg C Q Tryz.f120 0 id st v o tree:=fun J K x=>by cases x<;>kernel_rfl
def told (a0:List az) (a1 a2:List Int) (a3 a4:Int):aa.Told A:=⟨f a0 a1 a2 a3 a4,fun r=>ae Pg C 120 (S a0 a1 a2 a3 a4) 0 (v r) (o r),fun r h=>dy v o Tryz.func120 rfl (of_decide_eq_true (by kernel_rfl)) (by rfl) (fun _=>rfl) e (fun J K=>by kernel_rfl) h⟩
end bD
namespace eM
def S (a0:List az) (a1 a2:List Int) (a3 a4 a5 a6 a7 a8 a9 a10:Int) (a11:List Int) (a12 a13:Int):List (PV U):=aa.start C 53 [.agg [.sl 164 a0,.sl 3 a1,.sl 3 a2,.int .i64 a3,.int .i64 a4,.int .i64 a5,.int .i64 a6,.int .i64 a7,.int .i64 a8,.int .i64 a9,.int .i64 a10,.sl 3 a11,.int .i64 a12],.int .i64 a13] []
def begin (a0:List az) (a1 a2:List Int) (a3 a4 a5 a6 a7 a8 a9 a10:Int) (a11:List Int) (a12 a13:Int):Tr Empty A:=
 .call (cV.told a0 a1 a2 a3 a4 a5 a6 a7 a8 a9 a10 a11 a12) fun t1=> .call (ff.told a4 a5 a6 a7 a13) fun t2=> .call (fH.told a8 a9 (1:Int)) fun t3=> .ite (decide (t2.1≥t2.2.2.1))
  (.call (bD.told a0 a1 a2 a3 t2.1) fun t4=> .ret (t1.1,t4.1,t1.2.2.1,t4.2.1,(0:Int),t2.2.1,t2.2.2.1,t2.2.2.2,t3.1,t3.2,t1.2.2.2.2.2.2.2.2.2.2.1,t1.2.2.2.2.2.2.2.2.2.2.2.1,(wr (a12+(List.length t4.2.2.1:Int)))))
  (.ret (t1.1,t1.2.1,t1.2.2.1,t1.2.2.2.1,t2.1,t2.2.1,t2.2.2.1,t2.2.2.2,t3.1,t3.2,t1.2.2.2.2.2.2.2.2.2.2.1,t1.2.2.2.2.2.2.2.2.2.2.2.1,t1.2.2.2.2.2.2.2.2.2.2.2.2))
def f (a0:List az) (a1 a2:List Int) (a3 a4 a5 a6 a7 a8 a9 a10:Int) (a11:List Int) (a12 a13:Int):Option A:=(begin a0 a1 a2 a3 a4 a5 a6 a7 a8 a9 a10 a11 a12 a13).run (lp aF)
def told (a0:List az) (a1 a2:List Int) (a3 a4 a5 a6 a7 a8 a9 a10:Int) (a11:List Int) (a12 a13:Int):aa.Told A:=⟨f a0 a1 a2 a3 a4 a5 a6 a7 a8 a9 a10 a11 a12 a13,fun r=>ae Pg C 62 (S a0 a1 a2 a3 a4 a5 a6 a7 a8 a9 a10 a11 a12 a13) 0 (v r) (o r),fun r h=>aG (Q:=PL) v o Tryz.func62 rfl (of_decide_eq_true (by kernel_rfl)) (by rfl) (fun _=>rfl) (fun J K=>by kernel_rfl) h⟩
end eM
namespace dL
def S (a0:List az) (a1 a2:List Int) (a3 a4 a5 a6 a7 a8 a9 a10:Int) (a11:List Int) (a12 a13:Int):List (PV U):=aa.start C 26 [.agg [.sl 164 a0,.sl 3 a1,.sl 3 a2,.int .i64 a3,.int .i64 a4,.int .i64 a5,.int .i64 a6,.int .i64 a7,.int .i64 a8,.int .i64 a9,.int .i64 a10,.sl 3 a11,.int .i64 a12],.int .i64 a13] []
def begin (a0:List az) (a1 a2:List Int) (a3 a4 a5 a6 a7 a8 a9 a10:Int) (a11:List Int) (a12 a13:Int):Tr Empty A:=
 .call (eZ.told a0 a1 a2 a3 a4 a5 a6 a7 a8 a9 a10 a11 a12) fun t1=> .ite (!t1)
  (.call (cV.told a0 a1 a2 a3 a4 a5 a6 a7 a8 a9 a10 a11 a12) fun t2=> .ret (t2.1,t2.2.1,t2.2.2.1,t2.2.2.2.1,t2.2.2.2.2.1,t2.2.2.2.2.2.1,t2.2.2.2.2.2.2.1,t2.2.2.2.2.2.2.2.1,t2.2.2.2.2.2.2.2.2.1,t2.2.2.2.2.2.2.2.2.2.1,t2.2.2.2.2.2.2.2.2.2.2.1,t2.2.2.2.2.2.2.2.2.2.2.2.1,t2.2.2.2.2.2.2.2.2.2.2.2.2,false))
  (.call (aE.told a13 (0:Int) (1000:Int)) fun t2=> .ite (!t2)
   (.call (cV.told a0 a1 a2 a3 a4 a5 a6 a7 a8 a9 a10 a11 a12) fun t3=> .ret (t3.1,t3.2.1,t3.2.2.1,t3.2.2.2.1,t3.2.2.2.2.1,t3.2.2.2.2.2.1,t3.2.2.2.2.2.2.1,t3.2.2.2.2.2.2.2.1,t3.2.2.2.2.2.2.2.2.1,t3.2.2.2.2.2.2.2.2.2.1,t3.2.2.2.2.2.2.2.2.2.2.1,t3.2.2.2.2.2.2.2.2.2.2.2.1,t3.2.2.2.2.2.2.2.2.2.2.2.2,false))
   (.call (eM.told a0 a1 a2 a3 a4 a5 a6 a7 a8 a9 a10 a11 a12 a13) fun t3=> .call (eZ.told t3.1 t3.2.1 t3.2.2.1 t3.2.2.2.1 t3.2.2.2.2.1 t3.2.2.2.2.2.1 t3.2.2.2.2.2.2.1 t3.2.2.2.2.2.2.2.1 t3.2.2.2.2.2.2.2.2.1 t3.2.2.2.2.2.2.2.2.2.1 t3.2.2.2.2.2.2.2.2.2.2.1 t3.2.2.2.2.2.2.2.2.2.2.2.1 t3.2.2.2.2.2.2.2.2.2.2.2.2) fun t4=> .ite (!t4)
    (.call (cV.told a0 a1 a2 a3 a4 a5 a6 a7 a8 a9 a10 a11 a12) fun t5=> .ret (t5.1,t5.2.1,t5.2.2.1,t5.2.2.2.1,t5.2.2.2.2.1,t5.2.2.2.2.2.1,t5.2.2.2.2.2.2.1,t5.2.2.2.2.2.2.2.1,t5.2.2.2.2.2.2.2.2.1,t5.2.2.2.2.2.2.2.2.2.1,t5.2.2.2.2.2.2.2.2.2.2.1,t5.2.2.2.2.2.2.2.2.2.2.2.1,t5.2.2.2.2.2.2.2.2.2.2.2.2,false))
    (.ret (t3.1,t3.2.1,t3.2.2.1,t3.2.2.2.1,t3.2.2.2.2.1,t3.2.2.2.2.2.1,t3.2.2.2.2.2.2.1,t3.2.2.2.2.2.2.2.1,t3.2.2.2.2.2.2.2.2.1,t3.2.2.2.2.2.2.2.2.2.1,t3.2.2.2.2.2.2.2.2.2.2.1,t3.2.2.2.2.2.2.2.2.2.2.2.1,t3.2.2.2.2.2.2.2.2.2.2.2.2,true))))
def f (a0:List az) (a1 a2:List Int) (a3 a4 a5 a6 a7 a8 a9 a10:Int) (a11:List Int) (a12 a13:Int):Option A:=(begin a0 a1 a2 a3 a4 a5 a6 a7 a8 a9 a10 a11 a12 a13).run (lp aF)
def told (a0:List az) (a1 a2:List Int) (a3 a4 a5 a6 a7 a8 a9 a10:Int) (a11:List Int) (a12 a13:Int):aa.Told A:=⟨f a0 a1 a2 a3 a4 a5 a6 a7 a8 a9 a10 a11 a12 a13,fun r=>ae Pg C 18 (S a0 a1 a2 a3 a4 a5 a6 a7 a8 a9 a10 a11 a12 a13) 0 (v r) (o r),fun r h=>aG (Q:=PL) v o Tryz.func18 rfl (of_decide_eq_true (by kernel_rfl)) (by rfl) (fun _=>rfl) (fun J K=>by kernel_rfl) h⟩
end dL
namespace dI
def S (a0:Int) (a1:List Int) (a2 a3:Int):List (PV U):=aa.start C 20 [.ptr 20 0,.int .i64 a0] [.box [.sl 5 a1,.int .i64 a2,.int .i64 a3]]
inductive X where
 | c3 (x0:Int) (x1:List Bool) (x2:Int) (x3:List Int) (x4 x5:Int)
def id:X→Nat
 | .c3 .. =>3
def st:X→List (PV U)
 | .c3 x0 x1 x2 x3 x4 x5=>eA 21 [(0,.ptr 20 0),(1,.int .i64 x0),(5,.own true 4 x1),(6,.int .i64 x2),(20,.box [.sl 5 x3,.int .i64 x4,.int .i64 x5])]
def begin (a0:Int) (a1:List Int) (a2 a3:Int):Tr X A:=
 .jump (.c3 a0 ([]:List Bool) (0:Int) a1 a2 a3)
def tree:X→Tr X A
 | .c3 x0 x1 x2 x3 x4 x5=>
 .ite (decide (x2<x0))
  (.call (bF.told (3:Int) x3 x4 x5) fun t1=> .aC (((List.length x1:Int)+(List.length ([(!t1.1)]):Int))*(1:Nat)≤room) (.jump (.c3 x0 (x1++[(!t1.1)]) (wr (x2+(1:Int))) t1.2.1 t1.2.2.1 t1.2.2.2)))
  (.ret (x1,x3,x4,x5))
def f (a0:Int) (a1:List Int) (a2 a3:Int):Option A:=(begin a0 a1 a2 a3).run (lp tree)
def Q:bE C:={PL with fM:=[(3,[0,1,5,6,20])]}
theorem e:df Pg C Q Tryz.f93 1 id st v o tree:=fun J K x=>by cases x<;>kernel_rfl
def told (a0:Int) (a1:List Int) (a2 a3:Int):aa.Told A:=⟨f a0 a1 a2 a3,fun r=>ae Pg C 93 (S a0 a1 a2 a3) 1 (v r) (o r),fun r h=>dy v o Tryz.func93 rfl (of_decide_eq_true (by kernel_rfl)) (by rfl) (fun _=>rfl) e (fun J K=>by kernel_rfl) h⟩
end dI
end
end Go.Proofs.YtmapddgocpkgeaaGreat.Ev
