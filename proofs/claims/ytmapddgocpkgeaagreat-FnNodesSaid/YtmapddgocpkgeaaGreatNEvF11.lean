/- Functions as trees, with their contracts. No conditions. -/
import Derived.Test.YtmapddgocpkgeaaGreatNEvF10
namespace Go.Proofs.YtmapddgocpkgeaaGreat.Ev
open Go.Proofs.YtmapddgocpkgeaaGreat.aa Go.RowKit
set_option linter.unusedVariables false
set_option maxRecDepth 100000
noncomputable section
namespace aq
def S (a0:List aw) (a1 a2:Int) (a3 a4 a5 a6 a7:List Int) (a8:Int) (a9:Bool) (a10:List aO) (a11 a12:List Int) (a13 a14:Int):List (PV U):=aa.start C 133 [.ptr 133 0,.sl 204 a0,.int .i64 a1,.int .i64 a2] [.box [.own true 3 a3,.own true 3 a4,.own true 3 a5,.own true 3 a6,.sl 3 a7,.int .i64 a8,.bool a9,.own true 179 a10,.own true 3 a11,.own true 3 a12,.int .i64 a13,.int .i64 a14]]
abbrev I:=(List aw)×Int×Int×(List Int)×(List Int)×(List Int)×(List Int)×(List Int)×Int×Bool×(List aO)×(List Int)×(List Int)×Int×Int
abbrev K:I→A→Prop:=fun i_ r=>ae Pg C 195 (S i_.1 i_.2.1 i_.2.2.1 i_.2.2.2.1 i_.2.2.2.2.1 i_.2.2.2.2.2.1 i_.2.2.2.2.2.2.1 i_.2.2.2.2.2.2.2.1 i_.2.2.2.2.2.2.2.2.1 i_.2.2.2.2.2.2.2.2.2.1 i_.2.2.2.2.2.2.2.2.2.2.1 i_.2.2.2.2.2.2.2.2.2.2.2.1 i_.2.2.2.2.2.2.2.2.2.2.2.2.1 i_.2.2.2.2.2.2.2.2.2.2.2.2.2.1 i_.2.2.2.2.2.2.2.2.2.2.2.2.2.2) 1 (v r) (o r)
inductive X where
 | c1 (x0:List aw) (x1 x2:Int) (x3 x4 x5 x6 x7:List Int) (x8:Int) (x9:Bool) (x10:List aO) (x11 x12:List Int) (x13 x14:Int)
 | c6 (x0:List aw) (x1 x2 x3 x4 x5 x6 x7 x8:Int) (x9 x10 x11 x12 x13:List Int) (x14:Int) (x15:Bool) (x16:List aO) (x17 x18:List Int) (x19 x20:Int)
 | c2 (x0:List aw) (x1 x2:Int) (x3 x4 x5 x6 x7:List Int) (x8:Int) (x9:Bool) (x10:List aO) (x11 x12:List Int) (x13 x14:Int)
 | c24 (x0:List aw) (x1 x2 x3 x4 x5:Int) (x6 x7 x8 x9 x10:List Int) (x11:Int) (x12:Bool) (x13:List aO) (x14 x15:List Int) (x16 x17:Int)
def id:X→Nat
 | .c1 .. =>1
 | .c6 .. =>6
 | .c2 .. =>2
 | .c24 .. =>24
def st:X→List (PV U)
 | .c1 x0 x1 x2 x3 x4 x5 x6 x7 x8 x9 x10 x11 x12 x13 x14=>eA 134 [(0,.ptr 133 0),(1,.sl 204 x0),(3,.int .i64 x1),(8,.int .i64 x2),(133,.box [.own true 3 x3,.own true 3 x4,.own true 3 x5,.own true 3 x6,.sl 3 x7,.int .i64 x8,.bool x9,.own true 179 x10,.own true 3 x11,.own true 3 x12,.int .i64 x13,.int .i64 x14])]
 | .c6 x0 x1 x2 x3 x4 x5 x6 x7 x8 x9 x10 x11 x12 x13 x14 x15 x16 x17 x18 x19 x20=>eA 134 [(0,.ptr 133 0),(1,.sl 204 x0),(3,.int .i64 x1),(8,.int .i64 x2),(9,.box [.int .i64 x3,.int .i64 x4,.int .i64 x5,.int .i64 x6,.int .i64 x7,.int .i64 x8]),(133,.box [.own true 3 x9,.own true 3 x10,.own true 3 x11,.own true 3 x12,.sl 3 x13,.int .i64 x14,.bool x15,.own true 179 x16,.own true 3 x17,.own true 3 x18,.int .i64 x19,.int .i64 x20])]
 | .c2 x0 x1 x2 x3 x4 x5 x6 x7 x8 x9 x10 x11 x12 x13 x14=>eA 134 [(0,.ptr 133 0),(1,.sl 204 x0),(3,.int .i64 x1),(8,.int .i64 x2),(133,.box [.own true 3 x3,.own true 3 x4,.own true 3 x5,.own true 3 x6,.sl 3 x7,.int .i64 x8,.bool x9,.own true 179 x10,.own true 3 x11,.own true 3 x12,.int .i64 x13,.int .i64 x14])]
 | .c24 x0 x1 x2 x3 x4 x5 x6 x7 x8 x9 x10 x11 x12 x13 x14 x15 x16 x17=>eA 134 [(0,.ptr 133 0),(1,.sl 204 x0),(3,.int .i64 x1),(8,.int .i64 x2),(12,.int .i64 x3),(13,.int .i64 x4),(14,.int .i64 x5),(133,.box [.own true 3 x6,.own true 3 x7,.own true 3 x8,.own true 3 x9,.sl 3 x10,.int .i64 x11,.bool x12,.own true 179 x13,.own true 3 x14,.own true 3 x15,.int .i64 x16,.int .i64 x17])]
def begin (self_:Self I A K) (a0:List aw) (a1 a2:Int) (a3 a4 a5 a6 a7:List Int) (a8:Int) (a9:Bool) (a10:List aO) (a11 a12:List Int) (a13 a14:Int):Tr X A:=
 .jump (.c1 a0 a2 a1 a3 a4 a5 a6 a7 a8 a9 a10 a11 a12 a13 a14)
def tree (self_:Self I A K):X→Tr X A
 | .c1 x0 x1 x2 x3 x4 x5 x6 x7 x8 x9 x10 x11 x12 x13 x14=>
 .ite (decide (x2<x1))
  (.aC ((0:Int)≤x2∧x2<(List.length x0:Int)) (.ite (!decide ((ak x0 x2).f0=(6:Int)))
   (.call (fl.told ((ak x0 x2).f0) ((ak x0 x2).f1) ((ak x0 x2).f2) ((ak x0 x2).f3.f0) ((ak x0 x2).f3.f1) ((ak x0 x2).f3.f2)) fun t1=> .call (ez.told t1 x3 x4 x5 x6 x7 x8 x9 x10 x11 x12 x13 x14) fun t2=> .jump (.c6 x0 x1 x2 ((ak x0 x2).f0) ((ak x0 x2).f1) ((ak x0 x2).f2) ((ak x0 x2).f3.f0) ((ak x0 x2).f3.f1) ((ak x0 x2).f3.f2) t2.1 t2.2.1 t2.2.2.1 t2.2.2.2.1 t2.2.2.2.2.1 t2.2.2.2.2.2.1 t2.2.2.2.2.2.2.1 t2.2.2.2.2.2.2.2.1 t2.2.2.2.2.2.2.2.2.1 t2.2.2.2.2.2.2.2.2.2.1 t2.2.2.2.2.2.2.2.2.2.2.1 t2.2.2.2.2.2.2.2.2.2.2.2))
   (.jump (.c6 x0 x1 x2 ((ak x0 x2).f0) ((ak x0 x2).f1) ((ak x0 x2).f2) ((ak x0 x2).f3.f0) ((ak x0 x2).f3.f1) ((ak x0 x2).f3.f2) x3 x4 x5 x6 x7 x8 x9 x10 x11 x12 x13 x14))))
  (.ret (x3,x4,x5,x6,x7,x8,x9,x10,x11,x12,x13,x14))
 | .c6 x0 x1 x2 x3 x4 x5 x6 x7 x8 x9 x10 x11 x12 x13 x14 x15 x16 x17 x18 x19 x20=>
 let u0_0:Tr X A:=(.jump (.c2 x0 x1 x2 x9 x10 x11 x12 x13 x14 x15 x16 x17 x18 x19 x20));let u0_1:Tr X A:=(.last (.call (eB.told x5 x9 x10 x11 x12 x13 x14 x15 x16 x17 x18 x19 x20) fun t1=> .last (.call (bO.told x4 t1.1 t1.2.1 t1.2.2.1 t1.2.2.2.1 t1.2.2.2.2.1 t1.2.2.2.2.2.1 t1.2.2.2.2.2.2.1 t1.2.2.2.2.2.2.2.1 t1.2.2.2.2.2.2.2.2.1 t1.2.2.2.2.2.2.2.2.2.1 t1.2.2.2.2.2.2.2.2.2.2.1 t1.2.2.2.2.2.2.2.2.2.2.2.1 t1.2.2.2.2.2.2.2.2.2.2.2.2) fun t2=> .jump (.c2 x0 x1 x2 t2.1 t2.2.1 t2.2.2.1 t2.2.2.2.1 t2.2.2.2.2.1 t2.2.2.2.2.2.1 t2.2.2.2.2.2.2.1 t2.2.2.2.2.2.2.2.1 t2.2.2.2.2.2.2.2.2.1 t2.2.2.2.2.2.2.2.2.2.1 t2.2.2.2.2.2.2.2.2.2.2.1 t2.2.2.2.2.2.2.2.2.2.2.2))));let u0_2:Tr X A:=(.call (cn.told x0 x2) fun t1=> .ite (decide (x3=(4:Int))) (.last (.call (cw.told x9 x6 x7 x8) fun t2=> .last (.call (fJ.told (!decide (t2=(0:Int)))) fun t3=> .jump (.c24 x0 x1 x2 t1 t3 (0:Int) x9 x10 x11 x12 x13 x14 x15 x16 x17 x18 x19 x20)))) (.jump (.c24 x0 x1 x2 t1 x5 (0:Int) x9 x10 x11 x12 x13 x14 x15 x16 x17 x18 x19 x20))); .ite (decide (x3=(1:Int)))
  (.last (.call (cw.told x9 x6 x7 x8) fun t1=> .last (.call (bO.told x4 t1 x9 x10 x11 x12 x13 x14 x15 x16 x17 x18 x19 x20) fun t2=> .jump (.c2 x0 x1 x2 t2.1 t2.2.1 t2.2.2.1 t2.2.2.2.1 t2.2.2.2.2.1 t2.2.2.2.2.2.1 t2.2.2.2.2.2.2.1 t2.2.2.2.2.2.2.2.1 t2.2.2.2.2.2.2.2.2.1 t2.2.2.2.2.2.2.2.2.2.1 t2.2.2.2.2.2.2.2.2.2.2.1 t2.2.2.2.2.2.2.2.2.2.2.2))))
  (.ite (decide (x3=(2:Int)))
   (.both (u0_1)
    (u0_1))
   (.ite (decide (x3=(3:Int)))
    (.last (.call (cw.told x9 x6 x7 x8) fun t1=> .aC (((List.length x10:Int)+(List.length ([t1]):Int))*(8:Nat)≤room) (.ite (decide ((wr (x20+(List.length x10:Int)))<(24:Int)))
     (.call (bX.told (wr ((25:Int)+(wr (x20+(List.length x10:Int))))) t1 x9 (x10++[t1]) x11 x12 x13 x14 x15 x16 x17 x18 x19 x20) fun t2=> .jump (.c2 x0 x1 x2 t2.1 t2.2.1 t2.2.2.1 t2.2.2.2.1 t2.2.2.2.2.1 t2.2.2.2.2.2.1 t2.2.2.2.2.2.2.1 t2.2.2.2.2.2.2.2.1 t2.2.2.2.2.2.2.2.2.1 t2.2.2.2.2.2.2.2.2.2.1 t2.2.2.2.2.2.2.2.2.2.2.1 t2.2.2.2.2.2.2.2.2.2.2.2))
     (.jump (.c2 x0 x1 x2 x9 (x10++[t1]) x11 x12 x13 x14 x15 x16 x17 x18 x19 x20)))))
    (.ite (decide (x3=(4:Int)))
     (.ite (decide (x3=(4:Int)))
      (u0_2)
      (u0_0))
     (.ite (decide (x3=(5:Int)))
      (u0_2)
      (u0_0)))))
 | .c2 x0 x1 x2 x3 x4 x5 x6 x7 x8 x9 x10 x11 x12 x13 x14=>
 .jump (.c1 x0 x1 (wr (x2+(1:Int))) x3 x4 x5 x6 x7 x8 x9 x10 x11 x12 x13 x14)
 | .c24 x0 x1 x2 x3 x4 x5 x6 x7 x8 x9 x10 x11 x12 x13 x14 x15 x16 x17=>
 .ite (decide (x5<x4))
  (.call (self_.told (x0,(wr (x2+(1:Int))),x3,x6,x7,x8,x9,x10,x11,x12,x13,x14,x15,x16,x17)) fun t1=> .jump (.c24 x0 x1 x2 x3 x4 (wr (x5+(1:Int))) t1.1 t1.2.1 t1.2.2.1 t1.2.2.2.1 t1.2.2.2.2.1 t1.2.2.2.2.2.1 t1.2.2.2.2.2.2.1 t1.2.2.2.2.2.2.2.1 t1.2.2.2.2.2.2.2.2.1 t1.2.2.2.2.2.2.2.2.2.1 t1.2.2.2.2.2.2.2.2.2.2.1 t1.2.2.2.2.2.2.2.2.2.2.2))
  (.jump (.c2 x0 x1 x3 x6 x7 x8 x9 x10 x11 x12 x13 x14 x15 x16 x17))
def Q:bE C:={PL with fM:=[(1,[0,1,3,8,133]),(2,[0,1,3,8,133]),(6,[0,1,3,8,9,133]),(24,[0,1,3,8,12,13,14,133])],iH:=[(8,[11],(.take 0 [] (.take 1 [] (.take 3 [] (.take 4 [] (.take 5 [] (.take 6 [] (.take 8 [] (.take 2 [0,1,3,4,5,6,7,8,9,10] (.take 7 [0,1,2,3,4,5,6,8,9] (.take 9 [0,1,2,3,4,5,6,7,8] (.alt 10 (.alt 11 .done .nil) .nil)))))))))))),(10,[8,9],(.take 0 [] (.take 1 [] (.take 3 [] (.take 4 [] (.take 5 [] (.take 6 [] (.take 7 [0,1,2,3,4,5,6] (.alt 2 (.alt 8 (.alt 9 .done .nil) .nil) (.alt 8 (.take 2 [0,1,3,4,5,6,7,8] (.alt 9 .done .nil)) .nil)))))))))),(12,[],(.take 0 [] (.take 1 [] (.take 2 [] (.take 4 [] (.take 5 [] (.take 6 [] (.take 7 [] (.take 3 [0,1,2,4,5,6,7,8,9] (.take 8 [0,1,2,3,4,5,6,7] (.take 9 [] (.take 10 [] (.take 11 [] .done))))))))))))),(13,[],(.take 0 [] (.take 1 [] (.take 2 [] (.take 3 [] (.take 5 [] (.take 4 [0,1,2,3,5,6] (.take 6 [0,1,2,3,4,5] (.alt 7 (.take 8 [] .done) .nil))))))))),(22,[],(.take 0 [] (.take 1 [] (.take 2 [] (.take 3 [] (.take 5 [] (.take 4 [0,1,2,3,5,6] (.take 6 [0,1,2,3,4,5] (.alt 7 (.take 8 [] (.alt 9 (.take 10 [] .done) .nil)) .nil)))))))))]}
theorem e (self_:Self I A K):df Pg C Q Tryz.f195 1 id st v o (tree self_):=fun J K x=>by cases x<;>kernel_rfl
theorem b (self_:Self I A K) (a0:List aw) (a1 a2:Int) (a3 a4 a5 a6 a7:List Int) (a8:Int) (a9:Bool) (a10:List aO) (a11 a12:List Int) (a13 a14:Int):vM Pg C Q Tryz.f195 1 id st v o (S a0 a1 a2 a3 a4 a5 a6 a7 a8 a9 a10 a11 a12 a13 a14) (begin self_ a0 a1 a2 a3 a4 a5 a6 a7 a8 a9 a10 a11 a12 a13 a14):=fun J K=>by kernel_rfl
def step (self_:Self I A K):Self I A K:=⟨fun i_=>(begin self_ i_.1 i_.2.1 i_.2.2.1 i_.2.2.2.1 i_.2.2.2.2.1 i_.2.2.2.2.2.1 i_.2.2.2.2.2.2.1 i_.2.2.2.2.2.2.2.1 i_.2.2.2.2.2.2.2.2.1 i_.2.2.2.2.2.2.2.2.2.1 i_.2.2.2.2.2.2.2.2.2.2.1 i_.2.2.2.2.2.2.2.2.2.2.2.1 i_.2.2.2.2.2.2.2.2.2.2.2.2.1 i_.2.2.2.2.2.2.2.2.2.2.2.2.2.1 i_.2.2.2.2.2.2.2.2.2.2.2.2.2.2).run (lp (tree self_)),fun i_ r h=>gK G mixed Q Tryz.func195 rfl (of_decide_eq_true (by kernel_rfl)) (by rfl) id st v o (fun _=>rfl) (tree self_) (e self_) (begin self_ i_.1 i_.2.1 i_.2.2.1 i_.2.2.2.1 i_.2.2.2.2.1 i_.2.2.2.2.2.1 i_.2.2.2.2.2.2.1 i_.2.2.2.2.2.2.2.1 i_.2.2.2.2.2.2.2.2.1 i_.2.2.2.2.2.2.2.2.2.1 i_.2.2.2.2.2.2.2.2.2.2.1 i_.2.2.2.2.2.2.2.2.2.2.2.1 i_.2.2.2.2.2.2.2.2.2.2.2.2.1 i_.2.2.2.2.2.2.2.2.2.2.2.2.2.1 i_.2.2.2.2.2.2.2.2.2.2.2.2.2.2) (b self_ i_.1 i_.2.1 i_.2.2.1 i_.2.2.2.1 i_.2.2.2.2.1 i_.2.2.2.2.2.1 i_.2.2.2.2.2.2.1 i_.2.2.2.2.2.2.2.1 i_.2.2.2.2.2.2.2.2.1 i_.2.2.2.2.2.2.2.2.2.1 i_.2.2.2.2.2.2.2.2.2.2.1 i_.2.2.2.2.2.2.2.2.2.2.2.1 i_.2.2.2.2.2.2.2.2.2.2.2.2.1 i_.2.2.2.2.2.2.2.2.2.2.2.2.2.1 i_.2.2.2.2.2.2.2.2.2.2.2.2.2.2) h⟩
def f (a0:List aw) (a1 a2:Int) (a3 a4 a5 a6 a7:List Int) (a8:Int) (a9:Bool) (a10:List aO) (a11 a12:List Int) (a13 a14:Int):Option A:=(Self.iter step 8).f (a0,a1,a2,a3,a4,a5,a6,a7,a8,a9,a10,a11,a12,a13,a14)
def told (a0:List aw) (a1 a2:Int) (a3 a4 a5 a6 a7:List Int) (a8:Int) (a9:Bool) (a10:List aO) (a11 a12:List Int) (a13 a14:Int):aa.Told A:=⟨f a0 a1 a2 a3 a4 a5 a6 a7 a8 a9 a10 a11 a12 a13 a14,fun r=>ae Pg C 195 (S a0 a1 a2 a3 a4 a5 a6 a7 a8 a9 a10 a11 a12 a13 a14) 1 (v r) (o r),fun r h=>(Self.iter step 8).ok (a0,a1,a2,a3,a4,a5,a6,a7,a8,a9,a10,a11,a12,a13,a14) r h⟩
end aq
end
end Go.Proofs.YtmapddgocpkgeaaGreat.Ev
