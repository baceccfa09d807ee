/- Functions as trees, with their contracts. No conditions. -/
import Derived.Test.YtmapddgocpkgeaaGreatNEvF27
namespace Go.Proofs.YtmapddgocpkgeaaGreat.Ev
open Go.Proofs.YtmapddgocpkgeaaGreat.aa Go.RowKit
set_option linter.unusedVariables false
set_option maxRecDepth 100000
noncomputable section
namespace cb
def S (a0:List aw) (a1 a2:List Int) (a3:Int) (a4:List aO) (a5:List Int) (a6 a7 a8:Int) (a9:List Int) (a10 a11 a12 a13 a14 a15 a16 a17:Bool) (a18:List Int):List (PV U):=aa.start C 51 [.sl 204 a0,.fn 179 [.ptr 51 0,.ptr 52 0,.ptr 53 0,.ptr 54 0]] [.box [.ptr 55 0],.box [.sl 3 a1],.box [.sl 3 a2],.box [.int .i64 a3],.box [.own true 179 a4,.own true 3 a5,.int .i64 a6,.int .i64 a7,.int .i64 a8,.own true 3 a9,.bool a10,.bool a11,.bool a12,.bool a13,.bool a14,.bool a15,.bool a16,.bool a17,.own true 3 a18]]
abbrev I:=(List aw)×(List Int)×(List Int)×Int×(List aO)×(List Int)×Int×Int×Int×(List Int)×Bool×Bool×Bool×Bool×Bool×Bool×Bool×Bool×(List Int)
abbrev K:I→A→Prop:=fun i_ r=>ae Pg C 178 (S i_.1 i_.2.1 i_.2.2.1 i_.2.2.2.1 i_.2.2.2.2.1 i_.2.2.2.2.2.1 i_.2.2.2.2.2.2.1 i_.2.2.2.2.2.2.2.1 i_.2.2.2.2.2.2.2.2.1 i_.2.2.2.2.2.2.2.2.2.1 i_.2.2.2.2.2.2.2.2.2.2.1 i_.2.2.2.2.2.2.2.2.2.2.2.1 i_.2.2.2.2.2.2.2.2.2.2.2.2.1 i_.2.2.2.2.2.2.2.2.2.2.2.2.2.1 i_.2.2.2.2.2.2.2.2.2.2.2.2.2.2.1 i_.2.2.2.2.2.2.2.2.2.2.2.2.2.2.2.1 i_.2.2.2.2.2.2.2.2.2.2.2.2.2.2.2.2.1 i_.2.2.2.2.2.2.2.2.2.2.2.2.2.2.2.2.2.1 i_.2.2.2.2.2.2.2.2.2.2.2.2.2.2.2.2.2.2) 5 (v r) (o r)
inductive X where
 | c1 (x0:List aw) (x1:Int) (x2 x3:List Int) (x4:Int) (x5:List aO) (x6:List Int) (x7 x8 x9:Int) (x10:List Int) (x11 x12 x13 x14 x15 x16 x17 x18:Bool) (x19:List Int)
 | c12 (x0:List aw) (x1 x2 x3 x4:Int) (x5 x6:List Int) (x7:Int) (x8:List aO) (x9:List Int) (x10 x11 x12:Int) (x13:List Int) (x14 x15 x16 x17 x18 x19 x20 x21:Bool) (x22:List Int)
def id:X→Nat
 | .c1 .. =>1
 | .c12 .. =>12
def st:X→List (PV U)
 | .c1 x0 x1 x2 x3 x4 x5 x6 x7 x8 x9 x10 x11 x12 x13 x14 x15 x16 x17 x18 x19=>eA 56 [(0,.sl 204 x0),(1,.fn 179 [.ptr 51 0,.ptr 52 0,.ptr 53 0,.ptr 54 0]),(4,.int .i64 x1),(51,.box [.ptr 55 0]),(52,.box [.sl 3 x2]),(53,.box [.sl 3 x3]),(54,.box [.int .i64 x4]),(55,.box [.own true 179 x5,.own true 3 x6,.int .i64 x7,.int .i64 x8,.int .i64 x9,.own true 3 x10,.bool x11,.bool x12,.bool x13,.bool x14,.bool x15,.bool x16,.bool x17,.bool x18,.own true 3 x19])]
 | .c12 x0 x1 x2 x3 x4 x5 x6 x7 x8 x9 x10 x11 x12 x13 x14 x15 x16 x17 x18 x19 x20 x21 x22=>eA 56 [(0,.sl 204 x0),(1,.fn 179 [.ptr 51 0,.ptr 52 0,.ptr 53 0,.ptr 54 0]),(4,.int .i64 x1),(7,.int .i64 x2),(39,.int .i64 x3),(40,.int .i64 x4),(51,.box [.ptr 55 0]),(52,.box [.sl 3 x5]),(53,.box [.sl 3 x6]),(54,.box [.int .i64 x7]),(55,.box [.own true 179 x8,.own true 3 x9,.int .i64 x10,.int .i64 x11,.int .i64 x12,.own true 3 x13,.bool x14,.bool x15,.bool x16,.bool x17,.bool x18,.bool x19,.bool x20,.bool x21,.own true 3 x22])]
def begin (self_:Self I A K) (a0:List aw) (a1 a2:List Int) (a3:Int) (a4:List aO) (a5:List Int) (a6 a7 a8:Int) (a9:List Int) (a10 a11 a12 a13 a14 a15 a16 a17:Bool) (a18:List Int):Tr X A:=
 .jump (.c1 a0 (0:Int) a1 a2 a3 a4 a5 a6 a7 a8 a9 a10 a11 a12 a13 a14 a15 a16 a17 a18)
def tree (self_:Self I A K):X→Tr X A
 | .c1 x0 x1 x2 x3 x4 x5 x6 x7 x8 x9 x10 x11 x12 x13 x14 x15 x16 x17 x18 x19=>
 .ite (decide (x1<(List.length x0:Int)))
  (.aC ((0:Int)≤x1∧x1<(List.length x0:Int)) (.ite (decide ((ak x0 x1).f0=(6:Int)))
   (.jump (.c1 x0 (wr (x1+(1:Int))) x2 x3 x4 x5 x6 x7 x8 x9 x10 x11 x12 x13 x14 x15 x16 x17 x18 x19))
   (.call (bu.told ((ak x0 x1).f0) ((ak x0 x1).f1) ((ak x0 x1).f2) ((ak x0 x1).f3.f0) ((ak x0 x1).f3.f1) ((ak x0 x1).f3.f2) x2 x3 x4 x5 x6 x7 x8 x9 x10 x11 x12 x13 x14 x15 x16 x17 x18 x19) fun t1=> .call (bN.told ((ak x0 x1).f0)) fun t2=> .ite (!t2)
    (.jump (.c1 x0 (wr (x1+(1:Int))) t1.2.1 t1.2.2.1 t1.2.2.2.1 t1.2.2.2.2.1 t1.2.2.2.2.2.1 t1.2.2.2.2.2.2.1 t1.2.2.2.2.2.2.2.1 t1.2.2.2.2.2.2.2.2.1 t1.2.2.2.2.2.2.2.2.2.1 t1.2.2.2.2.2.2.2.2.2.2.1 t1.2.2.2.2.2.2.2.2.2.2.2.1 t1.2.2.2.2.2.2.2.2.2.2.2.2.1 t1.2.2.2.2.2.2.2.2.2.2.2.2.2.1 t1.2.2.2.2.2.2.2.2.2.2.2.2.2.2.1 t1.2.2.2.2.2.2.2.2.2.2.2.2.2.2.2.1 t1.2.2.2.2.2.2.2.2.2.2.2.2.2.2.2.2.1 t1.2.2.2.2.2.2.2.2.2.2.2.2.2.2.2.2.2.1 t1.2.2.2.2.2.2.2.2.2.2.2.2.2.2.2.2.2.2))
    (.call (cT.told x0 x1) fun t3=> .ite (decide ((ak x0 x1).f0=(4:Int)))
     (.call (gM.told t1.1) fun t4=> .jump (.c12 x0 x1 t3 t4 (0:Int) t1.2.1 t1.2.2.1 t1.2.2.2.1 t1.2.2.2.2.1 t1.2.2.2.2.2.1 t1.2.2.2.2.2.2.1 t1.2.2.2.2.2.2.2.1 t1.2.2.2.2.2.2.2.2.1 t1.2.2.2.2.2.2.2.2.2.1 t1.2.2.2.2.2.2.2.2.2.2.1 t1.2.2.2.2.2.2.2.2.2.2.2.1 t1.2.2.2.2.2.2.2.2.2.2.2.2.1 t1.2.2.2.2.2.2.2.2.2.2.2.2.2.1 t1.2.2.2.2.2.2.2.2.2.2.2.2.2.2.1 t1.2.2.2.2.2.2.2.2.2.2.2.2.2.2.2.1 t1.2.2.2.2.2.2.2.2.2.2.2.2.2.2.2.2.1 t1.2.2.2.2.2.2.2.2.2.2.2.2.2.2.2.2.2.1 t1.2.2.2.2.2.2.2.2.2.2.2.2.2.2.2.2.2.2))
     (.jump (.c12 x0 x1 t3 ((ak x0 x1).f2) (0:Int) t1.2.1 t1.2.2.1 t1.2.2.2.1 t1.2.2.2.2.1 t1.2.2.2.2.2.1 t1.2.2.2.2.2.2.1 t1.2.2.2.2.2.2.2.1 t1.2.2.2.2.2.2.2.2.1 t1.2.2.2.2.2.2.2.2.2.1 t1.2.2.2.2.2.2.2.2.2.2.1 t1.2.2.2.2.2.2.2.2.2.2.2.1 t1.2.2.2.2.2.2.2.2.2.2.2.2.1 t1.2.2.2.2.2.2.2.2.2.2.2.2.2.1 t1.2.2.2.2.2.2.2.2.2.2.2.2.2.2.1 t1.2.2.2.2.2.2.2.2.2.2.2.2.2.2.2.1 t1.2.2.2.2.2.2.2.2.2.2.2.2.2.2.2.2.1 t1.2.2.2.2.2.2.2.2.2.2.2.2.2.2.2.2.2.1 t1.2.2.2.2.2.2.2.2.2.2.2.2.2.2.2.2.2.2))))))
  (.ret (x2,x3,x4,x5,x6,x7,x8,x9,x10,x11,x12,x13,x14,x15,x16,x17,x18,x19))
 | .c12 x0 x1 x2 x3 x4 x5 x6 x7 x8 x9 x10 x11 x12 x13 x14 x15 x16 x17 x18 x19 x20 x21 x22=>
 .ite (decide (x4<x3))
  (.aC ((0:Int)≤(wr (x1+(1:Int)))∧(wr (x1+(1:Int)))≤x2∧x2≤(List.length x0:Int)) (.call (self_.told ((List.drop (Int.toNat (wr (x1+(1:Int)))) (List.take (Int.toNat x2) x0)),x5,x6,x7,x8,x9,x10,x11,x12,x13,x14,x15,x16,x17,x18,x19,x20,x21,x22)) fun t1=> .jump (.c12 x0 x1 x2 x3 (wr (x4+(1:Int))) t1.1 t1.2.1 t1.2.2.1 t1.2.2.2.1 t1.2.2.2.2.1 t1.2.2.2.2.2.1 t1.2.2.2.2.2.2.1 t1.2.2.2.2.2.2.2.1 t1.2.2.2.2.2.2.2.2.1 t1.2.2.2.2.2.2.2.2.2.1 t1.2.2.2.2.2.2.2.2.2.2.1 t1.2.2.2.2.2.2.2.2.2.2.2.1 t1.2.2.2.2.2.2.2.2.2.2.2.2.1 t1.2.2.2.2.2.2.2.2.2.2.2.2.2.1 t1.2.2.2.2.2.2.2.2.2.2.2.2.2.2.1 t1.2.2.2.2.2.2.2.2.2.2.2.2.2.2.2.1 t1.2.2.2.2.2.2.2.2.2.2.2.2.2.2.2.2.1 t1.2.2.2.2.2.2.2.2.2.2.2.2.2.2.2.2.2)))
  (.jump (.c1 x0 (wr (x2+(1:Int))) x5 x6 x7 x8 x9 x10 x11 x12 x13 x14 x15 x16 x17 x18 x19 x20 x21 x22))
def Q:bE C:={PL with fM:=[(1,[0,1,4,51,52,53,54,55]),(12,[0,1,4,7,39,40,51,52,53,54,55])]}
theorem e (self_:Self I A K):df Pg C Q Tryz.f178 5 id st v o (tree self_):=fun J K x=>by cases x<;>kernel_rfl
theorem b (self_:Self I A K) (a0:List aw) (a1 a2:List Int) (a3:Int) (a4:List aO) (a5:List Int) (a6 a7 a8:Int) (a9:List Int) (a10 a11 a12 a13 a14 a15 a16 a17:Bool) (a18:List Int):vM Pg C Q Tryz.f178 5 id st v o (S a0 a1 a2 a3 a4 a5 a6 a7 a8 a9 a10 a11 a12 a13 a14 a15 a16 a17 a18) (begin self_ a0 a1 a2 a3 a4 a5 a6 a7 a8 a9 a10 a11 a12 a13 a14 a15 a16 a17 a18):=fun J K=>by kernel_rfl
def step (self_:Self I A K):Self I A K:=⟨fun i_=>(begin self_ i_.1 i_.2.1 i_.2.2.1 i_.2.2.2.1 i_.2.2.2.2.1 i_.2.2.2.2.2.1 i_.2.2.2.2.2.2.1 i_.2.2.2.2.2.2.2.1 i_.2.2.2.2.2.2.2.2.1 i_.2.2.2.2.2.2.2.2.2.1 i_.2.2.2.2.2.2.2.2.2.2.1 i_.2.2.2.2.2.2.2.2.2.2.2.1 i_.2.2.2.2.2.2.2.2.2.2.2.2.1 i_.2.2.2.2.2.2.2.2.2.2.2.2.2.1 i_.2.2.2.2.2.2.2.2.2.2.2.2.2.2.1 i_.2.2.2.2.2.2.2.2.2.2.2.2.2.2.2.1 i_.2.2.2.2.2.2.2.2.2.2.2.2.2.2.2.2.1 i_.2.2.2.2.2.2.2.2.2.2.2.2.2.2.2.2.2.1 i_.2.2.2.2.2.2.2.2.2.2.2.2.2.2.2.2.2.2).run (lp (tree self_)),fun i_ r h=>gK G mixed Q Tryz.func178 rfl (of_decide_eq_true (by kernel_rfl)) (by rfl) id st v o (fun _=>rfl) (tree self_) (e self_) (begin self_ i_.1 i_.2.1 i_.2.2.1 i_.2.2.2.1 i_.2.2.2.2.1 i_.2.2.2.2.2.1 i_.2.2.2.2.2.2.1 i_.2.2.2.2.2.2.2.1 i_.2.2.2.2.2.2.2.2.1 i_.2.2.2.2.2.2.2.2.2.1 i_.2.2.2.2.2.2.2.2.2.2.1 i_.2.2.2.2.2.2.2.2.2.2.2.1 i_.2.2.2.2.2.2.2.2.2.2.2.2.1 i_.2.2.2.2.2.2.2.2.2.2.2.2.2.1 i_.2.2.2.2.2.2.2.2.2.2.2.2.2.2.1 i_.2.2.2.2.2.2.2.2.2.2.2.2.2.2.2.1 i_.2.2.2.2.2.2.2.2.2.2.2.2.2.2.2.2.1 i_.2.2.2.2.2.2.2.2.2.2.2.2.2.2.2.2.2.1 i_.2.2.2.2.2.2.2.2.2.2.2.2.2.2.2.2.2.2) (b self_ i_.1 i_.2.1 i_.2.2.1 i_.2.2.2.1 i_.2.2.2.2.1 i_.2.2.2.2.2.1 i_.2.2.2.2.2.2.1 i_.2.2.2.2.2.2.2.1 i_.2.2.2.2.2.2.2.2.1 i_.2.2.2.2.2.2.2.2.2.1 i_.2.2.2.2.2.2.2.2.2.2.1 i_.2.2.2.2.2.2.2.2.2.2.2.1 i_.2.2.2.2.2.2.2.2.2.2.2.2.1 i_.2.2.2.2.2.2.2.2.2.2.2.2.2.1 i_.2.2.2.2.2.2.2.2.2.2.2.2.2.2.1 i_.2.2.2.2.2.2.2.2.2.2.2.2.2.2.2.1 i_.2.2.2.2.2.2.2.2.2.2.2.2.2.2.2.2.1 i_.2.2.2.2.2.2.2.2.2.2.2.2.2.2.2.2.2.1 i_.2.2.2.2.2.2.2.2.2.2.2.2.2.2.2.2.2.2) h⟩
def f (a0:List aw) (a1 a2:List Int) (a3:Int) (a4:List aO) (a5:List Int) (a6 a7 a8:Int) (a9:List Int) (a10 a11 a12 a13 a14 a15 a16 a17:Bool) (a18:List Int):Option A:=(Self.iter step 8).f (a0,a1,a2,a3,a4,a5,a6,a7,a8,a9,a10,a11,a12,a13,a14,a15,a16,a17,a18)
def told (a0:List aw) (a1 a2:List Int) (a3:Int) (a4:List aO) (a5:List Int) (a6 a7 a8:Int) (a9:List Int) (a10 a11 a12 a13 a14 a15 a16 a17:Bool) (a18:List Int):aa.Told A:=⟨f a0 a1 a2 a3 a4 a5 a6 a7 a8 a9 a10 a11 a12 a13 a14 a15 a16 a17 a18,fun r=>ae Pg C 178 (S a0 a1 a2 a3 a4 a5 a6 a7 a8 a9 a10 a11 a12 a13 a14 a15 a16 a17 a18) 5 (v r) (o r),fun r h=>(Self.iter step 8).ok (a0,a1,a2,a3,a4,a5,a6,a7,a8,a9,a10,a11,a12,a13,a14,a15,a16,a17,a18) r h⟩
end cb
namespace fQ
def S (a0:List az) (a1:Int):List (PV U):=aa.start C 15 [.agg [.sl 164 a0],.int .i64 a1] []
def begin (a0:List az) (a1:Int):Tr Empty A:=
 .call (dm.told a0) fun t1=> .ite t1
  (.call (aK.told a1 (0:Int) (wr ((List.length a0:Int)-(1:Int)))) fun t2=> .ret t2)
  (.ret false)
def f (a0:List az) (a1:Int):Option A:=(begin a0 a1).run (lp aF)
def told (a0:List az) (a1:Int):aa.Told A:=⟨f a0 a1,fun r=>ae Pg C 224 (S a0 a1) 0 (v r) (o r),fun r h=>aG (Q:=PL) v o Tryz.func224 rfl (of_decide_eq_true (by kernel_rfl)) (by rfl) (fun _=>rfl) (fun J K=>by kernel_rfl) h⟩
end fQ
namespace dM
def S (a0:List az) (a1:List Int) (a2:Int):List (PV U):=aa.start C 34 [.agg [.sl 164 a0],.sl 3 a1,.int .i64 a2] []
def begin (a0:List az) (a1:List Int) (a2:Int):Tr Empty A:=
 .call (fQ.told a0 a2) fun t1=> .ite (!t1)
  (.ret ((-1:Int)))
  (.call (fz.told a1) fun t2=> .ite (!t2)
   (.ret ((-1:Int)))
   (.aC ((0:Int)≤a2∧a2<(List.length a0:Int)) (.call (cr.told a1 ((cy a0 a2).f1.f0) ((cy a0 a2).f1.f1) ((cy a0 a2).f1.f2)) fun t3=> .aC ((List.length a0:Int)≠0) (.aC ((List.length a0:Int)≠0) (.val ((Int.tmod (wr ((Int.tmod t3 (List.length a0:Int))+(List.length a0:Int))) (List.length a0:Int)):Int) fun v4=> .ret v4)))))
def f (a0:List az) (a1:List Int) (a2:Int):Option A:=(begin a0 a1 a2).run (lp aF)
def told (a0:List az) (a1:List Int) (a2:Int):aa.Told A:=⟨f a0 a1 a2,fun r=>ae Pg C 187 (S a0 a1 a2) 0 (v r) (o r),fun r h=>aG (Q:=PL) v o Tryz.func187 rfl (of_decide_eq_true (by kernel_rfl)) (by rfl) (fun _=>rfl) (fun J K=>by kernel_rfl) h⟩
end dM
end
end Go.Proofs.YtmapddgocpkgeaaGreat.Ev
