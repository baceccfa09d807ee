/- Functions as trees, with their contracts. No conditions. -/
import Derived.Test.YtmapddgocpkgeaaGreatNEvF21
namespace Go.Proofs.YtmapddgocpkgeaaGreat.Ev
open Go.Proofs.YtmapddgocpkgeaaGreat.aa Go.RowKit
set_option linter.unusedVariables false
set_option maxRecDepth 100000
noncomputable section
namespace aD
def S (a0:List aw) (a1 a2 a3 a4 a5 a6 a7 a8 a9 a10 a11 a12 a13 a14 a15 a16:Bool):List (PV U):=aa.start C 56 [.ptr 56 0,.sl 204 a0] [.box [.bool a1,.bool a2,.bool a3,.bool a4,.bool a5,.bool a6,.bool a7,.bool a8,.bool a9,.bool a10,.bool a11,.bool a12,.bool a13,.bool a14,.bool a15,.bool a16]]
abbrev I:=(List aw)×Bool×Bool×Bool×Bool×Bool×Bool×Bool×Bool×Bool×Bool×Bool×Bool×Bool×Bool×Bool×Bool
abbrev K:I→A→Prop:=fun i_ r=>ae Pg C 239 (S i_.1 i_.2.1 i_.2.2.1 i_.2.2.2.1 i_.2.2.2.2.1 i_.2.2.2.2.2.1 i_.2.2.2.2.2.2.1 i_.2.2.2.2.2.2.2.1 i_.2.2.2.2.2.2.2.2.1 i_.2.2.2.2.2.2.2.2.2.1 i_.2.2.2.2.2.2.2.2.2.2.1 i_.2.2.2.2.2.2.2.2.2.2.2.1 i_.2.2.2.2.2.2.2.2.2.2.2.2.1 i_.2.2.2.2.2.2.2.2.2.2.2.2.2.1 i_.2.2.2.2.2.2.2.2.2.2.2.2.2.2.1 i_.2.2.2.2.2.2.2.2.2.2.2.2.2.2.2.1 i_.2.2.2.2.2.2.2.2.2.2.2.2.2.2.2.2) 1 (v r) (o r)
inductive X where
 | c1 (x0:List aw) (x1:Int) (x2 x3 x4 x5 x6 x7 x8 x9 x10 x11 x12 x13 x14 x15 x16 x17:Bool)
 | c8 (x0:List aw) (x1 x2 x3 x4 x5 x6 x7:Int) (x8 x9 x10 x11 x12 x13 x14 x15 x16 x17 x18 x19 x20 x21 x22 x23:Bool)
 | D7 (x0:List aw) (x1 x2:Int) (x3 x4 x5 x6 x7 x8 x9 x10 x11 x12 x13 x14 x15 x16 x17 x18 x19 x20 x21 x22 x23 x24 x25 x26:Bool)
def id:X→Nat
 | .c1 .. =>1
 | .c8 .. =>8
 | .D7 .. =>11
def st:X→List (PV U)
 | .c1 x0 x1 x2 x3 x4 x5 x6 x7 x8 x9 x10 x11 x12 x13 x14 x15 x16 x17=>eA 57 [(0,.ptr 56 0),(1,.sl 204 x0),(4,.int .i64 x1),(56,.box [.bool x2,.bool x3,.bool x4,.bool x5,.bool x6,.bool x7,.bool x8,.bool x9,.bool x10,.bool x11,.bool x12,.bool x13,.bool x14,.bool x15,.bool x16,.bool x17])]
 | .c8 x0 x1 x2 x3 x4 x5 x6 x7 x8 x9 x10 x11 x12 x13 x14 x15 x16 x17 x18 x19 x20 x21 x22 x23=>eA 57 [(0,.ptr 56 0),(1,.sl 204 x0),(4,.int .i64 x1),(5,.box [.int .i64 x2,.int .i64 x3,.int .i64 x4,.int .i64 x5,.int .i64 x6,.int .i64 x7]),(56,.box [.bool x8,.bool x9,.bool x10,.bool x11,.bool x12,.bool x13,.bool x14,.bool x15,.bool x16,.bool x17,.bool x18,.bool x19,.bool x20,.bool x21,.bool x22,.bool x23])]
 | .D7 x0 x1 x2 x3 x4 x5 x6 x7 x8 x9 x10 x11 x12 x13 x14 x15 x16 x17 x18 x19 x20 x21 x22 x23 x24 x25 x26=>eA 57 [(0,.ptr 56 0),(1,.sl 204 x0),(4,.int .i64 x1),(6,.int .i64 x2),(7,.box [.bool x3,.bool x4,.bool x5,.bool x6,.bool x7,.bool x8,.bool x9,.bool x10]),(56,.box [.bool x11,.bool x12,.bool x13,.bool x14,.bool x15,.bool x16,.bool x17,.bool x18,.bool x19,.bool x20,.bool x21,.bool x22,.bool x23,.bool x24,.bool x25,.bool x26])]
def begin (self_:Self I A K) (a0:List aw) (a1 a2 a3 a4 a5 a6 a7 a8 a9 a10 a11 a12 a13 a14 a15 a16:Bool):Tr X A:=
 .jump (.c1 a0 (0:Int) a1 a2 a3 a4 a5 a6 a7 a8 a9 a10 a11 a12 a13 a14 a15 a16)
def tree (self_:Self I A K):X→Tr X A
 | .c1 x0 x1 x2 x3 x4 x5 x6 x7 x8 x9 x10 x11 x12 x13 x14 x15 x16 x17=>
 .ite (decide (x1<(List.length x0:Int)))
  (.aC ((0:Int)≤x1∧x1<(List.length x0:Int)) (.call (dd.told ((ak x0 x1).f0)) fun t1=> .ite t1
   (.call (bo.told ((ak x0 x1).f3.f0) ((ak x0 x1).f3.f1) ((ak x0 x1).f3.f2) x2 x3 x4 x5 x6 x7 x8 x9 x10 x11 x12 x13 x14 x15 x16 x17) fun t2=> .call (bZ.told ((ak x0 x1).f0)) fun t3=> .ite t3
    (.ite (decide ((ak x0 x1).f1=(0:Int)))
     (.last (.jump (.c8 x0 x1 ((ak x0 x1).f0) ((ak x0 x1).f1) ((ak x0 x1).f2) ((ak x0 x1).f3.f0) ((ak x0 x1).f3.f1) ((ak x0 x1).f3.f2) true t2.2.1 t2.2.2.1 t2.2.2.2.1 t2.2.2.2.2.1 t2.2.2.2.2.2.1 t2.2.2.2.2.2.2.1 t2.2.2.2.2.2.2.2.1 t2.2.2.2.2.2.2.2.2.1 t2.2.2.2.2.2.2.2.2.2.1 t2.2.2.2.2.2.2.2.2.2.2.1 t2.2.2.2.2.2.2.2.2.2.2.2.1 t2.2.2.2.2.2.2.2.2.2.2.2.2.1 t2.2.2.2.2.2.2.2.2.2.2.2.2.2.1 t2.2.2.2.2.2.2.2.2.2.2.2.2.2.2.1 t2.2.2.2.2.2.2.2.2.2.2.2.2.2.2.2)))
     (.ite (decide ((ak x0 x1).f1=(1:Int)))
      (.last (.jump (.c8 x0 x1 ((ak x0 x1).f0) ((ak x0 x1).f1) ((ak x0 x1).f2) ((ak x0 x1).f3.f0) ((ak x0 x1).f3.f1) ((ak x0 x1).f3.f2) t2.1 true t2.2.2.1 t2.2.2.2.1 t2.2.2.2.2.1 t2.2.2.2.2.2.1 t2.2.2.2.2.2.2.1 t2.2.2.2.2.2.2.2.1 t2.2.2.2.2.2.2.2.2.1 t2.2.2.2.2.2.2.2.2.2.1 t2.2.2.2.2.2.2.2.2.2.2.1 t2.2.2.2.2.2.2.2.2.2.2.2.1 t2.2.2.2.2.2.2.2.2.2.2.2.2.1 t2.2.2.2.2.2.2.2.2.2.2.2.2.2.1 t2.2.2.2.2.2.2.2.2.2.2.2.2.2.2.1 t2.2.2.2.2.2.2.2.2.2.2.2.2.2.2.2)))
      (.ite (decide ((ak x0 x1).f1=(2:Int)))
       (.last (.jump (.c8 x0 x1 ((ak x0 x1).f0) ((ak x0 x1).f1) ((ak x0 x1).f2) ((ak x0 x1).f3.f0) ((ak x0 x1).f3.f1) ((ak x0 x1).f3.f2) t2.1 t2.2.1 true t2.2.2.2.1 t2.2.2.2.2.1 t2.2.2.2.2.2.1 t2.2.2.2.2.2.2.1 t2.2.2.2.2.2.2.2.1 t2.2.2.2.2.2.2.2.2.1 t2.2.2.2.2.2.2.2.2.2.1 t2.2.2.2.2.2.2.2.2.2.2.1 t2.2.2.2.2.2.2.2.2.2.2.2.1 t2.2.2.2.2.2.2.2.2.2.2.2.2.1 t2.2.2.2.2.2.2.2.2.2.2.2.2.2.1 t2.2.2.2.2.2.2.2.2.2.2.2.2.2.2.1 t2.2.2.2.2.2.2.2.2.2.2.2.2.2.2.2)))
       (.ite (decide ((ak x0 x1).f1=(3:Int)))
        (.last (.jump (.c8 x0 x1 ((ak x0 x1).f0) ((ak x0 x1).f1) ((ak x0 x1).f2) ((ak x0 x1).f3.f0) ((ak x0 x1).f3.f1) ((ak x0 x1).f3.f2) t2.1 t2.2.1 t2.2.2.1 true t2.2.2.2.2.1 t2.2.2.2.2.2.1 t2.2.2.2.2.2.2.1 t2.2.2.2.2.2.2.2.1 t2.2.2.2.2.2.2.2.2.1 t2.2.2.2.2.2.2.2.2.2.1 t2.2.2.2.2.2.2.2.2.2.2.1 t2.2.2.2.2.2.2.2.2.2.2.2.1 t2.2.2.2.2.2.2.2.2.2.2.2.2.1 t2.2.2.2.2.2.2.2.2.2.2.2.2.2.1 t2.2.2.2.2.2.2.2.2.2.2.2.2.2.2.1 t2.2.2.2.2.2.2.2.2.2.2.2.2.2.2.2)))
        (.ite (decide ((ak x0 x1).f1=(4:Int)))
         (.last (.jump (.c8 x0 x1 ((ak x0 x1).f0) ((ak x0 x1).f1) ((ak x0 x1).f2) ((ak x0 x1).f3.f0) ((ak x0 x1).f3.f1) ((ak x0 x1).f3.f2) t2.1 t2.2.1 t2.2.2.1 t2.2.2.2.1 true t2.2.2.2.2.2.1 t2.2.2.2.2.2.2.1 t2.2.2.2.2.2.2.2.1 t2.2.2.2.2.2.2.2.2.1 t2.2.2.2.2.2.2.2.2.2.1 t2.2.2.2.2.2.2.2.2.2.2.1 t2.2.2.2.2.2.2.2.2.2.2.2.1 t2.2.2.2.2.2.2.2.2.2.2.2.2.1 t2.2.2.2.2.2.2.2.2.2.2.2.2.2.1 t2.2.2.2.2.2.2.2.2.2.2.2.2.2.2.1 t2.2.2.2.2.2.2.2.2.2.2.2.2.2.2.2)))
         (.ite (decide ((ak x0 x1).f1=(5:Int)))
          (.last (.jump (.c8 x0 x1 ((ak x0 x1).f0) ((ak x0 x1).f1) ((ak x0 x1).f2) ((ak x0 x1).f3.f0) ((ak x0 x1).f3.f1) ((ak x0 x1).f3.f2) t2.1 t2.2.1 t2.2.2.1 t2.2.2.2.1 t2.2.2.2.2.1 true t2.2.2.2.2.2.2.1 t2.2.2.2.2.2.2.2.1 t2.2.2.2.2.2.2.2.2.1 t2.2.2.2.2.2.2.2.2.2.1 t2.2.2.2.2.2.2.2.2.2.2.1 t2.2.2.2.2.2.2.2.2.2.2.2.1 t2.2.2.2.2.2.2.2.2.2.2.2.2.1 t2.2.2.2.2.2.2.2.2.2.2.2.2.2.1 t2.2.2.2.2.2.2.2.2.2.2.2.2.2.2.1 t2.2.2.2.2.2.2.2.2.2.2.2.2.2.2.2)))
          (.ite (decide ((ak x0 x1).f1=(6:Int)))
           (.last (.jump (.c8 x0 x1 ((ak x0 x1).f0) ((ak x0 x1).f1) ((ak x0 x1).f2) ((ak x0 x1).f3.f0) ((ak x0 x1).f3.f1) ((ak x0 x1).f3.f2) t2.1 t2.2.1 t2.2.2.1 t2.2.2.2.1 t2.2.2.2.2.1 t2.2.2.2.2.2.1 true t2.2.2.2.2.2.2.2.1 t2.2.2.2.2.2.2.2.2.1 t2.2.2.2.2.2.2.2.2.2.1 t2.2.2.2.2.2.2.2.2.2.2.1 t2.2.2.2.2.2.2.2.2.2.2.2.1 t2.2.2.2.2.2.2.2.2.2.2.2.2.1 t2.2.2.2.2.2.2.2.2.2.2.2.2.2.1 t2.2.2.2.2.2.2.2.2.2.2.2.2.2.2.1 t2.2.2.2.2.2.2.2.2.2.2.2.2.2.2.2)))
           (.ite (decide ((ak x0 x1).f1=(7:Int)))
            (.last (.jump (.c8 x0 x1 ((ak x0 x1).f0) ((ak x0 x1).f1) ((ak x0 x1).f2) ((ak x0 x1).f3.f0) ((ak x0 x1).f3.f1) ((ak x0 x1).f3.f2) t2.1 t2.2.1 t2.2.2.1 t2.2.2.2.1 t2.2.2.2.2.1 t2.2.2.2.2.2.1 t2.2.2.2.2.2.2.1 true t2.2.2.2.2.2.2.2.2.1 t2.2.2.2.2.2.2.2.2.2.1 t2.2.2.2.2.2.2.2.2.2.2.1 t2.2.2.2.2.2.2.2.2.2.2.2.1 t2.2.2.2.2.2.2.2.2.2.2.2.2.1 t2.2.2.2.2.2.2.2.2.2.2.2.2.2.1 t2.2.2.2.2.2.2.2.2.2.2.2.2.2.2.1 t2.2.2.2.2.2.2.2.2.2.2.2.2.2.2.2)))
            (.fail)))))))))
    (.jump (.c8 x0 x1 ((ak x0 x1).f0) ((ak x0 x1).f1) ((ak x0 x1).f2) ((ak x0 x1).f3.f0) ((ak x0 x1).f3.f1) ((ak x0 x1).f3.f2) t2.1 t2.2.1 t2.2.2.1 t2.2.2.2.1 t2.2.2.2.2.1 t2.2.2.2.2.2.1 t2.2.2.2.2.2.2.1 t2.2.2.2.2.2.2.2.1 t2.2.2.2.2.2.2.2.2.1 t2.2.2.2.2.2.2.2.2.2.1 t2.2.2.2.2.2.2.2.2.2.2.1 t2.2.2.2.2.2.2.2.2.2.2.2.1 t2.2.2.2.2.2.2.2.2.2.2.2.2.1 t2.2.2.2.2.2.2.2.2.2.2.2.2.2.1 t2.2.2.2.2.2.2.2.2.2.2.2.2.2.2.1 t2.2.2.2.2.2.2.2.2.2.2.2.2.2.2.2)))
   (.call (bZ.told ((ak x0 x1).f0)) fun t2=> .ite t2
    (.ite (decide ((ak x0 x1).f1=(0:Int)))
     (.last (.jump (.c8 x0 x1 ((ak x0 x1).f0) ((ak x0 x1).f1) ((ak x0 x1).f2) ((ak x0 x1).f3.f0) ((ak x0 x1).f3.f1) ((ak x0 x1).f3.f2) true x3 x4 x5 x6 x7 x8 x9 x10 x11 x12 x13 x14 x15 x16 x17)))
     (.ite (decide ((ak x0 x1).f1=(1:Int)))
      (.last (.jump (.c8 x0 x1 ((ak x0 x1).f0) ((ak x0 x1).f1) ((ak x0 x1).f2) ((ak x0 x1).f3.f0) ((ak x0 x1).f3.f1) ((ak x0 x1).f3.f2) x2 true x4 x5 x6 x7 x8 x9 x10 x11 x12 x13 x14 x15 x16 x17)))
      (.ite (decide ((ak x0 x1).f1=(2:Int)))
       (.last (.jump (.c8 x0 x1 ((ak x0 x1).f0) ((ak x0 x1).f1) ((ak x0 x1).f2) ((ak x0 x1).f3.f0) ((ak x0 x1).f3.f1) ((ak x0 x1).f3.f2) x2 x3 true x5 x6 x7 x8 x9 x10 x11 x12 x13 x14 x15 x16 x17)))
       (.ite (decide ((ak x0 x1).f1=(3:Int)))
        (.last (.jump (.c8 x0 x1 ((ak x0 x1).f0) ((ak x0 x1).f1) ((ak x0 x1).f2) ((ak x0 x1).f3.f0) ((ak x0 x1).f3.f1) ((ak x0 x1).f3.f2) x2 x3 x4 true x6 x7 x8 x9 x10 x11 x12 x13 x14 x15 x16 x17)))
        (.ite (decide ((ak x0 x1).f1=(4:Int)))
         (.last (.jump (.c8 x0 x1 ((ak x0 x1).f0) ((ak x0 x1).f1) ((ak x0 x1).f2) ((ak x0 x1).f3.f0) ((ak x0 x1).f3.f1) ((ak x0 x1).f3.f2) x2 x3 x4 x5 true x7 x8 x9 x10 x11 x12 x13 x14 x15 x16 x17)))
         (.ite (decide ((ak x0 x1).f1=(5:Int)))
          (.last (.jump (.c8 x0 x1 ((ak x0 x1).f0) ((ak x0 x1).f1) ((ak x0 x1).f2) ((ak x0 x1).f3.f0) ((ak x0 x1).f3.f1) ((ak x0 x1).f3.f2) x2 x3 x4 x5 x6 true x8 x9 x10 x11 x12 x13 x14 x15 x16 x17)))
          (.ite (decide ((ak x0 x1).f1=(6:Int)))
           (.last (.jump (.c8 x0 x1 ((ak x0 x1).f0) ((ak x0 x1).f1) ((ak x0 x1).f2) ((ak x0 x1).f3.f0) ((ak x0 x1).f3.f1) ((ak x0 x1).f3.f2) x2 x3 x4 x5 x6 x7 true x9 x10 x11 x12 x13 x14 x15 x16 x17)))
           (.ite (decide ((ak x0 x1).f1=(7:Int)))
            (.last (.jump (.c8 x0 x1 ((ak x0 x1).f0) ((ak x0 x1).f1) ((ak x0 x1).f2) ((ak x0 x1).f3.f0) ((ak x0 x1).f3.f1) ((ak x0 x1).f3.f2) x2 x3 x4 x5 x6 x7 x8 true x10 x11 x12 x13 x14 x15 x16 x17)))
            (.fail)))))))))
    (.jump (.c8 x0 x1 ((ak x0 x1).f0) ((ak x0 x1).f1) ((ak x0 x1).f2) ((ak x0 x1).f3.f0) ((ak x0 x1).f3.f1) ((ak x0 x1).f3.f2) x2 x3 x4 x5 x6 x7 x8 x9 x10 x11 x12 x13 x14 x15 x16 x17)))))
  (.ret (x2,x3,x4,x5,x6,x7,x8,x9,x10,x11,x12,x13,x14,x15,x16,x17))
 | .c8 x0 x1 x2 x3 x4 x5 x6 x7 x8 x9 x10 x11 x12 x13 x14 x15 x16 x17 x18 x19 x20 x21 x22 x23=>
 .ite (decide (x2=(4:Int)))
  (.call (cT.told x0 x1) fun t1=> .jump (.D7 x0 x1 t1 x8 x9 x10 x11 x12 x13 x14 x15 x8 x9 x10 x11 x12 x13 x14 x15 x16 x17 x18 x19 x20 x21 x22 x23))
  (.jump (.c1 x0 (wr (x1+(1:Int))) x8 x9 x10 x11 x12 x13 x14 x15 x16 x17 x18 x19 x20 x21 x22 x23))
 | .D7 x0 x1 x2 x3 x4 x5 x6 x7 x8 x9 x10 x11 x12 x13 x14 x15 x16 x17 x18 x19 x20 x21 x22 x23 x24 x25 x26=>
 .aC ((0:Int)≤(wr (x1+(1:Int)))∧(wr (x1+(1:Int)))≤x2∧x2≤(List.length x0:Int)) (.call (self_.told ((List.drop (Int.toNat (wr (x1+(1:Int)))) (List.take (Int.toNat x2) x0)),x11,x12,x13,x14,x15,x16,x17,x18,x19,x20,x21,x22,x23,x24,x25,x26)) fun t1=> .jump (.c1 x0 (wr (x2+(1:Int))) x3 x4 x5 x6 x7 x8 x9 x10 t1.2.2.2.2.2.2.2.2.1 t1.2.2.2.2.2.2.2.2.2.1 t1.2.2.2.2.2.2.2.2.2.2.1 t1.2.2.2.2.2.2.2.2.2.2.2.1 t1.2.2.2.2.2.2.2.2.2.2.2.2.1 t1.2.2.2.2.2.2.2.2.2.2.2.2.2.1 t1.2.2.2.2.2.2.2.2.2.2.2.2.2.2.1 t1.2.2.2.2.2.2.2.2.2.2.2.2.2.2.2))
def Q:bE C:={PL with fM:=[(1,[0,1,4,56]),(8,[0,1,4,5,56]),(11,[0,1,4,6,7,56])],iH:=[(7,[6],(.take 0 [] (.take 1 [] (.take 3 [] (.take 4 [] (.take 2 [0,1,3,4] (.take 5 [] (.alt 6 .done .nil))))))))]}
theorem e (self_:Self I A K):df Pg C Q Tryz.f239 1 id st v o (tree self_):=fun J K x=>by cases x<;>kernel_rfl
theorem b (self_:Self I A K) (a0:List aw) (a1 a2 a3 a4 a5 a6 a7 a8 a9 a10 a11 a12 a13 a14 a15 a16:Bool):vM Pg C Q Tryz.f239 1 id st v o (S a0 a1 a2 a3 a4 a5 a6 a7 a8 a9 a10 a11 a12 a13 a14 a15 a16) (begin self_ a0 a1 a2 a3 a4 a5 a6 a7 a8 a9 a10 a11 a12 a13 a14 a15 a16):=fun J K=>by kernel_rfl
def step (self_:Self I A K):Self I A K:=⟨fun i_=>(begin self_ i_.1 i_.2.1 i_.2.2.1 i_.2.2.2.1 i_.2.2.2.2.1 i_.2.2.2.2.2.1 i_.2.2.2.2.2.2.1 i_.2.2.2.2.2.2.2.1 i_.2.2.2.2.2.2.2.2.1 i_.2.2.2.2.2.2.2.2.2.1 i_.2.2.2.2.2.2.2.2.2.2.1 i_.2.2.2.2.2.2.2.2.2.2.2.1 i_.2.2.2.2.2.2.2.2.2.2.2.2.1 i_.2.2.2.2.2.2.2.2.2.2.2.2.2.1 i_.2.2.2.2.2.2.2.2.2.2.2.2.2.2.1 i_.2.2.2.2.2.2.2.2.2.2.2.2.2.2.2.1 i_.2.2.2.2.2.2.2.2.2.2.2.2.2.2.2.2).run (lp (tree self_)),fun i_ r h=>gK G mixed Q Tryz.func239 rfl (of_decide_eq_true (by kernel_rfl)) (by rfl) id st v o (fun _=>rfl) (tree self_) (e self_) (begin self_ i_.1 i_.2.1 i_.2.2.1 i_.2.2.2.1 i_.2.2.2.2.1 i_.2.2.2.2.2.1 i_.2.2.2.2.2.2.1 i_.2.2.2.2.2.2.2.1 i_.2.2.2.2.2.2.2.2.1 i_.2.2.2.2.2.2.2.2.2.1 i_.2.2.2.2.2.2.2.2.2.2.1 i_.2.2.2.2.2.2.2.2.2.2.2.1 i_.2.2.2.2.2.2.2.2.2.2.2.2.1 i_.2.2.2.2.2.2.2.2.2.2.2.2.2.1 i_.2.2.2.2.2.2.2.2.2.2.2.2.2.2.1 i_.2.2.2.2.2.2.2.2.2.2.2.2.2.2.2.1 i_.2.2.2.2.2.2.2.2.2.2.2.2.2.2.2.2) (b self_ i_.1 i_.2.1 i_.2.2.1 i_.2.2.2.1 i_.2.2.2.2.1 i_.2.2.2.2.2.1 i_.2.2.2.2.2.2.1 i_.2.2.2.2.2.2.2.1 i_.2.2.2.2.2.2.2.2.1 i_.2.2.2.2.2.2.2.2.2.1 i_.2.2.2.2.2.2.2.2.2.2.1 i_.2.2.2.2.2.2.2.2.2.2.2.1 i_.2.2.2.2.2.2.2.2.2.2.2.2.1 i_.2.2.2.2.2.2.2.2.2.2.2.2.2.1 i_.2.2.2.2.2.2.2.2.2.2.2.2.2.2.1 i_.2.2.2.2.2.2.2.2.2.2.2.2.2.2.2.1 i_.2.2.2.2.2.2.2.2.2.2.2.2.2.2.2.2) h⟩
def f (a0:List aw) (a1 a2 a3 a4 a5 a6 a7 a8 a9 a10 a11 a12 a13 a14 a15 a16:Bool):Option A:=(Self.iter step 8).f (a0,a1,a2,a3,a4,a5,a6,a7,a8,a9,a10,a11,a12,a13,a14,a15,a16)
def told (a0:List aw) (a1 a2 a3 a4 a5 a6 a7 a8 a9 a10 a11 a12 a13 a14 a15 a16:Bool):aa.Told A:=⟨f a0 a1 a2 a3 a4 a5 a6 a7 a8 a9 a10 a11 a12 a13 a14 a15 a16,fun r=>ae Pg C 239 (S a0 a1 a2 a3 a4 a5 a6 a7 a8 a9 a10 a11 a12 a13 a14 a15 a16) 1 (v r) (o r),fun r h=>(Self.iter step 8).ok (a0,a1,a2,a3,a4,a5,a6,a7,a8,a9,a10,a11,a12,a13,a14,a15,a16) r h⟩
end aD
end
end Go.Proofs.YtmapddgocpkgeaaGreat.Ev
