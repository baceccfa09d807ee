/- Functions of the program's other side, told as trees alone, for the plain law. No conditions. -/
import Derived.Test.YtpndhhellhfegaaGreatDoorREvF20
namespace Go.Proofs.YtpndhhellhfegaaGreatDoor.Ev
open Go.Proofs.YtpndhhellhfegaaGreatDoor.aa Go.RowKit
set_option linter.unusedVariables false
set_option maxRecDepth 100000
noncomputable section
abbrev eC.A:=(List aw)
namespace eC
def begin (a0:List aw):Tr Empty A:=
 .wM a0
  (.ret (([]:List aw)))
  (.ax (((List.length ([]:List aw):Int)+(List.length a0:Int))*(48:Nat)≤room) (.ret ((([]:List aw)++a0))))
def f (a0:List aw):Option A:=(begin a0).run (lp aB)
def told (a0:List aw):aa.Told A:=⟨f a0,fun _=>True,fun _ _=>trivial⟩
end eC
abbrev iE.A:=(List aw)×Int×Int×Int
namespace iE
def begin (a0:List aw) (a1 a2 a3:Int):Tr Empty A:=
 .call (eC.told a0) fun t1=> .ret (t1,a1,a2,a3)
def f (a0:List aw) (a1 a2 a3:Int):Option A:=(begin a0 a1 a2 a3).run (lp aB)
def told (a0:List aw) (a1 a2 a3:Int):aa.Told A:=⟨f a0 a1 a2 a3,fun _=>True,fun _ _=>trivial⟩
end iE
abbrev eK.A:=(List bR)
namespace eK
inductive X where
 | c3 (x0 x1 x2:List bR) (x3 x4:Int)
def begin (a0:List bR):Tr X A:=
 .jump (.c3 ([]:List bR) ([]:List bR) a0 (List.length a0:Int) (0:Int))
def tree:X→Tr X A
 | .c3 x0 x1 x2 x3 x4=>
 .ite (decide (x4<x3))
  (.ax ((0:Int)≤x4∧x4<(List.length x2:Int)) (.both (.last (.call (iE.told ((cS x2 x4).f0) ((cS x2 x4).f1.f0) ((cS x2 x4).f1.f1) ((cS x2 x4).f1.f2)) fun t1=> .last (.last (.ax (((List.length x1:Int)+(List.length ([(⟨t1.1,(⟨t1.2.1,t1.2.2.1,t1.2.2.2⟩:om)⟩:bR)]):Int))*(48:Nat)≤room) (.last (.jump (.c3 x0 (x1++[(⟨t1.1,(⟨t1.2.1,t1.2.2.1,t1.2.2.2⟩:om)⟩:bR)]) x2 x3 (wr (x4+(1:Int))))))))))
   (.last (.call (iE.told ((cS x2 x4).f0) ((cS x2 x4).f1.f0) ((cS x2 x4).f1.f1) ((cS x2 x4).f1.f2)) fun t1=>let u1_0:Tr X A:=(.last (.last (.ax (((List.length x1:Int)+(List.length ([(⟨t1.1,(⟨t1.2.1,t1.2.2.1,t1.2.2.2⟩:om)⟩:bR)]):Int))*(48:Nat)≤room) (.last (.jump (.c3 x0 (x1++[(⟨t1.1,(⟨t1.2.1,t1.2.2.1,t1.2.2.2⟩:om)⟩:bR)]) x2 x3 (wr (x4+(1:Int))))))))); .both (u1_0)
    (u1_0)))))
  (.ret x1)
def f (a0:List bR):Option A:=(begin a0).run (lp tree)
def told (a0:List bR):aa.Told A:=⟨f a0,fun _=>True,fun _ _=>trivial⟩
end eK
abbrev gl.A:=Int×(List Int)
namespace gl
def begin (a0:Int) (a1:List Int):Tr Empty A:=
 .both (.last (.call (aI.told a1) fun t1=> .last (.last (.last (.ret (a0,t1))))))
  (.last (.call (aI.told a1) fun t1=> .both (.last (.last (.last (.ret (a0,t1)))))
   (.last (.last (.last (.ret (a0,t1)))))))
def f (a0:Int) (a1:List Int):Option A:=(begin a0 a1).run (lp aB)
def told (a0:Int) (a1:List Int):aa.Told A:=⟨f a0 a1,fun _=>True,fun _ _=>trivial⟩
end gl
abbrev fp.A:=(List bR)×(List Int)×(List Int)×Int×Int×Int×Int×Int×Int×Int×Int×(List Int)×Int
namespace fp
def begin (a0:List bR) (a1 a2:List Int) (a3 a4 a5 a6 a7 a8 a9 a10:Int) (a11:List Int) (a12:Int):Tr Empty A:=
 .last (.call (eK.told a0) fun t1=> .last (.call (aI.told a1) fun t2=> .last (.call (aI.told a2) fun t3=> .last (.call (gl.told a10 a11) fun t4=> .last (.last (.last (.last (.ret (t1,t2,t3,a3,a4,a5,a6,a7,a8,a9,t4.1,t4.2,a12)))))))))
def f (a0:List bR) (a1 a2:List Int) (a3 a4 a5 a6 a7 a8 a9 a10:Int) (a11:List Int) (a12:Int):Option A:=(begin a0 a1 a2 a3 a4 a5 a6 a7 a8 a9 a10 a11 a12).run (lp aB)
def told (a0:List bR) (a1 a2:List Int) (a3 a4 a5 a6 a7 a8 a9 a10:Int) (a11:List Int) (a12:Int):aa.Told A:=⟨f a0 a1 a2 a3 a4 a5 a6 a7 a8 a9 a10 a11 a12,fun _=>True,fun _ _=>trivial⟩
end fp
abbrev gx.A:=Bool
namespace gx
def begin (a0:Int):Tr Empty A:=
 .call (aG.told a0 (0:Int) (1000:Int)) fun t1=> .ret t1
def f (a0:Int):Option A:=(begin a0).run (lp aB)
def told (a0:Int):aa.Told A:=⟨f a0,fun _=>True,fun _ _=>trivial⟩
end gx
abbrev ek.A:=Int
namespace ek
def begin (a0 a1 a2:Int):Tr Empty A:=
 .ite (decide (a2<a1))
  (.ret a1)
  (.ret ((if a2<(if a1>a0 then a1 else a0)then a2 else(if a1>a0 then a1 else a0))))
def f (a0 a1 a2:Int):Option A:=(begin a0 a1 a2).run (lp aB)
def told (a0 a1 a2:Int):aa.Told A:=⟨f a0 a1 a2,fun _=>True,fun _ _=>trivial⟩
end ek
abbrev fW.A:=(List bR)×(List Int)×(List Int)×Int×Int×Int×Int×Int×Int×Int×Int×(List Int)×Int
namespace fW
def begin (a0:Int) (a1:List bR) (a2 a3:List Int) (a4 a5 a6 a7 a8 a9 a10 a11:Int) (a12:List Int) (a13:Int):Tr Empty A:=
 .last (.call (ek.told (wr ((wr (a5+a0))-a8)) (0:Int) a6) fun t1=> .last (.ret (a1,a2,a3,a4,t1,a6,a7,a8,a9,a10,a11,a12,a13)))
def f (a0:Int) (a1:List bR) (a2 a3:List Int) (a4 a5 a6 a7 a8 a9 a10 a11:Int) (a12:List Int) (a13:Int):Option A:=(begin a0 a1 a2 a3 a4 a5 a6 a7 a8 a9 a10 a11 a12 a13).run (lp aB)
def told (a0:Int) (a1:List bR) (a2 a3:List Int) (a4 a5 a6 a7 a8 a9 a10 a11:Int) (a12:List Int) (a13:Int):aa.Told A:=⟨f a0 a1 a2 a3 a4 a5 a6 a7 a8 a9 a10 a11 a12 a13,fun _=>True,fun _ _=>trivial⟩
end fW
abbrev jz.A:=Int×Int
namespace jz
def begin (a0 a1 a2 a3:Int):Tr Empty A:=
 .call (dZ.told a0 a1) fun t1=> .ite (!t1)
  (.ret (a0,a1))
  (.call (dZ.told a2 a3) fun t2=> .ite (!t2)
   (.ret (a0,a1))
   (.ret ((if(wr (a0+a2))<(1000000:Int)then(wr (a0+a2))else(1000000:Int)),(if(wr (a1+a3))<(1000000:Int)then(wr (a1+a3))else(1000000:Int)))))
def f (a0 a1 a2 a3:Int):Option A:=(begin a0 a1 a2 a3).run (lp aB)
def told (a0 a1 a2 a3:Int):aa.Told A:=⟨f a0 a1 a2 a3,fun _=>True,fun _ _=>trivial⟩
end jz
abbrev iN.A:=Int×Int
namespace iN
def begin (a0 a1 a2:Int):Tr Empty A:=
 .call (jz.told a0 a1 a2 a2) fun t1=> .ret (t1.1,t1.2)
def f (a0 a1 a2:Int):Option A:=(begin a0 a1 a2).run (lp aB)
def told (a0 a1 a2:Int):aa.Told A:=⟨f a0 a1 a2,fun _=>True,fun _ _=>trivial⟩
end iN
abbrev cP.A:=(List fG)
namespace cP
inductive X where
 | c8 (x0:List Int) (x1 x2:Int) (x3:List fG) (x4:Int)
def begin (a0:List Int):Tr X A:=
 .ite (!decide ((List.length a0:Int)=(49:Int)))
  (.ret (([]:List fG)))
  (.ax ((0:Int)≤(8:Int)∧(8:Int)<(List.length a0:Int)) (.call (aS.told (cT a0 (8:Int))) fun t1=> .ite (decide (t1.2.1<(1:Int)))
   (.ret (([]:List fG)))
   (.jump (.c8 a0 t1.1 t1.2.2 ([]:List fG) (wr (t1.2.1-(1:Int)))))))
def tree:X→Tr X A
 | .c8 x0 x1 x2 x3 x4=>
 .ite (decide (x4≥(0:Int)))
  (.ax ((0:Int)≤(wr ((9:Int)+(wr ((2:Int)*x4))))∧(wr ((9:Int)+(wr ((2:Int)*x4))))<(List.length x0:Int)) (.call (dG.told (cT x0 (wr ((9:Int)+(wr ((2:Int)*x4)))))) fun t1=> .ite (!t1)
   (.ret (([]:List fG)))
   (.ax ((0:Int)≤(wr ((wr ((9:Int)+(wr ((2:Int)*x4))))+(1:Int)))∧(wr ((wr ((9:Int)+(wr ((2:Int)*x4))))+(1:Int)))<(List.length x0:Int)) (.val ([(⟨(cT x0 (wr ((9:Int)+(wr ((2:Int)*x4))))),(cT x0 (wr ((wr ((9:Int)+(wr ((2:Int)*x4))))+(1:Int))))⟩:fG)]:List fG) fun v2=> .ax (((List.length x3:Int)+(List.length v2:Int))*(16:Nat)≤room) (.jump (.c8 x0 x1 x2 (x3++v2) (wr (x4-(1:Int)))))))))
  (.call (bd.told x1 (0:Int) x2) fun t1=> .ax (((List.length x3:Int)+(List.length ([(⟨(8:Int),t1⟩:fG)]):Int))*(16:Nat)≤room) (.ret ((x3++[(⟨(8:Int),t1⟩:fG)]))))
def f (a0:List Int):Option A:=(begin a0).run (lp tree)
def told (a0:List Int):aa.Told A:=⟨f a0,fun _=>True,fun _ _=>trivial⟩
end cP
abbrev bC.A:=Bool×(List Int)×Int×(List (List Int))×Int
namespace bC
def begin (a0:Int) (a1:List Int) (a2:Int) (a3:List (List Int)) (a4:Int):Tr Empty A:=
 .ite (decide (a4<a0))
  (.ret (false,a1,a2,a3,a4))
  (.ret (true,a1,a2,a3,(wr (a4-a0))))
def f (a0:Int) (a1:List Int) (a2:Int) (a3:List (List Int)) (a4:Int):Option A:=(begin a0 a1 a2 a3 a4).run (lp aB)
def told (a0:Int) (a1:List Int) (a2:Int) (a3:List (List Int)) (a4:Int):aa.Told A:=⟨f a0 a1 a2 a3 a4,fun _=>True,fun _ _=>trivial⟩
end bC
abbrev bj.A:=Bool×(List Int)×Int×(List (List Int))×Int
namespace bj
inductive X where
 | c2 (x0:List fG) (x1 x2:Int) (x3:List Int) (x4:Int) (x5:List (List Int)) (x6:Int)
def begin (a0:List Int) (a1:Int) (a2:List (List Int)) (a3:Int):Tr X A:=
 .call (cP.told a0) fun t1=> .jump (.c2 t1 (List.length t1:Int) (0:Int) a0 a1 a2 a3)
def tree:X→Tr X A
 | .c2 x0 x1 x2 x3 x4 x5 x6=>
 .ite (decide (x2<x1))
  (.ax ((0:Int)≤x2∧x2<(List.length x0:Int)) (.call (bC.told (3:Int) x3 x4 x5 x6) fun t1=> .ite (!t1.1)
   (.ret (false,t1.2.1,t1.2.2.1,t1.2.2.2.1,t1.2.2.2.2))
   (.ax ((0:Int)≤(nU x0 x2).f0∧(nU x0 x2).f0<(List.length t1.2.1:Int)) (.last (.jump (.c2 x0 x1 (wr (x2+(1:Int))) (List.set t1.2.1 (Int.toNat ((nU x0 x2).f0)) ((nU x0 x2).f1)) t1.2.2.1 t1.2.2.2.1 t1.2.2.2.2))))))
  (.ret (true,x3,x4,x5,x6))
def f (a0:List Int) (a1:Int) (a2:List (List Int)) (a3:Int):Option A:=(begin a0 a1 a2 a3).run (lp tree)
def told (a0:List Int) (a1:Int) (a2:List (List Int)) (a3:Int):aa.Told A:=⟨f a0 a1 a2 a3,fun _=>True,fun _ _=>trivial⟩
end bj
abbrev slices_Sort_int.A:=(List Int)
namespace slices_Sort_int
noncomputable def f (a0:List Int):Option A:=if(a0.length:Int)<4611686018427387904 then some (a0.mergeSort fun x y=>decide (x≤y))else none
def told (a0:List Int):aa.Told A:=⟨f a0,fun _=>True,fun _ _=>trivial⟩
end slices_Sort_int
abbrev slices_Compact_int.A:=(List Int)
namespace slices_Compact_int
def f (a0:List Int):Option A:=some (Lib.compact a0)
def told (a0:List Int):aa.Told A:=⟨f a0,fun _=>True,fun _ _=>trivial⟩
end slices_Compact_int
abbrev fw.A:=(List Int)
namespace fw
inductive X where
 | c5 (x0 x1:List Int) (x2 x3:Int)
def begin (a0 a1 a2:Int):Tr X A:=
 .call (cH.told a0 a1 a2) fun t1=> .ite (!t1)
  (.ret (([]:List Int)))
  (.jump (.c5 ([]:List Int) ([a1,a2]) (List.length ([a1,a2]):Int) (0:Int)))
def tree:X→Tr X A
 | .c5 x0 x1 x2 x3=>
 .ite (decide (x3<x2))
  (.ax ((0:Int)≤x3∧x3<(List.length x1:Int)) (.ite (decide ((cT x1 x3)<(0:Int)))
   (.ax (((List.length x0:Int)+(List.length ([(wr ((-1:Int)-(cT x1 x3)))]):Int))*(8:Nat)≤room) (.jump (.c5 (x0++[(wr ((-1:Int)-(cT x1 x3)))]) x1 x2 (wr (x3+(1:Int))))))
   (.jump (.c5 x0 x1 x2 (wr (x3+(1:Int)))))))
  (.call (slices_Sort_int.told x0) fun t1=> .call (slices_Compact_int.told t1) fun t2=> .ret t2)
def f (a0 a1 a2:Int):Option A:=(begin a0 a1 a2).run (lp tree)
def told (a0 a1 a2:Int):aa.Told A:=⟨f a0 a1 a2,fun _=>True,fun _ _=>trivial⟩
end fw
abbrev cA.A:=Bool×Bool×Bool×Bool×Bool×Bool×Bool×Bool×Bool×Bool×Bool×Bool×Bool×Bool×Bool×Bool
namespace cA
inductive X where
 | c2 (x0:List Int) (x1 x2:Int) (x3 x4 x5 x6 x7 x8 x9 x10 x11 x12 x13 x14 x15 x16 x17 x18:Bool)
 | c5 (x0:Int) (x1:List Int) (x2 x3:Int) (x4 x5 x6 x7 x8 x9 x10 x11 x12 x13 x14 x15 x16 x17 x18 x19:Bool)
 | c6 (x0:List Int) (x1 x2:Int) (x3 x4 x5 x6 x7 x8 x9 x10 x11 x12 x13 x14 x15 x16 x17 x18:Bool)
def begin (a0 a1 a2:Int) (a3 a4 a5 a6 a7 a8 a9 a10 a11 a12 a13 a14 a15 a16 a17 a18:Bool):Tr X A:=
 .call (fw.told a0 a1 a2) fun t1=> .jump (.c2 t1 (List.length t1:Int) (0:Int) a3 a4 a5 a6 a7 a8 a9 a10 a11 a12 a13 a14 a15 a16 a17 a18)
def tree:X→Tr X A
 | .c2 x0 x1 x2 x3 x4 x5 x6 x7 x8 x9 x10 x11 x12 x13 x14 x15 x16 x17 x18=>
 let u0_0:Tr X A:=(.jump (.c6 x0 x1 x2 x3 x4 x5 x6 x7 x8 x9 x10 x11 x12 x13 x14 x15 x16 x17 x18));let u0_1:Tr X A:=(.jump (.c5 (cT x0 x2) x0 x1 x2 x3 x4 x5 x6 x7 x8 x9 x10 x11 x12 x13 x14 x15 x16 x17 x18)); .ite (decide (x2<x1))
  (.ax ((0:Int)≤x2∧x2<(List.length x0:Int)) (.ite (decide ((cT x0 x2)=(0:Int)))
   (.ite (!x3)
    (u0_1)
    (u0_0))
   (.ite (decide ((cT x0 x2)=(1:Int)))
    (.ite (!x4)
     (u0_1)
     (u0_0))
    (.ite (decide ((cT x0 x2)=(2:Int)))
     (.ite (!x5)
      (u0_1)
      (u0_0))
     (.ite (decide ((cT x0 x2)=(3:Int)))
      (.ite (!x6)
       (u0_1)
       (u0_0))
      (.ite (decide ((cT x0 x2)=(4:Int)))
       (.ite (!x7)
        (u0_1)
        (u0_0))
       (.ite (decide ((cT x0 x2)=(5:Int)))
        (.ite (!x8)
         (u0_1)
         (u0_0))
        (.ite (decide ((cT x0 x2)=(6:Int)))
         (.ite (!x9)
          (u0_1)
          (u0_0))
         (.ite (decide ((cT x0 x2)=(7:Int)))
          (.ite (!x10)
           (u0_1)
           (u0_0))
          (.fail))))))))))
  (.ret (x3,x4,x5,x6,x7,x8,x9,x10,x11,x12,x13,x14,x15,x16,x17,x18))
 | .c5 x0 x1 x2 x3 x4 x5 x6 x7 x8 x9 x10 x11 x12 x13 x14 x15 x16 x17 x18 x19=>
 .ite (decide (x0=(0:Int)))
  (.jump (.c6 x1 x2 x3 x4 x5 x6 x7 x8 x9 x10 x11 true x13 x14 x15 x16 x17 x18 x19))
  (.ite (decide (x0=(1:Int)))
   (.jump (.c6 x1 x2 x3 x4 x5 x6 x7 x8 x9 x10 x11 x12 true x14 x15 x16 x17 x18 x19))
   (.ite (decide (x0=(2:Int)))
    (.jump (.c6 x1 x2 x3 x4 x5 x6 x7 x8 x9 x10 x11 x12 x13 true x15 x16 x17 x18 x19))
    (.ite (decide (x0=(3:Int)))
     (.jump (.c6 x1 x2 x3 x4 x5 x6 x7 x8 x9 x10 x11 x12 x13 x14 true x16 x17 x18 x19))
     (.ite (decide (x0=(4:Int)))
      (.jump (.c6 x1 x2 x3 x4 x5 x6 x7 x8 x9 x10 x11 x12 x13 x14 x15 true x17 x18 x19))
      (.ite (decide (x0=(5:Int)))
       (.jump (.c6 x1 x2 x3 x4 x5 x6 x7 x8 x9 x10 x11 x12 x13 x14 x15 x16 true x18 x19))
       (.ite (decide (x0=(6:Int)))
        (.jump (.c6 x1 x2 x3 x4 x5 x6 x7 x8 x9 x10 x11 x12 x13 x14 x15 x16 x17 true x19))
        (.ite (decide (x0=(7:Int)))
         (.jump (.c6 x1 x2 x3 x4 x5 x6 x7 x8 x9 x10 x11 x12 x13 x14 x15 x16 x17 x18 true))
         (.fail))))))))
 | .c6 x0 x1 x2 x3 x4 x5 x6 x7 x8 x9 x10 x11 x12 x13 x14 x15 x16 x17 x18=>
 .jump (.c2 x0 x1 (wr (x2+(1:Int))) x3 x4 x5 x6 x7 x8 x9 x10 x11 x12 x13 x14 x15 x16 x17 x18)
def f (a0 a1 a2:Int) (a3 a4 a5 a6 a7 a8 a9 a10 a11 a12 a13 a14 a15 a16 a17 a18:Bool):Option A:=(begin a0 a1 a2 a3 a4 a5 a6 a7 a8 a9 a10 a11 a12 a13 a14 a15 a16 a17 a18).run (lp tree)
def told (a0 a1 a2:Int) (a3 a4 a5 a6 a7 a8 a9 a10 a11 a12 a13 a14 a15 a16 a17 a18:Bool):aa.Told A:=⟨f a0 a1 a2 a3 a4 a5 a6 a7 a8 a9 a10 a11 a12 a13 a14 a15 a16 a17 a18,fun _=>True,fun _ _=>trivial⟩
end cA
abbrev dN.A:=Int
namespace dN
inductive X where
 | c3 (x0:List aw) (x1 x2:Int)
def begin (a0:List aw) (a1:Int):Tr X A:=
 .jump (.c3 a0 (0:Int) a1)
def tree:X→Tr X A
 | .c3 x0 x1 x2=>
 .ite (decide (x2<(List.length x0:Int)))
  (.ax ((0:Int)≤x2∧x2<(List.length x0:Int)) (.call (bI.told ((aj x0 x2).f0)) fun t1=> .ite t1
   (.ax ((0:Int)≤x2∧x2<(List.length x0:Int)) (.ite (decide ((aj x0 x2).f0=(6:Int)))
    (.ite (decide ((wr ((wr (x1+(1:Int)))-(1:Int)))=(0:Int)))
     (.ret x2)
     (.jump (.c3 x0 (wr ((wr (x1+(1:Int)))-(1:Int))) (wr (x2+(1:Int))))))
    (.ite (decide ((wr (x1+(1:Int)))=(0:Int)))
     (.ret x2)
     (.jump (.c3 x0 (wr (x1+(1:Int))) (wr (x2+(1:Int))))))))
   (.ax ((0:Int)≤x2∧x2<(List.length x0:Int)) (.ite (decide ((aj x0 x2).f0=(6:Int)))
    (.ite (decide ((wr (x1-(1:Int)))=(0:Int)))
     (.ret x2)
     (.jump (.c3 x0 (wr (x1-(1:Int))) (wr (x2+(1:Int))))))
    (.ite (decide (x1=(0:Int)))
     (.ret x2)
     (.jump (.c3 x0 x1 (wr (x2+(1:Int))))))))))
  (.ret ((-1:Int)))
def f (a0:List aw) (a1:Int):Option A:=(begin a0 a1).run (lp tree)
def told (a0:List aw) (a1:Int):aa.Told A:=⟨f a0 a1,fun _=>True,fun _ _=>trivial⟩
end dN
abbrev aO.A:=Bool×Bool×Bool×Bool×Bool×Bool×Bool×Bool×Bool×Bool×Bool×Bool×Bool×Bool×Bool×Bool
namespace aO
abbrev I:=(List aw)×Bool×Bool×Bool×Bool×Bool×Bool×Bool×Bool×Bool×Bool×Bool×Bool×Bool×Bool×Bool×Bool
abbrev K:I→A→Prop:=fun _ _=>True
inductive X where
 | c1 (x0:List aw) (x1:Int) (x2 x3 x4 x5 x6 x7 x8 x9 x10 x11 x12 x13 x14 x15 x16 x17:Bool)
 | c8 (x0:List aw) (x1 x2 x3 x4 x5 x6 x7:Int) (x8 x9 x10 x11 x12 x13 x14 x15 x16 x17 x18 x19 x20 x21 x22 x23:Bool)
 | Fi (x0:List aw) (x1 x2:Int) (x3 x4 x5 x6 x7 x8 x9 x10 x11 x12 x13 x14 x15 x16 x17 x18 x19 x20 x21 x22 x23 x24 x25 x26:Bool)
def begin (self_:Self I A K) (a0:List aw) (a1 a2 a3 a4 a5 a6 a7 a8 a9 a10 a11 a12 a13 a14 a15 a16:Bool):Tr X A:=
 .jump (.c1 a0 (0:Int) a1 a2 a3 a4 a5 a6 a7 a8 a9 a10 a11 a12 a13 a14 a15 a16)
def tree (self_:Self I A K):X→Tr X A
 | .c1 x0 x1 x2 x3 x4 x5 x6 x7 x8 x9 x10 x11 x12 x13 x14 x15 x16 x17=>
 .ite (decide (x1<(List.length x0:Int)))
  (.ax ((0:Int)≤x1∧x1<(List.length x0:Int)) (.call (cK.told ((aj x0 x1).f0)) fun t1=> .ite t1
   (.call (cA.told ((aj x0 x1).f3.f0) ((aj x0 x1).f3.f1) ((aj x0 x1).f3.f2) x2 x3 x4 x5 x6 x7 x8 x9 x10 x11 x12 x13 x14 x15 x16 x17) fun t2=> .call (bU.told ((aj x0 x1).f0)) fun t3=> .ite t3
    (.ite (decide ((aj x0 x1).f1=(0:Int)))
     (.last (.jump (.c8 x0 x1 ((aj x0 x1).f0) ((aj x0 x1).f1) ((aj x0 x1).f2) ((aj x0 x1).f3.f0) ((aj x0 x1).f3.f1) ((aj x0 x1).f3.f2) true t2.2.1 t2.2.2.1 t2.2.2.2.1 t2.2.2.2.2.1 t2.2.2.2.2.2.1 t2.2.2.2.2.2.2.1 t2.2.2.2.2.2.2.2.1 t2.2.2.2.2.2.2.2.2.1 t2.2.2.2.2.2.2.2.2.2.1 t2.2.2.2.2.2.2.2.2.2.2.1 t2.2.2.2.2.2.2.2.2.2.2.2.1 t2.2.2.2.2.2.2.2.2.2.2.2.2.1 t2.2.2.2.2.2.2.2.2.2.2.2.2.2.1 t2.2.2.2.2.2.2.2.2.2.2.2.2.2.2.1 t2.2.2.2.2.2.2.2.2.2.2.2.2.2.2.2)))
     (.ite (decide ((aj x0 x1).f1=(1:Int)))
      (.last (.jump (.c8 x0 x1 ((aj x0 x1).f0) ((aj x0 x1).f1) ((aj x0 x1).f2) ((aj x0 x1).f3.f0) ((aj x0 x1).f3.f1) ((aj x0 x1).f3.f2) t2.1 true t2.2.2.1 t2.2.2.2.1 t2.2.2.2.2.1 t2.2.2.2.2.2.1 t2.2.2.2.2.2.2.1 t2.2.2.2.2.2.2.2.1 t2.2.2.2.2.2.2.2.2.1 t2.2.2.2.2.2.2.2.2.2.1 t2.2.2.2.2.2.2.2.2.2.2.1 t2.2.2.2.2.2.2.2.2.2.2.2.1 t2.2.2.2.2.2.2.2.2.2.2.2.2.1 t2.2.2.2.2.2.2.2.2.2.2.2.2.2.1 t2.2.2.2.2.2.2.2.2.2.2.2.2.2.2.1 t2.2.2.2.2.2.2.2.2.2.2.2.2.2.2.2)))
      (.ite (decide ((aj x0 x1).f1=(2:Int)))
       (.last (.jump (.c8 x0 x1 ((aj x0 x1).f0) ((aj x0 x1).f1) ((aj x0 x1).f2) ((aj x0 x1).f3.f0) ((aj x0 x1).f3.f1) ((aj x0 x1).f3.f2) t2.1 t2.2.1 true t2.2.2.2.1 t2.2.2.2.2.1 t2.2.2.2.2.2.1 t2.2.2.2.2.2.2.1 t2.2.2.2.2.2.2.2.1 t2.2.2.2.2.2.2.2.2.1 t2.2.2.2.2.2.2.2.2.2.1 t2.2.2.2.2.2.2.2.2.2.2.1 t2.2.2.2.2.2.2.2.2.2.2.2.1 t2.2.2.2.2.2.2.2.2.2.2.2.2.1 t2.2.2.2.2.2.2.2.2.2.2.2.2.2.1 t2.2.2.2.2.2.2.2.2.2.2.2.2.2.2.1 t2.2.2.2.2.2.2.2.2.2.2.2.2.2.2.2)))
       (.ite (decide ((aj x0 x1).f1=(3:Int)))
        (.last (.jump (.c8 x0 x1 ((aj x0 x1).f0) ((aj x0 x1).f1) ((aj x0 x1).f2) ((aj x0 x1).f3.f0) ((aj x0 x1).f3.f1) ((aj x0 x1).f3.f2) t2.1 t2.2.1 t2.2.2.1 true t2.2.2.2.2.1 t2.2.2.2.2.2.1 t2.2.2.2.2.2.2.1 t2.2.2.2.2.2.2.2.1 t2.2.2.2.2.2.2.2.2.1 t2.2.2.2.2.2.2.2.2.2.1 t2.2.2.2.2.2.2.2.2.2.2.1 t2.2.2.2.2.2.2.2.2.2.2.2.1 t2.2.2.2.2.2.2.2.2.2.2.2.2.1 t2.2.2.2.2.2.2.2.2.2.2.2.2.2.1 t2.2.2.2.2.2.2.2.2.2.2.2.2.2.2.1 t2.2.2.2.2.2.2.2.2.2.2.2.2.2.2.2)))
        (.ite (decide ((aj x0 x1).f1=(4:Int)))
         (.last (.jump (.c8 x0 x1 ((aj x0 x1).f0) ((aj x0 x1).f1) ((aj x0 x1).f2) ((aj x0 x1).f3.f0) ((aj x0 x1).f3.f1) ((aj x0 x1).f3.f2) t2.1 t2.2.1 t2.2.2.1 t2.2.2.2.1 true t2.2.2.2.2.2.1 t2.2.2.2.2.2.2.1 t2.2.2.2.2.2.2.2.1 t2.2.2.2.2.2.2.2.2.1 t2.2.2.2.2.2.2.2.2.2.1 t2.2.2.2.2.2.2.2.2.2.2.1 t2.2.2.2.2.2.2.2.2.2.2.2.1 t2.2.2.2.2.2.2.2.2.2.2.2.2.1 t2.2.2.2.2.2.2.2.2.2.2.2.2.2.1 t2.2.2.2.2.2.2.2.2.2.2.2.2.2.2.1 t2.2.2.2.2.2.2.2.2.2.2.2.2.2.2.2)))
         (.ite (decide ((aj x0 x1).f1=(5:Int)))
          (.last (.jump (.c8 x0 x1 ((aj x0 x1).f0) ((aj x0 x1).f1) ((aj x0 x1).f2) ((aj x0 x1).f3.f0) ((aj x0 x1).f3.f1) ((aj x0 x1).f3.f2) t2.1 t2.2.1 t2.2.2.1 t2.2.2.2.1 t2.2.2.2.2.1 true t2.2.2.2.2.2.2.1 t2.2.2.2.2.2.2.2.1 t2.2.2.2.2.2.2.2.2.1 t2.2.2.2.2.2.2.2.2.2.1 t2.2.2.2.2.2.2.2.2.2.2.1 t2.2.2.2.2.2.2.2.2.2.2.2.1 t2.2.2.2.2.2.2.2.2.2.2.2.2.1 t2.2.2.2.2.2.2.2.2.2.2.2.2.2.1 t2.2.2.2.2.2.2.2.2.2.2.2.2.2.2.1 t2.2.2.2.2.2.2.2.2.2.2.2.2.2.2.2)))
          (.ite (decide ((aj x0 x1).f1=(6:Int)))
           (.last (.jump (.c8 x0 x1 ((aj x0 x1).f0) ((aj x0 x1).f1) ((aj x0 x1).f2) ((aj x0 x1).f3.f0) ((aj x0 x1).f3.f1) ((aj x0 x1).f3.f2) t2.1 t2.2.1 t2.2.2.1 t2.2.2.2.1 t2.2.2.2.2.1 t2.2.2.2.2.2.1 true t2.2.2.2.2.2.2.2.1 t2.2.2.2.2.2.2.2.2.1 t2.2.2.2.2.2.2.2.2.2.1 t2.2.2.2.2.2.2.2.2.2.2.1 t2.2.2.2.2.2.2.2.2.2.2.2.1 t2.2.2.2.2.2.2.2.2.2.2.2.2.1 t2.2.2.2.2.2.2.2.2.2.2.2.2.2.1 t2.2.2.2.2.2.2.2.2.2.2.2.2.2.2.1 t2.2.2.2.2.2.2.2.2.2.2.2.2.2.2.2)))
           (.ite (decide ((aj x0 x1).f1=(7:Int)))
            (.last (.jump (.c8 x0 x1 ((aj x0 x1).f0) ((aj x0 x1).f1) ((aj x0 x1).f2) ((aj x0 x1).f3.f0) ((aj x0 x1).f3.f1) ((aj x0 x1).f3.f2) t2.1 t2.2.1 t2.2.2.1 t2.2.2.2.1 t2.2.2.2.2.1 t2.2.2.2.2.2.1 t2.2.2.2.2.2.2.1 true t2.2.2.2.2.2.2.2.2.1 t2.2.2.2.2.2.2.2.2.2.1 t2.2.2.2.2.2.2.2.2.2.2.1 t2.2.2.2.2.2.2.2.2.2.2.2.1 t2.2.2.2.2.2.2.2.2.2.2.2.2.1 t2.2.2.2.2.2.2.2.2.2.2.2.2.2.1 t2.2.2.2.2.2.2.2.2.2.2.2.2.2.2.1 t2.2.2.2.2.2.2.2.2.2.2.2.2.2.2.2)))
            (.fail)))))))))
    (.jump (.c8 x0 x1 ((aj x0 x1).f0) ((aj x0 x1).f1) ((aj x0 x1).f2) ((aj x0 x1).f3.f0) ((aj x0 x1).f3.f1) ((aj x0 x1).f3.f2) t2.1 t2.2.1 t2.2.2.1 t2.2.2.2.1 t2.2.2.2.2.1 t2.2.2.2.2.2.1 t2.2.2.2.2.2.2.1 t2.2.2.2.2.2.2.2.1 t2.2.2.2.2.2.2.2.2.1 t2.2.2.2.2.2.2.2.2.2.1 t2.2.2.2.2.2.2.2.2.2.2.1 t2.2.2.2.2.2.2.2.2.2.2.2.1 t2.2.2.2.2.2.2.2.2.2.2.2.2.1 t2.2.2.2.2.2.2.2.2.2.2.2.2.2.1 t2.2.2.2.2.2.2.2.2.2.2.2.2.2.2.1 t2.2.2.2.2.2.2.2.2.2.2.2.2.2.2.2)))
   (.call (bU.told ((aj x0 x1).f0)) fun t2=> .ite t2
    (.ite (decide ((aj x0 x1).f1=(0:Int)))
     (.last (.jump (.c8 x0 x1 ((aj x0 x1).f0) ((aj x0 x1).f1) ((aj x0 x1).f2) ((aj x0 x1).f3.f0) ((aj x0 x1).f3.f1) ((aj x0 x1).f3.f2) true x3 x4 x5 x6 x7 x8 x9 x10 x11 x12 x13 x14 x15 x16 x17)))
     (.ite (decide ((aj x0 x1).f1=(1:Int)))
      (.last (.jump (.c8 x0 x1 ((aj x0 x1).f0) ((aj x0 x1).f1) ((aj x0 x1).f2) ((aj x0 x1).f3.f0) ((aj x0 x1).f3.f1) ((aj x0 x1).f3.f2) x2 true x4 x5 x6 x7 x8 x9 x10 x11 x12 x13 x14 x15 x16 x17)))
      (.ite (decide ((aj x0 x1).f1=(2:Int)))
       (.last (.jump (.c8 x0 x1 ((aj x0 x1).f0) ((aj x0 x1).f1) ((aj x0 x1).f2) ((aj x0 x1).f3.f0) ((aj x0 x1).f3.f1) ((aj x0 x1).f3.f2) x2 x3 true x5 x6 x7 x8 x9 x10 x11 x12 x13 x14 x15 x16 x17)))
       (.ite (decide ((aj x0 x1).f1=(3:Int)))
        (.last (.jump (.c8 x0 x1 ((aj x0 x1).f0) ((aj x0 x1).f1) ((aj x0 x1).f2) ((aj x0 x1).f3.f0) ((aj x0 x1).f3.f1) ((aj x0 x1).f3.f2) x2 x3 x4 true x6 x7 x8 x9 x10 x11 x12 x13 x14 x15 x16 x17)))
        (.ite (decide ((aj x0 x1).f1=(4:Int)))
         (.last (.jump (.c8 x0 x1 ((aj x0 x1).f0) ((aj x0 x1).f1) ((aj x0 x1).f2) ((aj x0 x1).f3.f0) ((aj x0 x1).f3.f1) ((aj x0 x1).f3.f2) x2 x3 x4 x5 true x7 x8 x9 x10 x11 x12 x13 x14 x15 x16 x17)))
         (.ite (decide ((aj x0 x1).f1=(5:Int)))
          (.last (.jump (.c8 x0 x1 ((aj x0 x1).f0) ((aj x0 x1).f1) ((aj x0 x1).f2) ((aj x0 x1).f3.f0) ((aj x0 x1).f3.f1) ((aj x0 x1).f3.f2) x2 x3 x4 x5 x6 true x8 x9 x10 x11 x12 x13 x14 x15 x16 x17)))
          (.ite (decide ((aj x0 x1).f1=(6:Int)))
           (.last (.jump (.c8 x0 x1 ((aj x0 x1).f0) ((aj x0 x1).f1) ((aj x0 x1).f2) ((aj x0 x1).f3.f0) ((aj x0 x1).f3.f1) ((aj x0 x1).f3.f2) x2 x3 x4 x5 x6 x7 true x9 x10 x11 x12 x13 x14 x15 x16 x17)))
           (.ite (decide ((aj x0 x1).f1=(7:Int)))
            (.last (.jump (.c8 x0 x1 ((aj x0 x1).f0) ((aj x0 x1).f1) ((aj x0 x1).f2) ((aj x0 x1).f3.f0) ((aj x0 x1).f3.f1) ((aj x0 x1).f3.f2) x2 x3 x4 x5 x6 x7 x8 true x10 x11 x12 x13 x14 x15 x16 x17)))
            (.fail)))))))))
    (.jump (.c8 x0 x1 ((aj x0 x1).f0) ((aj x0 x1).f1) ((aj x0 x1).f2) ((aj x0 x1).f3.f0) ((aj x0 x1).f3.f1) ((aj x0 x1).f3.f2) x2 x3 x4 x5 x6 x7 x8 x9 x10 x11 x12 x13 x14 x15 x16 x17)))))
  (.ret (x2,x3,x4,x5,x6,x7,x8,x9,x10,x11,x12,x13,x14,x15,x16,x17))
 | .c8 x0 x1 x2 x3 x4 x5 x6 x7 x8 x9 x10 x11 x12 x13 x14 x15 x16 x17 x18 x19 x20 x21 x22 x23=>
 .ite (decide (x2=(4:Int)))
  (.call (dN.told x0 x1) fun t1=> .jump (.Fi x0 x1 t1 x8 x9 x10 x11 x12 x13 x14 x15 x8 x9 x10 x11 x12 x13 x14 x15 x16 x17 x18 x19 x20 x21 x22 x23))
  (.jump (.c1 x0 (wr (x1+(1:Int))) x8 x9 x10 x11 x12 x13 x14 x15 x16 x17 x18 x19 x20 x21 x22 x23))
 | .Fi x0 x1 x2 x3 x4 x5 x6 x7 x8 x9 x10 x11 x12 x13 x14 x15 x16 x17 x18 x19 x20 x21 x22 x23 x24 x25 x26=>
 .ax ((0:Int)≤(wr (x1+(1:Int)))∧(wr (x1+(1:Int)))≤x2∧x2≤(List.length x0:Int)) (.call (self_.told ((List.drop (Int.toNat (wr (x1+(1:Int)))) (List.take (Int.toNat x2) x0)),x11,x12,x13,x14,x15,x16,x17,x18,x19,x20,x21,x22,x23,x24,x25,x26)) fun t1=> .jump (.c1 x0 (wr (x2+(1:Int))) x3 x4 x5 x6 x7 x8 x9 x10 t1.2.2.2.2.2.2.2.2.1 t1.2.2.2.2.2.2.2.2.2.1 t1.2.2.2.2.2.2.2.2.2.2.1 t1.2.2.2.2.2.2.2.2.2.2.2.1 t1.2.2.2.2.2.2.2.2.2.2.2.2.1 t1.2.2.2.2.2.2.2.2.2.2.2.2.2.1 t1.2.2.2.2.2.2.2.2.2.2.2.2.2.2.1 t1.2.2.2.2.2.2.2.2.2.2.2.2.2.2.2))
def step (self_:Self I A K):Self I A K:=⟨fun i_=>(begin self_ i_.1 i_.2.1 i_.2.2.1 i_.2.2.2.1 i_.2.2.2.2.1 i_.2.2.2.2.2.1 i_.2.2.2.2.2.2.1 i_.2.2.2.2.2.2.2.1 i_.2.2.2.2.2.2.2.2.1 i_.2.2.2.2.2.2.2.2.2.1 i_.2.2.2.2.2.2.2.2.2.2.1 i_.2.2.2.2.2.2.2.2.2.2.2.1 i_.2.2.2.2.2.2.2.2.2.2.2.2.1 i_.2.2.2.2.2.2.2.2.2.2.2.2.2.1 i_.2.2.2.2.2.2.2.2.2.2.2.2.2.2.1 i_.2.2.2.2.2.2.2.2.2.2.2.2.2.2.2.1 i_.2.2.2.2.2.2.2.2.2.2.2.2.2.2.2.2).run (lp (tree self_)),fun _ _ _=>trivial⟩
def f (a0:List aw) (a1 a2 a3 a4 a5 a6 a7 a8 a9 a10 a11 a12 a13 a14 a15 a16:Bool):Option A:=(Self.iter step 8).f (a0,a1,a2,a3,a4,a5,a6,a7,a8,a9,a10,a11,a12,a13,a14,a15,a16)
def told (a0:List aw) (a1 a2 a3 a4 a5 a6 a7 a8 a9 a10 a11 a12 a13 a14 a15 a16:Bool):aa.Told A:=⟨f a0 a1 a2 a3 a4 a5 a6 a7 a8 a9 a10 a11 a12 a13 a14 a15 a16,fun _=>True,fun _ _=>trivial⟩
end aO
abbrev cL.A:=(List Int)
namespace cL
inductive X where
 | c8 (x0:List Int) (x1 x2 x3 x4 x5 x6 x7 x8:Bool) (x9:Int)
def begin (a0:List aw) (a1 a2 a3:Int):Tr X A:=
 .call (cX.told a0 a1 a2 a3) fun t1=> .ite (!t1)
  (.ret (([]:List Int)))
  (.call (aO.told a0 false false false false false false false false false false false false false false false false) fun t2=> .call (cA.told a1 a2 a3 t2.1 t2.2.1 t2.2.2.1 t2.2.2.2.1 t2.2.2.2.2.1 t2.2.2.2.2.2.1 t2.2.2.2.2.2.2.1 t2.2.2.2.2.2.2.2.1 t2.2.2.2.2.2.2.2.2.1 t2.2.2.2.2.2.2.2.2.2.1 t2.2.2.2.2.2.2.2.2.2.2.1 t2.2.2.2.2.2.2.2.2.2.2.2.1 t2.2.2.2.2.2.2.2.2.2.2.2.2.1 t2.2.2.2.2.2.2.2.2.2.2.2.2.2.1 t2.2.2.2.2.2.2.2.2.2.2.2.2.2.2.1 t2.2.2.2.2.2.2.2.2.2.2.2.2.2.2.2) fun t3=> .jump (.c8 ([]:List Int) t3.2.2.2.2.2.2.2.2.1 t3.2.2.2.2.2.2.2.2.2.1 t3.2.2.2.2.2.2.2.2.2.2.1 t3.2.2.2.2.2.2.2.2.2.2.2.1 t3.2.2.2.2.2.2.2.2.2.2.2.2.1 t3.2.2.2.2.2.2.2.2.2.2.2.2.2.1 t3.2.2.2.2.2.2.2.2.2.2.2.2.2.2.1 t3.2.2.2.2.2.2.2.2.2.2.2.2.2.2.2 (0:Int)))
def tree:X→Tr X A
 | .c8 x0 x1 x2 x3 x4 x5 x6 x7 x8 x9=>
 .ite (decide (x9<(8:Int)))
  (.ax ((0:Int)≤x9∧x9<(8:Int)) (.ite (List.getD [x1,x2,x3,x4,x5,x6,x7,x8] (Int.toNat x9) false)
   (.ax (((List.length x0:Int)+(List.length ([x9]):Int))*(8:Nat)≤room) (.jump (.c8 (x0++[x9]) x1 x2 x3 x4 x5 x6 x7 x8 (wr (x9+(1:Int))))))
   (.jump (.c8 x0 x1 x2 x3 x4 x5 x6 x7 x8 (wr (x9+(1:Int)))))))
  (.ret x0)
def f (a0:List aw) (a1 a2 a3:Int):Option A:=(begin a0 a1 a2 a3).run (lp tree)
def told (a0:List aw) (a1 a2 a3:Int):aa.Told A:=⟨f a0 a1 a2 a3,fun _=>True,fun _ _=>trivial⟩
end cL
abbrev fv.A:=Bool×(List Bool)
namespace fv
def begin (a0:Int) (a1:List Bool):Tr Empty A:=
 .ax ((0:Int)≤a0∧a0<(List.length a1:Int)) (.ret ((!(D2 a1 a0)),a1))
def f (a0:Int) (a1:List Bool):Option A:=(begin a0 a1).run (lp aB)
def told (a0:Int) (a1:List Bool):aa.Told A:=⟨f a0 a1,fun _=>True,fun _ _=>trivial⟩
end fv
abbrev gp.A:=(List Int)×(List Bool)
namespace gp
inductive X where
 | c3 (x0:List Int) (x1:List aw) (x2 x3:Int) (x4:List Bool)
def begin (a0:List aw) (a1:List Bool):Tr X A:=
 .jump (.c3 ([]:List Int) a0 (List.length a0:Int) (0:Int) a1)
def tree:X→Tr X A
 | .c3 x0 x1 x2 x3 x4=>
 .ite (decide (x3<x2))
  (.ax ((0:Int)≤x3∧x3<(List.length x1:Int)) (.call (bU.told ((aj x1 x3).f0)) fun t1=> .ite t1
   (.call (fv.told x3 x4) fun t2=> .ite t2.1
    (.ax (((List.length x0:Int)+(List.length ([(aj x1 x3).f1]):Int))*(8:Nat)≤room) (.jump (.c3 (x0++[(aj x1 x3).f1]) x1 x2 (wr (x3+(1:Int))) t2.2)))
    (.jump (.c3 x0 x1 x2 (wr (x3+(1:Int))) t2.2)))
   (.jump (.c3 x0 x1 x2 (wr (x3+(1:Int))) x4))))
  (.call (slices_Sort_int.told x0) fun t1=> .call (slices_Compact_int.told t1) fun t2=> .ret (t2,x4))
def f (a0:List aw) (a1:List Bool):Option A:=(begin a0 a1).run (lp tree)
def told (a0:List aw) (a1:List Bool):aa.Told A:=⟨f a0 a1,fun _=>True,fun _ _=>trivial⟩
end gp
abbrev bY.A:=(List Int)
namespace bY
inductive X where
 | c5 (x0:List aw) (x1:List Bool) (x2:List aw) (x3 x4:Int)
 | c9 (x0:List aw) (x1:List Bool) (x2 x3:Int) (x4:List aw) (x5 x6:Int)
def begin (a0:List aw):Tr X A:=
 .call (bQ.told a0) fun t1=> .ite (!t1)
  (.ret (([]:List Int)))
  (.ax ((0:Int)≤(List.length a0:Int)∧(List.length a0:Int)≤(List.length a0:Int)∧(List.length a0:Int)*(1:Nat)≤room) (.jump (.c5 a0 (List.replicate (Int.toNat (List.length a0:Int)) false) a0 (List.length a0:Int) (0:Int))))
def tree:X→Tr X A
 | .c5 x0 x1 x2 x3 x4=>
 .ite (decide (x4<x3))
  (.ax ((0:Int)≤x4∧x4<(List.length x2:Int)) (.ite (decide ((aj x2 x4).f0=(4:Int)))
   (.jump (.c9 x0 x1 x4 x4 x2 x3 x4))
   (.jump (.c5 x0 x1 x2 x3 (wr (x4+(1:Int)))))))
  (.call (gp.told x0 x1) fun t1=> .ret t1.1)
 | .c9 x0 x1 x2 x3 x4 x5 x6=>
 .call (dN.told x0 x2) fun t1=> .ite (decide (x3≤t1))
  (.ax ((0:Int)≤x3∧x3<(List.length x1:Int)) (.jump (.c9 x0 (List.set x1 (Int.toNat x3) true) x2 (wr (x3+(1:Int))) x4 x5 x6)))
  (.jump (.c5 x0 x1 x4 x5 (wr (x6+(1:Int)))))
def f (a0:List aw):Option A:=(begin a0).run (lp tree)
def told (a0:List aw):aa.Told A:=⟨f a0,fun _=>True,fun _ _=>trivial⟩
end bY
abbrev ik.A:=Bool
namespace ik
def begin (a0:Int):Tr Empty A:=
 .ret true
def f (a0:Int):Option A:=(begin a0).run (lp aB)
def told (a0:Int):aa.Told A:=⟨f a0,fun _=>True,fun _ _=>trivial⟩
end ik
abbrev fo.A:=(List Int)
namespace fo
inductive X where
 | c3 (x0:List Int) (x1:List aw) (x2 x3:Int)
def begin (a0:List aw):Tr X A:=
 .jump (.c3 ([]:List Int) a0 (List.length a0:Int) (0:Int))
def tree:X→Tr X A
 | .c3 x0 x1 x2 x3=>
 .ite (decide (x3<x2))
  (.ax ((0:Int)≤x3∧x3<(List.length x1:Int)) (.call (bU.told ((aj x1 x3).f0)) fun t1=> .ite t1
   (.call (ik.told x3) fun t2=> .ite t2
    (.ax (((List.length x0:Int)+(List.length ([(aj x1 x3).f1]):Int))*(8:Nat)≤room) (.jump (.c3 (x0++[(aj x1 x3).f1]) x1 x2 (wr (x3+(1:Int))))))
    (.jump (.c3 x0 x1 x2 (wr (x3+(1:Int))))))
   (.jump (.c3 x0 x1 x2 (wr (x3+(1:Int)))))))
  (.call (slices_Sort_int.told x0) fun t1=> .call (slices_Compact_int.told t1) fun t2=> .ret t2)
def f (a0:List aw):Option A:=(begin a0).run (lp tree)
def told (a0:List aw):aa.Told A:=⟨f a0,fun _=>True,fun _ _=>trivial⟩
end fo
abbrev iB.A:=(List Int)
namespace iB
def begin (a0:List aw):Tr Empty A:=
 .call (bQ.told a0) fun t1=> .ite (!t1)
  (.ret (([]:List Int)))
  (.call (fo.told a0) fun t2=> .ret t2)
def f (a0:List aw):Option A:=(begin a0).run (lp aB)
def told (a0:List aw):aa.Told A:=⟨f a0,fun _=>True,fun _ _=>trivial⟩
end iB
abbrev eQ.A:=Int
namespace eQ
inductive X where
 | c2 (x0:List Int) (x1 x2 x3:Int)
def begin (a0:List Int) (a1:Int):Tr X A:=
 .jump (.c2 a0 a1 (List.length a0:Int) (0:Int))
def tree:X→Tr X A
 | .c2 x0 x1 x2 x3=>
 .ite (decide (x3<x2))
  (.ax ((0:Int)≤x3∧x3<(List.length x0:Int)) (.ite (decide (x1=(cT x0 x3)))
   (.ret x3)
   (.jump (.c2 x0 x1 x2 (wr (x3+(1:Int)))))))
  (.ret ((-1:Int)))
def f (a0:List Int) (a1:Int):Option A:=(begin a0 a1).run (lp tree)
def told (a0:List Int) (a1:Int):aa.Told A:=⟨f a0 a1,fun _=>True,fun _ _=>trivial⟩
end eQ
abbrev fU.A:=Bool
namespace fU
def begin (a0:List Int) (a1:Int):Tr Empty A:=
 .call (eQ.told a0 a1) fun t1=> .ret ((decide (t1≥(0:Int))))
def f (a0:List Int) (a1:Int):Option A:=(begin a0 a1).run (lp aB)
def told (a0:List Int) (a1:Int):aa.Told A:=⟨f a0 a1,fun _=>True,fun _ _=>trivial⟩
end fU
abbrev gA.A:=Bool
namespace gA
def begin (a0:List Int) (a1:Int):Tr Empty A:=
 .call (fU.told a0 a1) fun t1=> .ret t1
def f (a0:List Int) (a1:Int):Option A:=(begin a0 a1).run (lp aB)
def told (a0:List Int) (a1:Int):aa.Told A:=⟨f a0 a1,fun _=>True,fun _ _=>trivial⟩
end gA
abbrev fl.A:=Bool×(List Int)×(List Int)
namespace fl
def begin (a0:Int) (a1 a2:List Int):Tr Empty A:=
 .call (gA.told a1 a0) fun t1=> .ite (!t1)
  (.call (gA.told a2 a0) fun t2=> .ret (t2,a1,a2))
  (.ret (false,a1,a2))
def f (a0:Int) (a1 a2:List Int):Option A:=(begin a0 a1 a2).run (lp aB)
def told (a0:Int) (a1 a2:List Int):aa.Told A:=⟨f a0 a1 a2,fun _=>True,fun _ _=>trivial⟩
end fl
abbrev bo.A:=Int×(List Int)×(List Int)
namespace bo
inductive X where
 | c2 (x0:List Int) (x1 x2:Int) (x3 x4:List Int)
def begin (a0 a1 a2:List Int):Tr X A:=
 .jump (.c2 a0 (List.length a0:Int) (0:Int) a1 a2)
def tree:X→Tr X A
 | .c2 x0 x1 x2 x3 x4=>
 .ite (decide (x2<x1))
  (.ax ((0:Int)≤x2∧x2<(List.length x0:Int)) (.call (fl.told (cT x0 x2) x3 x4) fun t1=> .ite t1.1
   (.ret (x2,t1.2.1,t1.2.2))
   (.jump (.c2 x0 x1 (wr (x2+(1:Int))) t1.2.1 t1.2.2))))
  (.ret ((-1:Int),x3,x4))
def f (a0 a1 a2:List Int):Option A:=(begin a0 a1 a2).run (lp tree)
def told (a0 a1 a2:List Int):aa.Told A:=⟨f a0 a1 a2,fun _=>True,fun _ _=>trivial⟩
end bo
abbrev aM.A:=(List Int)×(List Int)×(List Int)
namespace aM
inductive X where
 | c5 (x0:List Int) (x1 x2:Int) (x3 x4:List Int)
def begin (a0 a1 a2:List Int):Tr X A:=
 .call (bo.told a0 a1 a2) fun t1=> .ite (decide (t1.1=(-1:Int)))
  (.ret (a0,t1.2.1,t1.2.2))
  (.jump (.c5 a0 t1.1 (wr (t1.1+(1:Int))) t1.2.1 t1.2.2))
def tree:X→Tr X A
 | .c5 x0 x1 x2 x3 x4=>
 .ite (decide (x2<(List.length x0:Int)))
  (.ax ((0:Int)≤x2∧x2<(List.length x0:Int)) (.call (fl.told (cT x0 x2) x3 x4) fun t1=> .ite (!t1.1)
   (.ax ((0:Int)≤x1∧x1<(List.length x0:Int)) (.jump (.c5 (List.set x0 (Int.toNat x1) (cT x0 x2)) (wr (x1+(1:Int))) (wr (x2+(1:Int))) t1.2.1 t1.2.2)))
   (.jump (.c5 x0 x1 (wr (x2+(1:Int))) t1.2.1 t1.2.2))))
  (.ax ((0:Int)≤x1∧x1<(List.length x0:Int)) (.ax ((0:Int)≤(0:Int)∧(0:Int)≤x1∧x1≤(List.length (List.take (Int.toNat x1) x0++List.replicate (List.length x0-Int.toNat x1) (0:Int)):Int)) (.val ((List.take (Int.toNat x1) (List.take (Int.toNat x1) x0++List.replicate (List.length x0-Int.toNat x1) (0:Int))):List Int) fun v1=> .ret (v1,x3,x4))))
def f (a0 a1 a2:List Int):Option A:=(begin a0 a1 a2).run (lp tree)
def told (a0 a1 a2:List Int):aa.Told A:=⟨f a0 a1 a2,fun _=>True,fun _ _=>trivial⟩
end aM
abbrev gn.A:=(List Int)
namespace gn
inductive X where
 | c4 (x0:List aw) (x1 x2 x3:Int) (x4 x5:List Int)
def begin (a0:List aw) (a1 a2 a3:Int):Tr X A:=
 .call (cX.told a0 a1 a2 a3) fun t1=>let u1_0:Tr X A:=(.both (.call (cL.told a0 a1 a2 a3) fun t2=> .both (.call (bY.told a0) fun t3=> .last (.last (.last (.jump (.c4 a0 a1 a2 a3 t2 t3))))) (.last (.last (.call (bY.told a0) fun t3=> .last (.last (.jump (.c4 a0 a1 a2 a3 t2 t3))))))) (.last (.last (.call (cL.told a0 a1 a2 a3) fun t2=> .last (.call (bY.told a0) fun t3=> .last (.last (.jump (.c4 a0 a1 a2 a3 t2 t3)))))))); .ite (!t1)
  (.ret (([]:List Int)))
  (.both (.call (cL.told a0 a1 a2 a3) fun t2=>let u2_0:Tr X A:=(.both (.call (bY.told a0) fun t3=> .last (.last (.last (.jump (.c4 a0 a1 a2 a3 t2 t3))))) (.last (.last (.call (bY.told a0) fun t3=> .last (.last (.jump (.c4 a0 a1 a2 a3 t2 t3))))))); .both (.call (bY.told a0) fun t3=>let u3_0:Tr X A:=(.last (.last (.last (.jump (.c4 a0 a1 a2 a3 t2 t3))))); .both (u3_0)
   (.last (u3_0)))
    (.both (u2_0)
     (.last (u2_0))))
   (.both (u1_0)
    (.last (u1_0))))
def tree:X→Tr X A
 | .c4 x0 x1 x2 x3 x4 x5=>
 .call (iB.told x0) fun t1=> .call (aM.told t1 x4 x5) fun t2=> .ret t2.1
def f (a0:List aw) (a1 a2 a3:Int):Option A:=(begin a0 a1 a2 a3).run (lp tree)
def told (a0:List aw) (a1 a2 a3:Int):aa.Told A:=⟨f a0 a1 a2 a3,fun _=>True,fun _ _=>trivial⟩
end gn
abbrev gM.A:=Int
namespace gM
def begin (a0 a1 a2 a3 a4 a5:Int):Tr Empty A:=
 .call (dm.told a0 a1 a2 a3 a4 a5) fun t1=> .ite (!t1)
  (.ret ((0:Int)))
  (.ax ((0:Int)≤a0∧a0<(List.length ([(0:Int),(2:Int),(5:Int),(4:Int),(1:Int),(1:Int),(0:Int)]):Int)) (.ret ((cT ([(0:Int),(2:Int),(5:Int),(4:Int),(1:Int),(1:Int),(0:Int)]) a0))))
def f (a0 a1 a2 a3 a4 a5:Int):Option A:=(begin a0 a1 a2 a3 a4 a5).run (lp aB)
def told (a0 a1 a2 a3 a4 a5:Int):aa.Told A:=⟨f a0 a1 a2 a3 a4 a5,fun _=>True,fun _ _=>trivial⟩
end gM
abbrev eM.A:=(List aL)×(List Int)×Int×Int×Int×(List Int)×Bool×Bool×Bool×Bool×Bool×Bool×Bool×Bool×(List Int)
namespace eM
def begin (a0:Int) (a1:List aL) (a2:List Int) (a3 a4 a5:Int) (a6:List Int) (a7 a8 a9 a10 a11 a12 a13 a14:Bool) (a15:List Int):Tr Empty A:=
 .ax (((List.length a1:Int)+(List.length ([(⟨a0,(-1:Int),(0:Int)⟩:aL)]):Int))*(24:Nat)≤room) (.ret ((a1++[(⟨a0,(-1:Int),(0:Int)⟩:aL)]),a2,a3,a4,a5,a6,a7,a8,a9,a10,a11,a12,a13,a14,a15))
def f (a0:Int) (a1:List aL) (a2:List Int) (a3 a4 a5:Int) (a6:List Int) (a7 a8 a9 a10 a11 a12 a13 a14:Bool) (a15:List Int):Option A:=(begin a0 a1 a2 a3 a4 a5 a6 a7 a8 a9 a10 a11 a12 a13 a14 a15).run (lp aB)
def told (a0:Int) (a1:List aL) (a2:List Int) (a3 a4 a5:Int) (a6:List Int) (a7 a8 a9 a10 a11 a12 a13 a14:Bool) (a15:List Int):aa.Told A:=⟨f a0 a1 a2 a3 a4 a5 a6 a7 a8 a9 a10 a11 a12 a13 a14 a15,fun _=>True,fun _ _=>trivial⟩
end eM
abbrev iv.A:=Bool
namespace iv
def begin (a0:List Int):Tr Empty A:=
 .ite (decide ((List.length a0:Int)=(8:Int)))
  (.call (cg.told a0) fun t1=> .ret t1)
  (.ret false)
def f (a0:List Int):Option A:=(begin a0).run (lp aB)
def told (a0:List Int):aa.Told A:=⟨f a0,fun _=>True,fun _ _=>trivial⟩
end iv
abbrev iw.A:=Int
namespace iw
def begin (a0:List Int) (a1:Int):Tr Empty A:=
 .ite (decide (a1<(0:Int)))
  (.ax ((0:Int)≤(wr ((-1:Int)-a1))∧(wr ((-1:Int)-a1))<(List.length a0:Int)) (.ret ((cT a0 (wr ((-1:Int)-a1))))))
  (.ret a1)
def f (a0:List Int) (a1:Int):Option A:=(begin a0 a1).run (lp aB)
def told (a0:List Int) (a1:Int):aa.Told A:=⟨f a0 a1,fun _=>True,fun _ _=>trivial⟩
end iw
abbrev cW.A:=Int
namespace cW
def begin (a0:Int):Tr Empty A:=
 .call (ek.told a0 (-1000000:Int) (1000000:Int)) fun t1=> .ret t1
def f (a0:Int):Option A:=(begin a0).run (lp aB)
def told (a0:Int):aa.Told A:=⟨f a0,fun _=>True,fun _ _=>trivial⟩
end cW
abbrev fR.A:=Int
namespace fR
def begin (a0 a1:Int):Tr Empty A:=
 .call (cW.told a0) fun t1=> .call (cW.told a1) fun t2=> .call (cW.told (wr (t1+t2))) fun t3=> .ret t3
def f (a0 a1:Int):Option A:=(begin a0 a1).run (lp aB)
def told (a0 a1:Int):aa.Told A:=⟨f a0 a1,fun _=>True,fun _ _=>trivial⟩
end fR
abbrev gV.A:=Int
namespace gV
def begin (a0 a1:Int):Tr Empty A:=
 .call (cW.told a0) fun t1=> .call (cW.told a1) fun t2=> .call (cW.told (wr (t1-t2))) fun t3=> .ret t3
def f (a0 a1:Int):Option A:=(begin a0 a1).run (lp aB)
def told (a0 a1:Int):aa.Told A:=⟨f a0 a1,fun _=>True,fun _ _=>trivial⟩
end gV
abbrev gS.A:=Int
namespace gS
def begin (a0 a1:Int):Tr Empty A:=
 .call (cW.told a0) fun t1=> .call (cW.told a1) fun t2=> .call (cW.told (wr (t1*t2))) fun t3=> .ret t3
def f (a0 a1:Int):Option A:=(begin a0 a1).run (lp aB)
def told (a0 a1:Int):aa.Told A:=⟨f a0 a1,fun _=>True,fun _ _=>trivial⟩
end gS
abbrev kr.A:=Int
namespace kr
def begin (a0:Bool):Tr Empty A:=
 .ite a0
  (.ret ((1:Int)))
  (.ret ((0:Int)))
def f (a0:Bool):Option A:=(begin a0).run (lp aB)
def told (a0:Bool):aa.Told A:=⟨f a0,fun _=>True,fun _ _=>trivial⟩
end kr
abbrev dV.A:=Int
namespace dV
def begin (a0:List Int) (a1 a2 a3:Int):Tr Empty A:=
 .call (iv.told a0) fun t1=> .ite (!t1)
  (.ret ((0:Int)))
  (.call (cH.told a1 a2 a3) fun t2=> .ite (!t2)
   (.ret ((0:Int)))
   (.last (.call (iw.told a0 a2) fun t3=> .last (.call (iw.told a0 a3) fun t4=> .ite (decide (a1=(1:Int)))
    (.call (fR.told t3 t4) fun t5=> .ret t5)
    (.ite (decide (a1=(2:Int)))
     (.call (gV.told t3 t4) fun t5=> .ret t5)
     (.ite (decide (a1=(3:Int)))
      (.call (gS.told t3 t4) fun t5=> .ret t5)
      (.ite (decide (a1=(4:Int)))
       (.ret ((if t4<t3 then t4 else t3)))
       (.ite (decide (a1=(5:Int)))
        (.ret ((if t4>t3 then t4 else t3)))
        (.ite (decide (a1=(6:Int)))
         (.call (kr.told (decide (t3<t4))) fun t5=> .ret t5)
         (.call (kr.told (decide (t3=t4))) fun t5=> .ret t5))))))))))
def f (a0:List Int) (a1 a2 a3:Int):Option A:=(begin a0 a1 a2 a3).run (lp aB)
def told (a0:List Int) (a1 a2 a3:Int):aa.Told A:=⟨f a0 a1 a2 a3,fun _=>True,fun _ _=>trivial⟩
end dV
abbrev bO.A:=(List aL)×(List Int)×Int×Int×Int×(List Int)×Bool×Bool×Bool×Bool×Bool×Bool×Bool×Bool×(List Int)
namespace bO
def begin (a0 a1:Int) (a2:List aL) (a3:List Int) (a4 a5 a6:Int) (a7:List Int) (a8 a9 a10 a11 a12 a13 a14 a15:Bool) (a16:List Int):Tr Empty A:=
 .ax (((List.length a2:Int)+(List.length ([(⟨(3:Int),a0,a1⟩:aL)]):Int))*(24:Nat)≤room) (.ret ((a2++[(⟨(3:Int),a0,a1⟩:aL)]),a3,a4,a5,a6,a7,a8,a9,a10,a11,a12,a13,a14,a15,a16))
def f (a0 a1:Int) (a2:List aL) (a3:List Int) (a4 a5 a6:Int) (a7:List Int) (a8 a9 a10 a11 a12 a13 a14 a15:Bool) (a16:List Int):Option A:=(begin a0 a1 a2 a3 a4 a5 a6 a7 a8 a9 a10 a11 a12 a13 a14 a15 a16).run (lp aB)
def told (a0 a1:Int) (a2:List aL) (a3:List Int) (a4 a5 a6:Int) (a7:List Int) (a8 a9 a10 a11 a12 a13 a14 a15:Bool) (a16:List Int):aa.Told A:=⟨f a0 a1 a2 a3 a4 a5 a6 a7 a8 a9 a10 a11 a12 a13 a14 a15 a16,fun _=>True,fun _ _=>trivial⟩
end bO
abbrev bb.A:=(List aL)×(List Int)×Int×Int×Int×(List Int)×Bool×Bool×Bool×Bool×Bool×Bool×Bool×Bool×(List Int)
namespace bb
inductive X where
 | c1 (x0 x1:Int) (x2:List aL) (x3:List Int) (x4 x5 x6:Int) (x7:List Int) (x8 x9 x10 x11 x12 x13 x14 x15:Bool) (x16:List Int)
 | c6 (x0 x1:Int) (x2:List aL) (x3:List Int) (x4 x5 x6:Int) (x7:List Int) (x8 x9 x10 x11 x12 x13 x14 x15:Bool) (x16:List Int)
 | c7 (x0 x1:Int) (x2:List aL) (x3:List Int) (x4 x5 x6:Int) (x7:List Int) (x8 x9 x10 x11 x12 x13 x14 x15:Bool) (x16:List Int)
def begin (a0:List Int) (a1 a2:Int) (a3:List aL) (a4:List Int) (a5 a6 a7:Int) (a8:List Int) (a9 a10 a11 a12 a13 a14 a15 a16:Bool) (a17:List Int):Tr X A:=
 .call (gA.told a0 a1) fun t1=>let u1_0:Tr X A:=(.jump (.c6 a1 a2 a3 a4 a5 a6 a7 a8 a9 a10 a11 a12 a13 a14 a15 a16 a17));let u1_1:Tr X A:=(.jump (.c1 a1 a2 a3 a4 a5 a6 a7 a8 a9 a10 a11 a12 a13 a14 a15 a16 a17)); .ite t1
  (.ite (decide (a1=(0:Int)))
   (.ite (!a9)
    (u1_1)
    (u1_0))
   (.ite (decide (a1=(1:Int)))
    (.ite (!a10)
     (u1_1)
     (u1_0))
    (.ite (decide (a1=(2:Int)))
     (.ite (!a11)
      (u1_1)
      (u1_0))
     (.ite (decide (a1=(3:Int)))
      (.ite (!a12)
       (u1_1)
       (u1_0))
      (.ite (decide (a1=(4:Int)))
       (.ite (!a13)
        (u1_1)
        (u1_0))
       (.ite (decide (a1=(5:Int)))
        (.ite (!a14)
         (u1_1)
         (u1_0))
        (.ite (decide (a1=(6:Int)))
         (.ite (!a15)
          (u1_1)
          (u1_0))
         (.ite (decide (a1=(7:Int)))
          (.ite (!a16)
           (u1_1)
           (u1_0))
          (.fail)))))))))
  (u1_0)
def tree:X→Tr X A
 | .c1 x0 x1 x2 x3 x4 x5 x6 x7 x8 x9 x10 x11 x12 x13 x14 x15 x16=>
 .call (bO.told (wr ((9:Int)+(wr ((2:Int)*(List.length x7:Int))))) x0 x2 x3 x4 x5 x6 x7 x8 x9 x10 x11 x12 x13 x14 x15 x16) fun t1=> .ax ((0:Int)≤x0∧x0<(List.length t1.2.2.2.2.2.2.2.2.2.2.2.2.2.2:Int)) (.call (bO.told (wr ((wr ((9:Int)+(wr ((2:Int)*(List.length x7:Int)))))+(1:Int))) (cT t1.2.2.2.2.2.2.2.2.2.2.2.2.2.2 x0) t1.1 t1.2.1 t1.2.2.1 t1.2.2.2.1 t1.2.2.2.2.1 t1.2.2.2.2.2.1 t1.2.2.2.2.2.2.1 t1.2.2.2.2.2.2.2.1 t1.2.2.2.2.2.2.2.2.1 t1.2.2.2.2.2.2.2.2.2.1 t1.2.2.2.2.2.2.2.2.2.2.1 t1.2.2.2.2.2.2.2.2.2.2.2.1 t1.2.2.2.2.2.2.2.2.2.2.2.2.1 t1.2.2.2.2.2.2.2.2.2.2.2.2.2.1 t1.2.2.2.2.2.2.2.2.2.2.2.2.2.2) fun t2=> .ax (((List.length t2.2.2.2.2.2.1:Int)+(List.length ([x0]):Int))*(8:Nat)≤room) (.last (.call (bd.told t2.2.2.1 (List.length (t2.2.2.2.2.2.1++[x0]):Int) t2.2.2.2.1) fun t3=> .last (.call (bO.told (8:Int) t3 t2.1 t2.2.1 t2.2.2.1 t2.2.2.2.1 t2.2.2.2.2.1 (t2.2.2.2.2.2.1++[x0]) t2.2.2.2.2.2.2.1 t2.2.2.2.2.2.2.2.1 t2.2.2.2.2.2.2.2.2.1 t2.2.2.2.2.2.2.2.2.2.1 t2.2.2.2.2.2.2.2.2.2.2.1 t2.2.2.2.2.2.2.2.2.2.2.2.1 t2.2.2.2.2.2.2.2.2.2.2.2.2.1 t2.2.2.2.2.2.2.2.2.2.2.2.2.2.1 t2.2.2.2.2.2.2.2.2.2.2.2.2.2.2) fun t4=> .jump (.c6 x0 x1 t4.1 t4.2.1 t4.2.2.1 t4.2.2.2.1 t4.2.2.2.2.1 t4.2.2.2.2.2.1 t4.2.2.2.2.2.2.1 t4.2.2.2.2.2.2.2.1 t4.2.2.2.2.2.2.2.2.1 t4.2.2.2.2.2.2.2.2.2.1 t4.2.2.2.2.2.2.2.2.2.2.1 t4.2.2.2.2.2.2.2.2.2.2.2.1 t4.2.2.2.2.2.2.2.2.2.2.2.2.1 t4.2.2.2.2.2.2.2.2.2.2.2.2.2.1 t4.2.2.2.2.2.2.2.2.2.2.2.2.2.2)))))
 | .c6 x0 x1 x2 x3 x4 x5 x6 x7 x8 x9 x10 x11 x12 x13 x14 x15 x16=>
 .ite (decide (x0=(0:Int)))
  (.jump (.c7 x0 x1 x2 x3 x4 x5 x6 x7 true x9 x10 x11 x12 x13 x14 x15 x16))
  (.ite (decide (x0=(1:Int)))
   (.jump (.c7 x0 x1 x2 x3 x4 x5 x6 x7 x8 true x10 x11 x12 x13 x14 x15 x16))
   (.ite (decide (x0=(2:Int)))
    (.jump (.c7 x0 x1 x2 x3 x4 x5 x6 x7 x8 x9 true x11 x12 x13 x14 x15 x16))
    (.ite (decide (x0=(3:Int)))
     (.jump (.c7 x0 x1 x2 x3 x4 x5 x6 x7 x8 x9 x10 true x12 x13 x14 x15 x16))
     (.ite (decide (x0=(4:Int)))
      (.jump (.c7 x0 x1 x2 x3 x4 x5 x6 x7 x8 x9 x10 x11 true x13 x14 x15 x16))
      (.ite (decide (x0=(5:Int)))
       (.jump (.c7 x0 x1 x2 x3 x4 x5 x6 x7 x8 x9 x10 x11 x12 true x14 x15 x16))
       (.ite (decide (x0=(6:Int)))
        (.jump (.c7 x0 x1 x2 x3 x4 x5 x6 x7 x8 x9 x10 x11 x12 x13 true x15 x16))
        (.ite (decide (x0=(7:Int)))
         (.jump (.c7 x0 x1 x2 x3 x4 x5 x6 x7 x8 x9 x10 x11 x12 x13 x14 true x16))
         (.fail))))))))
 | .c7 x0 x1 x2 x3 x4 x5 x6 x7 x8 x9 x10 x11 x12 x13 x14 x15 x16=>
 .ax ((0:Int)≤x0∧x0<(List.length x16:Int)) (.call (bO.told x0 x1 x2 x3 x4 x5 x6 x7 x8 x9 x10 x11 x12 x13 x14 x15 (List.set x16 (Int.toNat x0) x1)) fun t1=> .ret (t1.1,t1.2.1,t1.2.2.1,t1.2.2.2.1,t1.2.2.2.2.1,t1.2.2.2.2.2.1,t1.2.2.2.2.2.2.1,t1.2.2.2.2.2.2.2.1,t1.2.2.2.2.2.2.2.2.1,t1.2.2.2.2.2.2.2.2.2.1,t1.2.2.2.2.2.2.2.2.2.2.1,t1.2.2.2.2.2.2.2.2.2.2.2.1,t1.2.2.2.2.2.2.2.2.2.2.2.2.1,t1.2.2.2.2.2.2.2.2.2.2.2.2.2.1,t1.2.2.2.2.2.2.2.2.2.2.2.2.2.2))
def f (a0:List Int) (a1 a2:Int) (a3:List aL) (a4:List Int) (a5 a6 a7:Int) (a8:List Int) (a9 a10 a11 a12 a13 a14 a15 a16:Bool) (a17:List Int):Option A:=(begin a0 a1 a2 a3 a4 a5 a6 a7 a8 a9 a10 a11 a12 a13 a14 a15 a16 a17).run (lp tree)
def told (a0:List Int) (a1 a2:Int) (a3:List aL) (a4:List Int) (a5 a6 a7:Int) (a8:List Int) (a9 a10 a11 a12 a13 a14 a15 a16:Bool) (a17:List Int):aa.Told A:=⟨f a0 a1 a2 a3 a4 a5 a6 a7 a8 a9 a10 a11 a12 a13 a14 a15 a16 a17,fun _=>True,fun _ _=>trivial⟩
end bb
abbrev dt.A:=Int
namespace dt
def begin (a0:List Int) (a1 a2:Int):Tr Empty A:=
 .ite (decide ((List.length a0:Int)=(0:Int)))
  (.ret ((0:Int)))
  (.call (bT.told a1) fun t1=> .ite (!t1)
   (.ret ((0:Int)))
   (.ite (decide (a2<(0:Int)))
    (.ret ((0:Int)))
    (.ax ((List.length a0:Int)≠0) (.ax ((0:Int)≤(Int.tmod a2 (List.length a0:Int))∧(Int.tmod a2 (List.length a0:Int))<(List.length a0:Int)) (.call (fR.told (cT a0 (Int.tmod a2 (List.length a0:Int))) (wr ((100:Int)*a1))) fun t2=> .ret t2)))))
def f (a0:List Int) (a1 a2:Int):Option A:=(begin a0 a1 a2).run (lp aB)
def told (a0:List Int) (a1 a2:Int):aa.Told A:=⟨f a0 a1 a2,fun _=>True,fun _ _=>trivial⟩
end dt
abbrev fz.A:=(List aL)×(List Int)×Int×Int×Int×(List Int)×Bool×Bool×Bool×Bool×Bool×Bool×Bool×Bool×(List Int)
namespace fz
def begin (a0:Int) (a1:List aL) (a2:List Int) (a3 a4 a5:Int) (a6:List Int) (a7 a8 a9 a10 a11 a12 a13 a14:Bool) (a15:List Int):Tr Empty A:=
 .ite (decide ((wr (a4+a5))<(24:Int)))
  (.call (bO.told (wr ((25:Int)+(wr (a4+a5)))) a0 a1 a2 a3 a4 a5 a6 a7 a8 a9 a10 a11 a12 a13 a14 a15) fun t1=> .ret (t1.1,t1.2.1,t1.2.2.1,t1.2.2.2.1,(wr (t1.2.2.2.2.1+(1:Int))),t1.2.2.2.2.2.1,t1.2.2.2.2.2.2.1,t1.2.2.2.2.2.2.2.1,t1.2.2.2.2.2.2.2.2.1,t1.2.2.2.2.2.2.2.2.2.1,t1.2.2.2.2.2.2.2.2.2.2.1,t1.2.2.2.2.2.2.2.2.2.2.2.1,t1.2.2.2.2.2.2.2.2.2.2.2.2.1,t1.2.2.2.2.2.2.2.2.2.2.2.2.2.1,t1.2.2.2.2.2.2.2.2.2.2.2.2.2.2))
  (.ret (a1,a2,a3,a4,(wr (a5+(1:Int))),a6,a7,a8,a9,a10,a11,a12,a13,a14,a15))
def f (a0:Int) (a1:List aL) (a2:List Int) (a3 a4 a5:Int) (a6:List Int) (a7 a8 a9 a10 a11 a12 a13 a14:Bool) (a15:List Int):Option A:=(begin a0 a1 a2 a3 a4 a5 a6 a7 a8 a9 a10 a11 a12 a13 a14 a15).run (lp aB)
def told (a0:Int) (a1:List aL) (a2:List Int) (a3 a4 a5:Int) (a6:List Int) (a7 a8 a9 a10 a11 a12 a13 a14:Bool) (a15:List Int):aa.Told A:=⟨f a0 a1 a2 a3 a4 a5 a6 a7 a8 a9 a10 a11 a12 a13 a14 a15,fun _=>True,fun _ _=>trivial⟩
end fz
abbrev cu.A:=Bool×(List Int)×(List Int)×Int×(List aL)×(List Int)×Int×Int×Int×(List Int)×Bool×Bool×Bool×Bool×Bool×Bool×Bool×Bool×(List Int)
namespace cu
inductive X where
 | EB (x0 x1:List Int) (x2:Int) (x3:List aL) (x4:List Int) (x5 x6 x7:Int) (x8:List Int) (x9 x10 x11 x12 x13 x14 x15 x16:Bool) (x17:List Int)
 | c8 (x0 x1 x2 x3 x4 x5 x6:Int) (x7 x8:List Int) (x9:Int) (x10:List aL) (x11:List Int) (x12 x13 x14:Int) (x15:List Int) (x16 x17 x18 x19 x20 x21 x22 x23:Bool) (x24:List Int)
def begin (a0 a1 a2 a3 a4 a5:Int) (a6 a7:List Int) (a8:Int) (a9:List aL) (a10:List Int) (a11 a12 a13:Int) (a14:List Int) (a15 a16 a17 a18 a19 a20 a21 a22:Bool) (a23:List Int):Tr X A:=
 .last (.call (gM.told a0 a1 a2 a3 a4 a5) fun t1=> .last (.call (eM.told t1 a9 a10 a11 a12 a13 a14 a15 a16 a17 a18 a19 a20 a21 a22 a23) fun t2=> .ite (decide (a0=(1:Int)))
  (.last (.call (dV.told t2.2.2.2.2.2.2.2.2.2.2.2.2.2.2 a3 a4 a5) fun t3=> .last (.call (bb.told a6 a1 t3 t2.1 t2.2.1 t2.2.2.1 t2.2.2.2.1 t2.2.2.2.2.1 t2.2.2.2.2.2.1 t2.2.2.2.2.2.2.1 t2.2.2.2.2.2.2.2.1 t2.2.2.2.2.2.2.2.2.1 t2.2.2.2.2.2.2.2.2.2.1 t2.2.2.2.2.2.2.2.2.2.2.1 t2.2.2.2.2.2.2.2.2.2.2.2.1 t2.2.2.2.2.2.2.2.2.2.2.2.2.1 t2.2.2.2.2.2.2.2.2.2.2.2.2.2.1 t2.2.2.2.2.2.2.2.2.2.2.2.2.2.2) fun t4=> .jump (.EB a6 a7 a8 t4.1 t4.2.1 t4.2.2.1 t4.2.2.2.1 t4.2.2.2.2.1 t4.2.2.2.2.2.1 t4.2.2.2.2.2.2.1 t4.2.2.2.2.2.2.2.1 t4.2.2.2.2.2.2.2.2.1 t4.2.2.2.2.2.2.2.2.2.1 t4.2.2.2.2.2.2.2.2.2.2.1 t4.2.2.2.2.2.2.2.2.2.2.2.1 t4.2.2.2.2.2.2.2.2.2.2.2.2.1 t4.2.2.2.2.2.2.2.2.2.2.2.2.2.1 t4.2.2.2.2.2.2.2.2.2.2.2.2.2.2))))
  (.ite (decide (a0=(2:Int)))
   (.last (.call (dt.told a7 a2 (wr (a8+(List.length t2.2.1:Int)))) fun t3=>let u3_0:Tr X A:=(.last (.ax (((List.length t2.2.1:Int)+(List.length ([t3]):Int))*(8:Nat)≤room) (.last (.jump (.c8 a0 a1 a2 a3 a4 a5 t3 a6 a7 a8 t2.1 (t2.2.1++[t3]) t2.2.2.1 t2.2.2.2.1 t2.2.2.2.2.1 t2.2.2.2.2.2.1 t2.2.2.2.2.2.2.1 t2.2.2.2.2.2.2.2.1 t2.2.2.2.2.2.2.2.2.1 t2.2.2.2.2.2.2.2.2.2.1 t2.2.2.2.2.2.2.2.2.2.2.1 t2.2.2.2.2.2.2.2.2.2.2.2.1 t2.2.2.2.2.2.2.2.2.2.2.2.2.1 t2.2.2.2.2.2.2.2.2.2.2.2.2.2.1 t2.2.2.2.2.2.2.2.2.2.2.2.2.2.2)))));let u3_1:Tr X A:=(.last (u3_0));let u3_2:Tr X A:=(.last (.both (u3_0) (u3_0)));let u3_3:Tr X A:=(.both (u3_1) (u3_1)); .both (.both (u3_3)
     (u3_1))
    (.both (.both (u3_3)
      (.both (.both (u3_1)
        (u3_2))
       (u3_2)))
     (u3_2))))
   (.ite (decide (a0=(3:Int)))
    (.last (.call (dV.told t2.2.2.2.2.2.2.2.2.2.2.2.2.2.2 a3 a4 a5) fun t3=> .last (.call (fz.told t3 t2.1 t2.2.1 t2.2.2.1 t2.2.2.2.1 t2.2.2.2.2.1 t2.2.2.2.2.2.1 t2.2.2.2.2.2.2.1 t2.2.2.2.2.2.2.2.1 t2.2.2.2.2.2.2.2.2.1 t2.2.2.2.2.2.2.2.2.2.1 t2.2.2.2.2.2.2.2.2.2.2.1 t2.2.2.2.2.2.2.2.2.2.2.2.1 t2.2.2.2.2.2.2.2.2.2.2.2.2.1 t2.2.2.2.2.2.2.2.2.2.2.2.2.2.1 t2.2.2.2.2.2.2.2.2.2.2.2.2.2.2) fun t4=> .jump (.EB a6 a7 a8 t4.1 t4.2.1 t4.2.2.1 t4.2.2.2.1 t4.2.2.2.2.1 t4.2.2.2.2.2.1 t4.2.2.2.2.2.2.1 t4.2.2.2.2.2.2.2.1 t4.2.2.2.2.2.2.2.2.1 t4.2.2.2.2.2.2.2.2.2.1 t4.2.2.2.2.2.2.2.2.2.2.1 t4.2.2.2.2.2.2.2.2.2.2.2.1 t4.2.2.2.2.2.2.2.2.2.2.2.2.1 t4.2.2.2.2.2.2.2.2.2.2.2.2.2.1 t4.2.2.2.2.2.2.2.2.2.2.2.2.2.2))))
    (.ite (decide (a0=(4:Int)))
     (.last (.call (dV.told t2.2.2.2.2.2.2.2.2.2.2.2.2.2.2 a3 a4 a5) fun t3=> .ret ((!decide (t3=(0:Int))),a6,a7,a8,t2.1,t2.2.1,t2.2.2.1,t2.2.2.2.1,t2.2.2.2.2.1,t2.2.2.2.2.2.1,t2.2.2.2.2.2.2.1,t2.2.2.2.2.2.2.2.1,t2.2.2.2.2.2.2.2.2.1,t2.2.2.2.2.2.2.2.2.2.1,t2.2.2.2.2.2.2.2.2.2.2.1,t2.2.2.2.2.2.2.2.2.2.2.2.1,t2.2.2.2.2.2.2.2.2.2.2.2.2.1,t2.2.2.2.2.2.2.2.2.2.2.2.2.2.1,t2.2.2.2.2.2.2.2.2.2.2.2.2.2.2)))
     (.jump (.EB a6 a7 a8 t2.1 t2.2.1 t2.2.2.1 t2.2.2.2.1 t2.2.2.2.2.1 t2.2.2.2.2.2.1 t2.2.2.2.2.2.2.1 t2.2.2.2.2.2.2.2.1 t2.2.2.2.2.2.2.2.2.1 t2.2.2.2.2.2.2.2.2.2.1 t2.2.2.2.2.2.2.2.2.2.2.1 t2.2.2.2.2.2.2.2.2.2.2.2.1 t2.2.2.2.2.2.2.2.2.2.2.2.2.1 t2.2.2.2.2.2.2.2.2.2.2.2.2.2.1 t2.2.2.2.2.2.2.2.2.2.2.2.2.2.2)))))))
def tree:X→Tr X A
 | .EB x0 x1 x2 x3 x4 x5 x6 x7 x8 x9 x10 x11 x12 x13 x14 x15 x16 x17=>
 .ret (true,x0,x1,x2,x3,x4,x5,x6,x7,x8,x9,x10,x11,x12,x13,x14,x15,x16,x17)
 | .c8 x0 x1 x2 x3 x4 x5 x6 x7 x8 x9 x10 x11 x12 x13 x14 x15 x16 x17 x18 x19 x20 x21 x22 x23 x24=>
 .call (bb.told x7 x1 x6 x10 x11 x12 x13 x14 x15 x16 x17 x18 x19 x20 x21 x22 x23 x24) fun t1=> .jump (.EB x7 x8 x9 t1.1 t1.2.1 t1.2.2.1 t1.2.2.2.1 t1.2.2.2.2.1 t1.2.2.2.2.2.1 t1.2.2.2.2.2.2.1 t1.2.2.2.2.2.2.2.1 t1.2.2.2.2.2.2.2.2.1 t1.2.2.2.2.2.2.2.2.2.1 t1.2.2.2.2.2.2.2.2.2.2.1 t1.2.2.2.2.2.2.2.2.2.2.2.1 t1.2.2.2.2.2.2.2.2.2.2.2.2.1 t1.2.2.2.2.2.2.2.2.2.2.2.2.2.1 t1.2.2.2.2.2.2.2.2.2.2.2.2.2.2)
def f (a0 a1 a2 a3 a4 a5:Int) (a6 a7:List Int) (a8:Int) (a9:List aL) (a10:List Int) (a11 a12 a13:Int) (a14:List Int) (a15 a16 a17 a18 a19 a20 a21 a22:Bool) (a23:List Int):Option A:=(begin a0 a1 a2 a3 a4 a5 a6 a7 a8 a9 a10 a11 a12 a13 a14 a15 a16 a17 a18 a19 a20 a21 a22 a23).run (lp tree)
def told (a0 a1 a2 a3 a4 a5:Int) (a6 a7:List Int) (a8:Int) (a9:List aL) (a10:List Int) (a11 a12 a13:Int) (a14:List Int) (a15 a16 a17 a18 a19 a20 a21 a22:Bool) (a23:List Int):aa.Told A:=⟨f a0 a1 a2 a3 a4 a5 a6 a7 a8 a9 a10 a11 a12 a13 a14 a15 a16 a17 a18 a19 a20 a21 a22 a23,fun _=>True,fun _ _=>trivial⟩
end cu
abbrev cM.A:=(List Int)×(List Int)×Int×(List aL)×(List Int)×Int×Int×Int×(List Int)×Bool×Bool×Bool×Bool×Bool×Bool×Bool×Bool×(List Int)
namespace cM
abbrev I:=(List aw)×(List Int)×(List Int)×Int×(List aL)×(List Int)×Int×Int×Int×(List Int)×Bool×Bool×Bool×Bool×Bool×Bool×Bool×Bool×(List Int)
abbrev K:I→A→Prop:=fun _ _=>True
inductive X where
 | c1 (x0:List aw) (x1:Int) (x2 x3:List Int) (x4:Int) (x5:List aL) (x6:List Int) (x7 x8 x9:Int) (x10:List Int) (x11 x12 x13 x14 x15 x16 x17 x18:Bool) (x19:List Int)
 | c12 (x0:List aw) (x1 x2 x3 x4:Int) (x5 x6:List Int) (x7:Int) (x8:List aL) (x9:List Int) (x10 x11 x12:Int) (x13:List Int) (x14 x15 x16 x17 x18 x19 x20 x21:Bool) (x22:List Int)
def begin (self_:Self I A K) (a0:List aw) (a1 a2:List Int) (a3:Int) (a4:List aL) (a5:List Int) (a6 a7 a8:Int) (a9:List Int) (a10 a11 a12 a13 a14 a15 a16 a17:Bool) (a18:List Int):Tr X A:=
 .jump (.c1 a0 (0:Int) a1 a2 a3 a4 a5 a6 a7 a8 a9 a10 a11 a12 a13 a14 a15 a16 a17 a18)
def tree (self_:Self I A K):X→Tr X A
 | .c1 x0 x1 x2 x3 x4 x5 x6 x7 x8 x9 x10 x11 x12 x13 x14 x15 x16 x17 x18 x19=>
 .ite (decide (x1<(List.length x0:Int)))
  (.ax ((0:Int)≤x1∧x1<(List.length x0:Int)) (.ite (decide ((aj x0 x1).f0=(6:Int)))
   (.jump (.c1 x0 (wr (x1+(1:Int))) x2 x3 x4 x5 x6 x7 x8 x9 x10 x11 x12 x13 x14 x15 x16 x17 x18 x19))
   (.call (cu.told ((aj x0 x1).f0) ((aj x0 x1).f1) ((aj x0 x1).f2) ((aj x0 x1).f3.f0) ((aj x0 x1).f3.f1) ((aj x0 x1).f3.f2) x2 x3 x4 x5 x6 x7 x8 x9 x10 x11 x12 x13 x14 x15 x16 x17 x18 x19) fun t1=> .call (bI.told ((aj x0 x1).f0)) fun t2=> .ite (!t2)
    (.jump (.c1 x0 (wr (x1+(1:Int))) t1.2.1 t1.2.2.1 t1.2.2.2.1 t1.2.2.2.2.1 t1.2.2.2.2.2.1 t1.2.2.2.2.2.2.1 t1.2.2.2.2.2.2.2.1 t1.2.2.2.2.2.2.2.2.1 t1.2.2.2.2.2.2.2.2.2.1 t1.2.2.2.2.2.2.2.2.2.2.1 t1.2.2.2.2.2.2.2.2.2.2.2.1 t1.2.2.2.2.2.2.2.2.2.2.2.2.1 t1.2.2.2.2.2.2.2.2.2.2.2.2.2.1 t1.2.2.2.2.2.2.2.2.2.2.2.2.2.2.1 t1.2.2.2.2.2.2.2.2.2.2.2.2.2.2.2.1 t1.2.2.2.2.2.2.2.2.2.2.2.2.2.2.2.2.1 t1.2.2.2.2.2.2.2.2.2.2.2.2.2.2.2.2.2.1 t1.2.2.2.2.2.2.2.2.2.2.2.2.2.2.2.2.2.2))
    (.call (dN.told x0 x1) fun t3=> .ite (decide ((aj x0 x1).f0=(4:Int)))
     (.call (kr.told t1.1) fun t4=> .jump (.c12 x0 x1 t3 t4 (0:Int) t1.2.1 t1.2.2.1 t1.2.2.2.1 t1.2.2.2.2.1 t1.2.2.2.2.2.1 t1.2.2.2.2.2.2.1 t1.2.2.2.2.2.2.2.1 t1.2.2.2.2.2.2.2.2.1 t1.2.2.2.2.2.2.2.2.2.1 t1.2.2.2.2.2.2.2.2.2.2.1 t1.2.2.2.2.2.2.2.2.2.2.2.1 t1.2.2.2.2.2.2.2.2.2.2.2.2.1 t1.2.2.2.2.2.2.2.2.2.2.2.2.2.1 t1.2.2.2.2.2.2.2.2.2.2.2.2.2.2.1 t1.2.2.2.2.2.2.2.2.2.2.2.2.2.2.2.1 t1.2.2.2.2.2.2.2.2.2.2.2.2.2.2.2.2.1 t1.2.2.2.2.2.2.2.2.2.2.2.2.2.2.2.2.2.1 t1.2.2.2.2.2.2.2.2.2.2.2.2.2.2.2.2.2.2))
     (.jump (.c12 x0 x1 t3 ((aj x0 x1).f2) (0:Int) t1.2.1 t1.2.2.1 t1.2.2.2.1 t1.2.2.2.2.1 t1.2.2.2.2.2.1 t1.2.2.2.2.2.2.1 t1.2.2.2.2.2.2.2.1 t1.2.2.2.2.2.2.2.2.1 t1.2.2.2.2.2.2.2.2.2.1 t1.2.2.2.2.2.2.2.2.2.2.1 t1.2.2.2.2.2.2.2.2.2.2.2.1 t1.2.2.2.2.2.2.2.2.2.2.2.2.1 t1.2.2.2.2.2.2.2.2.2.2.2.2.2.1 t1.2.2.2.2.2.2.2.2.2.2.2.2.2.2.1 t1.2.2.2.2.2.2.2.2.2.2.2.2.2.2.2.1 t1.2.2.2.2.2.2.2.2.2.2.2.2.2.2.2.2.1 t1.2.2.2.2.2.2.2.2.2.2.2.2.2.2.2.2.2.1 t1.2.2.2.2.2.2.2.2.2.2.2.2.2.2.2.2.2.2))))))
  (.ret (x2,x3,x4,x5,x6,x7,x8,x9,x10,x11,x12,x13,x14,x15,x16,x17,x18,x19))
 | .c12 x0 x1 x2 x3 x4 x5 x6 x7 x8 x9 x10 x11 x12 x13 x14 x15 x16 x17 x18 x19 x20 x21 x22=>
 .ite (decide (x4<x3))
  (.ax ((0:Int)≤(wr (x1+(1:Int)))∧(wr (x1+(1:Int)))≤x2∧x2≤(List.length x0:Int)) (.call (self_.told ((List.drop (Int.toNat (wr (x1+(1:Int)))) (List.take (Int.toNat x2) x0)),x5,x6,x7,x8,x9,x10,x11,x12,x13,x14,x15,x16,x17,x18,x19,x20,x21,x22)) fun t1=> .jump (.c12 x0 x1 x2 x3 (wr (x4+(1:Int))) t1.1 t1.2.1 t1.2.2.1 t1.2.2.2.1 t1.2.2.2.2.1 t1.2.2.2.2.2.1 t1.2.2.2.2.2.2.1 t1.2.2.2.2.2.2.2.1 t1.2.2.2.2.2.2.2.2.1 t1.2.2.2.2.2.2.2.2.2.1 t1.2.2.2.2.2.2.2.2.2.2.1 t1.2.2.2.2.2.2.2.2.2.2.2.1 t1.2.2.2.2.2.2.2.2.2.2.2.2.1 t1.2.2.2.2.2.2.2.2.2.2.2.2.2.1 t1.2.2.2.2.2.2.2.2.2.2.2.2.2.2.1 t1.2.2.2.2.2.2.2.2.2.2.2.2.2.2.2.1 t1.2.2.2.2.2.2.2.2.2.2.2.2.2.2.2.2.1 t1.2.2.2.2.2.2.2.2.2.2.2.2.2.2.2.2.2)))
  (.jump (.c1 x0 (wr (x2+(1:Int))) x5 x6 x7 x8 x9 x10 x11 x12 x13 x14 x15 x16 x17 x18 x19 x20 x21 x22))
def step (self_:Self I A K):Self I A K:=⟨fun i_=>(begin self_ i_.1 i_.2.1 i_.2.2.1 i_.2.2.2.1 i_.2.2.2.2.1 i_.2.2.2.2.2.1 i_.2.2.2.2.2.2.1 i_.2.2.2.2.2.2.2.1 i_.2.2.2.2.2.2.2.2.1 i_.2.2.2.2.2.2.2.2.2.1 i_.2.2.2.2.2.2.2.2.2.2.1 i_.2.2.2.2.2.2.2.2.2.2.2.1 i_.2.2.2.2.2.2.2.2.2.2.2.2.1 i_.2.2.2.2.2.2.2.2.2.2.2.2.2.1 i_.2.2.2.2.2.2.2.2.2.2.2.2.2.2.1 i_.2.2.2.2.2.2.2.2.2.2.2.2.2.2.2.1 i_.2.2.2.2.2.2.2.2.2.2.2.2.2.2.2.2.1 i_.2.2.2.2.2.2.2.2.2.2.2.2.2.2.2.2.2.1 i_.2.2.2.2.2.2.2.2.2.2.2.2.2.2.2.2.2.2).run (lp (tree self_)),fun _ _ _=>trivial⟩
def f (a0:List aw) (a1 a2:List Int) (a3:Int) (a4:List aL) (a5:List Int) (a6 a7 a8:Int) (a9:List Int) (a10 a11 a12 a13 a14 a15 a16 a17:Bool) (a18:List Int):Option A:=(Self.iter step 8).f (a0,a1,a2,a3,a4,a5,a6,a7,a8,a9,a10,a11,a12,a13,a14,a15,a16,a17,a18)
def told (a0:List aw) (a1 a2:List Int) (a3:Int) (a4:List aL) (a5:List Int) (a6 a7 a8:Int) (a9:List Int) (a10 a11 a12 a13 a14 a15 a16 a17:Bool) (a18:List Int):aa.Told A:=⟨f a0 a1 a2 a3 a4 a5 a6 a7 a8 a9 a10 a11 a12 a13 a14 a15 a16 a17 a18,fun _=>True,fun _ _=>trivial⟩
end cM
abbrev jH.A:=Bool
namespace jH
def begin (a0:List bR) (a1:Int):Tr Empty A:=
 .call (cQ.told a0) fun t1=> .ite t1
  (.call (aG.told a1 (0:Int) (wr ((List.length a0:Int)-(1:Int)))) fun t2=> .ret t2)
  (.ret false)
def f (a0:List bR) (a1:Int):Option A:=(begin a0 a1).run (lp aB)
def told (a0:List bR) (a1:Int):aa.Told A:=⟨f a0 a1,fun _=>True,fun _ _=>trivial⟩
end jH
abbrev gm.A:=Int
namespace gm
def begin (a0:List bR) (a1:List Int) (a2:Int):Tr Empty A:=
 .call (jH.told a0 a2) fun t1=> .ite (!t1)
  (.ret ((-1:Int)))
  (.call (iv.told a1) fun t2=> .ite (!t2)
   (.ret ((-1:Int)))
   (.ax ((0:Int)≤a2∧a2<(List.length a0:Int)) (.call (dV.told a1 ((cS a0 a2).f1.f0) ((cS a0 a2).f1.f1) ((cS a0 a2).f1.f2)) fun t3=> .ax ((List.length a0:Int)≠0) (.ax ((List.length a0:Int)≠0) (.val ((Int.tmod (wr ((Int.tmod t3 (List.length a0:Int))+(List.length a0:Int))) (List.length a0:Int)):Int) fun v4=> .ret v4)))))
def f (a0:List bR) (a1:List Int) (a2:Int):Option A:=(begin a0 a1 a2).run (lp aB)
def told (a0:List bR) (a1:List Int) (a2:Int):aa.Told A:=⟨f a0 a1 a2,fun _=>True,fun _ _=>trivial⟩
end gm
abbrev fQ.A:=(List aL)×(List Int)
namespace fQ
inductive X where
 | c8 (x0:List aL) (x1:List Int) (x2:List aL) (x3:List Int) (x4 x5 x6:Int) (x7:List Int) (x8 x9 x10 x11 x12 x13 x14 x15:Bool) (x16:List Int)
def begin (a0:List bR) (a1 a2:List Int) (a3:Int):Tr X A:=
 .ax ((0:Int)≤(8:Int)∧(8:Int)<(List.length a1:Int)) (.call (aS.told (cT a1 (8:Int))) fun t1=> .call (dx.told a1) fun t2=> .ax ((0:Int)≤t1.1∧t1.1<(List.length a0:Int)) (.call (gn.told ((cS a0 t1.1).f0) ((cS a0 t1.1).f1.f0) ((cS a0 t1.1).f1.f1) ((cS a0 t1.1).f1.f2)) fun t3=> .call (cM.told ((cS a0 t1.1).f0) t3 a2 a3 ([]:List aL) ([]:List Int) t1.1 t1.2.2 (0:Int) ([]:List Int) false false false false false false false false t2) fun t4=> .call (eM.told (1:Int) t4.2.2.2.1 t4.2.2.2.2.1 t4.2.2.2.2.2.1 t4.2.2.2.2.2.2.1 t4.2.2.2.2.2.2.2.1 t4.2.2.2.2.2.2.2.2.1 t4.2.2.2.2.2.2.2.2.2.1 t4.2.2.2.2.2.2.2.2.2.2.1 t4.2.2.2.2.2.2.2.2.2.2.2.1 t4.2.2.2.2.2.2.2.2.2.2.2.2.1 t4.2.2.2.2.2.2.2.2.2.2.2.2.2.1 t4.2.2.2.2.2.2.2.2.2.2.2.2.2.2.1 t4.2.2.2.2.2.2.2.2.2.2.2.2.2.2.2.1 t4.2.2.2.2.2.2.2.2.2.2.2.2.2.2.2.2.1 t4.2.2.2.2.2.2.2.2.2.2.2.2.2.2.2.2.2) fun t5=>let u5_0:Tr X A:=(.last (.val ((if(wr (t1.2.2+t5.2.2.2.2.1))<(24:Int)then(wr (t1.2.2+t5.2.2.2.2.1))else(24:Int)):Int) fun v6=> .last (.call (gm.told a0 t5.2.2.2.2.2.2.2.2.2.2.2.2.2.2 t1.1) fun t7=> .last (.call (bd.told t7 (0:Int) v6) fun t8=> .last (.call (bO.told (8:Int) t8 t5.1 t5.2.1 t5.2.2.1 t5.2.2.2.1 t5.2.2.2.2.1 t5.2.2.2.2.2.1 t5.2.2.2.2.2.2.1 t5.2.2.2.2.2.2.2.1 t5.2.2.2.2.2.2.2.2.1 t5.2.2.2.2.2.2.2.2.2.1 t5.2.2.2.2.2.2.2.2.2.2.1 t5.2.2.2.2.2.2.2.2.2.2.2.1 t5.2.2.2.2.2.2.2.2.2.2.2.2.1 t5.2.2.2.2.2.2.2.2.2.2.2.2.2.1 t5.2.2.2.2.2.2.2.2.2.2.2.2.2.2) fun t9=> .jump (.c8 ([]:List aL) ([]:List Int) t9.1 t9.2.1 t9.2.2.1 t9.2.2.2.1 t9.2.2.2.2.1 t9.2.2.2.2.2.1 t9.2.2.2.2.2.2.1 t9.2.2.2.2.2.2.2.1 t9.2.2.2.2.2.2.2.2.1 t9.2.2.2.2.2.2.2.2.2.1 t9.2.2.2.2.2.2.2.2.2.2.1 t9.2.2.2.2.2.2.2.2.2.2.2.1 t9.2.2.2.2.2.2.2.2.2.2.2.2.1 t9.2.2.2.2.2.2.2.2.2.2.2.2.2.1 t9.2.2.2.2.2.2.2.2.2.2.2.2.2.2))))));let u5_1:Tr X A:=(.both (.call (gm.told a0 t5.2.2.2.2.2.2.2.2.2.2.2.2.2.2 t1.1) fun t6=> .last (.val ((if(wr (t1.2.2+t5.2.2.2.2.1))<(24:Int)then(wr (t1.2.2+t5.2.2.2.2.1))else(24:Int)):Int) fun v7=> .last (.call (bd.told t6 (0:Int) v7) fun t8=> .last (.call (bO.told (8:Int) t8 t5.1 t5.2.1 t5.2.2.1 t5.2.2.2.1 t5.2.2.2.2.1 t5.2.2.2.2.2.1 t5.2.2.2.2.2.2.1 t5.2.2.2.2.2.2.2.1 t5.2.2.2.2.2.2.2.2.1 t5.2.2.2.2.2.2.2.2.2.1 t5.2.2.2.2.2.2.2.2.2.2.1 t5.2.2.2.2.2.2.2.2.2.2.2.1 t5.2.2.2.2.2.2.2.2.2.2.2.2.1 t5.2.2.2.2.2.2.2.2.2.2.2.2.2.1 t5.2.2.2.2.2.2.2.2.2.2.2.2.2.2) fun t9=> .jump (.c8 ([]:List aL) ([]:List Int) t9.1 t9.2.1 t9.2.2.1 t9.2.2.2.1 t9.2.2.2.2.1 t9.2.2.2.2.2.1 t9.2.2.2.2.2.2.1 t9.2.2.2.2.2.2.2.1 t9.2.2.2.2.2.2.2.2.1 t9.2.2.2.2.2.2.2.2.2.1 t9.2.2.2.2.2.2.2.2.2.2.1 t9.2.2.2.2.2.2.2.2.2.2.2.1 t9.2.2.2.2.2.2.2.2.2.2.2.2.1 t9.2.2.2.2.2.2.2.2.2.2.2.2.2.1 t9.2.2.2.2.2.2.2.2.2.2.2.2.2.2))))) (u5_0));let u5_2:Tr X A:=(.both (u5_1) (u5_0));let u5_3:Tr X A:=(.both (u5_2) (u5_0));let u5_4:Tr X A:=(.both (u5_2) (u5_3));let u5_5:Tr X A:=(.both (u5_2) (.both (.both (u5_1) (.both (.call (gm.told a0 t5.2.2.2.2.2.2.2.2.2.2.2.2.2.2 t1.1) fun t6=>let u6_0:Tr X A:=(.last (.val ((if(wr (t1.2.2+t5.2.2.2.2.1))<(24:Int)then(wr (t1.2.2+t5.2.2.2.2.1))else(24:Int)):Int) fun v7=> .last (.call (bd.told t6 (0:Int) v7) fun t8=> .last (.call (bO.told (8:Int) t8 t5.1 t5.2.1 t5.2.2.1 t5.2.2.2.1 t5.2.2.2.2.1 t5.2.2.2.2.2.1 t5.2.2.2.2.2.2.1 t5.2.2.2.2.2.2.2.1 t5.2.2.2.2.2.2.2.2.1 t5.2.2.2.2.2.2.2.2.2.1 t5.2.2.2.2.2.2.2.2.2.2.1 t5.2.2.2.2.2.2.2.2.2.2.2.1 t5.2.2.2.2.2.2.2.2.2.2.2.2.1 t5.2.2.2.2.2.2.2.2.2.2.2.2.2.1 t5.2.2.2.2.2.2.2.2.2.2.2.2.2.2) fun t9=> .jump (.c8 ([]:List aL) ([]:List Int) t9.1 t9.2.1 t9.2.2.1 t9.2.2.2.1 t9.2.2.2.2.1 t9.2.2.2.2.2.1 t9.2.2.2.2.2.2.1 t9.2.2.2.2.2.2.2.1 t9.2.2.2.2.2.2.2.2.1 t9.2.2.2.2.2.2.2.2.2.1 t9.2.2.2.2.2.2.2.2.2.2.1 t9.2.2.2.2.2.2.2.2.2.2.2.1 t9.2.2.2.2.2.2.2.2.2.2.2.2.1 t9.2.2.2.2.2.2.2.2.2.2.2.2.2.1 t9.2.2.2.2.2.2.2.2.2.2.2.2.2.2))))); .both (u6_0) (u6_0)) (u5_0))) (u5_0)));let u5_6:Tr X A:=(.both (u5_5) (u5_0)); .both (.both (u5_3)
  (.both (u5_4)
   (u5_0)))
  (.both (.both (u5_3)
    (u5_6))
   (.both (.both (u5_4)
     (.both (u5_5)
      (u5_6)))
    (u5_0)))))
def tree:X→Tr X A
 | .c8 x0 x1 x2 x3 x4 x5 x6 x7 x8 x9 x10 x11 x12 x13 x14 x15 x16=>
 .ret (x2,x3)
def f (a0:List bR) (a1 a2:List Int) (a3:Int):Option A:=(begin a0 a1 a2 a3).run (lp tree)
def told (a0:List bR) (a1 a2:List Int) (a3:Int):aa.Told A:=⟨f a0 a1 a2 a3,fun _=>True,fun _ _=>trivial⟩
end fQ
abbrev bq.A:=Bool
namespace bq
def begin (a0 a1 a2:Int):Tr Empty A:=
 .ite (decide (a1=(-1:Int)))
  (.ret ((decide (a0=(5:Int)))))
  (.ret false)
def f (a0 a1 a2:Int):Option A:=(begin a0 a1 a2).run (lp aB)
def told (a0 a1 a2:Int):aa.Told A:=⟨f a0 a1 a2,fun _=>True,fun _ _=>trivial⟩
end bq
abbrev bB.A:=Bool×(List Int)×Int×(List (List Int))×Int
namespace bB
inductive X where
 | c3 (x0:List aL) (x1:List Int) (x2 x3:Int) (x4:List Int) (x5:Int) (x6:List (List Int)) (x7:Int)
def begin (a0:List bR) (a1 a2:List Int) (a3:Int) (a4:List (List Int)) (a5:Int):Tr X A:=
 .both (.call (fQ.told a0 a2 a1 a3) fun t1=> .last (.last (.jump (.c3 t1.1 t1.2 (List.length t1.1:Int) (0:Int) a2 a3 a4 a5))))
  (.last (.last (.call (fQ.told a0 a2 a1 a3) fun t1=> .last (.jump (.c3 t1.1 t1.2 (List.length t1.1:Int) (0:Int) a2 a3 a4 a5)))))
def tree:X→Tr X A
 | .c3 x0 x1 x2 x3 x4 x5 x6 x7=>
 let u0_0:Tr X A:=(.last (.last (.ax (((List.length x6:Int)+(List.length ([x1]):Int))*(24:Nat)≤room) (.last (.ret (true,x4,x5,(x6++[x1]),x7)))))); .ite (decide (x3<x2))
  (.ax ((0:Int)≤x3∧x3<(List.length x0:Int)) (.call (bC.told ((fX x0 x3).f0) x4 x5 x6 x7) fun t1=> .ite (!t1.1)
   (.ret (false,t1.2.1,t1.2.2.1,t1.2.2.2.1,t1.2.2.2.2))
   (.call (bq.told ((fX x0 x3).f0) ((fX x0 x3).f1) ((fX x0 x3).f2)) fun t2=> .ite t2
    (.ite (!decide ((fX x0 x3).f1=(-1:Int)))
     (.ax ((0:Int)≤(fX x0 x3).f1∧(fX x0 x3).f1<(List.length t1.2.1:Int)) (.last (.jump (.c3 x0 x1 x2 (wr (x3+(1:Int))) (List.set t1.2.1 (Int.toNat ((fX x0 x3).f1)) ((fX x0 x3).f2)) (wr (t1.2.2.1+(1:Int))) t1.2.2.2.1 t1.2.2.2.2))))
     (.jump (.c3 x0 x1 x2 (wr (x3+(1:Int))) t1.2.1 (wr (t1.2.2.1+(1:Int))) t1.2.2.2.1 t1.2.2.2.2)))
    (.ite (!decide ((fX x0 x3).f1=(-1:Int)))
     (.ax ((0:Int)≤(fX x0 x3).f1∧(fX x0 x3).f1<(List.length t1.2.1:Int)) (.last (.jump (.c3 x0 x1 x2 (wr (x3+(1:Int))) (List.set t1.2.1 (Int.toNat ((fX x0 x3).f1)) ((fX x0 x3).f2)) t1.2.2.1 t1.2.2.2.1 t1.2.2.2.2))))
     (.jump (.c3 x0 x1 x2 (wr (x3+(1:Int))) t1.2.1 t1.2.2.1 t1.2.2.2.1 t1.2.2.2.2))))))
  (.both (u0_0)
   (u0_0))
def f (a0:List bR) (a1 a2:List Int) (a3:Int) (a4:List (List Int)) (a5:Int):Option A:=(begin a0 a1 a2 a3 a4 a5).run (lp tree)
def told (a0:List bR) (a1 a2:List Int) (a3:Int) (a4:List (List Int)) (a5:Int):aa.Told A:=⟨f a0 a1 a2 a3 a4 a5,fun _=>True,fun _ _=>trivial⟩
end bB
abbrev gP.A:=(List Int)×Int×(List (List Int))×Int
namespace gP
inductive X where
 | c4 (x0:List Int) (x1:List bR) (x2:List Int) (x3:Int) (x4:List (List Int)) (x5:Int) (x6:List Int) (x7:Int) (x8:List (List Int)) (x9:Int)
def begin (a0:List bR) (a1 a2:List Int) (a3 a4:Int):Tr X A:=
 .call (aI.told a1) fun t1=> .call (bj.told t1 a3 ([]:List (List Int)) a4) fun t2=> .ite (!t2.1)
  (.ret (t2.2.1,t2.2.2.1,t2.2.2.2.1,t2.2.2.2.2))
  (.jump (.c4 a2 a0 ([]:List Int) (0:Int) ([]:List (List Int)) (0:Int) t2.2.1 t2.2.2.1 t2.2.2.2.1 t2.2.2.2.2))
def tree:X→Tr X A
 | .c4 x0 x1 x2 x3 x4 x5 x6 x7 x8 x9=>
 .ite (decide ((List.length x8:Int)<(10:Int)))
  (.call (bB.told x1 x0 x6 x7 x8 x9) fun t1=> .ite t1.1
   (.jump (.c4 x0 x1 x2 x3 x4 x5 t1.2.1 t1.2.2.1 t1.2.2.2.1 t1.2.2.2.2))
   (.ret (t1.2.1,t1.2.2.1,t1.2.2.2.1,t1.2.2.2.2)))
  (.ret (x6,x7,x8,x9))
def f (a0:List bR) (a1 a2:List Int) (a3 a4:Int):Option A:=(begin a0 a1 a2 a3 a4).run (lp tree)
def told (a0:List bR) (a1 a2:List Int) (a3 a4:Int):aa.Told A:=⟨f a0 a1 a2 a3 a4,fun _=>True,fun _ _=>trivial⟩
end gP
abbrev gq.A:=(List bR)×(List Int)×(List Int)×Int×Int×Int×Int×Int×Int×Int×Int×(List Int)×Int×Bool
namespace gq
inductive X where
 | c9 (x0:List bR) (x1 x2:List Int) (x3 x4 x5 x6 x7 x8 x9 x10:Int) (x11:List Int) (x12:Int) (x13:List bR) (x14 x15:List Int) (x16 x17 x18 x19 x20 x21 x22 x23:Int) (x24:List Int) (x25:Int) (x26:List bR) (x27 x28:List Int) (x29 x30 x31 x32 x33 x34 x35 x36:Int) (x37:List Int) (x38:Int)
def begin (a0:List bR) (a1 a2:List Int) (a3 a4 a5 a6 a7 a8 a9 a10:Int) (a11:List Int) (a12 a13:Int):Tr X A:=
 .call (fp.told a0 a1 a2 a3 a4 a5 a6 a7 a8 a9 a10 a11 a12) fun t1=> .call (cy.told a0 a1 a2 a3 a4 a5 a6 a7 a8 a9 a10 a11 a12) fun t2=> .ite (!t2)
  (.ret (t1.1,t1.2.1,t1.2.2.1,t1.2.2.2.1,t1.2.2.2.2.1,t1.2.2.2.2.2.1,t1.2.2.2.2.2.2.1,t1.2.2.2.2.2.2.2.1,t1.2.2.2.2.2.2.2.2.1,t1.2.2.2.2.2.2.2.2.2.1,t1.2.2.2.2.2.2.2.2.2.2.1,t1.2.2.2.2.2.2.2.2.2.2.2.1,t1.2.2.2.2.2.2.2.2.2.2.2.2,false))
  (.call (gx.told a13) fun t3=> .ite (!t3)
   (.ret (t1.1,t1.2.1,t1.2.2.1,t1.2.2.2.1,t1.2.2.2.2.1,t1.2.2.2.2.2.1,t1.2.2.2.2.2.2.1,t1.2.2.2.2.2.2.2.1,t1.2.2.2.2.2.2.2.2.1,t1.2.2.2.2.2.2.2.2.2.1,t1.2.2.2.2.2.2.2.2.2.2.1,t1.2.2.2.2.2.2.2.2.2.2.2.1,t1.2.2.2.2.2.2.2.2.2.2.2.2,false))
   (.call (fW.told a13 t1.1 t1.2.1 t1.2.2.1 t1.2.2.2.1 t1.2.2.2.2.1 t1.2.2.2.2.2.1 t1.2.2.2.2.2.2.1 t1.2.2.2.2.2.2.2.1 t1.2.2.2.2.2.2.2.2.1 t1.2.2.2.2.2.2.2.2.2.1 t1.2.2.2.2.2.2.2.2.2.2.1 t1.2.2.2.2.2.2.2.2.2.2.2.1 t1.2.2.2.2.2.2.2.2.2.2.2.2) fun t4=> .call (iN.told a8 a9 (1:Int)) fun t5=> .ite (decide (t4.2.2.2.2.1≥t4.2.2.2.2.2.2.1))
    (.call (gP.told a0 a1 a2 a3 t4.2.2.2.2.1) fun t6=>let u6_0:Tr X A:=(.last (.last (.last (.jump (.c9 a0 a1 a2 a3 a4 a5 a6 a7 a8 a9 a10 a11 a12 ([]:List bR) ([]:List Int) ([]:List Int) (0:Int) (0:Int) (0:Int) (0:Int) (0:Int) (0:Int) (0:Int) (0:Int) ([]:List Int) (0:Int) t4.1 t6.1 t4.2.2.1 t6.2.1 (0:Int) t4.2.2.2.2.2.1 t4.2.2.2.2.2.2.1 t4.2.2.2.2.2.2.2.1 t5.1 t5.2 t4.2.2.2.2.2.2.2.2.2.2.1 t4.2.2.2.2.2.2.2.2.2.2.2.1 (wr (a12+(List.length t6.2.2.1:Int))))))));let u6_1:Tr X A:=(.last (u6_0));let u6_2:Tr X A:=(.both (u6_0) (u6_0));let u6_3:Tr X A:=(.last (u6_2));let u6_4:Tr X A:=(.both (u6_1) (u6_3));let u6_5:Tr X A:=(.last (.both (u6_2) (.both (u6_2) (u6_0))));let u6_6:Tr X A:=(.both (u6_4) (.both (.both (u6_1) (u6_1)) (u6_3))); .both (.both (u6_4)
      (.both (u6_4)
       (u6_5)))
     (.both (u6_6)
      (.both (u6_6)
       (u6_5))))
    (.jump (.c9 a0 a1 a2 a3 a4 a5 a6 a7 a8 a9 a10 a11 a12 ([]:List bR) ([]:List Int) ([]:List Int) (0:Int) (0:Int) (0:Int) (0:Int) (0:Int) (0:Int) (0:Int) (0:Int) ([]:List Int) (0:Int) t4.1 t4.2.1 t4.2.2.1 t4.2.2.2.1 t4.2.2.2.2.1 t4.2.2.2.2.2.1 t4.2.2.2.2.2.2.1 t4.2.2.2.2.2.2.2.1 t5.1 t5.2 t4.2.2.2.2.2.2.2.2.2.2.1 t4.2.2.2.2.2.2.2.2.2.2.2.1 t4.2.2.2.2.2.2.2.2.2.2.2.2))))
def tree:X→Tr X A
 | .c9 x0 x1 x2 x3 x4 x5 x6 x7 x8 x9 x10 x11 x12 x13 x14 x15 x16 x17 x18 x19 x20 x21 x22 x23 x24 x25 x26 x27 x28 x29 x30 x31 x32 x33 x34 x35 x36 x37 x38=>
 .call (cy.told x26 x27 x28 x29 x30 x31 x32 x33 x34 x35 x36 x37 x38) fun t1=> .ite (!t1)
  (.call (fp.told x0 x1 x2 x3 x4 x5 x6 x7 x8 x9 x10 x11 x12) fun t2=> .ret (t2.1,t2.2.1,t2.2.2.1,t2.2.2.2.1,t2.2.2.2.2.1,t2.2.2.2.2.2.1,t2.2.2.2.2.2.2.1,t2.2.2.2.2.2.2.2.1,t2.2.2.2.2.2.2.2.2.1,t2.2.2.2.2.2.2.2.2.2.1,t2.2.2.2.2.2.2.2.2.2.2.1,t2.2.2.2.2.2.2.2.2.2.2.2.1,t2.2.2.2.2.2.2.2.2.2.2.2.2,false))
  (.ret (x26,x27,x28,x29,x30,x31,x32,x33,x34,x35,x36,x37,x38,true))
def f (a0:List bR) (a1 a2:List Int) (a3 a4 a5 a6 a7 a8 a9 a10:Int) (a11:List Int) (a12 a13:Int):Option A:=(begin a0 a1 a2 a3 a4 a5 a6 a7 a8 a9 a10 a11 a12 a13).run (lp tree)
def told (a0:List bR) (a1 a2:List Int) (a3 a4 a5 a6 a7 a8 a9 a10:Int) (a11:List Int) (a12 a13:Int):aa.Told A:=⟨f a0 a1 a2 a3 a4 a5 a6 a7 a8 a9 a10 a11 a12 a13,fun _=>True,fun _ _=>trivial⟩
end gq
abbrev fi.A:=(List iA)
namespace fi
inductive X where
 | c6 (x0:List Int) (x1:List iA) (x2:Int)
def begin (a0:List Int) (a1:Int):Tr X A:=
 .call (di.told a0) fun t1=> .call (aG.told a1 (0:Int) (List.length t1:Int)) fun t2=> .ite (!t2)
  (.ret (([]:List iA)))
  (.jump (.c6 t1 ([]:List iA) a1))
def tree:X→Tr X A
 | .c6 x0 x1 x2=>
 .ite (decide (x2<(List.length x0:Int)))
  (.ax ((0:Int)≤x2∧x2<(List.length x0:Int)) (.ax (((List.length x1:Int)+(List.length ([(⟨x2,(cT x0 x2)⟩:iA)]):Int))*(16:Nat)≤room) (.jump (.c6 x0 (x1++[(⟨x2,(cT x0 x2)⟩:iA)]) (wr (x2+(1:Int)))))))
  (.ret x1)
def f (a0:List Int) (a1:Int):Option A:=(begin a0 a1).run (lp tree)
def told (a0:List Int) (a1:Int):aa.Told A:=⟨f a0 a1,fun _=>True,fun _ _=>trivial⟩
end fi
abbrev iP.A:=(List Int)×Int
namespace iP
def begin (a0:List Int) (a1 a2:Int):Tr Empty A:=
 .call (aI.told a0) fun t1=>let u1_0:Tr Empty A:=(.last (.ret ((t1++[a2]),(List.length (t1++[a2]):Int))));let u1_1:Tr Empty A:=(.both (.last (.ret (t1,(List.length t1:Int)))) (.last (.ret (t1,(List.length t1:Int))))); .ite (decide (a1=(List.length a0:Int)))
  (.ite (decide ((List.length a0:Int)<(255:Int)))
   (.ax (((List.length t1:Int)+(List.length ([a2]):Int))*(8:Nat)≤room) (.both (u1_0)
    (u1_0)))
   (u1_1))
  (u1_1)
def f (a0:List Int) (a1 a2:Int):Option A:=(begin a0 a1 a2).run (lp aB)
def told (a0:List Int) (a1 a2:Int):aa.Told A:=⟨f a0 a1 a2,fun _=>True,fun _ _=>trivial⟩
end iP
abbrev da.A:=(List Int)×Int
namespace da
inductive X where
 | c3 (x0:List Bool) (x1 x2:List Int) (x3:List iA) (x4 x5:Int)
def begin (a0:List Int) (a1:List iA) (a2:List Bool):Tr X A:=
 .call (aI.told a0) fun t1=> .jump (.c3 a2 ([]:List Int) t1 a1 (List.length a1:Int) (0:Int))
def tree:X→Tr X A
 | .c3 x0 x1 x2 x3 x4 x5=>
 let u0_0:Tr X A:=(.jump (.c3 x0 x1 x2 x3 x4 (wr (x5+(1:Int))))); .ite (decide (x5<x4))
  (.ax ((0:Int)≤x5∧x5<(List.length x3:Int)) (.ite (decide (x5<(List.length x0:Int)))
   (.ax ((0:Int)≤x5∧x5<(List.length x0:Int)) (.ite (D2 x0 x5)
    (.call (iP.told x2 ((yp x3 x5).f0) ((yp x3 x5).f1)) fun t1=> .jump (.c3 x0 x1 t1.1 x3 x4 (wr (x5+(1:Int)))))
    (u0_0)))
   (u0_0)))
  (.both (.last (.ret (x2,(List.length x2:Int))))
   (.last (.ret (x2,(List.length x2:Int)))))
def f (a0:List Int) (a1:List iA) (a2:List Bool):Option A:=(begin a0 a1 a2).run (lp tree)
def told (a0:List Int) (a1:List iA) (a2:List Bool):aa.Told A:=⟨f a0 a1 a2,fun _=>True,fun _ _=>trivial⟩
end da
abbrev gX.A:=Int×(List Int)×Bool
namespace gX
def begin (a0:List Int) (a1:Int) (a2:List Int) (a3:List Bool) (a4:Bool):Tr Empty A:=
 .call (gl.told a1 a2) fun t1=> .call (eU.told a0 a1 a2) fun t2=> .ite (!t2)
  (.ret (t1.1,t1.2,false))
  (.both (.call (fi.told a0 a1) fun t3=> .both (.call (da.told a2 t3 a3) fun t4=> .last (.last (.ite a4
   (.ret (t4.2,t4.1,true))
   (.ret (t1.1,t4.1,true)))))
    (.last (.last (.call (da.told a2 t3 a3) fun t4=> .last (.ite a4
     (.ret (t4.2,t4.1,true))
     (.ret (t1.1,t4.1,true)))))))
   (.last (.last (.call (fi.told a0 a1) fun t3=> .last (.call (da.told a2 t3 a3) fun t4=> .last (.ite a4
    (.ret (t4.2,t4.1,true))
    (.ret (t1.1,t4.1,true))))))))
def f (a0:List Int) (a1:Int) (a2:List Int) (a3:List Bool) (a4:Bool):Option A:=(begin a0 a1 a2 a3 a4).run (lp aB)
def told (a0:List Int) (a1:Int) (a2:List Int) (a3:List Bool) (a4:Bool):aa.Told A:=⟨f a0 a1 a2 a3 a4,fun _=>True,fun _ _=>trivial⟩
end gX
abbrev jn.A:=(List bR)×(List Int)×(List Int)×Int×Int×Int×Int×Int×Int×Int×Int×(List Int)×Int×Bool
namespace jn
def begin (a0:List bR) (a1 a2:List Int) (a3 a4 a5 a6 a7 a8 a9 a10:Int) (a11:List Int) (a12:Int) (a13:List Bool) (a14:Bool):Tr Empty A:=
 .call (fp.told a0 a1 a2 a3 a4 a5 a6 a7 a8 a9 a10 a11 a12) fun t1=> .call (cy.told a0 a1 a2 a3 a4 a5 a6 a7 a8 a9 a10 a11 a12) fun t2=> .ite (!t2)
  (.ret (t1.1,t1.2.1,t1.2.2.1,t1.2.2.2.1,t1.2.2.2.2.1,t1.2.2.2.2.2.1,t1.2.2.2.2.2.2.1,t1.2.2.2.2.2.2.2.1,t1.2.2.2.2.2.2.2.2.1,t1.2.2.2.2.2.2.2.2.2.1,t1.2.2.2.2.2.2.2.2.2.2.1,t1.2.2.2.2.2.2.2.2.2.2.2.1,t1.2.2.2.2.2.2.2.2.2.2.2.2,false))
  (.call (gX.told a1 a10 a11 a13 a14) fun t3=> .ret (t1.1,t1.2.1,t1.2.2.1,t1.2.2.2.1,t1.2.2.2.2.1,t1.2.2.2.2.2.1,t1.2.2.2.2.2.2.1,t1.2.2.2.2.2.2.2.1,t1.2.2.2.2.2.2.2.2.1,t1.2.2.2.2.2.2.2.2.2.1,t3.1,t3.2.1,t1.2.2.2.2.2.2.2.2.2.2.2.2,true))
def f (a0:List bR) (a1 a2:List Int) (a3 a4 a5 a6 a7 a8 a9 a10:Int) (a11:List Int) (a12:Int) (a13:List Bool) (a14:Bool):Option A:=(begin a0 a1 a2 a3 a4 a5 a6 a7 a8 a9 a10 a11 a12 a13 a14).run (lp aB)
def told (a0:List bR) (a1 a2:List Int) (a3 a4 a5 a6 a7 a8 a9 a10:Int) (a11:List Int) (a12:Int) (a13:List Bool) (a14:Bool):aa.Told A:=⟨f a0 a1 a2 a3 a4 a5 a6 a7 a8 a9 a10 a11 a12 a13 a14,fun _=>True,fun _ _=>trivial⟩
end jn
end
end Go.Proofs.YtpndhhellhfegaaGreatDoor.Ev
