/- Functions as trees, with their contracts. No conditions. -/
import Derived.Test.YtpndhhellhfegaaGreatDoorREvF17
namespace Go.Proofs.YtpndhhellhfegaaGreatDoor.Ev
open Go.Proofs.YtpndhhellhfegaaGreatDoor.aa Go.RowKit
set_option linter.unusedVariables false
set_option maxRecDepth 100000
noncomputable section
namespace ff
def S (a0 a1 a2 a3:Int):List (PV U):=aa.start C 25 [.agg [.int .i64 a0,.int .i64 a1,.int .i64 a2,.int .i64 a3]] []
def begin (a0 a1 a2 a3:Int):Tr Empty A:=
 .call (aG.told a1 (1:Int) (5000:Int)) fun t1=> .ite t1
  (.call (aG.told a0 (0:Int) a1) fun t2=> .ite t2
   (.call (aG.told a2 (1:Int) a1) fun t3=> .ite t3
    (.call (aG.told a3 (0:Int) (100:Int)) fun t4=> .ret t4)
    (.ret false))
   (.ret false))
  (.ret false)
def f (a0 a1 a2 a3:Int):Option A:=(begin a0 a1 a2 a3).run (lp aB)
def told (a0 a1 a2 a3:Int):aa.Told A:=⟨f a0 a1 a2 a3,fun r=>ah Pg C 65 (S a0 a1 a2 a3) 0 (v r) (o r),fun r h=>aY (Q:=PL) v o Tryz.func65 rfl (of_decide_eq_true (by kernel_rfl)) (by rfl) (fun _=>rfl) (fun J K=>by kernel_rfl) h⟩
end ff
namespace dZ
def S (a0 a1:Int):List (PV U):=aa.start C 18 [.agg [.int .i64 a0,.int .i64 a1]] []
def begin (a0 a1:Int):Tr Empty A:=
 .ite (decide (a0≥(0:Int)))
  (.ite (decide (a0≤a1))
   (.ret ((decide (a1≤(1000000:Int)))))
   (.ret false))
  (.ret false)
def f (a0 a1:Int):Option A:=(begin a0 a1).run (lp aB)
def told (a0 a1:Int):aa.Told A:=⟨f a0 a1,fun r=>ah Pg C 68 (S a0 a1) 0 (v r) (o r),fun r h=>aY (Q:=PL) v o Tryz.func68 rfl (of_decide_eq_true (by kernel_rfl)) (by rfl) (fun _=>rfl) (fun J K=>by kernel_rfl) h⟩
end dZ
namespace aI
def S (a0:List Int):List (PV U):=aa.start C 8 [.sl 3 a0] []
def begin (a0:List Int):Tr Empty A:=
 .wM a0
  (.ret (([]:List Int)))
  (.ax (((List.length ([]:List Int):Int)+(List.length a0:Int))*(8:Nat)≤room) (.ret ((([]:List Int)++a0))))
def f (a0:List Int):Option A:=(begin a0).run (lp aB)
def told (a0:List Int):aa.Told A:=⟨f a0,fun r=>ah Pg C 51 (S a0) 0 (v r) (o r),fun r h=>aY (Q:=PL) v o Tryz.func51 rfl (of_decide_eq_true (by kernel_rfl)) (by rfl) (fun _=>rfl) (fun J K=>by kernel_rfl) h⟩
end aI
namespace di
def S (a0:List Int):List (PV U):=aa.start C 24 [.sl 3 a0] []
def begin (a0:List Int):Tr Empty A:=
 .ite (!decide ((List.length a0:Int)=(49:Int)))
  (.ret (([]:List Int)))
  (.ax ((0:Int)≤(8:Int)∧(8:Int)<(List.length a0:Int)) (.call (aS.told (cT a0 (8:Int))) fun t1=> .ite (decide (t1.2.2<(0:Int)))
   (.ret (([]:List Int)))
   (.ax ((0:Int)≤(25:Int)∧(25:Int)≤(wr ((25:Int)+t1.2.2))∧(wr ((25:Int)+t1.2.2))≤(List.length a0:Int)) (.call (aI.told (List.drop (Int.toNat (25:Int)) (List.take (Int.toNat (wr ((25:Int)+t1.2.2))) a0))) fun t2=> .ret t2))))
def f (a0:List Int):Option A:=(begin a0).run (lp aB)
def told (a0:List Int):aa.Told A:=⟨f a0,fun r=>ah Pg C 47 (S a0) 0 (v r) (o r),fun r h=>aY (Q:=PL) v o Tryz.func47 rfl (of_decide_eq_true (by kernel_rfl)) (by rfl) (fun _=>rfl) (fun J K=>by kernel_rfl) h⟩
end di
namespace br
def S (a0 a1:List Int):List (PV U):=aa.start C 26 [.sl 3 a0,.sl 3 a1] []
inductive X where
 | c4 (x0 x1:List Int) (x2 x3:Int)
def id:X→Nat
 | .c4 .. =>4
def st:X→List (PV U)
 | .c4 x0 x1 x2 x3=>gf 26 [(0,.sl 3 x0),(1,.sl 3 x1),(12,.int .i64 x2),(13,.int .i64 x3)]
def begin (a0 a1:List Int):Tr X A:=
 .ite (!decide ((List.length a0:Int)=(List.length a1:Int)))
  (.ret false)
  (.jump (.c4 a0 a1 (List.length a0:Int) (0:Int)))
def tree:X→Tr X A
 | .c4 x0 x1 x2 x3=>
 .ite (decide (x3<x2))
  (.ax ((0:Int)≤x3∧x3<(List.length x0:Int)) (.ax ((0:Int)≤x3∧x3<(List.length x1:Int)) (.ite (!decide ((cT x0 x3)=(cT x1 x3)))
   (.ret false)
   (.jump (.c4 x0 x1 x2 (wr (x3+(1:Int))))))))
  (.ret true)
def f (a0 a1:List Int):Option A:=(begin a0 a1).run (lp tree)
def Q:ck C:={PL with gT:=[(4,[0,1,12,13])],kI:=[(6,[],(.take 0 [] (.take 1 [] (.take 2 [] (.take 4 [] (.take 5 [] (.take 6 [] (.take 3 [0,1,2,4,5,6,7] (.take 7 [0,1,2,3,4,5,6] (.take 8 [] .done))))))))))]}
theorem e:fr Pg C Q Tryz.f50 0 id st v o tree:=fun J K x=>by cases x<;>kernel_rfl
def told (a0 a1:List Int):aa.Told A:=⟨f a0 a1,fun r=>ah Pg C 50 (S a0 a1) 0 (v r) (o r),fun r h=>fI v o Tryz.func50 rfl (of_decide_eq_true (by kernel_rfl)) (by rfl) (fun _=>rfl) e (fun J K=>by kernel_rfl) h⟩
end br
namespace dc
def S (a0 a1:List Int):List (PV U):=aa.start C 18 [.sl 3 a0,.sl 3 a1] []
def begin (a0 a1:List Int):Tr Empty A:=
 .ite (decide ((List.length a0:Int)≤(List.length a1:Int)))
  (.ax ((0:Int)≤(0:Int)∧(0:Int)≤(List.length a0:Int)∧(List.length a0:Int)≤(List.length a1:Int)) (.call (br.told a0 (List.take (Int.toNat (List.length a0:Int)) a1)) fun t1=> .ret t1))
  (.ret false)
def f (a0 a1:List Int):Option A:=(begin a0 a1).run (lp aB)
def told (a0 a1:List Int):aa.Told A:=⟨f a0 a1,fun r=>ah Pg C 99 (S a0 a1) 0 (v r) (o r),fun r h=>aY (Q:=PL) v o Tryz.func99 rfl (of_decide_eq_true (by kernel_rfl)) (by rfl) (fun _=>rfl) (fun J K=>by kernel_rfl) h⟩
end dc
namespace eU
def S (a0:List Int) (a1:Int) (a2:List Int):List (PV U):=aa.start C 20 [.sl 3 a0,.agg [.int .i64 a1,.sl 3 a2]] []
def begin (a0:List Int) (a1:Int) (a2:List Int):Tr Empty A:=
 .last (.call (aG.told a1 (0:Int) (List.length a2:Int)) fun t1=> .ite t1
  (.last (.call (di.told a0) fun t2=> .last (.call (dc.told a2 t2) fun t3=> .ret t3)))
  (.last (.last (.ret false))))
def f (a0:List Int) (a1:Int) (a2:List Int):Option A:=(begin a0 a1 a2).run (lp aB)
def Q:ck C:={PL with kI:=[(1,[],(.take 0 [] (.take 2 [] (.take 3 [] (.take 1 [0,2,3,4,5] (.take 4 [0,1,2,3] (.take 5 [] (.alt 6 (.take 7 [] (.take 8 [] (.take 9 [] (.take 11 [] (.take 10 [0,1,2,3,4,5,6,7,8,9,11,12] (.alt 12 (.alt 13 (.take 14 [] (.take 15 [] .done)) .nil) .nil)))))) .nil))))))))]}
def told (a0:List Int) (a1:Int) (a2:List Int):aa.Told A:=⟨f a0 a1 a2,fun r=>ah Pg C 69 (S a0 a1 a2) 0 (v r) (o r),fun r h=>aY (Q:=Q) v o Tryz.func69 rfl (of_decide_eq_true (by kernel_rfl)) (by rfl) (fun _=>rfl) (fun J K=>by kernel_rfl) h⟩
end eU
namespace cy
def S (a0:List bR) (a1 a2:List Int) (a3 a4 a5 a6 a7 a8 a9 a10:Int) (a11:List Int) (a12:Int):List (PV U):=aa.start C 40 [.agg [.sl 88 a0,.sl 3 a1,.sl 3 a2,.int .i64 a3,.int .i64 a4,.int .i64 a5,.int .i64 a6,.int .i64 a7,.int .i64 a8,.int .i64 a9,.int .i64 a10,.sl 3 a11,.int .i64 a12]] []
def begin (a0:List bR) (a1 a2:List Int) (a3 a4 a5 a6 a7 a8 a9 a10:Int) (a11:List Int) (a12:Int):Tr Empty A:=
 .call (fa.told a0 a1) fun t1=> .ite t1
  (.call (ff.told a4 a5 a6 a7) fun t2=> .ite t2
   (.call (cg.told a2) fun t3=> .ite t3
    (.call (aG.told a3 (0:Int) (400000:Int)) fun t4=> .ite t4
     (.call (dZ.told a8 a9) fun t5=> .ite t5
      (.call (eU.told a1 a10 a11) fun t6=> .ite t6
       (.call (aG.told a12 (0:Int) (100000:Int)) fun t7=> .ret t7)
       (.ret false))
      (.ret false))
     (.ret false))
    (.ret false))
   (.ret false))
  (.ret false)
def f (a0:List bR) (a1 a2:List Int) (a3 a4 a5 a6 a7 a8 a9 a10:Int) (a11:List Int) (a12:Int):Option A:=(begin a0 a1 a2 a3 a4 a5 a6 a7 a8 a9 a10 a11 a12).run (lp aB)
def told (a0:List bR) (a1 a2:List Int) (a3 a4 a5 a6 a7 a8 a9 a10:Int) (a11:List Int) (a12:Int):aa.Told A:=⟨f a0 a1 a2 a3 a4 a5 a6 a7 a8 a9 a10 a11 a12,fun r=>ah Pg C 32 (S a0 a1 a2 a3 a4 a5 a6 a7 a8 a9 a10 a11 a12) 0 (v r) (o r),fun r h=>aY (Q:=PL) v o Tryz.func32 rfl (of_decide_eq_true (by kernel_rfl)) (by rfl) (fun _=>rfl) (fun J K=>by kernel_rfl) h⟩
end cy
namespace strconv_Itoa
def S (a0:Int):List (PV U):=aa.start C 1 [.int .i64 a0] []
def f (a0:Int):Option A:=if -9223372036854775808≤a0∧a0≤9223372036854775807 then some ⟨(Lib.itoa a0).toArray⟩else none
def told (a0:Int):aa.Told A:=⟨f a0,fun r=>ah Pg C 46 (S a0) 0 (v r) (o r),fun r h=>by
 unfold f at h;split at h
 ·rename_i hc;cases h;exact An (C:=C) ⟨_,Tryz.func46,rfl,rfl⟩ (fun w ht=>(Go.Proofs.Tryz.strconv_Itoa a0 hc.1 hc.2 w ht.pow).mono (by rintro e w' ⟨rfl,k,os,rfl⟩;exact⟨rfl,Lib.below_grow _ _ (Nat.le_refl _) _ _⟩))
 ·cases h⟩
end strconv_Itoa
namespace bA
def S (a0:Int):List (PV U):=aa.start C 5 [.int .i64 a0] []
def begin (a0:Int):Tr Empty A:=
 .call (strconv_Itoa.told a0) fun t1=> .ret t1
def f (a0:Int):Option A:=(begin a0).run (lp aB)
def told (a0:Int):aa.Told A:=⟨f a0,fun r=>ah Pg C 16 (S a0) 0 (v r) (o r),fun r h=>aY (Q:=PL) v o Tryz.func16 rfl (of_decide_eq_true (by kernel_rfl)) (by rfl) (fun _=>rfl) (fun J K=>by kernel_rfl) h⟩
end bA
namespace bh
def S (a0:ByteArray) (a1:List Int):List (PV U):=aa.start C 22 [.str a0,.sl 3 a1] []
inductive X where
 | c3 (x0:ByteArray) (x1:List Int) (x2 x3:Int)
def id:X→Nat
 | .c3 .. =>3
def st:X→List (PV U)
 | .c3 x0 x1 x2 x3=>gf 22 [(5,.str x0),(9,.sl 3 x1),(10,.int .i64 x2),(11,.int .i64 x3)]
def begin (a0:ByteArray) (a1:List Int):Tr X A:=
 .jump (.c3 a0 a1 (List.length a1:Int) (0:Int))
def tree:X→Tr X A
 | .c3 x0 x1 x2 x3=>
 .ite (decide (x3<x2))
  (.ax ((0:Int)≤x3∧x3<(List.length x1:Int)) (.call (bA.told (cT x1 x3)) fun t1=> .ax (((⟨#[32]⟩:ByteArray).size:Int)+t1.size≤room) (.ax ((x0.size:Int)+((⟨#[32]⟩:ByteArray)++t1).size≤room) (.jump (.c3 (x0++((⟨#[32]⟩:ByteArray)++t1)) x1 x2 (wr (x3+(1:Int))))))))
  (.ret x0)
def f (a0:ByteArray) (a1:List Int):Option A:=(begin a0 a1).run (lp tree)
def Q:ck C:={PL with gT:=[(3,[5,9,10,11])]}
theorem e:fr Pg C Q Tryz.f34 0 id st v o tree:=fun J K x=>by cases x<;>kernel_rfl
def told (a0:ByteArray) (a1:List Int):aa.Told A:=⟨f a0 a1,fun r=>ah Pg C 34 (S a0 a1) 0 (v r) (o r),fun r h=>fI v o Tryz.func34 rfl (of_decide_eq_true (by kernel_rfl)) (by rfl) (fun _=>rfl) e (fun J K=>by kernel_rfl) h⟩
end bh
end
end Go.Proofs.YtpndhhellhfegaaGreatDoor.Ev
