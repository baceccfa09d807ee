/- Functions as trees, with their contracts. No conditions. -/
import Derived.Test.YtpndhhellhfegaaGreatDoorREvF19
namespace Go.Proofs.YtpndhhellhfegaaGreatDoor.Ev
open Go.Proofs.YtpndhhellhfegaaGreatDoor.aa Go.RowKit
set_option linter.unusedVariables false
set_option maxRecDepth 100000
noncomputable section
namespace dR
def S (a0:List bR) (a1 a2:List Int) (a3 a4 a5 a6 a7 a8 a9 a10:Int) (a11:List Int) (a12:Int) (a13:List bR) (a14 a15:List Int) (a16 a17 a18 a19 a20 a21 a22 a23:Int) (a24:List Int) (a25:Int):List (PV U):=aa.start C 74 [.agg [.sl 88 a0,.sl 3 a1,.sl 3 a2,.int .i64 a3,.int .i64 a4,.int .i64 a5,.int .i64 a6,.int .i64 a7,.int .i64 a8,.int .i64 a9,.int .i64 a10,.sl 3 a11,.int .i64 a12],.agg [.sl 88 a13,.sl 3 a14,.sl 3 a15,.int .i64 a16,.int .i64 a17,.int .i64 a18,.int .i64 a19,.int .i64 a20,.int .i64 a21,.int .i64 a22,.int .i64 a23,.sl 3 a24,.int .i64 a25]] []
def begin (a0:List bR) (a1 a2:List Int) (a3 a4 a5 a6 a7 a8 a9 a10:Int) (a11:List Int) (a12:Int) (a13:List bR) (a14 a15:List Int) (a16 a17 a18 a19 a20 a21 a22 a23:Int) (a24:List Int) (a25:Int):Tr Empty A:=
 .call (ar.told a0 a13) fun t1=> .ite t1
  (.call (br.told a1 a14) fun t2=> .ite t2
   (.call (br.told a2 a15) fun t3=> .ite t3
    (.ite (decide (a3=a16))
     (.val ((decide (a4=a17)&&(decide (a5=a18)&&(decide (a6=a19)&&(decide (a7=a20)&&true)))):Bool) fun v4=> .ite v4
      (.ite (decide (a8=a21)&&(decide (a9=a22)&&true))
       (.ite (decide (a10=a23))
        (.call (br.told a11 a24) fun t5=> .ite t5
         (.ret ((decide (a12=a25))))
         (.ret false))
        (.ret false))
       (.ret false))
      (.ret false))
     (.ret false))
    (.ret false))
   (.ret false))
  (.ret false)
def f (a0:List bR) (a1 a2:List Int) (a3 a4 a5 a6 a7 a8 a9 a10:Int) (a11:List Int) (a12:Int) (a13:List bR) (a14 a15:List Int) (a16 a17 a18 a19 a20 a21 a22 a23:Int) (a24:List Int) (a25:Int):Option A:=(begin a0 a1 a2 a3 a4 a5 a6 a7 a8 a9 a10 a11 a12 a13 a14 a15 a16 a17 a18 a19 a20 a21 a22 a23 a24 a25).run (lp aB)
def told (a0:List bR) (a1 a2:List Int) (a3 a4 a5 a6 a7 a8 a9 a10:Int) (a11:List Int) (a12:Int) (a13:List bR) (a14 a15:List Int) (a16 a17 a18 a19 a20 a21 a22 a23:Int) (a24:List Int) (a25:Int):aa.Told A:=⟨f a0 a1 a2 a3 a4 a5 a6 a7 a8 a9 a10 a11 a12 a13 a14 a15 a16 a17 a18 a19 a20 a21 a22 a23 a24 a25,fun r=>ah Pg C 18 (S a0 a1 a2 a3 a4 a5 a6 a7 a8 a9 a10 a11 a12 a13 a14 a15 a16 a17 a18 a19 a20 a21 a22 a23 a24 a25) 0 (v r) (o r),fun r h=>aY (Q:=PL) v o Tryz.func18 rfl (of_decide_eq_true (by kernel_rfl)) (by rfl) (fun _=>rfl) (fun J K=>by kernel_rfl) h⟩
end dR
namespace dx
def S (a0:List Int):List (PV U):=aa.start C 9 [.sl 3 a0] []
def begin (a0:List Int):Tr Empty A:=
 .ite (!decide ((List.length a0:Int)=(49:Int)))
  (.ret (([]:List Int)))
  (.ax ((0:Int)≤(0:Int)∧(0:Int)≤(8:Int)∧(8:Int)≤(List.length a0:Int)) (.call (aI.told (List.take (Int.toNat (8:Int)) a0)) fun t1=> .ret t1))
def f (a0:List Int):Option A:=(begin a0).run (lp aB)
def told (a0:List Int):aa.Told A:=⟨f a0,fun r=>ah Pg C 20 (S a0) 0 (v r) (o r),fun r h=>aY (Q:=PL) v o Tryz.func20 rfl (of_decide_eq_true (by kernel_rfl)) (by rfl) (fun _=>rfl) (fun J K=>by kernel_rfl) h⟩
end dx
namespace db
def S (a0:List Int):List (PV U):=aa.start C 13 [.sl 3 a0] []
def begin (a0:List Int):Tr Empty A:=
 let u0_0:Tr Empty A:=(.last (.ax ((0:Int)≤(1:Int)∧(1:Int)≤(List.length a0:Int)∧(List.length a0:Int)≤(List.length a0:Int)) (.last (.call (bA.told (cT a0 (0:Int))) fun t1=> .last (.call (bh.told t1 (List.drop (Int.toNat (1:Int)) a0)) fun t2=> .ret t2))))); .ite (decide ((List.length a0:Int)=(0:Int)))
  (.ret ((⟨#[]⟩:ByteArray)))
  (.ax ((0:Int)≤(0:Int)∧(0:Int)<(List.length a0:Int)) (.both (.both (.call (bA.told (cT a0 (0:Int))) fun t1=> .last (.ax ((0:Int)≤(1:Int)∧(1:Int)≤(List.length a0:Int)∧(List.length a0:Int)≤(List.length a0:Int)) (.last (.call (bh.told t1 (List.drop (Int.toNat (1:Int)) a0)) fun t2=> .ret t2))))
    (u0_0))
   (u0_0)))
def f (a0:List Int):Option A:=(begin a0).run (lp aB)
def Q:ck C:={PL with kI:=[(3,[5],(.take 0 [] (.take 1 [] (.take 4 [] (.alt 2 (.alt 3 (.alt 5 (.alt 6 (.take 7 [] .done) .nil) .nil) (.alt 5 (.alt 3 (.alt 6 (.take 7 [] .done) .nil) .nil) .nil)) (.alt 5 (.take 2 [0,1,4,5] (.alt 3 (.alt 6 (.take 7 [] .done) .nil) .nil)) .nil))))))]}
def told (a0:List Int):aa.Told A:=⟨f a0,fun r=>ah Pg C 19 (S a0) 0 (v r) (o r),fun r h=>aY (Q:=Q) v o Tryz.func19 rfl (of_decide_eq_true (by kernel_rfl)) (by rfl) (fun _=>rfl) (fun J K=>by kernel_rfl) h⟩
end db
namespace cF
def S (a0:List Int):List (PV U):=aa.start C 47 [.sl 5 a0] []
def begin (a0:List Int):Tr Empty A:=
 .call (iJ.told a0) fun t1=> .ite t1
  (.ret true)
  (.call (dS.told a0) fun t2=> .call (cB.told t2.1 t2.2.1 t2.2.2.1 t2.2.2.2.1 t2.2.2.2.2.1 t2.2.2.2.2.2.1 t2.2.2.2.2.2.2.1 t2.2.2.2.2.2.2.2.1 t2.2.2.2.2.2.2.2.2.1 t2.2.2.2.2.2.2.2.2.2.1 t2.2.2.2.2.2.2.2.2.2.2.1 t2.2.2.2.2.2.2.2.2.2.2.2.1 t2.2.2.2.2.2.2.2.2.2.2.2.2) fun t3=> .ite (decide ((List.length t3:Int)=(7:Int)))
   (.ax ((0:Int)≤(1:Int)∧(1:Int)<(List.length t3:Int)) (.last (.call (bA.told t2.2.2.2.2.2.2.2.2.2.2.2.2) fun t4=> .ax (((⟨#[100,111,110,101,32]⟩:ByteArray).size:Int)+t4.size≤room) (.ite ((EU t3 (1:Int))==((⟨#[100,111,110,101,32]⟩:ByteArray)++t4))
    (.ax ((0:Int)≤(2:Int)∧(2:Int)<(List.length t3:Int)) (.last (.call (eX.told t2.1 t2.2.1 t2.2.2.1 t2.2.2.2.1 t2.2.2.2.2.1 t2.2.2.2.2.2.1 t2.2.2.2.2.2.2.1 t2.2.2.2.2.2.2.2.1 t2.2.2.2.2.2.2.2.2.1 t2.2.2.2.2.2.2.2.2.2.1 t2.2.2.2.2.2.2.2.2.2.2.1 t2.2.2.2.2.2.2.2.2.2.2.2.1 t2.2.2.2.2.2.2.2.2.2.2.2.2) fun t5=> .last (.call (bA.told (List.length t5:Int)) fun t6=> .ax (((⟨#[115,101,110,116,32]⟩:ByteArray).size:Int)+t6.size≤room) (.ite ((EU t3 (2:Int))==((⟨#[115,101,110,116,32]⟩:ByteArray)++t6))
     (.last (.call (dR.told t2.1 t2.2.1 t2.2.2.1 t2.2.2.2.1 t2.2.2.2.2.1 t2.2.2.2.2.2.1 t2.2.2.2.2.2.2.1 t2.2.2.2.2.2.2.2.1 t2.2.2.2.2.2.2.2.2.1 t2.2.2.2.2.2.2.2.2.2.1 t2.2.2.2.2.2.2.2.2.2.2.1 t2.2.2.2.2.2.2.2.2.2.2.2.1 t2.2.2.2.2.2.2.2.2.2.2.2.2 t2.1 t2.2.1 t2.2.2.1 t2.2.2.2.1 t2.2.2.2.2.1 t2.2.2.2.2.2.1 t2.2.2.2.2.2.2.1 t2.2.2.2.2.2.2.2.1 t2.2.2.2.2.2.2.2.2.1 t2.2.2.2.2.2.2.2.2.2.1 t2.2.2.2.2.2.2.2.2.2.2.1 t2.2.2.2.2.2.2.2.2.2.2.2.1 t2.2.2.2.2.2.2.2.2.2.2.2.2) fun t7=> .ite t7
      (.last (.call (dx.told t2.2.1) fun t8=> .last (.call (db.told t8) fun t9=> .ret ((t9 !=(⟨#[]⟩:ByteArray))))))
      (.last (.last (.ret false)))))
     (.last (.last (.last (.ret false)))))))))
    (.last (.last (.last (.last (.last (.ret false))))))))))
   (.last (.last (.last (.last (.last (.last (.ret false))))))))
def f (a0:List Int):Option A:=(begin a0).run (lp aB)
def Q:ck C:={PL with kI:=[(5,[],(.take 0 [] (.take 1 [] (.take 2 [] (.take 3 [] (.take 4 [] (.take 5 [] (.take 7 [] (.take 6 [0,1,2,3,4,5,7,8,9,10] (.take 8 [0,1,2,3,4,5,6,7] (.alt 9 (.take 10 [] (.take 11 [] (.take 12 [] (.take 13 [] (.take 14 [] (.take 15 [] (.take 16 [0,1,2,3,4,5,6,7,8,9,10,11,12,13,14,15,17,18,19,20,21] (.take 17 [0,1,2,3,4,5,6,7,8,9,10,11,12,13,14,15,16] (.alt 18 (.take 19 [] (.alt 20 (.take 21 [] (.take 22 [] (.take 23 [] (.take 24 [] (.take 25 [0,1,2,3,4,5,6,7,8,9,10,11,12,13,14,15,16,17,18,19,20,21,22,23,24,26] (.take 26 [0,1,2,3,4,5,6,7,8,9,10,11,12,13,14,15,16,17,18,19,20,21,22,23,24,25] (.alt 27 (.take 28 [] (.take 29 [] (.take 30 [] (.take 31 [0,1,2,3,4,5,6,7,8,9,10,11,12,13,14,15,16,17,18,19,20,21,22,23,24,25,26,27,28,29,30] (.alt 32 (.alt 33 (.take 34 [] (.take 35 [] (.take 36 [] .done))) .nil) .nil))))) .nil))))))) .nil)) .nil))))))))) .nil)))))))))))]}
def told (a0:List Int):aa.Told A:=⟨f a0,fun r=>ah Pg C 4 (S a0) 0 (v r) (o r),fun r h=>aY (Q:=Q) v o Tryz.func4 rfl (of_decide_eq_true (by kernel_rfl)) (by rfl) (fun _=>rfl) (fun J K=>by kernel_rfl) h⟩
end cF
end
end Go.Proofs.YtpndhhellhfegaaGreatDoor.Ev
