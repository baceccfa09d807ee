/- Functions as trees, with their contracts. No conditions. -/
import Derived.Test.YtpndhhellhfegaaGreatDoorFEvH
namespace Go.Proofs.YtpndhhellhfegaaGreatDoor.Ev
open Go.Proofs.YtpndhhellhfegaaGreatDoorEv Go.RowKit
set_option linter.unusedVariables false
set_option maxRecDepth 100000
noncomputable section
/-! #### loop.example/g00983/laws.szStmtS (111) -/
namespace laws_szStmtS
def S (a0 : List S174) (a1 : Int) : List (PV U) := YtpndhhellhfegaaGreatDoorEv.start C 12 [.sl 175 a0, .int .i64 a1] []
def begin (a0 : List S174) (a1 : Int) : Tr Empty A :=
 .ite (decide ((wr (a1 - (List.length a0 : Int))) < (0 : Int)))
  (.ret ((-1 : Int)))
  (.ret ((wr (a1 - (List.length a0 : Int)))))
def f (a0 : List S174) (a1 : Int) : Option A := (begin a0 a1).run (lp noTree)
def told (a0 : List S174) (a1 : Int) : YtpndhhellhfegaaGreatDoorEv.Told A := ⟨f a0 a1, fun r => SoundCall Pg C 111 (S a0 a1) 0 (v r) (o r), fun r h => sdFlat (Q := PL) v o Tryz.func111 rfl (of_decide_eq_true (by kernel_rfl)) (by rfl) (fun _ => rfl) (fun J K => by kernel_rfl) h⟩
end laws_szStmtS
/-! #### loop.example/g00983/laws.szTask (88) -/
namespace laws_szTask
def S (a0 : List S174) (a1 a2 a3 a4 : Int) : List (PV U) := YtpndhhellhfegaaGreatDoorEv.start C 12 [.agg [.sl 175 a0, .int .i64 a1, .int .i64 a2, .int .i64 a3], .int .i64 a4] []
def begin (a0 : List S174) (a1 a2 a3 a4 : Int) : Tr Empty A :=
 .call (laws_szStmtS.told a0 a4) fun t1 => .ite (decide (t1 < (0 : Int)))
  (.ret ((-1 : Int)))
  (.ret t1)
def f (a0 : List S174) (a1 a2 a3 a4 : Int) : Option A := (begin a0 a1 a2 a3 a4).run (lp noTree)
def told (a0 : List S174) (a1 a2 a3 a4 : Int) : YtpndhhellhfegaaGreatDoorEv.Told A := ⟨f a0 a1 a2 a3 a4, fun r => SoundCall Pg C 88 (S a0 a1 a2 a3 a4) 0 (v r) (o r), fun r h => sdFlat (Q := PL) v o Tryz.func88 rfl (of_decide_eq_true (by kernel_rfl)) (by rfl) (fun _ => rfl) (fun J K => by kernel_rfl) h⟩
end laws_szTask
/-! #### loop.example/g00983/laws.szTaskS (52) -/
namespace laws_szTaskS
def S (a0 : List S126) (a1 : Int) : List (PV U) := YtpndhhellhfegaaGreatDoorEv.start C 27 [.sl 127 a0, .int .i64 a1] []
inductive X where
 | c5 (x0 : List S126) (x1 x2 : Int)
def id : X → Nat
 | .c5 .. => 5
def st : X → List (PV U)
 | .c5 x0 x1 x2 => stOf 27 [(0, .sl 127 x0), (1, .int .i64 x1), (5, .int .i64 x2)]
def begin (a0 : List S126) (a1 : Int) : Tr X A :=
 .ite (decide ((wr (a1 - (List.length a0 : Int))) < (0 : Int)))
  (.ret ((-1 : Int)))
  (.jump (.c5 a0 (wr (a1 - (List.length a0 : Int))) (0 : Int)))
def tree : X → Tr X A
 | .c5 x0 x1 x2 =>
 .ite (decide (x2 < (List.length x0 : Int)))
  (.need ((0 : Int) ≤ x2 ∧ x2 < (List.length x0 : Int)) (.call (laws_szTask.told ((rdS126 x0 x2).f0) ((rdS126 x0 x2).f1.f0) ((rdS126 x0 x2).f1.f1) ((rdS126 x0 x2).f1.f2) x1) fun t1 => .ite (decide (t1 < (0 : Int)))
   (.ret ((-1 : Int)))
   (.jump (.c5 x0 t1 (wr (x2 + (1 : Int)))))))
  (.ret x1)
def f (a0 : List S126) (a1 : Int) : Option A := (begin a0 a1).run (lp tree)
def Q : Plan C := { PL with cuts := [(5, [0, 1, 5])] }
theorem e : CutEq Pg C Q Tryz.f52 0 id st v o tree := fun J K x => by cases x <;> kernel_rfl
def told (a0 : List S126) (a1 : Int) : YtpndhhellhfegaaGreatDoorEv.Told A := ⟨f a0 a1, fun r => SoundCall Pg C 52 (S a0 a1) 0 (v r) (o r), fun r h => sdCut v o Tryz.func52 rfl (of_decide_eq_true (by kernel_rfl)) (by rfl) (fun _ => rfl) e (fun J K => by kernel_rfl) h⟩
end laws_szTaskS
/-! #### loop.example/g00983/laws.szProgram (21) -/
namespace laws_szProgram
def S (a0 : List S126) (a1 : Int) : List (PV U) := YtpndhhellhfegaaGreatDoorEv.start C 12 [.agg [.sl 127 a0], .int .i64 a1] []
def begin (a0 : List S126) (a1 : Int) : Tr Empty A :=
 .call (laws_szTaskS.told a0 a1) fun t1 => .ite (decide (t1 < (0 : Int)))
  (.ret ((-1 : Int)))
  (.ret t1)
def f (a0 : List S126) (a1 : Int) : Option A := (begin a0 a1).run (lp noTree)
def told (a0 : List S126) (a1 : Int) : YtpndhhellhfegaaGreatDoorEv.Told A := ⟨f a0 a1, fun r => SoundCall Pg C 21 (S a0 a1) 0 (v r) (o r), fun r h => sdFlat (Q := PL) v o Tryz.func21 rfl (of_decide_eq_true (by kernel_rfl)) (by rfl) (fun _ => rfl) (fun J K => by kernel_rfl) h⟩
end laws_szProgram
/-! #### loop.example/g00983/laws.szIntS (22) -/
namespace laws_szIntS
def S (a0 : List Int) (a1 : Int) : List (PV U) := YtpndhhellhfegaaGreatDoorEv.start C 12 [.sl 3 a0, .int .i64 a1] []
def begin (a0 : List Int) (a1 : Int) : Tr Empty A :=
 .ite (decide ((wr (a1 - (List.length a0 : Int))) < (0 : Int)))
  (.ret ((-1 : Int)))
  (.ret ((wr (a1 - (List.length a0 : Int)))))
def f (a0 : List Int) (a1 : Int) : Option A := (begin a0 a1).run (lp noTree)
def told (a0 : List Int) (a1 : Int) : YtpndhhellhfegaaGreatDoorEv.Told A := ⟨f a0 a1, fun r => SoundCall Pg C 22 (S a0 a1) 0 (v r) (o r), fun r h => sdFlat (Q := PL) v o Tryz.func22 rfl (of_decide_eq_true (by kernel_rfl)) (by rfl) (fun _ => rfl) (fun J K => by kernel_rfl) h⟩
end laws_szIntS
/-! #### loop.example/g00983/laws.szGateway (53) -/
namespace laws_szGateway
def S (a0 : List Int) (a1 : Int) : List (PV U) := YtpndhhellhfegaaGreatDoorEv.start C 12 [.agg [.sl 3 a0], .int .i64 a1] []
def begin (a0 : List Int) (a1 : Int) : Tr Empty A :=
 .call (laws_szIntS.told a0 a1) fun t1 => .ite (decide (t1 < (0 : Int)))
  (.ret ((-1 : Int)))
  (.ret t1)
def f (a0 : List Int) (a1 : Int) : Option A := (begin a0 a1).run (lp noTree)
def told (a0 : List Int) (a1 : Int) : YtpndhhellhfegaaGreatDoorEv.Told A := ⟨f a0 a1, fun r => SoundCall Pg C 53 (S a0 a1) 0 (v r) (o r), fun r h => sdFlat (Q := PL) v o Tryz.func53 rfl (of_decide_eq_true (by kernel_rfl)) (by rfl) (fun _ => rfl) (fun J K => by kernel_rfl) h⟩
end laws_szGateway
/-! #### loop.example/g00983/laws.szLink (23) -/
namespace laws_szLink
def S (a0 : Int) (a1 : List Int) (a2 : Int) : List (PV U) := YtpndhhellhfegaaGreatDoorEv.start C 12 [.agg [.int .i64 a0, .sl 3 a1], .int .i64 a2] []
def begin (a0 : Int) (a1 : List Int) (a2 : Int) : Tr Empty A :=
 .call (laws_szGateway.told a1 a2) fun t1 => .ite (decide (t1 < (0 : Int)))
  (.ret ((-1 : Int)))
  (.ret t1)
def f (a0 : Int) (a1 : List Int) (a2 : Int) : Option A := (begin a0 a1 a2).run (lp noTree)
def told (a0 : Int) (a1 : List Int) (a2 : Int) : YtpndhhellhfegaaGreatDoorEv.Told A := ⟨f a0 a1 a2, fun r => SoundCall Pg C 23 (S a0 a1 a2) 0 (v r) (o r), fun r h => sdFlat (Q := PL) v o Tryz.func23 rfl (of_decide_eq_true (by kernel_rfl)) (by rfl) (fun _ => rfl) (fun J K => by kernel_rfl) h⟩
end laws_szLink
/-! #### loop.example/g00983/laws.szNode (5) -/
namespace laws_szNode
def S (a0 : List S126) (a1 a2 : List Int) (a3 a4 a5 a6 a7 a8 a9 a10 : Int) (a11 : List Int) (a12 a13 : Int) : List (PV U) := YtpndhhellhfegaaGreatDoorEv.start C 30 [.agg [.sl 127 a0, .sl 3 a1, .sl 3 a2, .int .i64 a3, .int .i64 a4, .int .i64 a5, .int .i64 a6, .int .i64 a7, .int .i64 a8, .int .i64 a9, .int .i64 a10, .sl 3 a11, .int .i64 a12], .int .i64 a13] []
def begin (a0 : List S126) (a1 a2 : List Int) (a3 a4 a5 a6 a7 a8 a9 a10 : Int) (a11 : List Int) (a12 a13 : Int) : Tr Empty A :=
 .call (laws_szProgram.told a0 a13) fun t1 => .ite (decide (t1 < (0 : Int)))
  (.ret ((-1 : Int)))
  (.call (laws_szIntS.told a1 t1) fun t2 => .ite (decide (t2 < (0 : Int)))
   (.ret ((-1 : Int)))
   (.call (laws_szIntS.told a2 t2) fun t3 => .ite (decide (t3 < (0 : Int)))
    (.ret ((-1 : Int)))
    (.call (laws_szLink.told a10 a11 t3) fun t4 => .ite (decide (t4 < (0 : Int)))
     (.ret ((-1 : Int)))
     (.ret t4))))
def f (a0 : List S126) (a1 a2 : List Int) (a3 a4 a5 a6 a7 a8 a9 a10 : Int) (a11 : List Int) (a12 a13 : Int) : Option A := (begin a0 a1 a2 a3 a4 a5 a6 a7 a8 a9 a10 a11 a12 a13).run (lp noTree)
def told (a0 : List S126) (a1 a2 : List Int) (a3 a4 a5 a6 a7 a8 a9 a10 : Int) (a11 : List Int) (a12 a13 : Int) : YtpndhhellhfegaaGreatDoorEv.Told A := ⟨f a0 a1 a2 a3 a4 a5 a6 a7 a8 a9 a10 a11 a12 a13, fun r => SoundCall Pg C 5 (S a0 a1 a2 a3 a4 a5 a6 a7 a8 a9 a10 a11 a12 a13) 0 (v r) (o r), fun r h => sdFlat (Q := PL) v o Tryz.func5 rfl (of_decide_eq_true (by kernel_rfl)) (by rfl) (fun _ => rfl) (fun J K => by kernel_rfl) h⟩
end laws_szNode
/-! #### loop.example/g00983/laws.toExpr (115) -/
namespace laws_toExpr
def S (a0 a1 a2 : Int) : List (PV U) := YtpndhhellhfegaaGreatDoorEv.start C 14 [.agg [.int .i64 a0, .int .i64 a1, .int .i64 a2]] []
def begin (a0 a1 a2 : Int) : Tr Empty A :=
 .ret (a0, a1, a2)
def f (a0 a1 a2 : Int) : Option A := (begin a0 a1 a2).run (lp noTree)
def told (a0 a1 a2 : Int) : YtpndhhellhfegaaGreatDoorEv.Told A := ⟨f a0 a1 a2, fun r => SoundCall Pg C 115 (S a0 a1 a2) 0 (v r) (o r), fun r h => sdFlat (Q := PL) v o Tryz.func115 rfl (of_decide_eq_true (by kernel_rfl)) (by rfl) (fun _ => rfl) (fun J K => by kernel_rfl) h⟩
end laws_toExpr
/-! #### loop.example/g00983/laws.toStmt (137) -/
namespace laws_toStmt
def S (a0 a1 a2 a3 a4 a5 : Int) : List (PV U) := YtpndhhellhfegaaGreatDoorEv.start C 18 [.agg [.int .i64 a0, .int .i64 a1, .int .i64 a2, .int .i64 a3, .int .i64 a4, .int .i64 a5]] []
def begin (a0 a1 a2 a3 a4 a5 : Int) : Tr Empty A :=
 .call (laws_toExpr.told a3 a4 a5) fun t1 => .ret (a0, a1, a2, t1.1, t1.2.1, t1.2.2)
def f (a0 a1 a2 a3 a4 a5 : Int) : Option A := (begin a0 a1 a2 a3 a4 a5).run (lp noTree)
def told (a0 a1 a2 a3 a4 a5 : Int) : YtpndhhellhfegaaGreatDoorEv.Told A := ⟨f a0 a1 a2 a3 a4 a5, fun r => SoundCall Pg C 137 (S a0 a1 a2 a3 a4 a5) 0 (v r) (o r), fun r h => sdFlat (Q := PL) v o Tryz.func137 rfl (of_decide_eq_true (by kernel_rfl)) (by rfl) (fun _ => rfl) (fun J K => by kernel_rfl) h⟩
end laws_toStmt
/-! #### loop.example/g00983/laws.toStmtS (114) -/
namespace laws_toStmtS
def S (a0 : List S174) : List (PV U) := YtpndhhellhfegaaGreatDoorEv.start C 23 [.sl 175 a0] []
inductive X where
 | c3 (x0 : List S174) (x1 : List S121) (x2 : Int)
def id : X → Nat
 | .c3 .. => 3
def st : X → List (PV U)
 | .c3 x0 x1 x2 => stOf 23 [(0, .sl 175 x0), (3, .own true 122 x1), (4, .int .i64 x2)]
def begin (a0 : List S174) : Tr X A :=
 .need ((0 : Int) ≤ (List.length a0 : Int) ∧ (List.length a0 : Int) ≤ (List.length a0 : Int) ∧ (List.length a0 : Int) * (48 : Nat) ≤ room) (.jump (.c3 a0 (List.replicate (Int.toNat (List.length a0 : Int)) z121) (0 : Int)))
def tree : X → Tr X A
 | .c3 x0 x1 x2 =>
 .ite (decide (x2 < (List.length x0 : Int)))
  (.need ((0 : Int) ≤ x2 ∧ x2 < (List.length x0 : Int)) (.call (laws_toStmt.told ((rdS174 x0 x2).f0) ((rdS174 x0 x2).f1) ((rdS174 x0 x2).f2) ((rdS174 x0 x2).f3.f0) ((rdS174 x0 x2).f3.f1) ((rdS174 x0 x2).f3.f2)) fun t1 => .need ((0 : Int) ≤ x2 ∧ x2 < (List.length x1 : Int)) (.val ((List.set x1 (Int.toNat x2) (⟨t1.1, t1.2.1, t1.2.2.1, (⟨t1.2.2.2.1, t1.2.2.2.2.1, t1.2.2.2.2.2⟩ : S85)⟩ : S121)) : List S121) fun v2 => .jump (.c3 x0 v2 (wr (x2 + (1 : Int)))))))
  (.ret x1)
def f (a0 : List S174) : Option A := (begin a0).run (lp tree)
def Q : Plan C := { PL with cuts := [(3, [0, 3, 4])] }
theorem e : CutEq Pg C Q Tryz.f114 0 id st v o tree := fun J K x => by cases x <;> kernel_rfl
def told (a0 : List S174) : YtpndhhellhfegaaGreatDoorEv.Told A := ⟨f a0, fun r => SoundCall Pg C 114 (S a0) 0 (v r) (o r), fun r h => sdCut v o Tryz.func114 rfl (of_decide_eq_true (by kernel_rfl)) (by rfl) (fun _ => rfl) e (fun J K => by kernel_rfl) h⟩
end laws_toStmtS
/-! #### loop.example/g00983/laws.toTask (93) -/
namespace laws_toTask
def S (a0 : List S174) (a1 a2 a3 : Int) : List (PV U) := YtpndhhellhfegaaGreatDoorEv.start C 13 [.agg [.sl 175 a0, .int .i64 a1, .int .i64 a2, .int .i64 a3]] []
def begin (a0 : List S174) (a1 a2 a3 : Int) : Tr Empty A :=
 .call (laws_toStmtS.told a0) fun t1 => .call (laws_toExpr.told a1 a2 a3) fun t2 => .ret (t1, t2.1, t2.2.1, t2.2.2)
def f (a0 : List S174) (a1 a2 a3 : Int) : Option A := (begin a0 a1 a2 a3).run (lp noTree)
def told (a0 : List S174) (a1 a2 a3 : Int) : YtpndhhellhfegaaGreatDoorEv.Told A := ⟨f a0 a1 a2 a3, fun r => SoundCall Pg C 93 (S a0 a1 a2 a3) 0 (v r) (o r), fun r h => sdFlat (Q := PL) v o Tryz.func93 rfl (of_decide_eq_true (by kernel_rfl)) (by rfl) (fun _ => rfl) (fun J K => by kernel_rfl) h⟩
end laws_toTask
/-! #### loop.example/g00983/laws.toTaskS (62) -/
namespace laws_toTaskS
def S (a0 : List S126) : List (PV U) := YtpndhhellhfegaaGreatDoorEv.start C 23 [.sl 127 a0] []
inductive X where
 | c3 (x0 : List S126) (x1 : List S87) (x2 : Int)
def id : X → Nat
 | .c3 .. => 3
def st : X → List (PV U)
 | .c3 x0 x1 x2 => stOf 23 [(0, .sl 127 x0), (3, .own true 88 x1), (4, .int .i64 x2)]
def begin (a0 : List S126) : Tr X A :=
 .need ((0 : Int) ≤ (List.length a0 : Int) ∧ (List.length a0 : Int) ≤ (List.length a0 : Int) ∧ (List.length a0 : Int) * (48 : Nat) ≤ room) (.jump (.c3 a0 (List.replicate (Int.toNat (List.length a0 : Int)) z87) (0 : Int)))
def tree : X → Tr X A
 | .c3 x0 x1 x2 =>
 .ite (decide (x2 < (List.length x0 : Int)))
  (.need ((0 : Int) ≤ x2 ∧ x2 < (List.length x0 : Int)) (.call (laws_toTask.told ((rdS126 x0 x2).f0) ((rdS126 x0 x2).f1.f0) ((rdS126 x0 x2).f1.f1) ((rdS126 x0 x2).f1.f2)) fun t1 => .need ((0 : Int) ≤ x2 ∧ x2 < (List.length x1 : Int)) (.jump (.c3 x0 (List.set x1 (Int.toNat x2) (⟨t1.1, (⟨t1.2.1, t1.2.2.1, t1.2.2.2⟩ : S85)⟩ : S87)) (wr (x2 + (1 : Int)))))))
  (.ret x1)
def f (a0 : List S126) : Option A := (begin a0).run (lp tree)
def Q : Plan C := { PL with cuts := [(3, [0, 3, 4])] }
theorem e : CutEq Pg C Q Tryz.f62 0 id st v o tree := fun J K x => by cases x <;> kernel_rfl
def told (a0 : List S126) : YtpndhhellhfegaaGreatDoorEv.Told A := ⟨f a0, fun r => SoundCall Pg C 62 (S a0) 0 (v r) (o r), fun r h => sdCut v o Tryz.func62 rfl (of_decide_eq_true (by kernel_rfl)) (by rfl) (fun _ => rfl) e (fun J K => by kernel_rfl) h⟩
end laws_toTaskS
/-! #### loop.example/g00983/laws.toProgram (27) -/
namespace laws_toProgram
def S (a0 : List S126) : List (PV U) := YtpndhhellhfegaaGreatDoorEv.start C 9 [.agg [.sl 127 a0]] []
def begin (a0 : List S126) : Tr Empty A :=
 .call (laws_toTaskS.told a0) fun t1 => .ret t1
def f (a0 : List S126) : Option A := (begin a0).run (lp noTree)
def told (a0 : List S126) : YtpndhhellhfegaaGreatDoorEv.Told A := ⟨f a0, fun r => SoundCall Pg C 27 (S a0) 0 (v r) (o r), fun r h => sdFlat (Q := PL) v o Tryz.func27 rfl (of_decide_eq_true (by kernel_rfl)) (by rfl) (fun _ => rfl) (fun J K => by kernel_rfl) h⟩
end laws_toProgram
/-! #### loop.example/g00983/laws.toIntS (28) -/
namespace laws_toIntS
def S (a0 : List Int) : List (PV U) := YtpndhhellhfegaaGreatDoorEv.start C 22 [.sl 3 a0] []
inductive X where
 | c3 (x0 x1 : List Int) (x2 : Int)
def id : X → Nat
 | .c3 .. => 3
def st : X → List (PV U)
 | .c3 x0 x1 x2 => stOf 22 [(0, .sl 3 x0), (3, .own true 3 x1), (4, .int .i64 x2)]
def begin (a0 : List Int) : Tr X A :=
 .need ((0 : Int) ≤ (List.length a0 : Int) ∧ (List.length a0 : Int) ≤ (List.length a0 : Int) ∧ (List.length a0 : Int) * (8 : Nat) ≤ room) (.jump (.c3 a0 (List.replicate (Int.toNat (List.length a0 : Int)) (0 : Int)) (0 : Int)))
def tree : X → Tr X A
 | .c3 x0 x1 x2 =>
 .ite (decide (x2 < (List.length x0 : Int)))
  (.need ((0 : Int) ≤ x2 ∧ x2 < (List.length x0 : Int)) (.need ((0 : Int) ≤ x2 ∧ x2 < (List.length x1 : Int)) (.jump (.c3 x0 (List.set x1 (Int.toNat x2) (rdI x0 x2)) (wr (x2 + (1 : Int)))))))
  (.ret x1)
def f (a0 : List Int) : Option A := (begin a0).run (lp tree)
def Q : Plan C := { PL with cuts := [(3, [0, 3, 4])] }
theorem e : CutEq Pg C Q Tryz.f28 0 id st v o tree := fun J K x => by cases x <;> kernel_rfl
def told (a0 : List Int) : YtpndhhellhfegaaGreatDoorEv.Told A := ⟨f a0, fun r => SoundCall Pg C 28 (S a0) 0 (v r) (o r), fun r h => sdCut v o Tryz.func28 rfl (of_decide_eq_true (by kernel_rfl)) (by rfl) (fun _ => rfl) e (fun J K => by kernel_rfl) h⟩
end laws_toIntS
/-! #### loop.example/g00983/laws.toStore (29) -/
namespace laws_toStore
def S (a0 a1 a2 a3 : Int) : List (PV U) := YtpndhhellhfegaaGreatDoorEv.start C 17 [.agg [.int .i64 a0, .int .i64 a1, .int .i64 a2, .int .i64 a3]] []
def begin (a0 a1 a2 a3 : Int) : Tr Empty A :=
 .ret (a0, a1, a2, a3)
def f (a0 a1 a2 a3 : Int) : Option A := (begin a0 a1 a2 a3).run (lp noTree)
def told (a0 a1 a2 a3 : Int) : YtpndhhellhfegaaGreatDoorEv.Told A := ⟨f a0 a1 a2 a3, fun r => SoundCall Pg C 29 (S a0 a1 a2 a3) 0 (v r) (o r), fun r h => sdFlat (Q := PL) v o Tryz.func29 rfl (of_decide_eq_true (by kernel_rfl)) (by rfl) (fun _ => rfl) (fun J K => by kernel_rfl) h⟩
end laws_toStore
/-! #### loop.example/g00983/laws.toSpan (30) -/
namespace laws_toSpan
def S (a0 a1 : Int) : List (PV U) := YtpndhhellhfegaaGreatDoorEv.start C 11 [.agg [.int .i64 a0, .int .i64 a1]] []
def begin (a0 a1 : Int) : Tr Empty A :=
 .ret (a0, a1)
def f (a0 a1 : Int) : Option A := (begin a0 a1).run (lp noTree)
def told (a0 a1 : Int) : YtpndhhellhfegaaGreatDoorEv.Told A := ⟨f a0 a1, fun r => SoundCall Pg C 30 (S a0 a1) 0 (v r) (o r), fun r h => sdFlat (Q := PL) v o Tryz.func30 rfl (of_decide_eq_true (by kernel_rfl)) (by rfl) (fun _ => rfl) (fun J K => by kernel_rfl) h⟩
end laws_toSpan
/-! #### loop.example/g00983/laws.toGateway (63) -/
namespace laws_toGateway
def S (a0 : List Int) : List (PV U) := YtpndhhellhfegaaGreatDoorEv.start C 9 [.agg [.sl 3 a0]] []
def begin (a0 : List Int) : Tr Empty A :=
 .call (laws_toIntS.told a0) fun t1 => .ret t1
def f (a0 : List Int) : Option A := (begin a0).run (lp noTree)
def told (a0 : List Int) : YtpndhhellhfegaaGreatDoorEv.Told A := ⟨f a0, fun r => SoundCall Pg C 63 (S a0) 0 (v r) (o r), fun r h => sdFlat (Q := PL) v o Tryz.func63 rfl (of_decide_eq_true (by kernel_rfl)) (by rfl) (fun _ => rfl) (fun J K => by kernel_rfl) h⟩
end laws_toGateway
/-! #### loop.example/g00983/laws.toLink (31) -/
namespace laws_toLink
def S (a0 : Int) (a1 : List Int) : List (PV U) := YtpndhhellhfegaaGreatDoorEv.start C 12 [.agg [.int .i64 a0, .sl 3 a1]] []
def begin (a0 : Int) (a1 : List Int) : Tr Empty A :=
 .call (laws_toGateway.told a1) fun t1 => .ret (a0, t1)
def f (a0 : Int) (a1 : List Int) : Option A := (begin a0 a1).run (lp noTree)
def told (a0 : Int) (a1 : List Int) : YtpndhhellhfegaaGreatDoorEv.Told A := ⟨f a0 a1, fun r => SoundCall Pg C 31 (S a0 a1) 0 (v r) (o r), fun r h => sdFlat (Q := PL) v o Tryz.func31 rfl (of_decide_eq_true (by kernel_rfl)) (by rfl) (fun _ => rfl) (fun J K => by kernel_rfl) h⟩
end laws_toLink
/-! #### loop.example/g00983/laws.toNode (7) -/
namespace laws_toNode
def S (a0 : List S126) (a1 a2 : List Int) (a3 a4 a5 a6 a7 a8 a9 a10 : Int) (a11 : List Int) (a12 : Int) : List (PV U) := YtpndhhellhfegaaGreatDoorEv.start C 35 [.agg [.sl 127 a0, .sl 3 a1, .sl 3 a2, .int .i64 a3, .int .i64 a4, .int .i64 a5, .int .i64 a6, .int .i64 a7, .int .i64 a8, .int .i64 a9, .int .i64 a10, .sl 3 a11, .int .i64 a12]] []
def begin (a0 : List S126) (a1 a2 : List Int) (a3 a4 a5 a6 a7 a8 a9 a10 : Int) (a11 : List Int) (a12 : Int) : Tr Empty A :=
 .call (laws_toProgram.told a0) fun t1 => .call (laws_toIntS.told a1) fun t2 => .call (laws_toIntS.told a2) fun t3 => .call (laws_toStore.told a4 a5 a6 a7) fun t4 => .call (laws_toSpan.told a8 a9) fun t5 => .call (laws_toLink.told a10 a11) fun t6 => .ret (t1, t2, t3, a3, t4.1, t4.2.1, t4.2.2.1, t4.2.2.2, t5.1, t5.2, t6.1, t6.2, a12)
def f (a0 : List S126) (a1 a2 : List Int) (a3 a4 a5 a6 a7 a8 a9 a10 : Int) (a11 : List Int) (a12 : Int) : Option A := (begin a0 a1 a2 a3 a4 a5 a6 a7 a8 a9 a10 a11 a12).run (lp noTree)
def told (a0 : List S126) (a1 a2 : List Int) (a3 a4 a5 a6 a7 a8 a9 a10 : Int) (a11 : List Int) (a12 : Int) : YtpndhhellhfegaaGreatDoorEv.Told A := ⟨f a0 a1 a2 a3 a4 a5 a6 a7 a8 a9 a10 a11 a12, fun r => SoundCall Pg C 7 (S a0 a1 a2 a3 a4 a5 a6 a7 a8 a9 a10 a11 a12) 0 (v r) (o r), fun r h => sdFlat (Q := PL) v o Tryz.func7 rfl (of_decide_eq_true (by kernel_rfl)) (by rfl) (fun _ => rfl) (fun J K => by kernel_rfl) h⟩
end laws_toNode
/-! #### loop.example/g00983/spec.l04Plain (156) -/
namespace spec_l04Plain
def S (a0 a1 a2 a3 a4 a5 : Int) : List (PV U) := YtpndhhellhfegaaGreatDoorEv.start C 37 [.agg [.int .i64 a0, .int .i64 a1, .int .i64 a2, .int .i64 a3, .int .i64 a4, .int .i64 a5]] []
inductive X where
 | c14 (x0 x1 x2 x3 x4 x5 x6 x7 x8 x9 x10 x11 : Int)
def id : X → Nat
 | .c14 .. => 14
def st : X → List (PV U)
 | .c14 x0 x1 x2 x3 x4 x5 x6 x7 x8 x9 x10 x11 => stOf 37 [(2, .box [.int .i64 x0, .int .i64 x1, .int .i64 x2, .int .i64 x3, .int .i64 x4, .int .i64 x5]), (3, .box [.int .i64 x6, .int .i64 x7, .int .i64 x8, .int .i64 x9, .int .i64 x10, .int .i64 x11])]
def begin (a0 a1 a2 a3 a4 a5 : Int) : Tr X A :=
 let u0_0 : Tr X A := (.jump (.c14 (0 : Int) (0 : Int) (0 : Int) (0 : Int) (0 : Int) (0 : Int) a0 (0 : Int) (0 : Int) a3 a4 a5)); let u0_1 : Tr X A := (.ite (decide (a0 = (5 : Int))) (.jump (.c14 (0 : Int) (0 : Int) (0 : Int) (0 : Int) (0 : Int) (0 : Int) a0 (0 : Int) a2 (0 : Int) (0 : Int) (0 : Int))) (.jump (.c14 (0 : Int) (0 : Int) (0 : Int) (0 : Int) (0 : Int) (0 : Int) a0 (0 : Int) (0 : Int) (0 : Int) (0 : Int) (0 : Int)))); .ite (decide (a0 = (1 : Int)))
  (.jump (.c14 (0 : Int) (0 : Int) (0 : Int) (0 : Int) (0 : Int) (0 : Int) a0 a1 (0 : Int) a3 a4 a5))
  (.ite (decide (a0 = (2 : Int)))
   (.jump (.c14 (0 : Int) (0 : Int) (0 : Int) (0 : Int) (0 : Int) (0 : Int) a0 a1 a2 (0 : Int) (0 : Int) (0 : Int)))
   (.ite (decide (a0 = (3 : Int)))
    (.ite (decide (a0 = (3 : Int)))
     (u0_0)
     (u0_1))
    (.ite (decide (a0 = (4 : Int)))
     (u0_0)
     (u0_1))))
def tree : X → Tr X A
 | .c14 x0 x1 x2 x3 x4 x5 x6 x7 x8 x9 x10 x11 =>
 .ret (x6, x7, x8, x9, x10, x11)
def f (a0 a1 a2 a3 a4 a5 : Int) : Option A := (begin a0 a1 a2 a3 a4 a5).run (lp tree)
def Q : Plan C := { PL with cuts := [(14, [2, 3])] }
theorem e : CutEq Pg C Q Tryz.f156 0 id st v o tree := fun J K x => by cases x <;> kernel_rfl
def told (a0 a1 a2 a3 a4 a5 : Int) : YtpndhhellhfegaaGreatDoorEv.Told A := ⟨f a0 a1 a2 a3 a4 a5, fun r => SoundCall Pg C 156 (S a0 a1 a2 a3 a4 a5) 0 (v r) (o r), fun r h => sdCut v o Tryz.func156 rfl (of_decide_eq_true (by kernel_rfl)) (by rfl) (fun _ => rfl) e (fun J K => by kernel_rfl) h⟩
end spec_l04Plain
/-! #### loop.example/g00983/spec.l01In (57) -/
namespace spec_l01In
def S (a0 a1 a2 : Int) : List (PV U) := YtpndhhellhfegaaGreatDoorEv.start C 15 [.int .i64 a0, .int .i64 a1, .int .i64 a2] []
def begin (a0 a1 a2 : Int) : Tr Empty A :=
 .ite (decide (a0 ≥ a1))
  (.ret ((decide (a0 ≤ a2))))
  (.ret false)
def f (a0 a1 a2 : Int) : Option A := (begin a0 a1 a2).run (lp noTree)
def told (a0 a1 a2 : Int) : YtpndhhellhfegaaGreatDoorEv.Told A := ⟨f a0 a1 a2, fun r => SoundCall Pg C 57 (S a0 a1 a2) 0 (v r) (o r), fun r h => sdFlat (Q := PL) v o Tryz.func57 rfl (of_decide_eq_true (by kernel_rfl)) (by rfl) (fun _ => rfl) (fun J K => by kernel_rfl) h⟩
end spec_l01In
/-! #### loop.example/g00983/spec.OperandOk (136) -/
namespace spec_OperandOk
def S (a0 : Int) : List (PV U) := YtpndhhellhfegaaGreatDoorEv.start C 5 [.int .i64 a0] []
def begin (a0 : Int) : Tr Empty A :=
 .call (spec_l01In.told a0 (-8 : Int) (999 : Int)) fun t1 => .ret t1
def f (a0 : Int) : Option A := (begin a0).run (lp noTree)
def told (a0 : Int) : YtpndhhellhfegaaGreatDoorEv.Told A := ⟨f a0, fun r => SoundCall Pg C 136 (S a0) 0 (v r) (o r), fun r h => sdFlat (Q := PL) v o Tryz.func136 rfl (of_decide_eq_true (by kernel_rfl)) (by rfl) (fun _ => rfl) (fun J K => by kernel_rfl) h⟩
end spec_OperandOk
/-! #### loop.example/g00983/spec.ExprOk (113) -/
namespace spec_ExprOk
def S (a0 a1 a2 : Int) : List (PV U) := YtpndhhellhfegaaGreatDoorEv.start C 16 [.agg [.int .i64 a0, .int .i64 a1, .int .i64 a2]] []
def begin (a0 a1 a2 : Int) : Tr Empty A :=
 .call (spec_l01In.told a0 (1 : Int) (7 : Int)) fun t1 => .ite t1
  (.call (spec_OperandOk.told a1) fun t2 => .ite t2
   (.call (spec_OperandOk.told a2) fun t3 => .ret t3)
   (.ret false))
  (.ret false)
def f (a0 a1 a2 : Int) : Option A := (begin a0 a1 a2).run (lp noTree)
def told (a0 a1 a2 : Int) : YtpndhhellhfegaaGreatDoorEv.Told A := ⟨f a0 a1 a2, fun r => SoundCall Pg C 113 (S a0 a1 a2) 0 (v r) (o r), fun r h => sdFlat (Q := PL) v o Tryz.func113 rfl (of_decide_eq_true (by kernel_rfl)) (by rfl) (fun _ => rfl) (fun J K => by kernel_rfl) h⟩
end spec_ExprOk
/-! #### loop.example/g00983/spec.StmtOk (135) -/
namespace spec_StmtOk
def S (a0 a1 a2 a3 a4 a5 : Int) : List (PV U) := YtpndhhellhfegaaGreatDoorEv.start C 43 [.agg [.int .i64 a0, .int .i64 a1, .int .i64 a2, .int .i64 a3, .int .i64 a4, .int .i64 a5]] []
def begin (a0 a1 a2 a3 a4 a5 : Int) : Tr Empty A :=
 .last (.call (spec_l04Plain.told a0 a1 a2 a3 a4 a5) fun t1 => .last (.val ((!(decide (a0 = t1.1) && (decide (a1 = t1.2.1) && (decide (a2 = t1.2.2.1) && (decide (a3 = t1.2.2.2.1) && (decide (a4 = t1.2.2.2.2.1) && (decide (a5 = t1.2.2.2.2.2) && true))))))) : Bool) fun v2 => let u2_0 : Tr Empty A := (.call (spec_ExprOk.told a3 a4 a5) fun t3 => .ret t3); let u2_1 : Tr Empty A := (.ite (decide (a0 = (5 : Int))) (.call (spec_l01In.told a2 (1 : Int) (5 : Int)) fun t3 => .ret t3) (.ret ((decide (a0 = (6 : Int)))))); .ite v2
  (.ret false)
  (.ite (decide (a0 = (1 : Int)))
   (.call (spec_l01In.told a1 (0 : Int) (7 : Int)) fun t3 => .ite t3
    (.call (spec_ExprOk.told a3 a4 a5) fun t4 => .ret t4)
    (.ret false))
   (.ite (decide (a0 = (2 : Int)))
    (.call (spec_l01In.told a1 (0 : Int) (7 : Int)) fun t3 => .ite t3
     (.call (spec_l01In.told a2 (0 : Int) (3 : Int)) fun t4 => .ret t4)
     (.ret false))
    (.ite (decide (a0 = (3 : Int)))
     (.ite (decide (a0 = (3 : Int)))
      (u2_0)
      (u2_1))
     (.ite (decide (a0 = (4 : Int)))
      (u2_0)
      (u2_1)))))))
def f (a0 a1 a2 a3 a4 a5 : Int) : Option A := (begin a0 a1 a2 a3 a4 a5).run (lp noTree)
def Q : Plan C := { PL with ords := [(1, [], (.take 0 [1, 2] (.take 1 [0] (.alt 2 (.alt 3 .done .nil) .nil))))] }
def told (a0 a1 a2 a3 a4 a5 : Int) : YtpndhhellhfegaaGreatDoorEv.Told A := ⟨f a0 a1 a2 a3 a4 a5, fun r => SoundCall Pg C 135 (S a0 a1 a2 a3 a4 a5) 0 (v r) (o r), fun r h => sdFlat (Q := Q) v o Tryz.func135 rfl (of_decide_eq_true (by kernel_rfl)) (by rfl) (fun _ => rfl) (fun J K => by kernel_rfl) h⟩
end spec_StmtOk
/-! #### loop.example/g00983/spec.BlockOk (112) -/
namespace spec_BlockOk
def S (a0 : List S121) : List (PV U) := YtpndhhellhfegaaGreatDoorEv.start C 41 [.sl 122 a0] []
inductive X where
 | c3 (x0 : List S121) (x1 x2 : Int)
def id : X → Nat
 | .c3 .. => 3
def st : X → List (PV U)
 | .c3 x0 x1 x2 => stOf 41 [(0, .sl 122 x0), (3, .int .i64 x1), (4, .int .i64 x2)]
def begin (a0 : List S121) : Tr X A :=
 .jump (.c3 a0 (0 : Int) (0 : Int))
def tree : X → Tr X A
 | .c3 x0 x1 x2 =>
 .ite (decide (x2 < (List.length x0 : Int)))
  (.need ((0 : Int) ≤ x2 ∧ x2 < (List.length x0 : Int)) (.call (spec_StmtOk.told ((rdS121 x0 x2).f0) ((rdS121 x0 x2).f1) ((rdS121 x0 x2).f2) ((rdS121 x0 x2).f3.f0) ((rdS121 x0 x2).f3.f1) ((rdS121 x0 x2).f3.f2)) fun t1 => let u1_0 : Tr X A := (.call (spec_l01In.told (wr (x1 + (1 : Int))) (0 : Int) (3 : Int)) fun t2 => .ite (!t2) (.ret false) (.jump (.c3 x0 (wr (x1 + (1 : Int))) (wr (x2 + (1 : Int)))))); let u1_1 : Tr X A := (.ite (decide ((rdS121 x0 x2).f0 = (6 : Int))) (.call (spec_l01In.told (wr (x1 - (1 : Int))) (0 : Int) (3 : Int)) fun t2 => .ite (!t2) (.ret false) (.jump (.c3 x0 (wr (x1 - (1 : Int))) (wr (x2 + (1 : Int)))))) (.call (spec_l01In.told x1 (0 : Int) (3 : Int)) fun t2 => .ite (!t2) (.ret false) (.jump (.c3 x0 x1 (wr (x2 + (1 : Int))))))); .ite (!t1)
   (.ret false)
   (.need ((0 : Int) ≤ x2 ∧ x2 < (List.length x0 : Int)) (.ite (decide ((rdS121 x0 x2).f0 = (4 : Int)))
    (.ite (decide ((rdS121 x0 x2).f0 = (4 : Int)))
     (u1_0)
     (u1_1))
    (.ite (decide ((rdS121 x0 x2).f0 = (5 : Int)))
     (u1_0)
     (u1_1))))))
  (.ite (decide (x1 = (0 : Int)))
   (.ret ((decide ((List.length x0 : Int) ≤ (24 : Int)))))
   (.ret false))
def f (a0 : List S121) : Option A := (begin a0).run (lp tree)
def Q : Plan C := { PL with cuts := [(3, [0, 3, 4, 37, 38, 39])] }
theorem e : CutEq Pg C Q Tryz.f112 0 id st v o tree := fun J K x => by cases x <;> kernel_rfl
def told (a0 : List S121) : YtpndhhellhfegaaGreatDoorEv.Told A := ⟨f a0, fun r => SoundCall Pg C 112 (S a0) 0 (v r) (o r), fun r h => sdCut v o Tryz.func112 rfl (of_decide_eq_true (by kernel_rfl)) (by rfl) (fun _ => rfl) e (fun J K => by kernel_rfl) h⟩
end spec_BlockOk
/-! #### loop.example/g00983/spec.ProgramOk (89) -/
namespace spec_ProgramOk
def S (a0 : List S87) : List (PV U) := YtpndhhellhfegaaGreatDoorEv.start C 33 [.agg [.sl 88 a0]] []
inductive X where
 | c2 (x0 : List S87) (x1 : Int)
def id : X → Nat
 | .c2 .. => 2
def st : X → List (PV U)
 | .c2 x0 x1 => stOf 33 [(1, .box [.sl 88 x0]), (3, .int .i64 x1)]
def begin (a0 : List S87) : Tr X A :=
 .jump (.c2 a0 (0 : Int))
def tree : X → Tr X A
 | .c2 x0 x1 =>
 .ite (decide (x1 < (List.length x0 : Int)))
  (.need ((0 : Int) ≤ x1 ∧ x1 < (List.length x0 : Int)) (.call (spec_BlockOk.told ((rdS87 x0 x1).f0)) fun t1 => .ite (!t1)
   (.ret false)
   (.need ((0 : Int) ≤ x1 ∧ x1 < (List.length x0 : Int)) (.call (spec_ExprOk.told ((rdS87 x0 x1).f1.f0) ((rdS87 x0 x1).f1.f1) ((rdS87 x0 x1).f1.f2)) fun t2 => .ite (!t2)
    (.ret false)
    (.jump (.c2 x0 (wr (x1 + (1 : Int)))))))))
  (.call (spec_l01In.told (List.length x0 : Int) (1 : Int) (6 : Int)) fun t1 => .ret t1)
def f (a0 : List S87) : Option A := (begin a0).run (lp tree)
def Q : Plan C := { PL with cuts := [(2, [1, 3])] }
theorem e : CutEq Pg C Q Tryz.f89 0 id st v o tree := fun J K x => by cases x <;> kernel_rfl
def told (a0 : List S87) : YtpndhhellhfegaaGreatDoorEv.Told A := ⟨f a0, fun r => SoundCall Pg C 89 (S a0) 0 (v r) (o r), fun r h => sdCut v o Tryz.func89 rfl (of_decide_eq_true (by kernel_rfl)) (by rfl) (fun _ => rfl) e (fun J K => by kernel_rfl) h⟩
end spec_ProgramOk
/-! #### loop.example/g00983/spec.PackControl (60) -/
namespace spec_PackControl
def S (a0 a1 a2 : Int) : List (PV U) := YtpndhhellhfegaaGreatDoorEv.start C 27 [.int .i64 a0, .int .i64 a1, .int .i64 a2] []
def begin (a0 a1 a2 : Int) : Tr Empty A :=
 .call (spec_l01In.told a0 (0 : Int) (5 : Int)) fun t1 => .ite (!t1)
  (.ret ((-1 : Int)))
  (.call (spec_l01In.told a1 (0 : Int) (8 : Int)) fun t2 => .ite (!t2)
   (.ret ((-1 : Int)))
   (.call (spec_l01In.told a2 (0 : Int) (24 : Int)) fun t3 => .ite (!t3)
    (.ret ((-1 : Int)))
    (.ret ((wr (a0 + (wr ((8 : Int) * (wr (a1 + (wr ((16 : Int) * a2))))))))))))
def f (a0 a1 a2 : Int) : Option A := (begin a0 a1 a2).run (lp noTree)
def told (a0 a1 a2 : Int) : YtpndhhellhfegaaGreatDoorEv.Told A := ⟨f a0 a1 a2, fun r => SoundCall Pg C 60 (S a0 a1 a2) 0 (v r) (o r), fun r h => sdFlat (Q := PL) v o Tryz.func60 rfl (of_decide_eq_true (by kernel_rfl)) (by rfl) (fun _ => rfl) (fun J K => by kernel_rfl) h⟩
end spec_PackControl
/-! #### loop.example/g00983/spec.UnpackControl (25) -/
namespace spec_UnpackControl
def S (a0 : Int) : List (PV U) := YtpndhhellhfegaaGreatDoorEv.start C 30 [.int .i64 a0] []
def begin (a0 : Int) : Tr Empty A :=
 .ite (decide (a0 < (0 : Int)))
  (.ret ((-1 : Int), (-1 : Int), (-1 : Int)))
  (.ite (decide (a0 > (100000 : Int)))
   (.ret ((-1 : Int), (-1 : Int), (-1 : Int)))
   (.need ((8 : Int) ≠ 0) (.need ((8 : Int) ≠ 0) (.need ((16 : Int) ≠ 0) (.need ((128 : Int) ≠ 0) (.call (spec_PackControl.told (Int.tmod a0 (8 : Int)) (Int.tmod (wr (Int.tdiv a0 (8 : Int))) (16 : Int)) (wr (Int.tdiv a0 (128 : Int)))) fun t1 => .ite (!decide (t1 = a0))
    (.ret ((-1 : Int), (-1 : Int), (-1 : Int)))
    (.ret ((Int.tmod a0 (8 : Int)), (Int.tmod (wr (Int.tdiv a0 (8 : Int))) (16 : Int)), (wr (Int.tdiv a0 (128 : Int)))))))))))
def f (a0 : Int) : Option A := (begin a0).run (lp noTree)
def told (a0 : Int) : YtpndhhellhfegaaGreatDoorEv.Told A := ⟨f a0, fun r => SoundCall Pg C 25 (S a0) 0 (v r) (o r), fun r h => sdFlat (Q := PL) v o Tryz.func25 rfl (of_decide_eq_true (by kernel_rfl)) (by rfl) (fun _ => rfl) (fun J K => by kernel_rfl) h⟩
end spec_UnpackControl
/-! #### loop.example/g00983/spec.IsValue (90) -/
namespace spec_IsValue
def S (a0 : Int) : List (PV U) := YtpndhhellhfegaaGreatDoorEv.start C 5 [.int .i64 a0] []
def begin (a0 : Int) : Tr Empty A :=
 .call (spec_l01In.told a0 (-1000000 : Int) (1000000 : Int)) fun t1 => .ret t1
def f (a0 : Int) : Option A := (begin a0).run (lp noTree)
def told (a0 : Int) : YtpndhhellhfegaaGreatDoorEv.Told A := ⟨f a0, fun r => SoundCall Pg C 90 (S a0) 0 (v r) (o r), fun r h => sdFlat (Q := PL) v o Tryz.func90 rfl (of_decide_eq_true (by kernel_rfl)) (by rfl) (fun _ => rfl) (fun J K => by kernel_rfl) h⟩
end spec_IsValue
/-! #### loop.example/g00983/spec.l09Values (56) -/
namespace spec_l09Values
def S (a0 : List Int) : List (PV U) := YtpndhhellhfegaaGreatDoorEv.start C 16 [.sl 3 a0] []
inductive X where
 | c2 (x0 : List Int) (x1 : Int)
def id : X → Nat
 | .c2 .. => 2
def st : X → List (PV U)
 | .c2 x0 x1 => stOf 16 [(0, .sl 3 x0), (3, .int .i64 x1)]
def begin (a0 : List Int) : Tr X A :=
 .jump (.c2 a0 (0 : Int))
def tree : X → Tr X A
 | .c2 x0 x1 =>
 .ite (decide (x1 < (List.length x0 : Int)))
  (.need ((0 : Int) ≤ x1 ∧ x1 < (List.length x0 : Int)) (.call (spec_IsValue.told (rdI x0 x1)) fun t1 => .ite (!t1)
   (.ret false)
   (.jump (.c2 x0 (wr (x1 + (1 : Int)))))))
  (.ret true)
def f (a0 : List Int) : Option A := (begin a0).run (lp tree)
def Q : Plan C := { PL with cuts := [(2, [0, 3])] }
theorem e : CutEq Pg C Q Tryz.f56 0 id st v o tree := fun J K x => by cases x <;> kernel_rfl
def told (a0 : List Int) : YtpndhhellhfegaaGreatDoorEv.Told A := ⟨f a0, fun r => SoundCall Pg C 56 (S a0) 0 (v r) (o r), fun r h => sdCut v o Tryz.func56 rfl (of_decide_eq_true (by kernel_rfl)) (by rfl) (fun _ => rfl) e (fun J K => by kernel_rfl) h⟩
end spec_l09Values
/-! #### loop.example/g00983/spec.MemOk (54) -/
namespace spec_MemOk
def S (a0 : List S87) (a1 : List Int) : List (PV U) := YtpndhhellhfegaaGreatDoorEv.start C 72 [.agg [.sl 88 a0], .sl 3 a1] []
inductive X where
 | c7 (x0 : List Int) (x1 x2 : Int)
def id : X → Nat
 | .c7 .. => 7
def st : X → List (PV U)
 | .c7 x0 x1 x2 => stOf 72 [(1, .sl 3 x0), (6, .int .i64 x1), (8, .int .i64 x2)]
def begin (a0 : List S87) (a1 : List Int) : Tr X A :=
 .call (spec_ProgramOk.told a0) fun t1 => .ite (!t1)
  (.ret false)
  (.ite (!decide ((List.length a1 : Int) = (49 : Int)))
   (.ret false)
   (.need ((0 : Int) ≤ (8 : Int) ∧ (8 : Int) < (List.length a1 : Int)) (.call (spec_UnpackControl.told (rdI a1 (8 : Int))) fun t2 => .ite (decide (t2.1 < (0 : Int)))
    (.ret false)
    (.ite (decide (t2.1 ≥ (List.length a0 : Int)))
     (.ret false)
     (.need ((0 : Int) ≤ (0 : Int) ∧ (0 : Int) ≤ (8 : Int) ∧ (8 : Int) ≤ (List.length a1 : Int)) (.call (spec_l09Values.told (List.take (Int.toNat (8 : Int)) a1)) fun t3 => .ite (!t3)
      (.ret false)
      (.need ((0 : Int) ≤ (25 : Int) ∧ (25 : Int) ≤ (wr ((25 : Int) + t2.2.2)) ∧ (wr ((25 : Int) + t2.2.2)) ≤ (List.length a1 : Int)) (.call (spec_l09Values.told (List.drop (Int.toNat (25 : Int)) (List.take (Int.toNat (wr ((25 : Int) + t2.2.2))) a1))) fun t4 => .ite (!t4)
       (.ret false)
       (.jump (.c7 a1 t2.2.1 (0 : Int)))))))))))
def tree : X → Tr X A
 | .c7 x0 x1 x2 =>
 .ite (decide (x2 < x1))
  (.need ((0 : Int) ≤ (wr ((9 : Int) + (wr ((2 : Int) * x2)))) ∧ (wr ((9 : Int) + (wr ((2 : Int) * x2)))) < (List.length x0 : Int)) (.call (spec_l01In.told (rdI x0 (wr ((9 : Int) + (wr ((2 : Int) * x2))))) (0 : Int) (7 : Int)) fun t1 => .ite (!t1)
   (.ret false)
   (.need ((0 : Int) ≤ (wr ((wr ((9 : Int) + (wr ((2 : Int) * x2)))) + (1 : Int))) ∧ (wr ((wr ((9 : Int) + (wr ((2 : Int) * x2)))) + (1 : Int))) < (List.length x0 : Int)) (.call (spec_IsValue.told (rdI x0 (wr ((wr ((9 : Int) + (wr ((2 : Int) * x2)))) + (1 : Int))))) fun t2 => .ite (!t2)
    (.ret false)
    (.jump (.c7 x0 x1 (wr (x2 + (1 : Int)))))))))
  (.ret true)
def f (a0 : List S87) (a1 : List Int) : Option A := (begin a0 a1).run (lp tree)
def Q : Plan C := { PL with cuts := [(7, [1, 6, 8])] }
theorem e : CutEq Pg C Q Tryz.f54 0 id st v o tree := fun J K x => by cases x <;> kernel_rfl
def told (a0 : List S87) (a1 : List Int) : YtpndhhellhfegaaGreatDoorEv.Told A := ⟨f a0 a1, fun r => SoundCall Pg C 54 (S a0 a1) 0 (v r) (o r), fun r h => sdCut v o Tryz.func54 rfl (of_decide_eq_true (by kernel_rfl)) (by rfl) (fun _ => rfl) e (fun J K => by kernel_rfl) h⟩
end spec_MemOk
/-! #### loop.example/g00983/spec.StoreOk (55) -/
namespace spec_StoreOk
def S (a0 a1 a2 a3 : Int) : List (PV U) := YtpndhhellhfegaaGreatDoorEv.start C 25 [.agg [.int .i64 a0, .int .i64 a1, .int .i64 a2, .int .i64 a3]] []
def begin (a0 a1 a2 a3 : Int) : Tr Empty A :=
 .call (spec_l01In.told a1 (1 : Int) (5000 : Int)) fun t1 => .ite t1
  (.call (spec_l01In.told a0 (0 : Int) a1) fun t2 => .ite t2
   (.call (spec_l01In.told a2 (1 : Int) a1) fun t3 => .ite t3
    (.call (spec_l01In.told a3 (0 : Int) (100 : Int)) fun t4 => .ret t4)
    (.ret false))
   (.ret false))
  (.ret false)
def f (a0 a1 a2 a3 : Int) : Option A := (begin a0 a1 a2 a3).run (lp noTree)
def told (a0 a1 a2 a3 : Int) : YtpndhhellhfegaaGreatDoorEv.Told A := ⟨f a0 a1 a2 a3, fun r => SoundCall Pg C 55 (S a0 a1 a2 a3) 0 (v r) (o r), fun r h => sdFlat (Q := PL) v o Tryz.func55 rfl (of_decide_eq_true (by kernel_rfl)) (by rfl) (fun _ => rfl) (fun J K => by kernel_rfl) h⟩
end spec_StoreOk
/-! #### loop.example/g00983/spec.SpanOk (58) -/
namespace spec_SpanOk
def S (a0 a1 : Int) : List (PV U) := YtpndhhellhfegaaGreatDoorEv.start C 18 [.agg [.int .i64 a0, .int .i64 a1]] []
def begin (a0 a1 : Int) : Tr Empty A :=
 .ite (decide (a0 ≥ (0 : Int)))
  (.ite (decide (a0 ≤ a1))
   (.ret ((decide (a1 ≤ (1000000 : Int)))))
   (.ret false))
  (.ret false)
def f (a0 a1 : Int) : Option A := (begin a0 a1).run (lp noTree)
def told (a0 a1 : Int) : YtpndhhellhfegaaGreatDoorEv.Told A := ⟨f a0 a1, fun r => SoundCall Pg C 58 (S a0 a1) 0 (v r) (o r), fun r h => sdFlat (Q := PL) v o Tryz.func58 rfl (of_decide_eq_true (by kernel_rfl)) (by rfl) (fun _ => rfl) (fun J K => by kernel_rfl) h⟩
end spec_SpanOk
/-! #### loop.example/g00983/spec.MemSent (92) -/
namespace spec_MemSent
def S (a0 : List Int) : List (PV U) := YtpndhhellhfegaaGreatDoorEv.start C 27 [.sl 3 a0] []
def begin (a0 : List Int) : Tr Empty A :=
 .ite (!decide ((List.length a0 : Int) = (49 : Int)))
  (.ret (([] : List Int)))
  (.need ((0 : Int) ≤ (8 : Int) ∧ (8 : Int) < (List.length a0 : Int)) (.call (spec_UnpackControl.told (rdI a0 (8 : Int))) fun t1 => .ite (decide (t1.2.2 < (0 : Int)))
   (.ret (([] : List Int)))
   (.need ((0 : Int) ≤ (25 : Int) ∧ (25 : Int) ≤ (wr ((25 : Int) + t1.2.2)) ∧ (wr ((25 : Int) + t1.2.2)) ≤ (List.length a0 : Int)) (.need (((List.length ([] : List Int) : Int) + (List.length (List.drop (Int.toNat (25 : Int)) (List.take (Int.toNat (wr ((25 : Int) + t1.2.2))) a0)) : Int)) * (8 : Nat) ≤ room) (.val ((([] : List Int) ++ (List.drop (Int.toNat (25 : Int)) (List.take (Int.toNat (wr ((25 : Int) + t1.2.2))) a0))) : List Int) fun v2 => .ret v2)))))
def f (a0 : List Int) : Option A := (begin a0).run (lp noTree)
def told (a0 : List Int) : YtpndhhellhfegaaGreatDoorEv.Told A := ⟨f a0, fun r => SoundCall Pg C 92 (S a0) 0 (v r) (o r), fun r h => sdFlat (Q := PL) v o Tryz.func92 rfl (of_decide_eq_true (by kernel_rfl)) (by rfl) (fun _ => rfl) (fun J K => by kernel_rfl) h⟩
end spec_MemSent
/-! #### loop.example/g00983/spec.IsPrefixOf (91) -/
namespace spec_IsPrefixOf
def S (a0 a1 : List Int) : List (PV U) := YtpndhhellhfegaaGreatDoorEv.start C 27 [.sl 3 a0, .sl 3 a1] []
inductive X where
 | c2 (x0 x1 : List Int) (x2 : Int)
def id : X → Nat
 | .c2 .. => 2
def st : X → List (PV U)
 | .c2 x0 x1 x2 => stOf 27 [(0, .sl 3 x0), (1, .sl 3 x1), (5, .int .i64 x2)]
def begin (a0 a1 : List Int) : Tr X A :=
 .jump (.c2 a0 a1 (0 : Int))
def tree : X → Tr X A
 | .c2 x0 x1 x2 =>
 .ite (decide (x2 < (List.length x0 : Int)))
  (.ite (decide (x2 ≥ (List.length x1 : Int)))
   (.ret false)
   (.need ((0 : Int) ≤ x2 ∧ x2 < (List.length x0 : Int)) (.need ((0 : Int) ≤ x2 ∧ x2 < (List.length x1 : Int)) (.ite (!decide ((rdI x0 x2) = (rdI x1 x2)))
    (.ret false)
    (.jump (.c2 x0 x1 (wr (x2 + (1 : Int)))))))))
  (.ret true)
def f (a0 a1 : List Int) : Option A := (begin a0 a1).run (lp tree)
def Q : Plan C := { PL with cuts := [(2, [0, 1, 5])], ords := [(4, [], (.take 0 [] (.take 1 [] (.take 2 [] (.take 3 [] (.take 4 [] (.take 5 [] (.take 6 [] (.take 7 [] (.take 9 [] (.take 10 [] (.take 11 [] (.take 8 [0, 1, 2, 3, 4, 5, 6, 7, 9, 10, 11, 12] (.take 12 [0, 1, 2, 3, 4, 5, 6, 7, 8, 9, 10, 11] (.take 13 [] (.take 14 [] .done))))))))))))))))] }
theorem e : CutEq Pg C Q Tryz.f91 0 id st v o tree := fun J K x => by cases x <;> kernel_rfl
def told (a0 a1 : List Int) : YtpndhhellhfegaaGreatDoorEv.Told A := ⟨f a0 a1, fun r => SoundCall Pg C 91 (S a0 a1) 0 (v r) (o r), fun r h => sdCut v o Tryz.func91 rfl (of_decide_eq_true (by kernel_rfl)) (by rfl) (fun _ => rfl) e (fun J K => by kernel_rfl) h⟩
end spec_IsPrefixOf
/-! #### loop.example/g00983/spec.LinkOk (59) -/
namespace spec_LinkOk
def S (a0 : List Int) (a1 : Int) (a2 : List Int) : List (PV U) := YtpndhhellhfegaaGreatDoorEv.start C 20 [.sl 3 a0, .agg [.int .i64 a1, .sl 3 a2]] []
def begin (a0 : List Int) (a1 : Int) (a2 : List Int) : Tr Empty A :=
 .last (.call (spec_l01In.told a1 (0 : Int) (List.length a2 : Int)) fun t1 => .ite t1
  (.last (.call (spec_MemSent.told a0) fun t2 => .last (.call (spec_IsPrefixOf.told a2 t2) fun t3 => .ret t3)))
  (.last (.last (.ret false))))
def f (a0 : List Int) (a1 : Int) (a2 : List Int) : Option A := (begin a0 a1 a2).run (lp noTree)
def Q : Plan C := { PL with ords := [(1, [], (.take 0 [] (.take 2 [] (.take 3 [] (.take 1 [0, 2, 3, 4, 5] (.take 4 [0, 1, 2, 3] (.take 5 [] (.alt 6 (.take 7 [] (.take 8 [] (.take 9 [] (.take 11 [] (.take 10 [0, 1, 2, 3, 4, 5, 6, 7, 8, 9, 11, 12] (.alt 12 (.alt 13 (.take 14 [] (.take 15 [] .done)) .nil) .nil)))))) .nil))))))))] }
def told (a0 : List Int) (a1 : Int) (a2 : List Int) : YtpndhhellhfegaaGreatDoorEv.Told A := ⟨f a0 a1 a2, fun r => SoundCall Pg C 59 (S a0 a1 a2) 0 (v r) (o r), fun r h => sdFlat (Q := Q) v o Tryz.func59 rfl (of_decide_eq_true (by kernel_rfl)) (by rfl) (fun _ => rfl) (fun J K => by kernel_rfl) h⟩
end spec_LinkOk
/-! #### loop.example/g00983/spec.NodeOk (24) -/
namespace spec_NodeOk
def S (a0 : List S87) (a1 a2 : List Int) (a3 a4 a5 a6 a7 a8 a9 a10 : Int) (a11 : List Int) (a12 : Int) : List (PV U) := YtpndhhellhfegaaGreatDoorEv.start C 40 [.agg [.sl 88 a0, .sl 3 a1, .sl 3 a2, .int .i64 a3, .int .i64 a4, .int .i64 a5, .int .i64 a6, .int .i64 a7, .int .i64 a8, .int .i64 a9, .int .i64 a10, .sl 3 a11, .int .i64 a12]] []
def begin (a0 : List S87) (a1 a2 : List Int) (a3 a4 a5 a6 a7 a8 a9 a10 : Int) (a11 : List Int) (a12 : Int) : Tr Empty A :=
 .call (spec_MemOk.told a0 a1) fun t1 => .ite t1
  (.call (spec_StoreOk.told a4 a5 a6 a7) fun t2 => .ite t2
   (.call (spec_l09Values.told a2) fun t3 => .ite t3
    (.call (spec_l01In.told a3 (0 : Int) (400000 : Int)) fun t4 => .ite t4
     (.call (spec_SpanOk.told a8 a9) fun t5 => .ite t5
      (.call (spec_LinkOk.told a1 a10 a11) fun t6 => .ite t6
       (.call (spec_l01In.told a12 (0 : Int) (100000 : Int)) fun t7 => .ret t7)
       (.ret false))
      (.ret false))
     (.ret false))
    (.ret false))
   (.ret false))
  (.ret false)
def f (a0 : List S87) (a1 a2 : List Int) (a3 a4 a5 a6 a7 a8 a9 a10 : Int) (a11 : List Int) (a12 : Int) : Option A := (begin a0 a1 a2 a3 a4 a5 a6 a7 a8 a9 a10 a11 a12).run (lp noTree)
def told (a0 : List S87) (a1 a2 : List Int) (a3 a4 a5 a6 a7 a8 a9 a10 : Int) (a11 : List Int) (a12 : Int) : YtpndhhellhfegaaGreatDoorEv.Told A := ⟨f a0 a1 a2 a3 a4 a5 a6 a7 a8 a9 a10 a11 a12, fun r => SoundCall Pg C 24 (S a0 a1 a2 a3 a4 a5 a6 a7 a8 a9 a10 a11 a12) 0 (v r) (o r), fun r h => sdFlat (Q := PL) v o Tryz.func24 rfl (of_decide_eq_true (by kernel_rfl)) (by rfl) (fun _ => rfl) (fun J K => by kernel_rfl) h⟩
end spec_NodeOk
/-! #### loop.example/g00983/spec.l01Figure (61) -/
namespace spec_l01Figure
def S (a0 : Int) : List (PV U) := YtpndhhellhfegaaGreatDoorEv.start C 12 [.int .i64 a0] []
def begin (a0 : Int) : Tr Empty A :=
 .ite (decide (a0 < (10 : Int)))
  (.ret ((IntKind.wrap .u8 (wr ((48 : Int) + a0)))))
  (.ret ((IntKind.wrap .u8 (wr ((wr ((97 : Int) + a0)) - (10 : Int))))))
def f (a0 : Int) : Option A := (begin a0).run (lp noTree)
def told (a0 : Int) : YtpndhhellhfegaaGreatDoorEv.Told A := ⟨f a0, fun r => SoundCall Pg C 61 (S a0) 0 (v r) (o r), fun r h => sdFlat (Q := PL) v o Tryz.func61 rfl (of_decide_eq_true (by kernel_rfl)) (by rfl) (fun _ => rfl) (fun J K => by kernel_rfl) h⟩
end spec_l01Figure
/-! #### loop.example/g00983/spec.FormatInt (26) -/
namespace spec_FormatInt
def S (a0 : Int) : List (PV U) := YtpndhhellhfegaaGreatDoorEv.start C 30 [.int .i64 a0] []
inductive X where
 | c5 (x0 : Int) (x1 : Bool) (x2 : ByteArray)
def id : X → Nat
 | .c5 .. => 5
def st : X → List (PV U)
 | .c5 x0 x1 x2 => stOf 30 [(0, .int .i64 x0), (3, .bool x1), (4, .str x2)]
def begin (a0 : Int) : Tr X A :=
 .ite (decide (a0 = (0 : Int)))
  (.ret ((⟨#[48]⟩ : ByteArray)))
  (.jump (.c5 a0 (decide (a0 < (0 : Int))) (⟨#[]⟩ : ByteArray)))
def tree : X → Tr X A
 | .c5 x0 x1 x2 =>
 .ite (!decide (x0 = (0 : Int)))
  (.need ((10 : Int) ≠ 0) (.ite (decide ((Int.tmod x0 (10 : Int)) < (0 : Int)))
   (.call (spec_l01Figure.told (wr (-(Int.tmod x0 (10 : Int))))) fun t1 => .need (∀ x_ ∈ [t1], isByte (PV.int .u8 x_ : PV U)) (.need (((strOfNums ([t1])).size : Int) + x2.size ≤ room) (.need ((10 : Int) ≠ 0) (.jump (.c5 (wr (Int.tdiv x0 (10 : Int))) x1 ((strOfNums ([t1])) ++ x2))))))
   (.call (spec_l01Figure.told (Int.tmod x0 (10 : Int))) fun t1 => .need (∀ x_ ∈ [t1], isByte (PV.int .u8 x_ : PV U)) (.need (((strOfNums ([t1])).size : Int) + x2.size ≤ room) (.need ((10 : Int) ≠ 0) (.jump (.c5 (wr (Int.tdiv x0 (10 : Int))) x1 ((strOfNums ([t1])) ++ x2))))))))
  (.ite x1
   (.need (((⟨#[45]⟩ : ByteArray).size : Int) + x2.size ≤ room) (.ret (((⟨#[45]⟩ : ByteArray) ++ x2))))
   (.ret x2))
def f (a0 : Int) : Option A := (begin a0).run (lp tree)
def Q : Plan C := { PL with cuts := [(5, [0, 3, 4])] }
theorem e : CutEq Pg C Q Tryz.f26 0 id st v o tree := fun J K x => by cases x <;> kernel_rfl
def told (a0 : Int) : YtpndhhellhfegaaGreatDoorEv.Told A := ⟨f a0, fun r => SoundCall Pg C 26 (S a0) 0 (v r) (o r), fun r h => sdCut v o Tryz.func26 rfl (of_decide_eq_true (by kernel_rfl)) (by rfl) (fun _ => rfl) e (fun J K => by kernel_rfl) h⟩
end spec_FormatInt
/-! #### loop.example/g00983/spec.FormatNode (6) -/
namespace spec_FormatNode
def S (a0 : List S87) (a1 a2 : List Int) (a3 a4 a5 a6 a7 a8 a9 a10 : Int) (a11 : List Int) (a12 : Int) : List (PV U) := YtpndhhellhfegaaGreatDoorEv.start C 58 [.agg [.sl 88 a0, .sl 3 a1, .sl 3 a2, .int .i64 a3, .int .i64 a4, .int .i64 a5, .int .i64 a6, .int .i64 a7, .int .i64 a8, .int .i64 a9, .int .i64 a10, .sl 3 a11, .int .i64 a12]] []
def begin (a0 : List S87) (a1 a2 : List Int) (a3 a4 a5 a6 a7 a8 a9 a10 : Int) (a11 : List Int) (a12 : Int) : Tr Empty A :=
 .call (spec_NodeOk.told a0 a1 a2 a3 a4 a5 a6 a7 a8 a9 a10 a11 a12) fun t1 => .ite (!t1)
  (.ret (([] : List ByteArray)))
  (.need ((0 : Int) ≤ (8 : Int) ∧ (8 : Int) < (List.length a1 : Int)) (.call (spec_UnpackControl.told (rdI a1 (8 : Int))) fun t2 => .call (spec_FormatInt.told t2.1) fun t3 => .need (true = true) (.need (((⟨#[116, 97, 115, 107, 32]⟩ : ByteArray).size : Int) + t3.size ≤ room) (.need (true = true) (.call (spec_FormatInt.told a12) fun t4 => .need (true = true) (.need (((⟨#[100, 111, 110, 101, 32]⟩ : ByteArray).size : Int) + t4.size ≤ room) (.need (true = true) (.call (spec_FormatInt.told t2.2.2) fun t5 => .need (true = true) (.need (((⟨#[115, 101, 110, 116, 32]⟩ : ByteArray).size : Int) + t5.size ≤ room) (.need (true = true) (.call (spec_FormatInt.told (List.length a11 : Int)) fun t6 => .need (true = true) (.need (((⟨#[103, 111, 116, 32]⟩ : ByteArray).size : Int) + t6.size ≤ room) (.need (true = true) (.call (spec_FormatInt.told a10) fun t7 => .need (true = true) (.need (((⟨#[97, 99, 107, 101, 100, 32]⟩ : ByteArray).size : Int) + t7.size ≤ room) (.need (true = true) (.call (spec_FormatInt.told a4) fun t8 => .need (true = true) (.need (((⟨#[99, 104, 97, 114, 103, 101, 32]⟩ : ByteArray).size : Int) + t8.size ≤ room) (.need (true = true) (.call (spec_FormatInt.told a8) fun t9 => .need (true = true) (.need (((⟨#[99, 108, 111, 99, 107, 32]⟩ : ByteArray).size : Int) + t9.size ≤ room) (.need (true = true) (.need ((((⟨#[99, 108, 111, 99, 107, 32]⟩ : ByteArray) ++ t9).size : Int) + (⟨#[46, 46]⟩ : ByteArray).size ≤ room) (.need (true = true) (.call (spec_FormatInt.told a9) fun t10 => .need (true = true) (.need (((((⟨#[99, 108, 111, 99, 107, 32]⟩ : ByteArray) ++ t9) ++ (⟨#[46, 46]⟩ : ByteArray)).size : Int) + t10.size ≤ room) (.val (((((⟨#[99, 108, 111, 99, 107, 32]⟩ : ByteArray) ++ t9) ++ (⟨#[46, 46]⟩ : ByteArray)) ++ t10) : ByteArray) fun v11 => .need (true = true) (.val ([((⟨#[116, 97, 115, 107, 32]⟩ : ByteArray) ++ t3), ((⟨#[100, 111, 110, 101, 32]⟩ : ByteArray) ++ t4), ((⟨#[115, 101, 110, 116, 32]⟩ : ByteArray) ++ t5), ((⟨#[103, 111, 116, 32]⟩ : ByteArray) ++ t6), ((⟨#[97, 99, 107, 101, 100, 32]⟩ : ByteArray) ++ t7), ((⟨#[99, 104, 97, 114, 103, 101, 32]⟩ : ByteArray) ++ t8), v11] : List ByteArray) fun v12 => .need (true = true) (.ret v12)))))))))))))))))))))))))))))
def f (a0 : List S87) (a1 a2 : List Int) (a3 a4 a5 a6 a7 a8 a9 a10 : Int) (a11 : List Int) (a12 : Int) : Option A := (begin a0 a1 a2 a3 a4 a5 a6 a7 a8 a9 a10 a11 a12).run (lp noTree)
def Q : Plan C := { PL with ords := [(4, [], (.take 0 [] (.take 3 [] (.take 7 [] (.take 10 [] (.take 11 [] (.take 12 [] (.take 17 [] (.take 18 [] (.take 22 [] (.take 23 [] (.take 27 [] (.take 28 [] (.take 33 [] (.take 34 [] (.take 4 [0, 1, 2, 3, 7, 10, 11, 12, 13, 14, 17, 18, 19, 22, 23, 24, 27, 28, 29, 33, 34, 35] (.take 13 [0, 1, 2, 3, 4, 5, 6, 7, 8, 9, 10, 11, 12, 17, 18, 19, 22, 23, 24, 27, 28, 29, 33, 34, 35] (.take 14 [] (.take 19 [0, 1, 2, 3, 4, 5, 6, 7, 8, 9, 10, 11, 12, 13, 14, 15, 16, 17, 18, 22, 23, 24, 27, 28, 29, 33, 34, 35] (.take 24 [0, 1, 2, 3, 4, 5, 6, 7, 8, 9, 10, 11, 12, 13, 14, 15, 16, 17, 18, 19, 20, 21, 22, 23, 27, 28, 29, 33, 34, 35] (.take 29 [0, 1, 2, 3, 4, 5, 6, 7, 8, 9, 10, 11, 12, 13, 14, 15, 16, 17, 18, 19, 20, 21, 22, 23, 24, 25, 26, 27, 28, 33, 34, 35] (.take 35 [0, 1, 2, 3, 4, 5, 6, 7, 8, 9, 10, 11, 12, 13, 14, 15, 16, 17, 18, 19, 20, 21, 22, 23, 24, 25, 26, 27, 28, 29, 30, 31, 32, 33, 34] (.batch [1, 2, 5, 6, 8, 9, 15, 16, 20, 21, 25, 26, 30, 31, 32, 36, 37, 38] (.take 39 [] .done))))))))))))))))))))))))] }
def told (a0 : List S87) (a1 a2 : List Int) (a3 a4 a5 a6 a7 a8 a9 a10 : Int) (a11 : List Int) (a12 : Int) : YtpndhhellhfegaaGreatDoorEv.Told A := ⟨f a0 a1 a2 a3 a4 a5 a6 a7 a8 a9 a10 a11 a12, fun r => SoundCall Pg C 6 (S a0 a1 a2 a3 a4 a5 a6 a7 a8 a9 a10 a11 a12) 0 (v r) (o r), fun r h => sdFlat (Q := Q) v o Tryz.func6 rfl (of_decide_eq_true (by kernel_rfl)) (by rfl) (fun _ => rfl) (fun J K => by kernel_rfl) h⟩
end spec_FormatNode
/-! #### loop.example/g00983/impl.within (67) -/
namespace impl_within
def S (a0 a1 a2 : Int) : List (PV U) := YtpndhhellhfegaaGreatDoorEv.start C 15 [.int .i64 a0, .int .i64 a1, .int .i64 a2] []
def begin (a0 a1 a2 : Int) : Tr Empty A :=
 .ite (decide (a0 ≥ a1))
  (.ret ((decide (a0 ≤ a2))))
  (.ret false)
def f (a0 a1 a2 : Int) : Option A := (begin a0 a1 a2).run (lp noTree)
def told (a0 a1 a2 : Int) : YtpndhhellhfegaaGreatDoorEv.Told A := ⟨f a0 a1 a2, fun r => SoundCall Pg C 67 (S a0 a1 a2) 0 (v r) (o r), fun r h => sdFlat (Q := PL) v o Tryz.func67 rfl (of_decide_eq_true (by kernel_rfl)) (by rfl) (fun _ => rfl) (fun J K => by kernel_rfl) h⟩
end impl_within
/-! #### loop.example/g00983/impl.hasVar (168) -/
namespace impl_hasVar
def S (a0 : Int) : List (PV U) := YtpndhhellhfegaaGreatDoorEv.start C 9 [.int .i64 a0] []
def begin (a0 : Int) : Tr Empty A :=
 .ite (decide (a0 = (1 : Int)))
  (.ret true)
  (.ret ((decide (a0 = (2 : Int)))))
def f (a0 : Int) : Option A := (begin a0).run (lp noTree)
def told (a0 : Int) : YtpndhhellhfegaaGreatDoorEv.Told A := ⟨f a0, fun r => SoundCall Pg C 168 (S a0) 0 (v r) (o r), fun r h => sdFlat (Q := PL) v o Tryz.func168 rfl (of_decide_eq_true (by kernel_rfl)) (by rfl) (fun _ => rfl) (fun J K => by kernel_rfl) h⟩
end impl_hasVar
/-! #### loop.example/g00983/impl.isVar (95) -/
namespace impl_isVar
def S (a0 : Int) : List (PV U) := YtpndhhellhfegaaGreatDoorEv.start C 5 [.int .i64 a0] []
def begin (a0 : Int) : Tr Empty A :=
 .call (impl_within.told a0 (0 : Int) (7 : Int)) fun t1 => .ret t1
def f (a0 : Int) : Option A := (begin a0).run (lp noTree)
def told (a0 : Int) : YtpndhhellhfegaaGreatDoorEv.Told A := ⟨f a0, fun r => SoundCall Pg C 95 (S a0) 0 (v r) (o r), fun r h => sdFlat (Q := PL) v o Tryz.func95 rfl (of_decide_eq_true (by kernel_rfl)) (by rfl) (fun _ => rfl) (fun J K => by kernel_rfl) h⟩
end impl_isVar
/-! #### loop.example/g00983/impl.hasExpr (169) -/
namespace impl_hasExpr
def S (a0 : Int) : List (PV U) := YtpndhhellhfegaaGreatDoorEv.start C 13 [.int .i64 a0] []
def begin (a0 : Int) : Tr Empty A :=
 .ite (decide (a0 = (1 : Int)))
  (.ret true)
  (.ite (decide (a0 = (3 : Int)))
   (.ret true)
   (.ret ((decide (a0 = (4 : Int))))))
def f (a0 : Int) : Option A := (begin a0).run (lp noTree)
def told (a0 : Int) : YtpndhhellhfegaaGreatDoorEv.Told A := ⟨f a0, fun r => SoundCall Pg C 169 (S a0) 0 (v r) (o r), fun r h => sdFlat (Q := PL) v o Tryz.func169 rfl (of_decide_eq_true (by kernel_rfl)) (by rfl) (fun _ => rfl) (fun J K => by kernel_rfl) h⟩
end impl_hasExpr
/-! #### loop.example/g00983/impl.OperandOk (159) -/
namespace impl_OperandOk
def S (a0 : Int) : List (PV U) := YtpndhhellhfegaaGreatDoorEv.start C 5 [.int .i64 a0] []
def begin (a0 : Int) : Tr Empty A :=
 .call (impl_within.told a0 (-8 : Int) (999 : Int)) fun t1 => .ret t1
def f (a0 : Int) : Option A := (begin a0).run (lp noTree)
def told (a0 : Int) : YtpndhhellhfegaaGreatDoorEv.Told A := ⟨f a0, fun r => SoundCall Pg C 159 (S a0) 0 (v r) (o r), fun r h => sdFlat (Q := PL) v o Tryz.func159 rfl (of_decide_eq_true (by kernel_rfl)) (by rfl) (fun _ => rfl) (fun J K => by kernel_rfl) h⟩
end impl_OperandOk
/-! #### loop.example/g00983/impl.ExprOk (140) -/
namespace impl_ExprOk
def S (a0 a1 a2 : Int) : List (PV U) := YtpndhhellhfegaaGreatDoorEv.start C 16 [.agg [.int .i64 a0, .int .i64 a1, .int .i64 a2]] []
def begin (a0 a1 a2 : Int) : Tr Empty A :=
 .call (impl_within.told a0 (1 : Int) (7 : Int)) fun t1 => .ite t1
  (.call (impl_OperandOk.told a1) fun t2 => .ite t2
   (.call (impl_OperandOk.told a2) fun t3 => .ret t3)
   (.ret false))
  (.ret false)
def f (a0 a1 a2 : Int) : Option A := (begin a0 a1 a2).run (lp noTree)
def told (a0 a1 a2 : Int) : YtpndhhellhfegaaGreatDoorEv.Told A := ⟨f a0 a1 a2, fun r => SoundCall Pg C 140 (S a0 a1 a2) 0 (v r) (o r), fun r h => sdFlat (Q := PL) v o Tryz.func140 rfl (of_decide_eq_true (by kernel_rfl)) (by rfl) (fun _ => rfl) (fun J K => by kernel_rfl) h⟩
end impl_ExprOk
/-! #### loop.example/g00983/impl.isSensor (170) -/
namespace impl_isSensor
def S (a0 : Int) : List (PV U) := YtpndhhellhfegaaGreatDoorEv.start C 5 [.int .i64 a0] []
def begin (a0 : Int) : Tr Empty A :=
 .call (impl_within.told a0 (0 : Int) (3 : Int)) fun t1 => .ret t1
def f (a0 : Int) : Option A := (begin a0).run (lp noTree)
def told (a0 : Int) : YtpndhhellhfegaaGreatDoorEv.Told A := ⟨f a0, fun r => SoundCall Pg C 170 (S a0) 0 (v r) (o r), fun r h => sdFlat (Q := PL) v o Tryz.func170 rfl (of_decide_eq_true (by kernel_rfl)) (by rfl) (fun _ => rfl) (fun J K => by kernel_rfl) h⟩
end impl_isSensor
/-! #### loop.example/g00983/impl.StmtOk (157) -/
namespace impl_StmtOk
def S (a0 a1 a2 a3 a4 a5 : Int) : List (PV U) := YtpndhhellhfegaaGreatDoorEv.start C 65 [.agg [.int .i64 a0, .int .i64 a1, .int .i64 a2, .int .i64 a3, .int .i64 a4, .int .i64 a5]] []
inductive X where
 | c3 (x0 x1 x2 x3 x4 x5 : Int)
 | c5 (x0 x1 x2 x3 x4 x5 : Int)
def id : X → Nat
 | .c3 .. => 3
 | .c5 .. => 5
def st : X → List (PV U)
 | .c3 x0 x1 x2 x3 x4 x5 => stOf 65 [(1, .box [.int .i64 x0, .int .i64 x1, .int .i64 x2, .int .i64 x3, .int .i64 x4, .int .i64 x5])]
 | .c5 x0 x1 x2 x3 x4 x5 => stOf 65 [(1, .box [.int .i64 x0, .int .i64 x1, .int .i64 x2, .int .i64 x3, .int .i64 x4, .int .i64 x5])]
def begin (a0 a1 a2 a3 a4 a5 : Int) : Tr X A :=
 .call (impl_within.told a0 (1 : Int) (6 : Int)) fun t1 => .ite (!t1)
  (.ret false)
  (.call (impl_hasVar.told a0) fun t2 => .ite t2
   (.call (impl_isVar.told a1) fun t3 => .ite (!t3)
    (.ret false)
    (.call (impl_hasVar.told a0) fun t4 => let u4_0 : Tr X A := (.jump (.c3 a0 a1 a2 a3 a4 a5)); .ite (!t4)
     (.ite (!decide (a1 = (0 : Int)))
      (.ret false)
      (u4_0))
     (u4_0)))
   (.call (impl_hasVar.told a0) fun t3 => let u3_0 : Tr X A := (.jump (.c3 a0 a1 a2 a3 a4 a5)); .ite (!t3)
    (.ite (!decide (a1 = (0 : Int)))
     (.ret false)
     (u3_0))
    (u3_0)))
def tree : X → Tr X A
 | .c3 x0 x1 x2 x3 x4 x5 =>
 .call (impl_hasExpr.told x0) fun t1 => .ite t1
  (.call (impl_ExprOk.told x3 x4 x5) fun t2 => .ite (!t2)
   (.ret false)
   (.call (impl_hasExpr.told x0) fun t3 => .ite (!t3)
    (.val ((!(decide (x3 = (0 : Int)) && (decide (x4 = (0 : Int)) && (decide (x5 = (0 : Int)) && true)))) : Bool) fun v4 => .ite v4
     (.ret false)
     (.jump (.c5 x0 x1 x2 x3 x4 x5)))
    (.jump (.c5 x0 x1 x2 x3 x4 x5))))
  (.call (impl_hasExpr.told x0) fun t2 => .ite (!t2)
   (.val ((!(decide (x3 = (0 : Int)) && (decide (x4 = (0 : Int)) && (decide (x5 = (0 : Int)) && true)))) : Bool) fun v3 => .ite v3
    (.ret false)
    (.jump (.c5 x0 x1 x2 x3 x4 x5)))
   (.jump (.c5 x0 x1 x2 x3 x4 x5)))
 | .c5 x0 x1 x2 x3 x4 x5 =>
 .ite (decide (x0 = (2 : Int)))
  (.call (impl_isSensor.told x2) fun t1 => .ret t1)
  (.ite (decide (x0 = (5 : Int)))
   (.call (impl_within.told x2 (1 : Int) (5 : Int)) fun t1 => .ret t1)
   (.ret ((decide (x2 = (0 : Int))))))
def f (a0 a1 a2 a3 a4 a5 : Int) : Option A := (begin a0 a1 a2 a3 a4 a5).run (lp tree)
def Q : Plan C := { PL with cuts := [(3, [1, 33, 34, 35, 36, 39, 40, 41, 42, 43, 44, 45, 46, 47, 48]), (5, [1])] }
theorem e : CutEq Pg C Q Tryz.f157 0 id st v o tree := fun J K x => by cases x <;> kernel_rfl
def told (a0 a1 a2 a3 a4 a5 : Int) : YtpndhhellhfegaaGreatDoorEv.Told A := ⟨f a0 a1 a2 a3 a4 a5, fun r => SoundCall Pg C 157 (S a0 a1 a2 a3 a4 a5) 0 (v r) (o r), fun r h => sdCut v o Tryz.func157 rfl (of_decide_eq_true (by kernel_rfl)) (by rfl) (fun _ => rfl) e (fun J K => by kernel_rfl) h⟩
end impl_StmtOk
/-! #### loop.example/g00983/impl.isOpening (158) -/
namespace impl_isOpening
def S (a0 : Int) : List (PV U) := YtpndhhellhfegaaGreatDoorEv.start C 9 [.int .i64 a0] []
def begin (a0 : Int) : Tr Empty A :=
 .ite (decide (a0 = (4 : Int)))
  (.ret true)
  (.ret ((decide (a0 = (5 : Int)))))
def f (a0 : Int) : Option A := (begin a0).run (lp noTree)
def told (a0 : Int) : YtpndhhellhfegaaGreatDoorEv.Told A := ⟨f a0, fun r => SoundCall Pg C 158 (S a0) 0 (v r) (o r), fun r h => sdFlat (Q := PL) v o Tryz.func158 rfl (of_decide_eq_true (by kernel_rfl)) (by rfl) (fun _ => rfl) (fun J K => by kernel_rfl) h⟩
end impl_isOpening
/-! #### loop.example/g00983/impl.BlockOk (139) -/
namespace impl_BlockOk
def S (a0 : List S121) : List (PV U) := YtpndhhellhfegaaGreatDoorEv.start C 39 [.sl 122 a0] []
inductive X where
 | c3 (x0 : List S121) (x1 : Int) (x2 : List S121) (x3 x4 : Int)
 | c12
def id : X → Nat
 | .c3 .. => 3
 | .c12 .. => 12
def st : X → List (PV U)
 | .c3 x0 x1 x2 x3 x4 => stOf 39 [(0, .sl 122 x0), (3, .int .i64 x1), (6, .sl 122 x2), (7, .int .i64 x3), (8, .int .i64 x4)]
 | .c12 => stOf 39 []
def begin (a0 : List S121) : Tr X A :=
 .jump (.c3 a0 (0 : Int) a0 (List.length a0 : Int) (0 : Int))
def tree : X → Tr X A
 | .c3 x0 x1 x2 x3 x4 =>
 .ite (decide (x4 < x3))
  (.need ((0 : Int) ≤ x4 ∧ x4 < (List.length x2 : Int)) (.call (impl_StmtOk.told ((rdS121 x2 x4).f0) ((rdS121 x2 x4).f1) ((rdS121 x2 x4).f2) ((rdS121 x2 x4).f3.f0) ((rdS121 x2 x4).f3.f1) ((rdS121 x2 x4).f3.f2)) fun t1 => .ite (!t1)
   (.ret false)
   (.call (impl_isOpening.told ((rdS121 x2 x4).f0)) fun t2 => let u2_0 : Tr X A := (.jump (.c12)); .ite t2
    (.ite (decide ((rdS121 x2 x4).f0 = (6 : Int)))
     (.ite (decide ((wr ((wr (x1 + (1 : Int))) - (1 : Int))) < (0 : Int)))
      (u2_0)
      (.ite (decide ((wr ((wr (x1 + (1 : Int))) - (1 : Int))) > (3 : Int)))
       (u2_0)
       (.jump (.c3 x0 (wr ((wr (x1 + (1 : Int))) - (1 : Int))) x2 x3 (wr (x4 + (1 : Int)))))))
     (.ite (decide ((wr (x1 + (1 : Int))) < (0 : Int)))
      (u2_0)
      (.ite (decide ((wr (x1 + (1 : Int))) > (3 : Int)))
       (u2_0)
       (.jump (.c3 x0 (wr (x1 + (1 : Int))) x2 x3 (wr (x4 + (1 : Int))))))))
    (.ite (decide ((rdS121 x2 x4).f0 = (6 : Int)))
     (.ite (decide ((wr (x1 - (1 : Int))) < (0 : Int)))
      (u2_0)
      (.ite (decide ((wr (x1 - (1 : Int))) > (3 : Int)))
       (u2_0)
       (.jump (.c3 x0 (wr (x1 - (1 : Int))) x2 x3 (wr (x4 + (1 : Int)))))))
     (.ite (decide (x1 < (0 : Int)))
      (u2_0)
      (.ite (decide (x1 > (3 : Int)))
       (u2_0)
       (.jump (.c3 x0 x1 x2 x3 (wr (x4 + (1 : Int)))))))))))
  (.ite (decide (x1 = (0 : Int)))
   (.ret ((decide ((List.length x0 : Int) ≤ (24 : Int)))))
   (.ret false))
 | .c12 =>
 .ret false
def f (a0 : List S121) : Option A := (begin a0).run (lp tree)
def Q : Plan C := { PL with cuts := [(3, [0, 3, 6, 7, 8, 35, 36, 37]), (12, [])] }
theorem e : CutEq Pg C Q Tryz.f139 0 id st v o tree := fun J K x => by cases x <;> kernel_rfl
def told (a0 : List S121) : YtpndhhellhfegaaGreatDoorEv.Told A := ⟨f a0, fun r => SoundCall Pg C 139 (S a0) 0 (v r) (o r), fun r h => sdCut v o Tryz.func139 rfl (of_decide_eq_true (by kernel_rfl)) (by rfl) (fun _ => rfl) e (fun J K => by kernel_rfl) h⟩
end impl_BlockOk
/-! #### loop.example/g00983/impl.taskOk (118) -/
namespace impl_taskOk
def S (a0 : List S121) (a1 a2 a3 : Int) : List (PV U) := YtpndhhellhfegaaGreatDoorEv.start C 11 [.agg [.sl 122 a0, .int .i64 a1, .int .i64 a2, .int .i64 a3]] []
def begin (a0 : List S121) (a1 a2 a3 : Int) : Tr Empty A :=
 .call (impl_BlockOk.told a0) fun t1 => .ite t1
  (.call (impl_ExprOk.told a1 a2 a3) fun t2 => .ret t2)
  (.ret false)
def f (a0 : List S121) (a1 a2 a3 : Int) : Option A := (begin a0 a1 a2 a3).run (lp noTree)
def told (a0 : List S121) (a1 a2 a3 : Int) : YtpndhhellhfegaaGreatDoorEv.Told A := ⟨f a0 a1 a2 a3, fun r => SoundCall Pg C 118 (S a0 a1 a2 a3) 0 (v r) (o r), fun r h => sdFlat (Q := PL) v o Tryz.func118 rfl (of_decide_eq_true (by kernel_rfl)) (by rfl) (fun _ => rfl) (fun J K => by kernel_rfl) h⟩
end impl_taskOk
end
end Go.Proofs.YtpndhhellhfegaaGreatDoor.Ev
