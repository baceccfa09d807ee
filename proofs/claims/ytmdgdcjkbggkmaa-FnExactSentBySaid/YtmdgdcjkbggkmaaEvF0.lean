/- Functions as trees, with their contracts. No conditions. -/
import Derived.Test.YtmdgdcjkbggkmaaEvH
namespace Go.Proofs.Ytmdgdcjkbggkmaa.Ev
open Go.Proofs.YtmdgdcjkbggkmaaEv Go.RowKit
set_option linter.unusedVariables false
set_option maxRecDepth 100000
noncomputable section
/-! #### loop.example/g00983/laws.szStmtS (84) -/
def laws_szStmtS.S (a0 : List S125) (a1 : Int) : List (PV U) := YtmdgdcjkbggkmaaEv.start C 12 [.sl 126 a0, .int .i64 a1] []
abbrev laws_szStmtS.X := Empty
def laws_szStmtS.id : laws_szStmtS.X → Nat := fun _ => 0
def laws_szStmtS.st : laws_szStmtS.X → List (PV U) := fun _ => []
def laws_szStmtS.begin (a0 : List S125) (a1 : Int) : Tr laws_szStmtS.X laws_szStmtS.A :=
 .ite (decide ((wr (a1 - (List.length a0 : Int))) < (0 : Int)))
  (.ret ((-1 : Int)))
  (.ret ((wr (a1 - (List.length a0 : Int)))))
def laws_szStmtS.tree : laws_szStmtS.X → Tr laws_szStmtS.X laws_szStmtS.A := fun _ => .fail
def laws_szStmtS.f (a0 : List S125) (a1 : Int) : Option laws_szStmtS.A := (laws_szStmtS.begin a0 a1).run (lp laws_szStmtS.tree)
def laws_szStmtS.Q : Plan C := { PL with cuts := [], ords := [], weak := [] }
theorem laws_szStmtS.e (J : Nat → St C → Prop) (K : PV U → List (PV U) → Prop) (x : laws_szStmtS.X) : Tr.sem (fun x => J (laws_szStmtS.id x) (laws_szStmtS.st x)) (fun r => K (laws_szStmtS.v r) (laws_szStmtS.o r)) (laws_szStmtS.tree x) = evCut C laws_szStmtS.Q (SoundCall Try.prog C) J Try.f84 0 (laws_szStmtS.id x) (laws_szStmtS.st x) K := by cases x
theorem laws_szStmtS.b (a0 : List S125) (a1 : Int) (J : Nat → St C → Prop) (K : PV U → List (PV U) → Prop) : Tr.sem (fun x => J (laws_szStmtS.id x) (laws_szStmtS.st x)) (fun r => K (laws_szStmtS.v r) (laws_szStmtS.o r)) (laws_szStmtS.begin a0 a1) = evFn C laws_szStmtS.Q (SoundCall Try.prog C) J Try.f84 (laws_szStmtS.S a0 a1) 0 K := by kernel_rfl
def laws_szStmtS.told (a0 : List S125) (a1 : Int) : YtmdgdcjkbggkmaaEv.Told laws_szStmtS.A := ⟨laws_szStmtS.f a0 a1, fun r => SoundCall Try.prog C 84 (laws_szStmtS.S a0 a1) 0 (laws_szStmtS.v r) (laws_szStmtS.o r), fun r h =>
 soundCall_of_tree G mixed laws_szStmtS.Q Try.func84 rfl (of_decide_eq_true (by kernel_rfl)) (by rfl) laws_szStmtS.id laws_szStmtS.st laws_szStmtS.v laws_szStmtS.o (fun _ => rfl) laws_szStmtS.tree (fun J K x => laws_szStmtS.e J K x) (laws_szStmtS.begin a0 a1) (fun J K => laws_szStmtS.b a0 a1 J K) h⟩
/-! #### loop.example/g00983/laws.szTask (52) -/
def laws_szTask.S (a0 : List S125) (a1 : Int) (a2 : Int) (a3 : Int) (a4 : Int) : List (PV U) := YtmdgdcjkbggkmaaEv.start C 12 [.agg [.sl 126 a0, .int .i64 a1, .int .i64 a2, .int .i64 a3], .int .i64 a4] []
abbrev laws_szTask.X := Empty
def laws_szTask.id : laws_szTask.X → Nat := fun _ => 0
def laws_szTask.st : laws_szTask.X → List (PV U) := fun _ => []
def laws_szTask.begin (a0 : List S125) (a1 : Int) (a2 : Int) (a3 : Int) (a4 : Int) : Tr laws_szTask.X laws_szTask.A :=
 .call (laws_szStmtS.told a0 a4) fun t1 => .ite (decide (t1 < (0 : Int)))
  (.ret ((-1 : Int)))
  (.ret t1)
def laws_szTask.tree : laws_szTask.X → Tr laws_szTask.X laws_szTask.A := fun _ => .fail
def laws_szTask.f (a0 : List S125) (a1 : Int) (a2 : Int) (a3 : Int) (a4 : Int) : Option laws_szTask.A := (laws_szTask.begin a0 a1 a2 a3 a4).run (lp laws_szTask.tree)
def laws_szTask.Q : Plan C := { PL with cuts := [], ords := [], weak := [] }
theorem laws_szTask.e (J : Nat → St C → Prop) (K : PV U → List (PV U) → Prop) (x : laws_szTask.X) : Tr.sem (fun x => J (laws_szTask.id x) (laws_szTask.st x)) (fun r => K (laws_szTask.v r) (laws_szTask.o r)) (laws_szTask.tree x) = evCut C laws_szTask.Q (SoundCall Try.prog C) J Try.f52 0 (laws_szTask.id x) (laws_szTask.st x) K := by cases x
theorem laws_szTask.b (a0 : List S125) (a1 : Int) (a2 : Int) (a3 : Int) (a4 : Int) (J : Nat → St C → Prop) (K : PV U → List (PV U) → Prop) : Tr.sem (fun x => J (laws_szTask.id x) (laws_szTask.st x)) (fun r => K (laws_szTask.v r) (laws_szTask.o r)) (laws_szTask.begin a0 a1 a2 a3 a4) = evFn C laws_szTask.Q (SoundCall Try.prog C) J Try.f52 (laws_szTask.S a0 a1 a2 a3 a4) 0 K := by kernel_rfl
def laws_szTask.told (a0 : List S125) (a1 : Int) (a2 : Int) (a3 : Int) (a4 : Int) : YtmdgdcjkbggkmaaEv.Told laws_szTask.A := ⟨laws_szTask.f a0 a1 a2 a3 a4, fun r => SoundCall Try.prog C 52 (laws_szTask.S a0 a1 a2 a3 a4) 0 (laws_szTask.v r) (laws_szTask.o r), fun r h =>
 soundCall_of_tree G mixed laws_szTask.Q Try.func52 rfl (of_decide_eq_true (by kernel_rfl)) (by rfl) laws_szTask.id laws_szTask.st laws_szTask.v laws_szTask.o (fun _ => rfl) laws_szTask.tree (fun J K x => laws_szTask.e J K x) (laws_szTask.begin a0 a1 a2 a3 a4) (fun J K => laws_szTask.b a0 a1 a2 a3 a4 J K) h⟩
/-! #### loop.example/g00983/laws.szTaskS (23) -/
def laws_szTaskS.S (a0 : List S85) (a1 : Int) : List (PV U) := YtmdgdcjkbggkmaaEv.start C 27 [.sl 86 a0, .int .i64 a1] []
inductive laws_szTaskS.X where
 | c5 (x0 : List S85) (x1 : Int) (x2 : Int)
def laws_szTaskS.id : laws_szTaskS.X → Nat
 | .c5 .. => 5
def laws_szTaskS.st : laws_szTaskS.X → List (PV U)
 | .c5 x0 x1 x2 => stOf 27 [(0, .sl 86 x0), (1, .int .i64 x1), (5, .int .i64 x2)]
def laws_szTaskS.begin (a0 : List S85) (a1 : Int) : Tr laws_szTaskS.X laws_szTaskS.A :=
 .ite (decide ((wr (a1 - (List.length a0 : Int))) < (0 : Int)))
  (.ret ((-1 : Int)))
  (.jump (.c5 a0 (wr (a1 - (List.length a0 : Int))) (0 : Int)))
def laws_szTaskS.tree : laws_szTaskS.X → Tr laws_szTaskS.X laws_szTaskS.A
 | .c5 x0 x1 x2 =>
 .ite (decide (x2 < (List.length x0 : Int)))
  (.need ((0 : Int) ≤ x2 ∧ x2 < (List.length x0 : Int)) (.call (laws_szTask.told ((rdS85 x0 x2).f0) ((rdS85 x0 x2).f1.f0) ((rdS85 x0 x2).f1.f1) ((rdS85 x0 x2).f1.f2) x1) fun t1 => .ite (decide (t1 < (0 : Int)))
   (.ret ((-1 : Int)))
   (.jump (.c5 x0 t1 (wr (x2 + (1 : Int)))))))
  (.ret x1)
def laws_szTaskS.f (a0 : List S85) (a1 : Int) : Option laws_szTaskS.A := (laws_szTaskS.begin a0 a1).run (lp laws_szTaskS.tree)
def laws_szTaskS.Q : Plan C := { PL with cuts := [(5, [0, 1, 5])], ords := [], weak := [] }
theorem laws_szTaskS.e (J : Nat → St C → Prop) (K : PV U → List (PV U) → Prop) (x : laws_szTaskS.X) : Tr.sem (fun x => J (laws_szTaskS.id x) (laws_szTaskS.st x)) (fun r => K (laws_szTaskS.v r) (laws_szTaskS.o r)) (laws_szTaskS.tree x) = evCut C laws_szTaskS.Q (SoundCall Try.prog C) J Try.f23 0 (laws_szTaskS.id x) (laws_szTaskS.st x) K := by cases x <;> kernel_rfl
theorem laws_szTaskS.b (a0 : List S85) (a1 : Int) (J : Nat → St C → Prop) (K : PV U → List (PV U) → Prop) : Tr.sem (fun x => J (laws_szTaskS.id x) (laws_szTaskS.st x)) (fun r => K (laws_szTaskS.v r) (laws_szTaskS.o r)) (laws_szTaskS.begin a0 a1) = evFn C laws_szTaskS.Q (SoundCall Try.prog C) J Try.f23 (laws_szTaskS.S a0 a1) 0 K := by kernel_rfl
def laws_szTaskS.told (a0 : List S85) (a1 : Int) : YtmdgdcjkbggkmaaEv.Told laws_szTaskS.A := ⟨laws_szTaskS.f a0 a1, fun r => SoundCall Try.prog C 23 (laws_szTaskS.S a0 a1) 0 (laws_szTaskS.v r) (laws_szTaskS.o r), fun r h =>
 soundCall_of_tree G mixed laws_szTaskS.Q Try.func23 rfl (of_decide_eq_true (by kernel_rfl)) (by rfl) laws_szTaskS.id laws_szTaskS.st laws_szTaskS.v laws_szTaskS.o (fun _ => rfl) laws_szTaskS.tree (fun J K x => laws_szTaskS.e J K x) (laws_szTaskS.begin a0 a1) (fun J K => laws_szTaskS.b a0 a1 J K) h⟩
/-! #### loop.example/g00983/laws.szProgram (5) -/
def laws_szProgram.S (a0 : List S85) (a1 : Int) : List (PV U) := YtmdgdcjkbggkmaaEv.start C 12 [.agg [.sl 86 a0], .int .i64 a1] []
abbrev laws_szProgram.X := Empty
def laws_szProgram.id : laws_szProgram.X → Nat := fun _ => 0
def laws_szProgram.st : laws_szProgram.X → List (PV U) := fun _ => []
def laws_szProgram.begin (a0 : List S85) (a1 : Int) : Tr laws_szProgram.X laws_szProgram.A :=
 .call (laws_szTaskS.told a0 a1) fun t1 => .ite (decide (t1 < (0 : Int)))
  (.ret ((-1 : Int)))
  (.ret t1)
def laws_szProgram.tree : laws_szProgram.X → Tr laws_szProgram.X laws_szProgram.A := fun _ => .fail
def laws_szProgram.f (a0 : List S85) (a1 : Int) : Option laws_szProgram.A := (laws_szProgram.begin a0 a1).run (lp laws_szProgram.tree)
def laws_szProgram.Q : Plan C := { PL with cuts := [], ords := [], weak := [] }
theorem laws_szProgram.e (J : Nat → St C → Prop) (K : PV U → List (PV U) → Prop) (x : laws_szProgram.X) : Tr.sem (fun x => J (laws_szProgram.id x) (laws_szProgram.st x)) (fun r => K (laws_szProgram.v r) (laws_szProgram.o r)) (laws_szProgram.tree x) = evCut C laws_szProgram.Q (SoundCall Try.prog C) J Try.f5 0 (laws_szProgram.id x) (laws_szProgram.st x) K := by cases x
theorem laws_szProgram.b (a0 : List S85) (a1 : Int) (J : Nat → St C → Prop) (K : PV U → List (PV U) → Prop) : Tr.sem (fun x => J (laws_szProgram.id x) (laws_szProgram.st x)) (fun r => K (laws_szProgram.v r) (laws_szProgram.o r)) (laws_szProgram.begin a0 a1) = evFn C laws_szProgram.Q (SoundCall Try.prog C) J Try.f5 (laws_szProgram.S a0 a1) 0 K := by kernel_rfl
def laws_szProgram.told (a0 : List S85) (a1 : Int) : YtmdgdcjkbggkmaaEv.Told laws_szProgram.A := ⟨laws_szProgram.f a0 a1, fun r => SoundCall Try.prog C 5 (laws_szProgram.S a0 a1) 0 (laws_szProgram.v r) (laws_szProgram.o r), fun r h =>
 soundCall_of_tree G mixed laws_szProgram.Q Try.func5 rfl (of_decide_eq_true (by kernel_rfl)) (by rfl) laws_szProgram.id laws_szProgram.st laws_szProgram.v laws_szProgram.o (fun _ => rfl) laws_szProgram.tree (fun J K x => laws_szProgram.e J K x) (laws_szProgram.begin a0 a1) (fun J K => laws_szProgram.b a0 a1 J K) h⟩
/-! #### loop.example/g00983/laws.toExpr (88) -/
def laws_toExpr.S (a0 : Int) (a1 : Int) (a2 : Int) : List (PV U) := YtmdgdcjkbggkmaaEv.start C 14 [.agg [.int .i64 a0, .int .i64 a1, .int .i64 a2]] []
abbrev laws_toExpr.X := Empty
def laws_toExpr.id : laws_toExpr.X → Nat := fun _ => 0
def laws_toExpr.st : laws_toExpr.X → List (PV U) := fun _ => []
def laws_toExpr.begin (a0 : Int) (a1 : Int) (a2 : Int) : Tr laws_toExpr.X laws_toExpr.A :=
 .ret (a0, a1, a2)
def laws_toExpr.tree : laws_toExpr.X → Tr laws_toExpr.X laws_toExpr.A := fun _ => .fail
def laws_toExpr.f (a0 : Int) (a1 : Int) (a2 : Int) : Option laws_toExpr.A := (laws_toExpr.begin a0 a1 a2).run (lp laws_toExpr.tree)
def laws_toExpr.Q : Plan C := { PL with cuts := [], ords := [], weak := [] }
theorem laws_toExpr.e (J : Nat → St C → Prop) (K : PV U → List (PV U) → Prop) (x : laws_toExpr.X) : Tr.sem (fun x => J (laws_toExpr.id x) (laws_toExpr.st x)) (fun r => K (laws_toExpr.v r) (laws_toExpr.o r)) (laws_toExpr.tree x) = evCut C laws_toExpr.Q (SoundCall Try.prog C) J Try.f88 0 (laws_toExpr.id x) (laws_toExpr.st x) K := by cases x
theorem laws_toExpr.b (a0 : Int) (a1 : Int) (a2 : Int) (J : Nat → St C → Prop) (K : PV U → List (PV U) → Prop) : Tr.sem (fun x => J (laws_toExpr.id x) (laws_toExpr.st x)) (fun r => K (laws_toExpr.v r) (laws_toExpr.o r)) (laws_toExpr.begin a0 a1 a2) = evFn C laws_toExpr.Q (SoundCall Try.prog C) J Try.f88 (laws_toExpr.S a0 a1 a2) 0 K := by kernel_rfl
def laws_toExpr.told (a0 : Int) (a1 : Int) (a2 : Int) : YtmdgdcjkbggkmaaEv.Told laws_toExpr.A := ⟨laws_toExpr.f a0 a1 a2, fun r => SoundCall Try.prog C 88 (laws_toExpr.S a0 a1 a2) 0 (laws_toExpr.v r) (laws_toExpr.o r), fun r h =>
 soundCall_of_tree G mixed laws_toExpr.Q Try.func88 rfl (of_decide_eq_true (by kernel_rfl)) (by rfl) laws_toExpr.id laws_toExpr.st laws_toExpr.v laws_toExpr.o (fun _ => rfl) laws_toExpr.tree (fun J K x => laws_toExpr.e J K x) (laws_toExpr.begin a0 a1 a2) (fun J K => laws_toExpr.b a0 a1 a2 J K) h⟩
/-! #### loop.example/g00983/laws.toStmt (103) -/
def laws_toStmt.S (a0 : Int) (a1 : Int) (a2 : Int) (a3 : Int) (a4 : Int) (a5 : Int) : List (PV U) := YtmdgdcjkbggkmaaEv.start C 18 [.agg [.int .i64 a0, .int .i64 a1, .int .i64 a2, .int .i64 a3, .int .i64 a4, .int .i64 a5]] []
abbrev laws_toStmt.X := Empty
def laws_toStmt.id : laws_toStmt.X → Nat := fun _ => 0
def laws_toStmt.st : laws_toStmt.X → List (PV U) := fun _ => []
def laws_toStmt.begin (a0 : Int) (a1 : Int) (a2 : Int) (a3 : Int) (a4 : Int) (a5 : Int) : Tr laws_toStmt.X laws_toStmt.A :=
 .call (laws_toExpr.told a3 a4 a5) fun t1 => .ret (a0, a1, a2, t1.1, t1.2.1, t1.2.2)
def laws_toStmt.tree : laws_toStmt.X → Tr laws_toStmt.X laws_toStmt.A := fun _ => .fail
def laws_toStmt.f (a0 : Int) (a1 : Int) (a2 : Int) (a3 : Int) (a4 : Int) (a5 : Int) : Option laws_toStmt.A := (laws_toStmt.begin a0 a1 a2 a3 a4 a5).run (lp laws_toStmt.tree)
def laws_toStmt.Q : Plan C := { PL with cuts := [], ords := [], weak := [] }
theorem laws_toStmt.e (J : Nat → St C → Prop) (K : PV U → List (PV U) → Prop) (x : laws_toStmt.X) : Tr.sem (fun x => J (laws_toStmt.id x) (laws_toStmt.st x)) (fun r => K (laws_toStmt.v r) (laws_toStmt.o r)) (laws_toStmt.tree x) = evCut C laws_toStmt.Q (SoundCall Try.prog C) J Try.f103 0 (laws_toStmt.id x) (laws_toStmt.st x) K := by cases x
theorem laws_toStmt.b (a0 : Int) (a1 : Int) (a2 : Int) (a3 : Int) (a4 : Int) (a5 : Int) (J : Nat → St C → Prop) (K : PV U → List (PV U) → Prop) : Tr.sem (fun x => J (laws_toStmt.id x) (laws_toStmt.st x)) (fun r => K (laws_toStmt.v r) (laws_toStmt.o r)) (laws_toStmt.begin a0 a1 a2 a3 a4 a5) = evFn C laws_toStmt.Q (SoundCall Try.prog C) J Try.f103 (laws_toStmt.S a0 a1 a2 a3 a4 a5) 0 K := by kernel_rfl
def laws_toStmt.told (a0 : Int) (a1 : Int) (a2 : Int) (a3 : Int) (a4 : Int) (a5 : Int) : YtmdgdcjkbggkmaaEv.Told laws_toStmt.A := ⟨laws_toStmt.f a0 a1 a2 a3 a4 a5, fun r => SoundCall Try.prog C 103 (laws_toStmt.S a0 a1 a2 a3 a4 a5) 0 (laws_toStmt.v r) (laws_toStmt.o r), fun r h =>
 soundCall_of_tree G mixed laws_toStmt.Q Try.func103 rfl (of_decide_eq_true (by kernel_rfl)) (by rfl) laws_toStmt.id laws_toStmt.st laws_toStmt.v laws_toStmt.o (fun _ => rfl) laws_toStmt.tree (fun J K x => laws_toStmt.e J K x) (laws_toStmt.begin a0 a1 a2 a3 a4 a5) (fun J K => laws_toStmt.b a0 a1 a2 a3 a4 a5 J K) h⟩
/-! #### loop.example/g00983/laws.toStmtS (87) -/
def laws_toStmtS.S (a0 : List S125) : List (PV U) := YtmdgdcjkbggkmaaEv.start C 23 [.sl 126 a0] []
inductive laws_toStmtS.X where
 | c3 (x0 : List S125) (x1 : List S113) (x2 : Int)
def laws_toStmtS.id : laws_toStmtS.X → Nat
 | .c3 .. => 3
def laws_toStmtS.st : laws_toStmtS.X → List (PV U)
 | .c3 x0 x1 x2 => stOf 23 [(0, .sl 126 x0), (3, .own true 114 x1), (4, .int .i64 x2)]
def laws_toStmtS.begin (a0 : List S125) : Tr laws_toStmtS.X laws_toStmtS.A :=
 .need ((0 : Int) ≤ (List.length a0 : Int) ∧ (List.length a0 : Int) ≤ (List.length a0 : Int) ∧ (List.length a0 : Int) * (48 : Nat) ≤ room) (.jump (.c3 a0 (List.replicate (Int.toNat (List.length a0 : Int)) z113) (0 : Int)))
def laws_toStmtS.tree : laws_toStmtS.X → Tr laws_toStmtS.X laws_toStmtS.A
 | .c3 x0 x1 x2 =>
 .ite (decide (x2 < (List.length x0 : Int)))
  (.need ((0 : Int) ≤ x2 ∧ x2 < (List.length x0 : Int)) (.call (laws_toStmt.told ((rdS125 x0 x2).f0) ((rdS125 x0 x2).f1) ((rdS125 x0 x2).f2) ((rdS125 x0 x2).f3.f0) ((rdS125 x0 x2).f3.f1) ((rdS125 x0 x2).f3.f2)) fun t1 => .need ((0 : Int) ≤ x2 ∧ x2 < (List.length x1 : Int)) (.val ((List.set x1 (Int.toNat x2) (⟨t1.1, t1.2.1, t1.2.2.1, (⟨t1.2.2.2.1, t1.2.2.2.2.1, t1.2.2.2.2.2⟩ : S83)⟩ : S113)) : List S113) fun v2 => .jump (.c3 x0 v2 (wr (x2 + (1 : Int)))))))
  (.ret x1)
def laws_toStmtS.f (a0 : List S125) : Option laws_toStmtS.A := (laws_toStmtS.begin a0).run (lp laws_toStmtS.tree)
def laws_toStmtS.Q : Plan C := { PL with cuts := [(3, [0, 3, 4])], ords := [], weak := [] }
theorem laws_toStmtS.e (J : Nat → St C → Prop) (K : PV U → List (PV U) → Prop) (x : laws_toStmtS.X) : Tr.sem (fun x => J (laws_toStmtS.id x) (laws_toStmtS.st x)) (fun r => K (laws_toStmtS.v r) (laws_toStmtS.o r)) (laws_toStmtS.tree x) = evCut C laws_toStmtS.Q (SoundCall Try.prog C) J Try.f87 0 (laws_toStmtS.id x) (laws_toStmtS.st x) K := by cases x <;> kernel_rfl
theorem laws_toStmtS.b (a0 : List S125) (J : Nat → St C → Prop) (K : PV U → List (PV U) → Prop) : Tr.sem (fun x => J (laws_toStmtS.id x) (laws_toStmtS.st x)) (fun r => K (laws_toStmtS.v r) (laws_toStmtS.o r)) (laws_toStmtS.begin a0) = evFn C laws_toStmtS.Q (SoundCall Try.prog C) J Try.f87 (laws_toStmtS.S a0) 0 K := by kernel_rfl
def laws_toStmtS.told (a0 : List S125) : YtmdgdcjkbggkmaaEv.Told laws_toStmtS.A := ⟨laws_toStmtS.f a0, fun r => SoundCall Try.prog C 87 (laws_toStmtS.S a0) 0 (laws_toStmtS.v r) (laws_toStmtS.o r), fun r h =>
 soundCall_of_tree G mixed laws_toStmtS.Q Try.func87 rfl (of_decide_eq_true (by kernel_rfl)) (by rfl) laws_toStmtS.id laws_toStmtS.st laws_toStmtS.v laws_toStmtS.o (fun _ => rfl) laws_toStmtS.tree (fun J K x => laws_toStmtS.e J K x) (laws_toStmtS.begin a0) (fun J K => laws_toStmtS.b a0 J K) h⟩
/-! #### loop.example/g00983/laws.toTask (58) -/
def laws_toTask.S (a0 : List S125) (a1 : Int) (a2 : Int) (a3 : Int) : List (PV U) := YtmdgdcjkbggkmaaEv.start C 13 [.agg [.sl 126 a0, .int .i64 a1, .int .i64 a2, .int .i64 a3]] []
abbrev laws_toTask.X := Empty
def laws_toTask.id : laws_toTask.X → Nat := fun _ => 0
def laws_toTask.st : laws_toTask.X → List (PV U) := fun _ => []
def laws_toTask.begin (a0 : List S125) (a1 : Int) (a2 : Int) (a3 : Int) : Tr laws_toTask.X laws_toTask.A :=
 .call (laws_toStmtS.told a0) fun t1 => .call (laws_toExpr.told a1 a2 a3) fun t2 => .ret (t1, t2.1, t2.2.1, t2.2.2)
def laws_toTask.tree : laws_toTask.X → Tr laws_toTask.X laws_toTask.A := fun _ => .fail
def laws_toTask.f (a0 : List S125) (a1 : Int) (a2 : Int) (a3 : Int) : Option laws_toTask.A := (laws_toTask.begin a0 a1 a2 a3).run (lp laws_toTask.tree)
def laws_toTask.Q : Plan C := { PL with cuts := [], ords := [], weak := [] }
theorem laws_toTask.e (J : Nat → St C → Prop) (K : PV U → List (PV U) → Prop) (x : laws_toTask.X) : Tr.sem (fun x => J (laws_toTask.id x) (laws_toTask.st x)) (fun r => K (laws_toTask.v r) (laws_toTask.o r)) (laws_toTask.tree x) = evCut C laws_toTask.Q (SoundCall Try.prog C) J Try.f58 0 (laws_toTask.id x) (laws_toTask.st x) K := by cases x
theorem laws_toTask.b (a0 : List S125) (a1 : Int) (a2 : Int) (a3 : Int) (J : Nat → St C → Prop) (K : PV U → List (PV U) → Prop) : Tr.sem (fun x => J (laws_toTask.id x) (laws_toTask.st x)) (fun r => K (laws_toTask.v r) (laws_toTask.o r)) (laws_toTask.begin a0 a1 a2 a3) = evFn C laws_toTask.Q (SoundCall Try.prog C) J Try.f58 (laws_toTask.S a0 a1 a2 a3) 0 K := by kernel_rfl
def laws_toTask.told (a0 : List S125) (a1 : Int) (a2 : Int) (a3 : Int) : YtmdgdcjkbggkmaaEv.Told laws_toTask.A := ⟨laws_toTask.f a0 a1 a2 a3, fun r => SoundCall Try.prog C 58 (laws_toTask.S a0 a1 a2 a3) 0 (laws_toTask.v r) (laws_toTask.o r), fun r h =>
 soundCall_of_tree G mixed laws_toTask.Q Try.func58 rfl (of_decide_eq_true (by kernel_rfl)) (by rfl) laws_toTask.id laws_toTask.st laws_toTask.v laws_toTask.o (fun _ => rfl) laws_toTask.tree (fun J K x => laws_toTask.e J K x) (laws_toTask.begin a0 a1 a2 a3) (fun J K => laws_toTask.b a0 a1 a2 a3 J K) h⟩
/-! #### loop.example/g00983/laws.toTaskS (29) -/
def laws_toTaskS.S (a0 : List S85) : List (PV U) := YtmdgdcjkbggkmaaEv.start C 23 [.sl 86 a0] []
inductive laws_toTaskS.X where
 | c3 (x0 : List S85) (x1 : List S90) (x2 : Int)
def laws_toTaskS.id : laws_toTaskS.X → Nat
 | .c3 .. => 3
def laws_toTaskS.st : laws_toTaskS.X → List (PV U)
 | .c3 x0 x1 x2 => stOf 23 [(0, .sl 86 x0), (3, .own true 91 x1), (4, .int .i64 x2)]
def laws_toTaskS.begin (a0 : List S85) : Tr laws_toTaskS.X laws_toTaskS.A :=
 .need ((0 : Int) ≤ (List.length a0 : Int) ∧ (List.length a0 : Int) ≤ (List.length a0 : Int) ∧ (List.length a0 : Int) * (48 : Nat) ≤ room) (.jump (.c3 a0 (List.replicate (Int.toNat (List.length a0 : Int)) z90) (0 : Int)))
def laws_toTaskS.tree : laws_toTaskS.X → Tr laws_toTaskS.X laws_toTaskS.A
 | .c3 x0 x1 x2 =>
 .ite (decide (x2 < (List.length x0 : Int)))
  (.need ((0 : Int) ≤ x2 ∧ x2 < (List.length x0 : Int)) (.call (laws_toTask.told ((rdS85 x0 x2).f0) ((rdS85 x0 x2).f1.f0) ((rdS85 x0 x2).f1.f1) ((rdS85 x0 x2).f1.f2)) fun t1 => .need ((0 : Int) ≤ x2 ∧ x2 < (List.length x1 : Int)) (.jump (.c3 x0 (List.set x1 (Int.toNat x2) (⟨t1.1, (⟨t1.2.1, t1.2.2.1, t1.2.2.2⟩ : S83)⟩ : S90)) (wr (x2 + (1 : Int)))))))
  (.ret x1)
def laws_toTaskS.f (a0 : List S85) : Option laws_toTaskS.A := (laws_toTaskS.begin a0).run (lp laws_toTaskS.tree)
def laws_toTaskS.Q : Plan C := { PL with cuts := [(3, [0, 3, 4])], ords := [], weak := [] }
theorem laws_toTaskS.e (J : Nat → St C → Prop) (K : PV U → List (PV U) → Prop) (x : laws_toTaskS.X) : Tr.sem (fun x => J (laws_toTaskS.id x) (laws_toTaskS.st x)) (fun r => K (laws_toTaskS.v r) (laws_toTaskS.o r)) (laws_toTaskS.tree x) = evCut C laws_toTaskS.Q (SoundCall Try.prog C) J Try.f29 0 (laws_toTaskS.id x) (laws_toTaskS.st x) K := by cases x <;> kernel_rfl
theorem laws_toTaskS.b (a0 : List S85) (J : Nat → St C → Prop) (K : PV U → List (PV U) → Prop) : Tr.sem (fun x => J (laws_toTaskS.id x) (laws_toTaskS.st x)) (fun r => K (laws_toTaskS.v r) (laws_toTaskS.o r)) (laws_toTaskS.begin a0) = evFn C laws_toTaskS.Q (SoundCall Try.prog C) J Try.f29 (laws_toTaskS.S a0) 0 K := by kernel_rfl
def laws_toTaskS.told (a0 : List S85) : YtmdgdcjkbggkmaaEv.Told laws_toTaskS.A := ⟨laws_toTaskS.f a0, fun r => SoundCall Try.prog C 29 (laws_toTaskS.S a0) 0 (laws_toTaskS.v r) (laws_toTaskS.o r), fun r h =>
 soundCall_of_tree G mixed laws_toTaskS.Q Try.func29 rfl (of_decide_eq_true (by kernel_rfl)) (by rfl) laws_toTaskS.id laws_toTaskS.st laws_toTaskS.v laws_toTaskS.o (fun _ => rfl) laws_toTaskS.tree (fun J K x => laws_toTaskS.e J K x) (laws_toTaskS.begin a0) (fun J K => laws_toTaskS.b a0 J K) h⟩
/-! #### loop.example/g00983/laws.toProgram (7) -/
def laws_toProgram.S (a0 : List S85) : List (PV U) := YtmdgdcjkbggkmaaEv.start C 9 [.agg [.sl 86 a0]] []
abbrev laws_toProgram.X := Empty
def laws_toProgram.id : laws_toProgram.X → Nat := fun _ => 0
def laws_toProgram.st : laws_toProgram.X → List (PV U) := fun _ => []
def laws_toProgram.begin (a0 : List S85) : Tr laws_toProgram.X laws_toProgram.A :=
 .call (laws_toTaskS.told a0) fun t1 => .ret t1
def laws_toProgram.tree : laws_toProgram.X → Tr laws_toProgram.X laws_toProgram.A := fun _ => .fail
def laws_toProgram.f (a0 : List S85) : Option laws_toProgram.A := (laws_toProgram.begin a0).run (lp laws_toProgram.tree)
def laws_toProgram.Q : Plan C := { PL with cuts := [], ords := [], weak := [] }
theorem laws_toProgram.e (J : Nat → St C → Prop) (K : PV U → List (PV U) → Prop) (x : laws_toProgram.X) : Tr.sem (fun x => J (laws_toProgram.id x) (laws_toProgram.st x)) (fun r => K (laws_toProgram.v r) (laws_toProgram.o r)) (laws_toProgram.tree x) = evCut C laws_toProgram.Q (SoundCall Try.prog C) J Try.f7 0 (laws_toProgram.id x) (laws_toProgram.st x) K := by cases x
theorem laws_toProgram.b (a0 : List S85) (J : Nat → St C → Prop) (K : PV U → List (PV U) → Prop) : Tr.sem (fun x => J (laws_toProgram.id x) (laws_toProgram.st x)) (fun r => K (laws_toProgram.v r) (laws_toProgram.o r)) (laws_toProgram.begin a0) = evFn C laws_toProgram.Q (SoundCall Try.prog C) J Try.f7 (laws_toProgram.S a0) 0 K := by kernel_rfl
def laws_toProgram.told (a0 : List S85) : YtmdgdcjkbggkmaaEv.Told laws_toProgram.A := ⟨laws_toProgram.f a0, fun r => SoundCall Try.prog C 7 (laws_toProgram.S a0) 0 (laws_toProgram.v r) (laws_toProgram.o r), fun r h =>
 soundCall_of_tree G mixed laws_toProgram.Q Try.func7 rfl (of_decide_eq_true (by kernel_rfl)) (by rfl) laws_toProgram.id laws_toProgram.st laws_toProgram.v laws_toProgram.o (fun _ => rfl) laws_toProgram.tree (fun J K x => laws_toProgram.e J K x) (laws_toProgram.begin a0) (fun J K => laws_toProgram.b a0 J K) h⟩
/-! #### loop.example/g00983/laws.toIntS (8) -/
def laws_toIntS.S (a0 : List Int) : List (PV U) := YtmdgdcjkbggkmaaEv.start C 22 [.sl 3 a0] []
inductive laws_toIntS.X where
 | c3 (x0 : List Int) (x1 : List Int) (x2 : Int)
def laws_toIntS.id : laws_toIntS.X → Nat
 | .c3 .. => 3
def laws_toIntS.st : laws_toIntS.X → List (PV U)
 | .c3 x0 x1 x2 => stOf 22 [(0, .sl 3 x0), (3, .own true 3 x1), (4, .int .i64 x2)]
def laws_toIntS.begin (a0 : List Int) : Tr laws_toIntS.X laws_toIntS.A :=
 .need ((0 : Int) ≤ (List.length a0 : Int) ∧ (List.length a0 : Int) ≤ (List.length a0 : Int) ∧ (List.length a0 : Int) * (8 : Nat) ≤ room) (.jump (.c3 a0 (List.replicate (Int.toNat (List.length a0 : Int)) (0 : Int)) (0 : Int)))
def laws_toIntS.tree : laws_toIntS.X → Tr laws_toIntS.X laws_toIntS.A
 | .c3 x0 x1 x2 =>
 .ite (decide (x2 < (List.length x0 : Int)))
  (.need ((0 : Int) ≤ x2 ∧ x2 < (List.length x0 : Int)) (.need ((0 : Int) ≤ x2 ∧ x2 < (List.length x1 : Int)) (.jump (.c3 x0 (List.set x1 (Int.toNat x2) (rdI x0 x2)) (wr (x2 + (1 : Int)))))))
  (.ret x1)
def laws_toIntS.f (a0 : List Int) : Option laws_toIntS.A := (laws_toIntS.begin a0).run (lp laws_toIntS.tree)
def laws_toIntS.Q : Plan C := { PL with cuts := [(3, [0, 3, 4])], ords := [], weak := [] }
theorem laws_toIntS.e (J : Nat → St C → Prop) (K : PV U → List (PV U) → Prop) (x : laws_toIntS.X) : Tr.sem (fun x => J (laws_toIntS.id x) (laws_toIntS.st x)) (fun r => K (laws_toIntS.v r) (laws_toIntS.o r)) (laws_toIntS.tree x) = evCut C laws_toIntS.Q (SoundCall Try.prog C) J Try.f8 0 (laws_toIntS.id x) (laws_toIntS.st x) K := by cases x <;> kernel_rfl
theorem laws_toIntS.b (a0 : List Int) (J : Nat → St C → Prop) (K : PV U → List (PV U) → Prop) : Tr.sem (fun x => J (laws_toIntS.id x) (laws_toIntS.st x)) (fun r => K (laws_toIntS.v r) (laws_toIntS.o r)) (laws_toIntS.begin a0) = evFn C laws_toIntS.Q (SoundCall Try.prog C) J Try.f8 (laws_toIntS.S a0) 0 K := by kernel_rfl
def laws_toIntS.told (a0 : List Int) : YtmdgdcjkbggkmaaEv.Told laws_toIntS.A := ⟨laws_toIntS.f a0, fun r => SoundCall Try.prog C 8 (laws_toIntS.S a0) 0 (laws_toIntS.v r) (laws_toIntS.o r), fun r h =>
 soundCall_of_tree G mixed laws_toIntS.Q Try.func8 rfl (of_decide_eq_true (by kernel_rfl)) (by rfl) laws_toIntS.id laws_toIntS.st laws_toIntS.v laws_toIntS.o (fun _ => rfl) laws_toIntS.tree (fun J K x => laws_toIntS.e J K x) (laws_toIntS.begin a0) (fun J K => laws_toIntS.b a0 J K) h⟩
/-! #### loop.example/g00983/laws.toStore (9) -/
def laws_toStore.S (a0 : Int) (a1 : Int) (a2 : Int) (a3 : Int) : List (PV U) := YtmdgdcjkbggkmaaEv.start C 17 [.agg [.int .i64 a0, .int .i64 a1, .int .i64 a2, .int .i64 a3]] []
abbrev laws_toStore.X := Empty
def laws_toStore.id : laws_toStore.X → Nat := fun _ => 0
def laws_toStore.st : laws_toStore.X → List (PV U) := fun _ => []
def laws_toStore.begin (a0 : Int) (a1 : Int) (a2 : Int) (a3 : Int) : Tr laws_toStore.X laws_toStore.A :=
 .ret (a0, a1, a2, a3)
def laws_toStore.tree : laws_toStore.X → Tr laws_toStore.X laws_toStore.A := fun _ => .fail
def laws_toStore.f (a0 : Int) (a1 : Int) (a2 : Int) (a3 : Int) : Option laws_toStore.A := (laws_toStore.begin a0 a1 a2 a3).run (lp laws_toStore.tree)
def laws_toStore.Q : Plan C := { PL with cuts := [], ords := [], weak := [] }
theorem laws_toStore.e (J : Nat → St C → Prop) (K : PV U → List (PV U) → Prop) (x : laws_toStore.X) : Tr.sem (fun x => J (laws_toStore.id x) (laws_toStore.st x)) (fun r => K (laws_toStore.v r) (laws_toStore.o r)) (laws_toStore.tree x) = evCut C laws_toStore.Q (SoundCall Try.prog C) J Try.f9 0 (laws_toStore.id x) (laws_toStore.st x) K := by cases x
theorem laws_toStore.b (a0 : Int) (a1 : Int) (a2 : Int) (a3 : Int) (J : Nat → St C → Prop) (K : PV U → List (PV U) → Prop) : Tr.sem (fun x => J (laws_toStore.id x) (laws_toStore.st x)) (fun r => K (laws_toStore.v r) (laws_toStore.o r)) (laws_toStore.begin a0 a1 a2 a3) = evFn C laws_toStore.Q (SoundCall Try.prog C) J Try.f9 (laws_toStore.S a0 a1 a2 a3) 0 K := by kernel_rfl
def laws_toStore.told (a0 : Int) (a1 : Int) (a2 : Int) (a3 : Int) : YtmdgdcjkbggkmaaEv.Told laws_toStore.A := ⟨laws_toStore.f a0 a1 a2 a3, fun r => SoundCall Try.prog C 9 (laws_toStore.S a0 a1 a2 a3) 0 (laws_toStore.v r) (laws_toStore.o r), fun r h =>
 soundCall_of_tree G mixed laws_toStore.Q Try.func9 rfl (of_decide_eq_true (by kernel_rfl)) (by rfl) laws_toStore.id laws_toStore.st laws_toStore.v laws_toStore.o (fun _ => rfl) laws_toStore.tree (fun J K x => laws_toStore.e J K x) (laws_toStore.begin a0 a1 a2 a3) (fun J K => laws_toStore.b a0 a1 a2 a3 J K) h⟩
/-! #### loop.example/g00983/spec.l01In (56) -/
def spec_l01In.S (a0 : Int) (a1 : Int) (a2 : Int) : List (PV U) := YtmdgdcjkbggkmaaEv.start C 15 [.int .i64 a0, .int .i64 a1, .int .i64 a2] []
abbrev spec_l01In.X := Empty
def spec_l01In.id : spec_l01In.X → Nat := fun _ => 0
def spec_l01In.st : spec_l01In.X → List (PV U) := fun _ => []
def spec_l01In.begin (a0 : Int) (a1 : Int) (a2 : Int) : Tr spec_l01In.X spec_l01In.A :=
 .ite (decide (a0 ≥ a1))
  (.ret ((decide (a0 ≤ a2))))
  (.ret false)
def spec_l01In.tree : spec_l01In.X → Tr spec_l01In.X spec_l01In.A := fun _ => .fail
def spec_l01In.f (a0 : Int) (a1 : Int) (a2 : Int) : Option spec_l01In.A := (spec_l01In.begin a0 a1 a2).run (lp spec_l01In.tree)
def spec_l01In.Q : Plan C := { PL with cuts := [], ords := [], weak := [] }
theorem spec_l01In.e (J : Nat → St C → Prop) (K : PV U → List (PV U) → Prop) (x : spec_l01In.X) : Tr.sem (fun x => J (spec_l01In.id x) (spec_l01In.st x)) (fun r => K (spec_l01In.v r) (spec_l01In.o r)) (spec_l01In.tree x) = evCut C spec_l01In.Q (SoundCall Try.prog C) J Try.f56 0 (spec_l01In.id x) (spec_l01In.st x) K := by cases x
theorem spec_l01In.b (a0 : Int) (a1 : Int) (a2 : Int) (J : Nat → St C → Prop) (K : PV U → List (PV U) → Prop) : Tr.sem (fun x => J (spec_l01In.id x) (spec_l01In.st x)) (fun r => K (spec_l01In.v r) (spec_l01In.o r)) (spec_l01In.begin a0 a1 a2) = evFn C spec_l01In.Q (SoundCall Try.prog C) J Try.f56 (spec_l01In.S a0 a1 a2) 0 K := by kernel_rfl
def spec_l01In.told (a0 : Int) (a1 : Int) (a2 : Int) : YtmdgdcjkbggkmaaEv.Told spec_l01In.A := ⟨spec_l01In.f a0 a1 a2, fun r => SoundCall Try.prog C 56 (spec_l01In.S a0 a1 a2) 0 (spec_l01In.v r) (spec_l01In.o r), fun r h =>
 soundCall_of_tree G mixed spec_l01In.Q Try.func56 rfl (of_decide_eq_true (by kernel_rfl)) (by rfl) spec_l01In.id spec_l01In.st spec_l01In.v spec_l01In.o (fun _ => rfl) spec_l01In.tree (fun J K x => spec_l01In.e J K x) (spec_l01In.begin a0 a1 a2) (fun J K => spec_l01In.b a0 a1 a2 J K) h⟩
/-! #### loop.example/g00983/spec.IsValue (57) -/
def spec_IsValue.S (a0 : Int) : List (PV U) := YtmdgdcjkbggkmaaEv.start C 5 [.int .i64 a0] []
abbrev spec_IsValue.X := Empty
def spec_IsValue.id : spec_IsValue.X → Nat := fun _ => 0
def spec_IsValue.st : spec_IsValue.X → List (PV U) := fun _ => []
def spec_IsValue.begin (a0 : Int) : Tr spec_IsValue.X spec_IsValue.A :=
 .call (spec_l01In.told a0 (-1000000 : Int) (1000000 : Int)) fun t1 => .ret t1
def spec_IsValue.tree : spec_IsValue.X → Tr spec_IsValue.X spec_IsValue.A := fun _ => .fail
def spec_IsValue.f (a0 : Int) : Option spec_IsValue.A := (spec_IsValue.begin a0).run (lp spec_IsValue.tree)
def spec_IsValue.Q : Plan C := { PL with cuts := [], ords := [], weak := [] }
theorem spec_IsValue.e (J : Nat → St C → Prop) (K : PV U → List (PV U) → Prop) (x : spec_IsValue.X) : Tr.sem (fun x => J (spec_IsValue.id x) (spec_IsValue.st x)) (fun r => K (spec_IsValue.v r) (spec_IsValue.o r)) (spec_IsValue.tree x) = evCut C spec_IsValue.Q (SoundCall Try.prog C) J Try.f57 0 (spec_IsValue.id x) (spec_IsValue.st x) K := by cases x
theorem spec_IsValue.b (a0 : Int) (J : Nat → St C → Prop) (K : PV U → List (PV U) → Prop) : Tr.sem (fun x => J (spec_IsValue.id x) (spec_IsValue.st x)) (fun r => K (spec_IsValue.v r) (spec_IsValue.o r)) (spec_IsValue.begin a0) = evFn C spec_IsValue.Q (SoundCall Try.prog C) J Try.f57 (spec_IsValue.S a0) 0 K := by kernel_rfl
def spec_IsValue.told (a0 : Int) : YtmdgdcjkbggkmaaEv.Told spec_IsValue.A := ⟨spec_IsValue.f a0, fun r => SoundCall Try.prog C 57 (spec_IsValue.S a0) 0 (spec_IsValue.v r) (spec_IsValue.o r), fun r h =>
 soundCall_of_tree G mixed spec_IsValue.Q Try.func57 rfl (of_decide_eq_true (by kernel_rfl)) (by rfl) spec_IsValue.id spec_IsValue.st spec_IsValue.v spec_IsValue.o (fun _ => rfl) spec_IsValue.tree (fun J K x => spec_IsValue.e J K x) (spec_IsValue.begin a0) (fun J K => spec_IsValue.b a0 J K) h⟩
/-! #### loop.example/g00983/spec.VarsOk (53) -/
def spec_VarsOk.S (a0 : List Int) : List (PV U) := YtmdgdcjkbggkmaaEv.start C 19 [.sl 3 a0] []
inductive spec_VarsOk.X where
 | c2 (x0 : List Int) (x1 : Int)
def spec_VarsOk.id : spec_VarsOk.X → Nat
 | .c2 .. => 2
def spec_VarsOk.st : spec_VarsOk.X → List (PV U)
 | .c2 x0 x1 => stOf 19 [(0, .sl 3 x0), (3, .int .i64 x1)]
def spec_VarsOk.begin (a0 : List Int) : Tr spec_VarsOk.X spec_VarsOk.A :=
 .jump (.c2 a0 (0 : Int))
def spec_VarsOk.tree : spec_VarsOk.X → Tr spec_VarsOk.X spec_VarsOk.A
 | .c2 x0 x1 =>
 .ite (decide (x1 < (List.length x0 : Int)))
  (.need ((0 : Int) ≤ x1 ∧ x1 < (List.length x0 : Int)) (.call (spec_IsValue.told (rdI x0 x1)) fun t1 => .ite (!t1)
   (.ret false)
   (.jump (.c2 x0 (wr (x1 + (1 : Int)))))))
  (.ret ((decide ((List.length x0 : Int) = (8 : Int)))))
def spec_VarsOk.f (a0 : List Int) : Option spec_VarsOk.A := (spec_VarsOk.begin a0).run (lp spec_VarsOk.tree)
def spec_VarsOk.Q : Plan C := { PL with cuts := [(2, [0, 3])], ords := [], weak := [] }
theorem spec_VarsOk.e (J : Nat → St C → Prop) (K : PV U → List (PV U) → Prop) (x : spec_VarsOk.X) : Tr.sem (fun x => J (spec_VarsOk.id x) (spec_VarsOk.st x)) (fun r => K (spec_VarsOk.v r) (spec_VarsOk.o r)) (spec_VarsOk.tree x) = evCut C spec_VarsOk.Q (SoundCall Try.prog C) J Try.f53 0 (spec_VarsOk.id x) (spec_VarsOk.st x) K := by cases x <;> kernel_rfl
theorem spec_VarsOk.b (a0 : List Int) (J : Nat → St C → Prop) (K : PV U → List (PV U) → Prop) : Tr.sem (fun x => J (spec_VarsOk.id x) (spec_VarsOk.st x)) (fun r => K (spec_VarsOk.v r) (spec_VarsOk.o r)) (spec_VarsOk.begin a0) = evFn C spec_VarsOk.Q (SoundCall Try.prog C) J Try.f53 (spec_VarsOk.S a0) 0 K := by kernel_rfl
def spec_VarsOk.told (a0 : List Int) : YtmdgdcjkbggkmaaEv.Told spec_VarsOk.A := ⟨spec_VarsOk.f a0, fun r => SoundCall Try.prog C 53 (spec_VarsOk.S a0) 0 (spec_VarsOk.v r) (spec_VarsOk.o r), fun r h =>
 soundCall_of_tree G mixed spec_VarsOk.Q Try.func53 rfl (of_decide_eq_true (by kernel_rfl)) (by rfl) spec_VarsOk.id spec_VarsOk.st spec_VarsOk.v spec_VarsOk.o (fun _ => rfl) spec_VarsOk.tree (fun J K x => spec_VarsOk.e J K x) (spec_VarsOk.begin a0) (fun J K => spec_VarsOk.b a0 J K) h⟩
/-! #### loop.example/g00983/spec.MemNew (24) -/
def spec_MemNew.S (a0 : List Int) : List (PV U) := YtmdgdcjkbggkmaaEv.start C 14 [.sl 3 a0] []
abbrev spec_MemNew.X := Empty
def spec_MemNew.id : spec_MemNew.X → Nat := fun _ => 0
def spec_MemNew.st : spec_MemNew.X → List (PV U) := fun _ => []
def spec_MemNew.begin (a0 : List Int) : Tr spec_MemNew.X spec_MemNew.A :=
 .call (spec_VarsOk.told a0) fun t1 => .ite (!t1)
  (.ret (([] : List Int), false))
  (.need (((List.length ([] : List Int) : Int) + (List.length a0 : Int)) * (8 : Nat) ≤ room) (.need ((0 : Int) ≤ (41 : Int) ∧ ((List.length (([] : List Int) ++ a0) : Int) + (41 : Int)) * (8 : Nat) ≤ room) (.ret (((([] : List Int) ++ a0) ++ List.replicate (Int.toNat (41 : Int)) (0 : Int)), true))))
def spec_MemNew.tree : spec_MemNew.X → Tr spec_MemNew.X spec_MemNew.A := fun _ => .fail
def spec_MemNew.f (a0 : List Int) : Option spec_MemNew.A := (spec_MemNew.begin a0).run (lp spec_MemNew.tree)
def spec_MemNew.Q : Plan C := { PL with cuts := [], ords := [], weak := [] }
theorem spec_MemNew.e (J : Nat → St C → Prop) (K : PV U → List (PV U) → Prop) (x : spec_MemNew.X) : Tr.sem (fun x => J (spec_MemNew.id x) (spec_MemNew.st x)) (fun r => K (spec_MemNew.v r) (spec_MemNew.o r)) (spec_MemNew.tree x) = evCut C spec_MemNew.Q (SoundCall Try.prog C) J Try.f24 0 (spec_MemNew.id x) (spec_MemNew.st x) K := by cases x
theorem spec_MemNew.b (a0 : List Int) (J : Nat → St C → Prop) (K : PV U → List (PV U) → Prop) : Tr.sem (fun x => J (spec_MemNew.id x) (spec_MemNew.st x)) (fun r => K (spec_MemNew.v r) (spec_MemNew.o r)) (spec_MemNew.begin a0) = evFn C spec_MemNew.Q (SoundCall Try.prog C) J Try.f24 (spec_MemNew.S a0) 0 K := by kernel_rfl
def spec_MemNew.told (a0 : List Int) : YtmdgdcjkbggkmaaEv.Told spec_MemNew.A := ⟨spec_MemNew.f a0, fun r => SoundCall Try.prog C 24 (spec_MemNew.S a0) 0 (spec_MemNew.v r) (spec_MemNew.o r), fun r h =>
 soundCall_of_tree G mixed spec_MemNew.Q Try.func24 rfl (of_decide_eq_true (by kernel_rfl)) (by rfl) spec_MemNew.id spec_MemNew.st spec_MemNew.v spec_MemNew.o (fun _ => rfl) spec_MemNew.tree (fun J K x => spec_MemNew.e J K x) (spec_MemNew.begin a0) (fun J K => spec_MemNew.b a0 J K) h⟩
/-! #### loop.example/g00983/spec.l04Plain (102) -/
def spec_l04Plain.S (a0 : Int) (a1 : Int) (a2 : Int) (a3 : Int) (a4 : Int) (a5 : Int) : List (PV U) := YtmdgdcjkbggkmaaEv.start C 37 [.agg [.int .i64 a0, .int .i64 a1, .int .i64 a2, .int .i64 a3, .int .i64 a4, .int .i64 a5]] []
inductive spec_l04Plain.X where
 | c14 (x0 : Int) (x1 : Int) (x2 : Int) (x3 : Int) (x4 : Int) (x5 : Int) (x6 : Int) (x7 : Int) (x8 : Int) (x9 : Int) (x10 : Int) (x11 : Int)
def spec_l04Plain.id : spec_l04Plain.X → Nat
 | .c14 .. => 14
def spec_l04Plain.st : spec_l04Plain.X → List (PV U)
 | .c14 x0 x1 x2 x3 x4 x5 x6 x7 x8 x9 x10 x11 => stOf 37 [(2, .box [.int .i64 x0, .int .i64 x1, .int .i64 x2, .int .i64 x3, .int .i64 x4, .int .i64 x5]), (3, .box [.int .i64 x6, .int .i64 x7, .int .i64 x8, .int .i64 x9, .int .i64 x10, .int .i64 x11])]
def spec_l04Plain.begin (a0 : Int) (a1 : Int) (a2 : Int) (a3 : Int) (a4 : Int) (a5 : Int) : Tr spec_l04Plain.X spec_l04Plain.A :=
 .ite (decide (a0 = (1 : Int)))
  (.jump (.c14 (0 : Int) (0 : Int) (0 : Int) (0 : Int) (0 : Int) (0 : Int) a0 a1 (0 : Int) a3 a4 a5))
  (.ite (decide (a0 = (2 : Int)))
   (.jump (.c14 (0 : Int) (0 : Int) (0 : Int) (0 : Int) (0 : Int) (0 : Int) a0 a1 a2 (0 : Int) (0 : Int) (0 : Int)))
   (.ite (decide (a0 = (3 : Int)))
    (.ite (decide (a0 = (3 : Int)))
     (.jump (.c14 (0 : Int) (0 : Int) (0 : Int) (0 : Int) (0 : Int) (0 : Int) a0 (0 : Int) (0 : Int) a3 a4 a5))
     (.ite (decide (a0 = (5 : Int)))
      (.jump (.c14 (0 : Int) (0 : Int) (0 : Int) (0 : Int) (0 : Int) (0 : Int) a0 (0 : Int) a2 (0 : Int) (0 : Int) (0 : Int)))
      (.jump (.c14 (0 : Int) (0 : Int) (0 : Int) (0 : Int) (0 : Int) (0 : Int) a0 (0 : Int) (0 : Int) (0 : Int) (0 : Int) (0 : Int)))))
    (.ite (decide (a0 = (4 : Int)))
     (.jump (.c14 (0 : Int) (0 : Int) (0 : Int) (0 : Int) (0 : Int) (0 : Int) a0 (0 : Int) (0 : Int) a3 a4 a5))
     (.ite (decide (a0 = (5 : Int)))
      (.jump (.c14 (0 : Int) (0 : Int) (0 : Int) (0 : Int) (0 : Int) (0 : Int) a0 (0 : Int) a2 (0 : Int) (0 : Int) (0 : Int)))
      (.jump (.c14 (0 : Int) (0 : Int) (0 : Int) (0 : Int) (0 : Int) (0 : Int) a0 (0 : Int) (0 : Int) (0 : Int) (0 : Int) (0 : Int)))))))
def spec_l04Plain.tree : spec_l04Plain.X → Tr spec_l04Plain.X spec_l04Plain.A
 | .c14 x0 x1 x2 x3 x4 x5 x6 x7 x8 x9 x10 x11 =>
 .ret (x6, x7, x8, x9, x10, x11)
def spec_l04Plain.f (a0 : Int) (a1 : Int) (a2 : Int) (a3 : Int) (a4 : Int) (a5 : Int) : Option spec_l04Plain.A := (spec_l04Plain.begin a0 a1 a2 a3 a4 a5).run (lp spec_l04Plain.tree)
def spec_l04Plain.Q : Plan C := { PL with cuts := [(14, [2, 3])], ords := [], weak := [] }
theorem spec_l04Plain.e (J : Nat → St C → Prop) (K : PV U → List (PV U) → Prop) (x : spec_l04Plain.X) : Tr.sem (fun x => J (spec_l04Plain.id x) (spec_l04Plain.st x)) (fun r => K (spec_l04Plain.v r) (spec_l04Plain.o r)) (spec_l04Plain.tree x) = evCut C spec_l04Plain.Q (SoundCall Try.prog C) J Try.f102 0 (spec_l04Plain.id x) (spec_l04Plain.st x) K := by cases x <;> kernel_rfl
theorem spec_l04Plain.b (a0 : Int) (a1 : Int) (a2 : Int) (a3 : Int) (a4 : Int) (a5 : Int) (J : Nat → St C → Prop) (K : PV U → List (PV U) → Prop) : Tr.sem (fun x => J (spec_l04Plain.id x) (spec_l04Plain.st x)) (fun r => K (spec_l04Plain.v r) (spec_l04Plain.o r)) (spec_l04Plain.begin a0 a1 a2 a3 a4 a5) = evFn C spec_l04Plain.Q (SoundCall Try.prog C) J Try.f102 (spec_l04Plain.S a0 a1 a2 a3 a4 a5) 0 K := by kernel_rfl
def spec_l04Plain.told (a0 : Int) (a1 : Int) (a2 : Int) (a3 : Int) (a4 : Int) (a5 : Int) : YtmdgdcjkbggkmaaEv.Told spec_l04Plain.A := ⟨spec_l04Plain.f a0 a1 a2 a3 a4 a5, fun r => SoundCall Try.prog C 102 (spec_l04Plain.S a0 a1 a2 a3 a4 a5) 0 (spec_l04Plain.v r) (spec_l04Plain.o r), fun r h =>
 soundCall_of_tree G mixed spec_l04Plain.Q Try.func102 rfl (of_decide_eq_true (by kernel_rfl)) (by rfl) spec_l04Plain.id spec_l04Plain.st spec_l04Plain.v spec_l04Plain.o (fun _ => rfl) spec_l04Plain.tree (fun J K x => spec_l04Plain.e J K x) (spec_l04Plain.begin a0 a1 a2 a3 a4 a5) (fun J K => spec_l04Plain.b a0 a1 a2 a3 a4 a5 J K) h⟩
/-! #### loop.example/g00983/spec.OperandOk (86) -/
def spec_OperandOk.S (a0 : Int) : List (PV U) := YtmdgdcjkbggkmaaEv.start C 5 [.int .i64 a0] []
abbrev spec_OperandOk.X := Empty
def spec_OperandOk.id : spec_OperandOk.X → Nat := fun _ => 0
def spec_OperandOk.st : spec_OperandOk.X → List (PV U) := fun _ => []
def spec_OperandOk.begin (a0 : Int) : Tr spec_OperandOk.X spec_OperandOk.A :=
 .call (spec_l01In.told a0 (-8 : Int) (999 : Int)) fun t1 => .ret t1
def spec_OperandOk.tree : spec_OperandOk.X → Tr spec_OperandOk.X spec_OperandOk.A := fun _ => .fail
def spec_OperandOk.f (a0 : Int) : Option spec_OperandOk.A := (spec_OperandOk.begin a0).run (lp spec_OperandOk.tree)
def spec_OperandOk.Q : Plan C := { PL with cuts := [], ords := [], weak := [] }
theorem spec_OperandOk.e (J : Nat → St C → Prop) (K : PV U → List (PV U) → Prop) (x : spec_OperandOk.X) : Tr.sem (fun x => J (spec_OperandOk.id x) (spec_OperandOk.st x)) (fun r => K (spec_OperandOk.v r) (spec_OperandOk.o r)) (spec_OperandOk.tree x) = evCut C spec_OperandOk.Q (SoundCall Try.prog C) J Try.f86 0 (spec_OperandOk.id x) (spec_OperandOk.st x) K := by cases x
theorem spec_OperandOk.b (a0 : Int) (J : Nat → St C → Prop) (K : PV U → List (PV U) → Prop) : Tr.sem (fun x => J (spec_OperandOk.id x) (spec_OperandOk.st x)) (fun r => K (spec_OperandOk.v r) (spec_OperandOk.o r)) (spec_OperandOk.begin a0) = evFn C spec_OperandOk.Q (SoundCall Try.prog C) J Try.f86 (spec_OperandOk.S a0) 0 K := by kernel_rfl
def spec_OperandOk.told (a0 : Int) : YtmdgdcjkbggkmaaEv.Told spec_OperandOk.A := ⟨spec_OperandOk.f a0, fun r => SoundCall Try.prog C 86 (spec_OperandOk.S a0) 0 (spec_OperandOk.v r) (spec_OperandOk.o r), fun r h =>
 soundCall_of_tree G mixed spec_OperandOk.Q Try.func86 rfl (of_decide_eq_true (by kernel_rfl)) (by rfl) spec_OperandOk.id spec_OperandOk.st spec_OperandOk.v spec_OperandOk.o (fun _ => rfl) spec_OperandOk.tree (fun J K x => spec_OperandOk.e J K x) (spec_OperandOk.begin a0) (fun J K => spec_OperandOk.b a0 J K) h⟩
/-! #### loop.example/g00983/spec.ExprOk (55) -/
def spec_ExprOk.S (a0 : Int) (a1 : Int) (a2 : Int) : List (PV U) := YtmdgdcjkbggkmaaEv.start C 16 [.agg [.int .i64 a0, .int .i64 a1, .int .i64 a2]] []
abbrev spec_ExprOk.X := Empty
def spec_ExprOk.id : spec_ExprOk.X → Nat := fun _ => 0
def spec_ExprOk.st : spec_ExprOk.X → List (PV U) := fun _ => []
def spec_ExprOk.begin (a0 : Int) (a1 : Int) (a2 : Int) : Tr spec_ExprOk.X spec_ExprOk.A :=
 .call (spec_l01In.told a0 (1 : Int) (7 : Int)) fun t1 => .ite t1
  (.call (spec_OperandOk.told a1) fun t2 => .ite t2
   (.call (spec_OperandOk.told a2) fun t3 => .ret t3)
   (.ret false))
  (.ret false)
def spec_ExprOk.tree : spec_ExprOk.X → Tr spec_ExprOk.X spec_ExprOk.A := fun _ => .fail
def spec_ExprOk.f (a0 : Int) (a1 : Int) (a2 : Int) : Option spec_ExprOk.A := (spec_ExprOk.begin a0 a1 a2).run (lp spec_ExprOk.tree)
def spec_ExprOk.Q : Plan C := { PL with cuts := [], ords := [], weak := [] }
theorem spec_ExprOk.e (J : Nat → St C → Prop) (K : PV U → List (PV U) → Prop) (x : spec_ExprOk.X) : Tr.sem (fun x => J (spec_ExprOk.id x) (spec_ExprOk.st x)) (fun r => K (spec_ExprOk.v r) (spec_ExprOk.o r)) (spec_ExprOk.tree x) = evCut C spec_ExprOk.Q (SoundCall Try.prog C) J Try.f55 0 (spec_ExprOk.id x) (spec_ExprOk.st x) K := by cases x
theorem spec_ExprOk.b (a0 : Int) (a1 : Int) (a2 : Int) (J : Nat → St C → Prop) (K : PV U → List (PV U) → Prop) : Tr.sem (fun x => J (spec_ExprOk.id x) (spec_ExprOk.st x)) (fun r => K (spec_ExprOk.v r) (spec_ExprOk.o r)) (spec_ExprOk.begin a0 a1 a2) = evFn C spec_ExprOk.Q (SoundCall Try.prog C) J Try.f55 (spec_ExprOk.S a0 a1 a2) 0 K := by kernel_rfl
def spec_ExprOk.told (a0 : Int) (a1 : Int) (a2 : Int) : YtmdgdcjkbggkmaaEv.Told spec_ExprOk.A := ⟨spec_ExprOk.f a0 a1 a2, fun r => SoundCall Try.prog C 55 (spec_ExprOk.S a0 a1 a2) 0 (spec_ExprOk.v r) (spec_ExprOk.o r), fun r h =>
 soundCall_of_tree G mixed spec_ExprOk.Q Try.func55 rfl (of_decide_eq_true (by kernel_rfl)) (by rfl) spec_ExprOk.id spec_ExprOk.st spec_ExprOk.v spec_ExprOk.o (fun _ => rfl) spec_ExprOk.tree (fun J K x => spec_ExprOk.e J K x) (spec_ExprOk.begin a0 a1 a2) (fun J K => spec_ExprOk.b a0 a1 a2 J K) h⟩
/-! #### loop.example/g00983/spec.StmtOk (85) -/
def spec_StmtOk.S (a0 : Int) (a1 : Int) (a2 : Int) (a3 : Int) (a4 : Int) (a5 : Int) : List (PV U) := YtmdgdcjkbggkmaaEv.start C 43 [.agg [.int .i64 a0, .int .i64 a1, .int .i64 a2, .int .i64 a3, .int .i64 a4, .int .i64 a5]] []
abbrev spec_StmtOk.X := Empty
def spec_StmtOk.id : spec_StmtOk.X → Nat := fun _ => 0
def spec_StmtOk.st : spec_StmtOk.X → List (PV U) := fun _ => []
def spec_StmtOk.begin (a0 : Int) (a1 : Int) (a2 : Int) (a3 : Int) (a4 : Int) (a5 : Int) : Tr spec_StmtOk.X spec_StmtOk.A :=
 .last (.call (spec_l04Plain.told a0 a1 a2 a3 a4 a5) fun t1 => .last (.val ((!(decide (a0 = t1.1) && (decide (a1 = t1.2.1) && (decide (a2 = t1.2.2.1) && (decide (a3 = t1.2.2.2.1) && (decide (a4 = t1.2.2.2.2.1) && (decide (a5 = t1.2.2.2.2.2) && true))))))) : Bool) fun v2 => .ite v2
  (.ret false)
  (.ite (decide (a0 = (1 : Int)))
   (.call (spec_l01In.told a1 (0 : Int) (7 : Int)) fun t3 => .ite t3
    (.call (spec_ExprOk.told a3 a4 a5) fun t4 => .ret t4)
    (.ret false))
   (.ite (decide (a0 = (2 : Int)))
    (.call (spec_l01In.told a1 (0 : Int) (7 : Int)) fun t5 => .ite t5
     (.call (spec_l01In.told a2 (0 : Int) (3 : Int)) fun t6 => .ret t6)
     (.ret false))
    (.ite (decide (a0 = (3 : Int)))
     (.ite (decide (a0 = (3 : Int)))
      (.call (spec_ExprOk.told a3 a4 a5) fun t7 => .ret t7)
      (.ite (decide (a0 = (5 : Int)))
       (.call (spec_l01In.told a2 (1 : Int) (5 : Int)) fun t8 => .ret t8)
       (.ret ((decide (a0 = (6 : Int)))))))
     (.ite (decide (a0 = (4 : Int)))
      (.call (spec_ExprOk.told a3 a4 a5) fun t9 => .ret t9)
      (.ite (decide (a0 = (5 : Int)))
       (.call (spec_l01In.told a2 (1 : Int) (5 : Int)) fun t10 => .ret t10)
       (.ret ((decide (a0 = (6 : Int))))))))))))
def spec_StmtOk.tree : spec_StmtOk.X → Tr spec_StmtOk.X spec_StmtOk.A := fun _ => .fail
def spec_StmtOk.f (a0 : Int) (a1 : Int) (a2 : Int) (a3 : Int) (a4 : Int) (a5 : Int) : Option spec_StmtOk.A := (spec_StmtOk.begin a0 a1 a2 a3 a4 a5).run (lp spec_StmtOk.tree)
def spec_StmtOk.Q : Plan C := { PL with cuts := [], ords := [(1, [], (.take 0 [1, 2] (.take 1 [0] (.alt 2 (.alt 3 .done .nil) .nil))))], weak := [] }
theorem spec_StmtOk.e (J : Nat → St C → Prop) (K : PV U → List (PV U) → Prop) (x : spec_StmtOk.X) : Tr.sem (fun x => J (spec_StmtOk.id x) (spec_StmtOk.st x)) (fun r => K (spec_StmtOk.v r) (spec_StmtOk.o r)) (spec_StmtOk.tree x) = evCut C spec_StmtOk.Q (SoundCall Try.prog C) J Try.f85 0 (spec_StmtOk.id x) (spec_StmtOk.st x) K := by cases x
theorem spec_StmtOk.b (a0 : Int) (a1 : Int) (a2 : Int) (a3 : Int) (a4 : Int) (a5 : Int) (J : Nat → St C → Prop) (K : PV U → List (PV U) → Prop) : Tr.sem (fun x => J (spec_StmtOk.id x) (spec_StmtOk.st x)) (fun r => K (spec_StmtOk.v r) (spec_StmtOk.o r)) (spec_StmtOk.begin a0 a1 a2 a3 a4 a5) = evFn C spec_StmtOk.Q (SoundCall Try.prog C) J Try.f85 (spec_StmtOk.S a0 a1 a2 a3 a4 a5) 0 K := by kernel_rfl
def spec_StmtOk.told (a0 : Int) (a1 : Int) (a2 : Int) (a3 : Int) (a4 : Int) (a5 : Int) : YtmdgdcjkbggkmaaEv.Told spec_StmtOk.A := ⟨spec_StmtOk.f a0 a1 a2 a3 a4 a5, fun r => SoundCall Try.prog C 85 (spec_StmtOk.S a0 a1 a2 a3 a4 a5) 0 (spec_StmtOk.v r) (spec_StmtOk.o r), fun r h =>
 soundCall_of_tree G mixed spec_StmtOk.Q Try.func85 rfl (of_decide_eq_true (by kernel_rfl)) (by rfl) spec_StmtOk.id spec_StmtOk.st spec_StmtOk.v spec_StmtOk.o (fun _ => rfl) spec_StmtOk.tree (fun J K x => spec_StmtOk.e J K x) (spec_StmtOk.begin a0 a1 a2 a3 a4 a5) (fun J K => spec_StmtOk.b a0 a1 a2 a3 a4 a5 J K) h⟩
/-! #### loop.example/g00983/spec.BlockOk (54) -/
def spec_BlockOk.S (a0 : List S113) : List (PV U) := YtmdgdcjkbggkmaaEv.start C 41 [.sl 114 a0] []
inductive spec_BlockOk.X where
 | c3 (x0 : List S113) (x1 : Int) (x2 : Int)
def spec_BlockOk.id : spec_BlockOk.X → Nat
 | .c3 .. => 3
def spec_BlockOk.st : spec_BlockOk.X → List (PV U)
 | .c3 x0 x1 x2 => stOf 41 [(0, .sl 114 x0), (3, .int .i64 x1), (4, .int .i64 x2)]
def spec_BlockOk.begin (a0 : List S113) : Tr spec_BlockOk.X spec_BlockOk.A :=
 .jump (.c3 a0 (0 : Int) (0 : Int))
def spec_BlockOk.tree : spec_BlockOk.X → Tr spec_BlockOk.X spec_BlockOk.A
 | .c3 x0 x1 x2 =>
 .ite (decide (x2 < (List.length x0 : Int)))
  (.need ((0 : Int) ≤ x2 ∧ x2 < (List.length x0 : Int)) (.call (spec_StmtOk.told ((rdS113 x0 x2).f0) ((rdS113 x0 x2).f1) ((rdS113 x0 x2).f2) ((rdS113 x0 x2).f3.f0) ((rdS113 x0 x2).f3.f1) ((rdS113 x0 x2).f3.f2)) fun t1 => .ite (!t1)
   (.ret false)
   (.need ((0 : Int) ≤ x2 ∧ x2 < (List.length x0 : Int)) (.ite (decide ((rdS113 x0 x2).f0 = (4 : Int)))
    (.ite (decide ((rdS113 x0 x2).f0 = (4 : Int)))
     (.call (spec_l01In.told (wr (x1 + (1 : Int))) (0 : Int) (3 : Int)) fun t2 => .ite (!t2)
      (.ret false)
      (.jump (.c3 x0 (wr (x1 + (1 : Int))) (wr (x2 + (1 : Int))))))
     (.ite (decide ((rdS113 x0 x2).f0 = (6 : Int)))
      (.call (spec_l01In.told (wr (x1 - (1 : Int))) (0 : Int) (3 : Int)) fun t3 => .ite (!t3)
       (.ret false)
       (.jump (.c3 x0 (wr (x1 - (1 : Int))) (wr (x2 + (1 : Int))))))
      (.call (spec_l01In.told x1 (0 : Int) (3 : Int)) fun t4 => .ite (!t4)
       (.ret false)
       (.jump (.c3 x0 x1 (wr (x2 + (1 : Int))))))))
    (.ite (decide ((rdS113 x0 x2).f0 = (5 : Int)))
     (.call (spec_l01In.told (wr (x1 + (1 : Int))) (0 : Int) (3 : Int)) fun t5 => .ite (!t5)
      (.ret false)
      (.jump (.c3 x0 (wr (x1 + (1 : Int))) (wr (x2 + (1 : Int))))))
     (.ite (decide ((rdS113 x0 x2).f0 = (6 : Int)))
      (.call (spec_l01In.told (wr (x1 - (1 : Int))) (0 : Int) (3 : Int)) fun t6 => .ite (!t6)
       (.ret false)
       (.jump (.c3 x0 (wr (x1 - (1 : Int))) (wr (x2 + (1 : Int))))))
      (.call (spec_l01In.told x1 (0 : Int) (3 : Int)) fun t7 => .ite (!t7)
       (.ret false)
       (.jump (.c3 x0 x1 (wr (x2 + (1 : Int))))))))))))
  (.ite (decide (x1 = (0 : Int)))
   (.ret ((decide ((List.length x0 : Int) ≤ (24 : Int)))))
   (.ret false))
def spec_BlockOk.f (a0 : List S113) : Option spec_BlockOk.A := (spec_BlockOk.begin a0).run (lp spec_BlockOk.tree)
def spec_BlockOk.Q : Plan C := { PL with cuts := [(3, [0, 3, 4, 37, 38, 39])], ords := [], weak := [] }
theorem spec_BlockOk.e (J : Nat → St C → Prop) (K : PV U → List (PV U) → Prop) (x : spec_BlockOk.X) : Tr.sem (fun x => J (spec_BlockOk.id x) (spec_BlockOk.st x)) (fun r => K (spec_BlockOk.v r) (spec_BlockOk.o r)) (spec_BlockOk.tree x) = evCut C spec_BlockOk.Q (SoundCall Try.prog C) J Try.f54 0 (spec_BlockOk.id x) (spec_BlockOk.st x) K := by cases x <;> kernel_rfl
theorem spec_BlockOk.b (a0 : List S113) (J : Nat → St C → Prop) (K : PV U → List (PV U) → Prop) : Tr.sem (fun x => J (spec_BlockOk.id x) (spec_BlockOk.st x)) (fun r => K (spec_BlockOk.v r) (spec_BlockOk.o r)) (spec_BlockOk.begin a0) = evFn C spec_BlockOk.Q (SoundCall Try.prog C) J Try.f54 (spec_BlockOk.S a0) 0 K := by kernel_rfl
def spec_BlockOk.told (a0 : List S113) : YtmdgdcjkbggkmaaEv.Told spec_BlockOk.A := ⟨spec_BlockOk.f a0, fun r => SoundCall Try.prog C 54 (spec_BlockOk.S a0) 0 (spec_BlockOk.v r) (spec_BlockOk.o r), fun r h =>
 soundCall_of_tree G mixed spec_BlockOk.Q Try.func54 rfl (of_decide_eq_true (by kernel_rfl)) (by rfl) spec_BlockOk.id spec_BlockOk.st spec_BlockOk.v spec_BlockOk.o (fun _ => rfl) spec_BlockOk.tree (fun J K x => spec_BlockOk.e J K x) (spec_BlockOk.begin a0) (fun J K => spec_BlockOk.b a0 J K) h⟩
/-! #### loop.example/g00983/spec.ProgramOk (25) -/
def spec_ProgramOk.S (a0 : List S90) : List (PV U) := YtmdgdcjkbggkmaaEv.start C 33 [.agg [.sl 91 a0]] []
inductive spec_ProgramOk.X where
 | c2 (x0 : List S90) (x1 : Int)
def spec_ProgramOk.id : spec_ProgramOk.X → Nat
 | .c2 .. => 2
def spec_ProgramOk.st : spec_ProgramOk.X → List (PV U)
 | .c2 x0 x1 => stOf 33 [(1, .box [.sl 91 x0]), (3, .int .i64 x1)]
def spec_ProgramOk.begin (a0 : List S90) : Tr spec_ProgramOk.X spec_ProgramOk.A :=
 .jump (.c2 a0 (0 : Int))
def spec_ProgramOk.tree : spec_ProgramOk.X → Tr spec_ProgramOk.X spec_ProgramOk.A
 | .c2 x0 x1 =>
 .ite (decide (x1 < (List.length x0 : Int)))
  (.need ((0 : Int) ≤ x1 ∧ x1 < (List.length x0 : Int)) (.call (spec_BlockOk.told ((rdS90 x0 x1).f0)) fun t1 => .ite (!t1)
   (.ret false)
   (.need ((0 : Int) ≤ x1 ∧ x1 < (List.length x0 : Int)) (.call (spec_ExprOk.told ((rdS90 x0 x1).f1.f0) ((rdS90 x0 x1).f1.f1) ((rdS90 x0 x1).f1.f2)) fun t2 => .ite (!t2)
    (.ret false)
    (.jump (.c2 x0 (wr (x1 + (1 : Int)))))))))
  (.call (spec_l01In.told (List.length x0 : Int) (1 : Int) (6 : Int)) fun t3 => .ret t3)
def spec_ProgramOk.f (a0 : List S90) : Option spec_ProgramOk.A := (spec_ProgramOk.begin a0).run (lp spec_ProgramOk.tree)
def spec_ProgramOk.Q : Plan C := { PL with cuts := [(2, [1, 3])], ords := [], weak := [] }
theorem spec_ProgramOk.e (J : Nat → St C → Prop) (K : PV U → List (PV U) → Prop) (x : spec_ProgramOk.X) : Tr.sem (fun x => J (spec_ProgramOk.id x) (spec_ProgramOk.st x)) (fun r => K (spec_ProgramOk.v r) (spec_ProgramOk.o r)) (spec_ProgramOk.tree x) = evCut C spec_ProgramOk.Q (SoundCall Try.prog C) J Try.f25 0 (spec_ProgramOk.id x) (spec_ProgramOk.st x) K := by cases x <;> kernel_rfl
theorem spec_ProgramOk.b (a0 : List S90) (J : Nat → St C → Prop) (K : PV U → List (PV U) → Prop) : Tr.sem (fun x => J (spec_ProgramOk.id x) (spec_ProgramOk.st x)) (fun r => K (spec_ProgramOk.v r) (spec_ProgramOk.o r)) (spec_ProgramOk.begin a0) = evFn C spec_ProgramOk.Q (SoundCall Try.prog C) J Try.f25 (spec_ProgramOk.S a0) 0 K := by kernel_rfl
def spec_ProgramOk.told (a0 : List S90) : YtmdgdcjkbggkmaaEv.Told spec_ProgramOk.A := ⟨spec_ProgramOk.f a0, fun r => SoundCall Try.prog C 25 (spec_ProgramOk.S a0) 0 (spec_ProgramOk.v r) (spec_ProgramOk.o r), fun r h =>
 soundCall_of_tree G mixed spec_ProgramOk.Q Try.func25 rfl (of_decide_eq_true (by kernel_rfl)) (by rfl) spec_ProgramOk.id spec_ProgramOk.st spec_ProgramOk.v spec_ProgramOk.o (fun _ => rfl) spec_ProgramOk.tree (fun J K x => spec_ProgramOk.e J K x) (spec_ProgramOk.begin a0) (fun J K => spec_ProgramOk.b a0 J K) h⟩
/-! #### loop.example/g00983/spec.StoreOk (26) -/
def spec_StoreOk.S (a0 : Int) (a1 : Int) (a2 : Int) (a3 : Int) : List (PV U) := YtmdgdcjkbggkmaaEv.start C 25 [.agg [.int .i64 a0, .int .i64 a1, .int .i64 a2, .int .i64 a3]] []
abbrev spec_StoreOk.X := Empty
def spec_StoreOk.id : spec_StoreOk.X → Nat := fun _ => 0
def spec_StoreOk.st : spec_StoreOk.X → List (PV U) := fun _ => []
def spec_StoreOk.begin (a0 : Int) (a1 : Int) (a2 : Int) (a3 : Int) : Tr spec_StoreOk.X spec_StoreOk.A :=
 .call (spec_l01In.told a1 (1 : Int) (5000 : Int)) fun t1 => .ite t1
  (.call (spec_l01In.told a0 (0 : Int) a1) fun t2 => .ite t2
   (.call (spec_l01In.told a2 (1 : Int) a1) fun t3 => .ite t3
    (.call (spec_l01In.told a3 (0 : Int) (100 : Int)) fun t4 => .ret t4)
    (.ret false))
   (.ret false))
  (.ret false)
def spec_StoreOk.tree : spec_StoreOk.X → Tr spec_StoreOk.X spec_StoreOk.A := fun _ => .fail
def spec_StoreOk.f (a0 : Int) (a1 : Int) (a2 : Int) (a3 : Int) : Option spec_StoreOk.A := (spec_StoreOk.begin a0 a1 a2 a3).run (lp spec_StoreOk.tree)
def spec_StoreOk.Q : Plan C := { PL with cuts := [], ords := [], weak := [] }
theorem spec_StoreOk.e (J : Nat → St C → Prop) (K : PV U → List (PV U) → Prop) (x : spec_StoreOk.X) : Tr.sem (fun x => J (spec_StoreOk.id x) (spec_StoreOk.st x)) (fun r => K (spec_StoreOk.v r) (spec_StoreOk.o r)) (spec_StoreOk.tree x) = evCut C spec_StoreOk.Q (SoundCall Try.prog C) J Try.f26 0 (spec_StoreOk.id x) (spec_StoreOk.st x) K := by cases x
theorem spec_StoreOk.b (a0 : Int) (a1 : Int) (a2 : Int) (a3 : Int) (J : Nat → St C → Prop) (K : PV U → List (PV U) → Prop) : Tr.sem (fun x => J (spec_StoreOk.id x) (spec_StoreOk.st x)) (fun r => K (spec_StoreOk.v r) (spec_StoreOk.o r)) (spec_StoreOk.begin a0 a1 a2 a3) = evFn C spec_StoreOk.Q (SoundCall Try.prog C) J Try.f26 (spec_StoreOk.S a0 a1 a2 a3) 0 K := by kernel_rfl
def spec_StoreOk.told (a0 : Int) (a1 : Int) (a2 : Int) (a3 : Int) : YtmdgdcjkbggkmaaEv.Told spec_StoreOk.A := ⟨spec_StoreOk.f a0 a1 a2 a3, fun r => SoundCall Try.prog C 26 (spec_StoreOk.S a0 a1 a2 a3) 0 (spec_StoreOk.v r) (spec_StoreOk.o r), fun r h =>
 soundCall_of_tree G mixed spec_StoreOk.Q Try.func26 rfl (of_decide_eq_true (by kernel_rfl)) (by rfl) spec_StoreOk.id spec_StoreOk.st spec_StoreOk.v spec_StoreOk.o (fun _ => rfl) spec_StoreOk.tree (fun J K x => spec_StoreOk.e J K x) (spec_StoreOk.begin a0 a1 a2 a3) (fun J K => spec_StoreOk.b a0 a1 a2 a3 J K) h⟩
/-! #### loop.example/g00983/spec.l09Values (27) -/
def spec_l09Values.S (a0 : List Int) : List (PV U) := YtmdgdcjkbggkmaaEv.start C 16 [.sl 3 a0] []
inductive spec_l09Values.X where
 | c2 (x0 : List Int) (x1 : Int)
def spec_l09Values.id : spec_l09Values.X → Nat
 | .c2 .. => 2
def spec_l09Values.st : spec_l09Values.X → List (PV U)
 | .c2 x0 x1 => stOf 16 [(0, .sl 3 x0), (3, .int .i64 x1)]
def spec_l09Values.begin (a0 : List Int) : Tr spec_l09Values.X spec_l09Values.A :=
 .jump (.c2 a0 (0 : Int))
def spec_l09Values.tree : spec_l09Values.X → Tr spec_l09Values.X spec_l09Values.A
 | .c2 x0 x1 =>
 .ite (decide (x1 < (List.length x0 : Int)))
  (.need ((0 : Int) ≤ x1 ∧ x1 < (List.length x0 : Int)) (.call (spec_IsValue.told (rdI x0 x1)) fun t1 => .ite (!t1)
   (.ret false)
   (.jump (.c2 x0 (wr (x1 + (1 : Int)))))))
  (.ret true)
def spec_l09Values.f (a0 : List Int) : Option spec_l09Values.A := (spec_l09Values.begin a0).run (lp spec_l09Values.tree)
def spec_l09Values.Q : Plan C := { PL with cuts := [(2, [0, 3])], ords := [], weak := [] }
theorem spec_l09Values.e (J : Nat → St C → Prop) (K : PV U → List (PV U) → Prop) (x : spec_l09Values.X) : Tr.sem (fun x => J (spec_l09Values.id x) (spec_l09Values.st x)) (fun r => K (spec_l09Values.v r) (spec_l09Values.o r)) (spec_l09Values.tree x) = evCut C spec_l09Values.Q (SoundCall Try.prog C) J Try.f27 0 (spec_l09Values.id x) (spec_l09Values.st x) K := by cases x <;> kernel_rfl
theorem spec_l09Values.b (a0 : List Int) (J : Nat → St C → Prop) (K : PV U → List (PV U) → Prop) : Tr.sem (fun x => J (spec_l09Values.id x) (spec_l09Values.st x)) (fun r => K (spec_l09Values.v r) (spec_l09Values.o r)) (spec_l09Values.begin a0) = evFn C spec_l09Values.Q (SoundCall Try.prog C) J Try.f27 (spec_l09Values.S a0) 0 K := by kernel_rfl
def spec_l09Values.told (a0 : List Int) : YtmdgdcjkbggkmaaEv.Told spec_l09Values.A := ⟨spec_l09Values.f a0, fun r => SoundCall Try.prog C 27 (spec_l09Values.S a0) 0 (spec_l09Values.v r) (spec_l09Values.o r), fun r h =>
 soundCall_of_tree G mixed spec_l09Values.Q Try.func27 rfl (of_decide_eq_true (by kernel_rfl)) (by rfl) spec_l09Values.id spec_l09Values.st spec_l09Values.v spec_l09Values.o (fun _ => rfl) spec_l09Values.tree (fun J K x => spec_l09Values.e J K x) (spec_l09Values.begin a0) (fun J K => spec_l09Values.b a0 J K) h⟩
/-! #### loop.example/g00983/spec.l06Copy (28) -/
def spec_l06Copy.S (a0 : List S90) : List (PV U) := YtmdgdcjkbggkmaaEv.start C 34 [.agg [.sl 91 a0]] []
inductive spec_l06Copy.X where
 | c3 (x0 : List S90) (x1 : List S90) (x2 : List S90) (x3 : Int)
 | c4 (x0 : List S90) (x1 : List S90) (x2 : List S90) (x3 : Int)
def spec_l06Copy.id : spec_l06Copy.X → Nat
 | .c3 .. => 3
 | .c4 .. => 4
def spec_l06Copy.st : spec_l06Copy.X → List (PV U)
 | .c3 x0 x1 x2 x3 => stOf 34 [(1, .box [.sl 91 x0]), (2, .box [.own true 91 x1]), (3, .box [.own true 91 x2]), (4, .int .i64 x3)]
 | .c4 x0 x1 x2 x3 => stOf 34 [(1, .box [.sl 91 x0]), (2, .box [.own true 91 x1]), (3, .box [.own true 91 x2]), (4, .int .i64 x3)]
def spec_l06Copy.begin (a0 : List S90) : Tr spec_l06Copy.X spec_l06Copy.A :=
 .jump (.c3 a0 ([] : List S90) ([] : List S90) (0 : Int))
def spec_l06Copy.tree : spec_l06Copy.X → Tr spec_l06Copy.X spec_l06Copy.A
 | .c3 x0 x1 x2 x3 =>
 .ite (decide (x3 < (List.length x0 : Int)))
  (.need ((0 : Int) ≤ x3 ∧ x3 < (List.length x0 : Int)) (.both (.both (.both (.need (((List.length ([] : List S113) : Int) + (List.length ((rdS90 x0 x3).f0) : Int)) * (48 : Nat) ≤ room) (.need ((0 : Int) ≤ x3 ∧ x3 < (List.length x0 : Int)) (.last (.last (.val ([(⟨(([] : List S113) ++ (rdS90 x0 x3).f0), (⟨(rdS90 x0 x3).f1.f0, (rdS90 x0 x3).f1.f1, (rdS90 x0 x3).f1.f2⟩ : S83)⟩ : S90)] : List S90) fun v1 => .last (.need (((List.length x2 : Int) + (List.length v1 : Int)) * (48 : Nat) ≤ room) (.last (.jump (.c4 x0 x1 (x2 ++ v1) x3)))))))))
     (.last (.need ((0 : Int) ≤ x3 ∧ x3 < (List.length x0 : Int)) (.both (.need (((List.length ([] : List S113) : Int) + (List.length ((rdS90 x0 x3).f0) : Int)) * (48 : Nat) ≤ room) (.last (.last (.val ([(⟨(([] : List S113) ++ (rdS90 x0 x3).f0), (⟨(rdS90 x0 x3).f1.f0, (rdS90 x0 x3).f1.f1, (rdS90 x0 x3).f1.f2⟩ : S83)⟩ : S90)] : List S90) fun v2 => .last (.need (((List.length x2 : Int) + (List.length v2 : Int)) * (48 : Nat) ≤ room) (.last (.jump (.c4 x0 x1 (x2 ++ v2) x3))))))))
      (.last (.last (.need (((List.length ([] : List S113) : Int) + (List.length ((rdS90 x0 x3).f0) : Int)) * (48 : Nat) ≤ room) (.last (.last (.val ([(⟨(([] : List S113) ++ (rdS90 x0 x3).f0), (⟨(rdS90 x0 x3).f1.f0, (rdS90 x0 x3).f1.f1, (rdS90 x0 x3).f1.f2⟩ : S83)⟩ : S90)] : List S90) fun v3 => .last (.need (((List.length x2 : Int) + (List.length v3 : Int)) * (48 : Nat) ≤ room) (.last (.jump (.c4 x0 x1 (x2 ++ v3) x3))))))))))))))
    (.last (.need ((0 : Int) ≤ x3 ∧ x3 < (List.length x0 : Int)) (.both (.both (.need (((List.length ([] : List S113) : Int) + (List.length ((rdS90 x0 x3).f0) : Int)) * (48 : Nat) ≤ room) (.last (.last (.val ([(⟨(([] : List S113) ++ (rdS90 x0 x3).f0), (⟨(rdS90 x0 x3).f1.f0, (rdS90 x0 x3).f1.f1, (rdS90 x0 x3).f1.f2⟩ : S83)⟩ : S90)] : List S90) fun v4 => .last (.need (((List.length x2 : Int) + (List.length v4 : Int)) * (48 : Nat) ≤ room) (.last (.jump (.c4 x0 x1 (x2 ++ v4) x3))))))))
      (.last (.last (.need (((List.length ([] : List S113) : Int) + (List.length ((rdS90 x0 x3).f0) : Int)) * (48 : Nat) ≤ room) (.last (.last (.val ([(⟨(([] : List S113) ++ (rdS90 x0 x3).f0), (⟨(rdS90 x0 x3).f1.f0, (rdS90 x0 x3).f1.f1, (rdS90 x0 x3).f1.f2⟩ : S83)⟩ : S90)] : List S90) fun v5 => .last (.need (((List.length x2 : Int) + (List.length v5 : Int)) * (48 : Nat) ≤ room) (.last (.jump (.c4 x0 x1 (x2 ++ v5) x3)))))))))))
     (.last (.last (.last (.need (((List.length ([] : List S113) : Int) + (List.length ((rdS90 x0 x3).f0) : Int)) * (48 : Nat) ≤ room) (.last (.last (.val ([(⟨(([] : List S113) ++ (rdS90 x0 x3).f0), (⟨(rdS90 x0 x3).f1.f0, (rdS90 x0 x3).f1.f1, (rdS90 x0 x3).f1.f2⟩ : S83)⟩ : S90)] : List S90) fun v6 => .last (.need (((List.length x2 : Int) + (List.length v6 : Int)) * (48 : Nat) ≤ room) (.last (.jump (.c4 x0 x1 (x2 ++ v6) x3)))))))))))))))
   (.both (.both (.both (.need (((List.length ([] : List S113) : Int) + (List.length ((rdS90 x0 x3).f0) : Int)) * (48 : Nat) ≤ room) (.need ((0 : Int) ≤ x3 ∧ x3 < (List.length x0 : Int)) (.last (.last (.val ([(⟨(([] : List S113) ++ (rdS90 x0 x3).f0), (⟨(rdS90 x0 x3).f1.f0, (rdS90 x0 x3).f1.f1, (rdS90 x0 x3).f1.f2⟩ : S83)⟩ : S90)] : List S90) fun v7 => .last (.need (((List.length x2 : Int) + (List.length v7 : Int)) * (48 : Nat) ≤ room) (.last (.jump (.c4 x0 x1 (x2 ++ v7) x3)))))))))
      (.last (.need ((0 : Int) ≤ x3 ∧ x3 < (List.length x0 : Int)) (.both (.need (((List.length ([] : List S113) : Int) + (List.length ((rdS90 x0 x3).f0) : Int)) * (48 : Nat) ≤ room) (.last (.last (.val ([(⟨(([] : List S113) ++ (rdS90 x0 x3).f0), (⟨(rdS90 x0 x3).f1.f0, (rdS90 x0 x3).f1.f1, (rdS90 x0 x3).f1.f2⟩ : S83)⟩ : S90)] : List S90) fun v8 => .last (.need (((List.length x2 : Int) + (List.length v8 : Int)) * (48 : Nat) ≤ room) (.last (.jump (.c4 x0 x1 (x2 ++ v8) x3))))))))
       (.last (.last (.need (((List.length ([] : List S113) : Int) + (List.length ((rdS90 x0 x3).f0) : Int)) * (48 : Nat) ≤ room) (.last (.last (.val ([(⟨(([] : List S113) ++ (rdS90 x0 x3).f0), (⟨(rdS90 x0 x3).f1.f0, (rdS90 x0 x3).f1.f1, (rdS90 x0 x3).f1.f2⟩ : S83)⟩ : S90)] : List S90) fun v9 => .last (.need (((List.length x2 : Int) + (List.length v9 : Int)) * (48 : Nat) ≤ room) (.last (.jump (.c4 x0 x1 (x2 ++ v9) x3))))))))))))))
     (.both (.need (((List.length ([] : List S113) : Int) + (List.length ((rdS90 x0 x3).f0) : Int)) * (48 : Nat) ≤ room) (.need ((0 : Int) ≤ x3 ∧ x3 < (List.length x0 : Int)) (.both (.last (.last (.val ([(⟨(([] : List S113) ++ (rdS90 x0 x3).f0), (⟨(rdS90 x0 x3).f1.f0, (rdS90 x0 x3).f1.f1, (rdS90 x0 x3).f1.f2⟩ : S83)⟩ : S90)] : List S90) fun v10 => .last (.need (((List.length x2 : Int) + (List.length v10 : Int)) * (48 : Nat) ≤ room) (.last (.jump (.c4 x0 x1 (x2 ++ v10) x3)))))))
       (.last (.both (.last (.val ([(⟨(([] : List S113) ++ (rdS90 x0 x3).f0), (⟨(rdS90 x0 x3).f1.f0, (rdS90 x0 x3).f1.f1, (rdS90 x0 x3).f1.f2⟩ : S83)⟩ : S90)] : List S90) fun v11 => .last (.need (((List.length x2 : Int) + (List.length v11 : Int)) * (48 : Nat) ≤ room) (.last (.jump (.c4 x0 x1 (x2 ++ v11) x3))))))
        (.last (.val ([(⟨(([] : List S113) ++ (rdS90 x0 x3).f0), (⟨(rdS90 x0 x3).f1.f0, (rdS90 x0 x3).f1.f1, (rdS90 x0 x3).f1.f2⟩ : S83)⟩ : S90)] : List S90) fun v12 => .last (.need (((List.length x2 : Int) + (List.length v12 : Int)) * (48 : Nat) ≤ room) (.last (.jump (.c4 x0 x1 (x2 ++ v12) x3)))))))))))
      (.last (.need ((0 : Int) ≤ x3 ∧ x3 < (List.length x0 : Int)) (.both (.both (.need (((List.length ([] : List S113) : Int) + (List.length ((rdS90 x0 x3).f0) : Int)) * (48 : Nat) ≤ room) (.last (.last (.val ([(⟨(([] : List S113) ++ (rdS90 x0 x3).f0), (⟨(rdS90 x0 x3).f1.f0, (rdS90 x0 x3).f1.f1, (rdS90 x0 x3).f1.f2⟩ : S83)⟩ : S90)] : List S90) fun v13 => .last (.need (((List.length x2 : Int) + (List.length v13 : Int)) * (48 : Nat) ≤ room) (.last (.jump (.c4 x0 x1 (x2 ++ v13) x3))))))))
        (.last (.last (.need (((List.length ([] : List S113) : Int) + (List.length ((rdS90 x0 x3).f0) : Int)) * (48 : Nat) ≤ room) (.last (.last (.val ([(⟨(([] : List S113) ++ (rdS90 x0 x3).f0), (⟨(rdS90 x0 x3).f1.f0, (rdS90 x0 x3).f1.f1, (rdS90 x0 x3).f1.f2⟩ : S83)⟩ : S90)] : List S90) fun v14 => .last (.need (((List.length x2 : Int) + (List.length v14 : Int)) * (48 : Nat) ≤ room) (.last (.jump (.c4 x0 x1 (x2 ++ v14) x3)))))))))))
       (.both (.need (((List.length ([] : List S113) : Int) + (List.length ((rdS90 x0 x3).f0) : Int)) * (48 : Nat) ≤ room) (.both (.last (.last (.val ([(⟨(([] : List S113) ++ (rdS90 x0 x3).f0), (⟨(rdS90 x0 x3).f1.f0, (rdS90 x0 x3).f1.f1, (rdS90 x0 x3).f1.f2⟩ : S83)⟩ : S90)] : List S90) fun v15 => .last (.need (((List.length x2 : Int) + (List.length v15 : Int)) * (48 : Nat) ≤ room) (.last (.jump (.c4 x0 x1 (x2 ++ v15) x3)))))))
         (.last (.both (.last (.val ([(⟨(([] : List S113) ++ (rdS90 x0 x3).f0), (⟨(rdS90 x0 x3).f1.f0, (rdS90 x0 x3).f1.f1, (rdS90 x0 x3).f1.f2⟩ : S83)⟩ : S90)] : List S90) fun v16 => .last (.need (((List.length x2 : Int) + (List.length v16 : Int)) * (48 : Nat) ≤ room) (.last (.jump (.c4 x0 x1 (x2 ++ v16) x3))))))
          (.last (.val ([(⟨(([] : List S113) ++ (rdS90 x0 x3).f0), (⟨(rdS90 x0 x3).f1.f0, (rdS90 x0 x3).f1.f1, (rdS90 x0 x3).f1.f2⟩ : S83)⟩ : S90)] : List S90) fun v17 => .last (.need (((List.length x2 : Int) + (List.length v17 : Int)) * (48 : Nat) ≤ room) (.last (.jump (.c4 x0 x1 (x2 ++ v17) x3))))))))))
        (.last (.both (.last (.need (((List.length ([] : List S113) : Int) + (List.length ((rdS90 x0 x3).f0) : Int)) * (48 : Nat) ≤ room) (.last (.last (.val ([(⟨(([] : List S113) ++ (rdS90 x0 x3).f0), (⟨(rdS90 x0 x3).f1.f0, (rdS90 x0 x3).f1.f1, (rdS90 x0 x3).f1.f2⟩ : S83)⟩ : S90)] : List S90) fun v18 => .last (.need (((List.length x2 : Int) + (List.length v18 : Int)) * (48 : Nat) ≤ room) (.last (.jump (.c4 x0 x1 (x2 ++ v18) x3)))))))))
         (.last (.need (((List.length ([] : List S113) : Int) + (List.length ((rdS90 x0 x3).f0) : Int)) * (48 : Nat) ≤ room) (.both (.last (.last (.val ([(⟨(([] : List S113) ++ (rdS90 x0 x3).f0), (⟨(rdS90 x0 x3).f1.f0, (rdS90 x0 x3).f1.f1, (rdS90 x0 x3).f1.f2⟩ : S83)⟩ : S90)] : List S90) fun v19 => .last (.need (((List.length x2 : Int) + (List.length v19 : Int)) * (48 : Nat) ≤ room) (.last (.jump (.c4 x0 x1 (x2 ++ v19) x3)))))))
          (.last (.both (.last (.val ([(⟨(([] : List S113) ++ (rdS90 x0 x3).f0), (⟨(rdS90 x0 x3).f1.f0, (rdS90 x0 x3).f1.f1, (rdS90 x0 x3).f1.f2⟩ : S83)⟩ : S90)] : List S90) fun v20 => .last (.need (((List.length x2 : Int) + (List.length v20 : Int)) * (48 : Nat) ≤ room) (.last (.jump (.c4 x0 x1 (x2 ++ v20) x3))))))
           (.last (.val ([(⟨(([] : List S113) ++ (rdS90 x0 x3).f0), (⟨(rdS90 x0 x3).f1.f0, (rdS90 x0 x3).f1.f1, (rdS90 x0 x3).f1.f2⟩ : S83)⟩ : S90)] : List S90) fun v21 => .last (.need (((List.length x2 : Int) + (List.length v21 : Int)) * (48 : Nat) ≤ room) (.last (.jump (.c4 x0 x1 (x2 ++ v21) x3)))))))))))))))))))
    (.last (.need ((0 : Int) ≤ x3 ∧ x3 < (List.length x0 : Int)) (.both (.both (.both (.need (((List.length ([] : List S113) : Int) + (List.length ((rdS90 x0 x3).f0) : Int)) * (48 : Nat) ≤ room) (.last (.last (.val ([(⟨(([] : List S113) ++ (rdS90 x0 x3).f0), (⟨(rdS90 x0 x3).f1.f0, (rdS90 x0 x3).f1.f1, (rdS90 x0 x3).f1.f2⟩ : S83)⟩ : S90)] : List S90) fun v22 => .last (.need (((List.length x2 : Int) + (List.length v22 : Int)) * (48 : Nat) ≤ room) (.last (.jump (.c4 x0 x1 (x2 ++ v22) x3))))))))
       (.last (.last (.need (((List.length ([] : List S113) : Int) + (List.length ((rdS90 x0 x3).f0) : Int)) * (48 : Nat) ≤ room) (.last (.last (.val ([(⟨(([] : List S113) ++ (rdS90 x0 x3).f0), (⟨(rdS90 x0 x3).f1.f0, (rdS90 x0 x3).f1.f1, (rdS90 x0 x3).f1.f2⟩ : S83)⟩ : S90)] : List S90) fun v23 => .last (.need (((List.length x2 : Int) + (List.length v23 : Int)) * (48 : Nat) ≤ room) (.last (.jump (.c4 x0 x1 (x2 ++ v23) x3)))))))))))
      (.last (.last (.last (.need (((List.length ([] : List S113) : Int) + (List.length ((rdS90 x0 x3).f0) : Int)) * (48 : Nat) ≤ room) (.last (.last (.val ([(⟨(([] : List S113) ++ (rdS90 x0 x3).f0), (⟨(rdS90 x0 x3).f1.f0, (rdS90 x0 x3).f1.f1, (rdS90 x0 x3).f1.f2⟩ : S83)⟩ : S90)] : List S90) fun v24 => .last (.need (((List.length x2 : Int) + (List.length v24 : Int)) * (48 : Nat) ≤ room) (.last (.jump (.c4 x0 x1 (x2 ++ v24) x3))))))))))))
     (.both (.both (.both (.need (((List.length ([] : List S113) : Int) + (List.length ((rdS90 x0 x3).f0) : Int)) * (48 : Nat) ≤ room) (.last (.last (.val ([(⟨(([] : List S113) ++ (rdS90 x0 x3).f0), (⟨(rdS90 x0 x3).f1.f0, (rdS90 x0 x3).f1.f1, (rdS90 x0 x3).f1.f2⟩ : S83)⟩ : S90)] : List S90) fun v25 => .last (.need (((List.length x2 : Int) + (List.length v25 : Int)) * (48 : Nat) ≤ room) (.last (.jump (.c4 x0 x1 (x2 ++ v25) x3))))))))
        (.last (.last (.need (((List.length ([] : List S113) : Int) + (List.length ((rdS90 x0 x3).f0) : Int)) * (48 : Nat) ≤ room) (.last (.last (.val ([(⟨(([] : List S113) ++ (rdS90 x0 x3).f0), (⟨(rdS90 x0 x3).f1.f0, (rdS90 x0 x3).f1.f1, (rdS90 x0 x3).f1.f2⟩ : S83)⟩ : S90)] : List S90) fun v26 => .last (.need (((List.length x2 : Int) + (List.length v26 : Int)) * (48 : Nat) ≤ room) (.last (.jump (.c4 x0 x1 (x2 ++ v26) x3)))))))))))
       (.both (.need (((List.length ([] : List S113) : Int) + (List.length ((rdS90 x0 x3).f0) : Int)) * (48 : Nat) ≤ room) (.both (.last (.last (.val ([(⟨(([] : List S113) ++ (rdS90 x0 x3).f0), (⟨(rdS90 x0 x3).f1.f0, (rdS90 x0 x3).f1.f1, (rdS90 x0 x3).f1.f2⟩ : S83)⟩ : S90)] : List S90) fun v27 => .last (.need (((List.length x2 : Int) + (List.length v27 : Int)) * (48 : Nat) ≤ room) (.last (.jump (.c4 x0 x1 (x2 ++ v27) x3)))))))
         (.last (.both (.last (.val ([(⟨(([] : List S113) ++ (rdS90 x0 x3).f0), (⟨(rdS90 x0 x3).f1.f0, (rdS90 x0 x3).f1.f1, (rdS90 x0 x3).f1.f2⟩ : S83)⟩ : S90)] : List S90) fun v28 => .last (.need (((List.length x2 : Int) + (List.length v28 : Int)) * (48 : Nat) ≤ room) (.last (.jump (.c4 x0 x1 (x2 ++ v28) x3))))))
          (.last (.val ([(⟨(([] : List S113) ++ (rdS90 x0 x3).f0), (⟨(rdS90 x0 x3).f1.f0, (rdS90 x0 x3).f1.f1, (rdS90 x0 x3).f1.f2⟩ : S83)⟩ : S90)] : List S90) fun v29 => .last (.need (((List.length x2 : Int) + (List.length v29 : Int)) * (48 : Nat) ≤ room) (.last (.jump (.c4 x0 x1 (x2 ++ v29) x3))))))))))
        (.last (.both (.last (.need (((List.length ([] : List S113) : Int) + (List.length ((rdS90 x0 x3).f0) : Int)) * (48 : Nat) ≤ room) (.last (.last (.val ([(⟨(([] : List S113) ++ (rdS90 x0 x3).f0), (⟨(rdS90 x0 x3).f1.f0, (rdS90 x0 x3).f1.f1, (rdS90 x0 x3).f1.f2⟩ : S83)⟩ : S90)] : List S90) fun v30 => .last (.need (((List.length x2 : Int) + (List.length v30 : Int)) * (48 : Nat) ≤ room) (.last (.jump (.c4 x0 x1 (x2 ++ v30) x3)))))))))
         (.last (.need (((List.length ([] : List S113) : Int) + (List.length ((rdS90 x0 x3).f0) : Int)) * (48 : Nat) ≤ room) (.both (.last (.last (.val ([(⟨(([] : List S113) ++ (rdS90 x0 x3).f0), (⟨(rdS90 x0 x3).f1.f0, (rdS90 x0 x3).f1.f1, (rdS90 x0 x3).f1.f2⟩ : S83)⟩ : S90)] : List S90) fun v31 => .last (.need (((List.length x2 : Int) + (List.length v31 : Int)) * (48 : Nat) ≤ room) (.last (.jump (.c4 x0 x1 (x2 ++ v31) x3)))))))
          (.last (.both (.last (.val ([(⟨(([] : List S113) ++ (rdS90 x0 x3).f0), (⟨(rdS90 x0 x3).f1.f0, (rdS90 x0 x3).f1.f1, (rdS90 x0 x3).f1.f2⟩ : S83)⟩ : S90)] : List S90) fun v32 => .last (.need (((List.length x2 : Int) + (List.length v32 : Int)) * (48 : Nat) ≤ room) (.last (.jump (.c4 x0 x1 (x2 ++ v32) x3))))))
           (.last (.val ([(⟨(([] : List S113) ++ (rdS90 x0 x3).f0), (⟨(rdS90 x0 x3).f1.f0, (rdS90 x0 x3).f1.f1, (rdS90 x0 x3).f1.f2⟩ : S83)⟩ : S90)] : List S90) fun v33 => .last (.need (((List.length x2 : Int) + (List.length v33 : Int)) * (48 : Nat) ≤ room) (.last (.jump (.c4 x0 x1 (x2 ++ v33) x3)))))))))))))))
      (.last (.both (.last (.last (.need (((List.length ([] : List S113) : Int) + (List.length ((rdS90 x0 x3).f0) : Int)) * (48 : Nat) ≤ room) (.last (.last (.val ([(⟨(([] : List S113) ++ (rdS90 x0 x3).f0), (⟨(rdS90 x0 x3).f1.f0, (rdS90 x0 x3).f1.f1, (rdS90 x0 x3).f1.f2⟩ : S83)⟩ : S90)] : List S90) fun v34 => .last (.need (((List.length x2 : Int) + (List.length v34 : Int)) * (48 : Nat) ≤ room) (.last (.jump (.c4 x0 x1 (x2 ++ v34) x3))))))))))
       (.last (.both (.last (.need (((List.length ([] : List S113) : Int) + (List.length ((rdS90 x0 x3).f0) : Int)) * (48 : Nat) ≤ room) (.last (.last (.val ([(⟨(([] : List S113) ++ (rdS90 x0 x3).f0), (⟨(rdS90 x0 x3).f1.f0, (rdS90 x0 x3).f1.f1, (rdS90 x0 x3).f1.f2⟩ : S83)⟩ : S90)] : List S90) fun v35 => .last (.need (((List.length x2 : Int) + (List.length v35 : Int)) * (48 : Nat) ≤ room) (.last (.jump (.c4 x0 x1 (x2 ++ v35) x3)))))))))
        (.last (.need (((List.length ([] : List S113) : Int) + (List.length ((rdS90 x0 x3).f0) : Int)) * (48 : Nat) ≤ room) (.both (.last (.last (.val ([(⟨(([] : List S113) ++ (rdS90 x0 x3).f0), (⟨(rdS90 x0 x3).f1.f0, (rdS90 x0 x3).f1.f1, (rdS90 x0 x3).f1.f2⟩ : S83)⟩ : S90)] : List S90) fun v36 => .last (.need (((List.length x2 : Int) + (List.length v36 : Int)) * (48 : Nat) ≤ room) (.last (.jump (.c4 x0 x1 (x2 ++ v36) x3)))))))
         (.last (.both (.last (.val ([(⟨(([] : List S113) ++ (rdS90 x0 x3).f0), (⟨(rdS90 x0 x3).f1.f0, (rdS90 x0 x3).f1.f1, (rdS90 x0 x3).f1.f2⟩ : S83)⟩ : S90)] : List S90) fun v37 => .last (.need (((List.length x2 : Int) + (List.length v37 : Int)) * (48 : Nat) ≤ room) (.last (.jump (.c4 x0 x1 (x2 ++ v37) x3))))))
          (.last (.val ([(⟨(([] : List S113) ++ (rdS90 x0 x3).f0), (⟨(rdS90 x0 x3).f1.f0, (rdS90 x0 x3).f1.f1, (rdS90 x0 x3).f1.f2⟩ : S83)⟩ : S90)] : List S90) fun v38 => .last (.need (((List.length x2 : Int) + (List.length v38 : Int)) * (48 : Nat) ≤ room) (.last (.jump (.c4 x0 x1 (x2 ++ v38) x3))))))))))))))))))))))
  (.ret x2)
 | .c4 x0 x1 x2 x3 =>
 .jump (.c3 x0 x1 x2 (wr (x3 + (1 : Int))))
def spec_l06Copy.f (a0 : List S90) : Option spec_l06Copy.A := (spec_l06Copy.begin a0).run (lp spec_l06Copy.tree)
def spec_l06Copy.Q : Plan C := { PL with cuts := [(3, [1, 2, 3, 4]), (4, [1, 2, 3, 4])], ords := [(5, [9, 16, 17, 18, 20], (.take 0 [] (.take 3 [] (.take 5 [] (.take 10 [] (.take 12 [] (.take 4 [0, 1, 2, 3, 5, 10, 11, 12, 13, 14, 15] (.take 6 [] (.take 7 [] (.take 8 [0, 1, 2, 3, 4, 5, 6, 7, 10, 11, 12, 13, 14, 15] (.alt 1 (.alt 2 (.alt 9 (.take 11 [0, 1, 2, 3, 4, 5, 6, 7, 8, 9, 10, 12] (.take 13 [] (.take 14 [] (.take 15 [0, 1, 2, 3, 4, 5, 6, 7, 8, 9, 10, 11, 12, 13, 14] (.alt 16 (.alt 17 (.alt 18 (.take 19 [] (.alt 20 .done .nil)) .nil) .nil) .nil))))) (.alt 11 (.take 13 [] (.take 14 [] (.alt 9 (.take 15 [0, 1, 2, 3, 4, 5, 6, 7, 8, 9, 10, 11, 12, 13, 14] (.alt 16 (.alt 17 (.alt 18 (.take 19 [] (.alt 20 .done .nil)) .nil) .nil) .nil)) (.alt 15 (.alt 9 (.alt 16 (.alt 17 (.alt 18 (.take 19 [] (.alt 20 .done .nil)) .nil) .nil) .nil) .nil) .nil)))) .nil)) (.alt 11 (.take 13 [] (.take 14 [] (.alt 2 (.alt 9 (.take 15 [0, 1, 2, 3, 4, 5, 6, 7, 8, 9, 10, 11, 12, 13, 14] (.alt 16 (.alt 17 (.alt 18 (.take 19 [] (.alt 20 .done .nil)) .nil) .nil) .nil)) (.alt 15 (.alt 9 (.alt 16 (.alt 17 (.alt 18 (.take 19 [] (.alt 20 .done .nil)) .nil) .nil) .nil) .nil) .nil)) (.alt 15 (.alt 2 (.alt 9 (.alt 16 (.alt 17 (.alt 18 (.take 19 [] (.alt 20 .done .nil)) .nil) .nil) .nil) .nil) .nil) .nil)))) .nil)) (.alt 2 (.alt 1 (.alt 9 (.take 11 [0, 1, 2, 3, 4, 5, 6, 7, 8, 9, 10, 12] (.take 13 [] (.take 14 [] (.take 15 [0, 1, 2, 3, 4, 5, 6, 7, 8, 9, 10, 11, 12, 13, 14] (.alt 16 (.alt 17 (.alt 18 (.take 19 [] (.alt 20 .done .nil)) .nil) .nil) .nil))))) (.alt 11 (.take 13 [] (.take 14 [] (.alt 9 (.take 15 [0, 1, 2, 3, 4, 5, 6, 7, 8, 9, 10, 11, 12, 13, 14] (.alt 16 (.alt 17 (.alt 18 (.take 19 [] (.alt 20 .done .nil)) .nil) .nil) .nil)) (.alt 15 (.alt 9 (.alt 16 (.alt 17 (.alt 18 (.take 19 [] (.alt 20 .done .nil)) .nil) .nil) .nil) .nil) .nil)))) .nil)) (.alt 9 (.take 11 [0, 1, 2, 3, 4, 5, 6, 7, 8, 9, 10, 12] (.take 13 [] (.take 14 [] (.take 15 [0, 1, 2, 3, 4, 5, 6, 7, 8, 9, 10, 11, 12, 13, 14] (.alt 1 (.alt 16 (.alt 17 (.alt 18 (.take 19 [] (.alt 20 .done .nil)) .nil) .nil) .nil) (.alt 16 (.alt 1 (.alt 17 (.alt 18 (.take 19 [] (.alt 20 .done .nil)) .nil) .nil) (.alt 17 (.take 1 [0, 2, 3, 4, 5, 6, 7, 8, 9, 10, 11, 12, 13, 14, 15, 16, 17] (.alt 18 (.take 19 [] (.alt 20 .done .nil)) .nil)) .nil)) .nil)))))) (.alt 11 (.take 13 [] (.take 14 [] (.alt 1 (.alt 9 (.take 15 [0, 1, 2, 3, 4, 5, 6, 7, 8, 9, 10, 11, 12, 13, 14] (.alt 16 (.alt 17 (.alt 18 (.take 19 [] (.alt 20 .done .nil)) .nil) .nil) .nil)) (.alt 15 (.alt 9 (.alt 16 (.alt 17 (.alt 18 (.take 19 [] (.alt 20 .done .nil)) .nil) .nil) .nil) .nil) .nil)) (.alt 9 (.take 15 [0, 1, 2, 3, 4, 5, 6, 7, 8, 9, 10, 11, 12, 13, 14] (.alt 1 (.alt 16 (.alt 17 (.alt 18 (.take 19 [] (.alt 20 .done .nil)) .nil) .nil) .nil) (.alt 16 (.alt 1 (.alt 17 (.alt 18 (.take 19 [] (.alt 20 .done .nil)) .nil) .nil) (.alt 17 (.take 1 [0, 2, 3, 4, 5, 6, 7, 8, 9, 10, 11, 12, 13, 14, 15, 16, 17] (.alt 18 (.take 19 [] (.alt 20 .done .nil)) .nil)) .nil)) .nil))) (.alt 15 (.alt 1 (.alt 9 (.alt 16 (.alt 17 (.alt 18 (.take 19 [] (.alt 20 .done .nil)) .nil) .nil) .nil) .nil) (.alt 9 (.alt 1 (.alt 16 (.alt 17 (.alt 18 (.take 19 [] (.alt 20 .done .nil)) .nil) .nil) .nil) (.alt 16 (.alt 1 (.alt 17 (.alt 18 (.take 19 [] (.alt 20 .done .nil)) .nil) .nil) (.alt 17 (.take 1 [0, 2, 3, 4, 5, 6, 7, 8, 9, 10, 11, 12, 13, 14, 15, 16, 17] (.alt 18 (.take 19 [] (.alt 20 .done .nil)) .nil)) .nil)) .nil)) .nil)) .nil))))) .nil))) (.alt 11 (.take 13 [] (.take 14 [] (.alt 1 (.alt 2 (.alt 9 (.take 15 [0, 1, 2, 3, 4, 5, 6, 7, 8, 9, 10, 11, 12, 13, 14] (.alt 16 (.alt 17 (.alt 18 (.take 19 [] (.alt 20 .done .nil)) .nil) .nil) .nil)) (.alt 15 (.alt 9 (.alt 16 (.alt 17 (.alt 18 (.take 19 [] (.alt 20 .done .nil)) .nil) .nil) .nil) .nil) .nil)) (.alt 15 (.alt 2 (.alt 9 (.alt 16 (.alt 17 (.alt 18 (.take 19 [] (.alt 20 .done .nil)) .nil) .nil) .nil) .nil) .nil) .nil)) (.alt 2 (.alt 1 (.alt 9 (.take 15 [0, 1, 2, 3, 4, 5, 6, 7, 8, 9, 10, 11, 12, 13, 14] (.alt 16 (.alt 17 (.alt 18 (.take 19 [] (.alt 20 .done .nil)) .nil) .nil) .nil)) (.alt 15 (.alt 9 (.alt 16 (.alt 17 (.alt 18 (.take 19 [] (.alt 20 .done .nil)) .nil) .nil) .nil) .nil) .nil)) (.alt 9 (.take 15 [0, 1, 2, 3, 4, 5, 6, 7, 8, 9, 10, 11, 12, 13, 14] (.alt 1 (.alt 16 (.alt 17 (.alt 18 (.take 19 [] (.alt 20 .done .nil)) .nil) .nil) .nil) (.alt 16 (.alt 1 (.alt 17 (.alt 18 (.take 19 [] (.alt 20 .done .nil)) .nil) .nil) (.alt 17 (.take 1 [0, 2, 3, 4, 5, 6, 7, 8, 9, 10, 11, 12, 13, 14, 15, 16, 17] (.alt 18 (.take 19 [] (.alt 20 .done .nil)) .nil)) .nil)) .nil))) (.alt 15 (.alt 1 (.alt 9 (.alt 16 (.alt 17 (.alt 18 (.take 19 [] (.alt 20 .done .nil)) .nil) .nil) .nil) .nil) (.alt 9 (.alt 1 (.alt 16 (.alt 17 (.alt 18 (.take 19 [] (.alt 20 .done .nil)) .nil) .nil) .nil) (.alt 16 (.alt 1 (.alt 17 (.alt 18 (.take 19 [] (.alt 20 .done .nil)) .nil) .nil) (.alt 17 (.take 1 [0, 2, 3, 4, 5, 6, 7, 8, 9, 10, 11, 12, 13, 14, 15, 16, 17] (.alt 18 (.take 19 [] (.alt 20 .done .nil)) .nil)) .nil)) .nil)) .nil)) .nil))) (.alt 15 (.alt 1 (.alt 2 (.alt 9 (.alt 16 (.alt 17 (.alt 18 (.take 19 [] (.alt 20 .done .nil)) .nil) .nil) .nil) .nil) .nil) (.alt 2 (.alt 1 (.alt 9 (.alt 16 (.alt 17 (.alt 18 (.take 19 [] (.alt 20 .done .nil)) .nil) .nil) .nil) .nil) (.alt 9 (.alt 1 (.alt 16 (.alt 17 (.alt 18 (.take 19 [] (.alt 20 .done .nil)) .nil) .nil) .nil) (.alt 16 (.alt 1 (.alt 17 (.alt 18 (.take 19 [] (.alt 20 .done .nil)) .nil) .nil) (.alt 17 (.take 1 [0, 2, 3, 4, 5, 6, 7, 8, 9, 10, 11, 12, 13, 14, 15, 16, 17] (.alt 18 (.take 19 [] (.alt 20 .done .nil)) .nil)) .nil)) .nil)) .nil)) .nil)) .nil))))) .nil)))))))))))))], weak := [] }
theorem spec_l06Copy.e (J : Nat → St C → Prop) (K : PV U → List (PV U) → Prop) (x : spec_l06Copy.X) : Tr.sem (fun x => J (spec_l06Copy.id x) (spec_l06Copy.st x)) (fun r => K (spec_l06Copy.v r) (spec_l06Copy.o r)) (spec_l06Copy.tree x) = evCut C spec_l06Copy.Q (SoundCall Try.prog C) J Try.f28 0 (spec_l06Copy.id x) (spec_l06Copy.st x) K := by cases x <;> kernel_rfl
theorem spec_l06Copy.b (a0 : List S90) (J : Nat → St C → Prop) (K : PV U → List (PV U) → Prop) : Tr.sem (fun x => J (spec_l06Copy.id x) (spec_l06Copy.st x)) (fun r => K (spec_l06Copy.v r) (spec_l06Copy.o r)) (spec_l06Copy.begin a0) = evFn C spec_l06Copy.Q (SoundCall Try.prog C) J Try.f28 (spec_l06Copy.S a0) 0 K := by kernel_rfl
def spec_l06Copy.told (a0 : List S90) : YtmdgdcjkbggkmaaEv.Told spec_l06Copy.A := ⟨spec_l06Copy.f a0, fun r => SoundCall Try.prog C 28 (spec_l06Copy.S a0) 0 (spec_l06Copy.v r) (spec_l06Copy.o r), fun r h =>
 soundCall_of_tree G mixed spec_l06Copy.Q Try.func28 rfl (of_decide_eq_true (by kernel_rfl)) (by rfl) spec_l06Copy.id spec_l06Copy.st spec_l06Copy.v spec_l06Copy.o (fun _ => rfl) spec_l06Copy.tree (fun J K x => spec_l06Copy.e J K x) (spec_l06Copy.begin a0) (fun J K => spec_l06Copy.b a0 J K) h⟩
/-! #### loop.example/g00983/spec.NodeNew (6) -/
def spec_NodeNew.S (a0 : List S90) (a1 : List Int) (a2 : List Int) (a3 : Int) (a4 : Int) (a5 : Int) (a6 : Int) : List (PV U) := YtmdgdcjkbggkmaaEv.start C 43 [.agg [.sl 91 a0], .sl 3 a1, .sl 3 a2, .agg [.int .i64 a3, .int .i64 a4, .int .i64 a5, .int .i64 a6]] []
abbrev spec_NodeNew.X := Empty
def spec_NodeNew.id : spec_NodeNew.X → Nat := fun _ => 0
def spec_NodeNew.st : spec_NodeNew.X → List (PV U) := fun _ => []
def spec_NodeNew.begin (a0 : List S90) (a1 : List Int) (a2 : List Int) (a3 : Int) (a4 : Int) (a5 : Int) (a6 : Int) : Tr spec_NodeNew.X spec_NodeNew.A :=
 .call (spec_MemNew.told a1) fun t1 => .ite (!t1.2)
  (.ret (([] : List S90), ([] : List Int), ([] : List Int), (0 : Int), (0 : Int), (0 : Int), (0 : Int), (0 : Int), (0 : Int), (0 : Int), (0 : Int), ([] : List Int), (0 : Int), false))
  (.call (spec_ProgramOk.told a0) fun t2 => .ite (!t2)
   (.ret (([] : List S90), ([] : List Int), ([] : List Int), (0 : Int), (0 : Int), (0 : Int), (0 : Int), (0 : Int), (0 : Int), (0 : Int), (0 : Int), ([] : List Int), (0 : Int), false))
   (.call (spec_StoreOk.told a3 a4 a5 a6) fun t3 => .ite (!t3)
    (.ret (([] : List S90), ([] : List Int), ([] : List Int), (0 : Int), (0 : Int), (0 : Int), (0 : Int), (0 : Int), (0 : Int), (0 : Int), (0 : Int), ([] : List Int), (0 : Int), false))
    (.call (spec_l09Values.told a2) fun t4 => .ite (!t4)
     (.ret (([] : List S90), ([] : List Int), ([] : List Int), (0 : Int), (0 : Int), (0 : Int), (0 : Int), (0 : Int), (0 : Int), (0 : Int), (0 : Int), ([] : List Int), (0 : Int), false))
     (.both (.call (spec_l06Copy.told a0) fun t5 => .both (.both (.need (((List.length ([] : List Int) : Int) + (List.length a2 : Int)) * (8 : Nat) ≤ room) (.last (.last (.ret (t5, t1.1, (([] : List Int) ++ a2), (0 : Int), a3, a4, a5, a6, (0 : Int), (0 : Int), (0 : Int), ([] : List Int), (0 : Int), true)))))
        (.last (.last (.need (((List.length ([] : List Int) : Int) + (List.length a2 : Int)) * (8 : Nat) ≤ room) (.last (.last (.ret (t5, t1.1, (([] : List Int) ++ a2), (0 : Int), a3, a4, a5, a6, (0 : Int), (0 : Int), (0 : Int), ([] : List Int), (0 : Int), true))))))))
       (.last (.last (.last (.need (((List.length ([] : List Int) : Int) + (List.length a2 : Int)) * (8 : Nat) ≤ room) (.last (.last (.ret (t5, t1.1, (([] : List Int) ++ a2), (0 : Int), a3, a4, a5, a6, (0 : Int), (0 : Int), (0 : Int), ([] : List Int), (0 : Int), true)))))))))
      (.both (.both (.call (spec_l06Copy.told a0) fun t6 => .both (.need (((List.length ([] : List Int) : Int) + (List.length a2 : Int)) * (8 : Nat) ≤ room) (.last (.last (.ret (t6, t1.1, (([] : List Int) ++ a2), (0 : Int), a3, a4, a5, a6, (0 : Int), (0 : Int), (0 : Int), ([] : List Int), (0 : Int), true)))))
         (.last (.last (.need (((List.length ([] : List Int) : Int) + (List.length a2 : Int)) * (8 : Nat) ≤ room) (.last (.last (.ret (t6, t1.1, (([] : List Int) ++ a2), (0 : Int), a3, a4, a5, a6, (0 : Int), (0 : Int), (0 : Int), ([] : List Int), (0 : Int), true))))))))
        (.last (.last (.call (spec_l06Copy.told a0) fun t7 => .last (.need (((List.length ([] : List Int) : Int) + (List.length a2 : Int)) * (8 : Nat) ≤ room) (.last (.last (.ret (t7, t1.1, (([] : List Int) ++ a2), (0 : Int), a3, a4, a5, a6, (0 : Int), (0 : Int), (0 : Int), ([] : List Int), (0 : Int), true)))))))))
       (.last (.both (.call (spec_l06Copy.told a0) fun t8 => .last (.last (.need (((List.length ([] : List Int) : Int) + (List.length a2 : Int)) * (8 : Nat) ≤ room) (.last (.last (.ret (t8, t1.1, (([] : List Int) ++ a2), (0 : Int), a3, a4, a5, a6, (0 : Int), (0 : Int), (0 : Int), ([] : List Int), (0 : Int), true)))))))
        (.last (.last (.call (spec_l06Copy.told a0) fun t9 => .last (.need (((List.length ([] : List Int) : Int) + (List.length a2 : Int)) * (8 : Nat) ≤ room) (.last (.last (.ret (t9, t1.1, (([] : List Int) ++ a2), (0 : Int), a3, a4, a5, a6, (0 : Int), (0 : Int), (0 : Int), ([] : List Int), (0 : Int), true)))))))))))))))
def spec_NodeNew.tree : spec_NodeNew.X → Tr spec_NodeNew.X spec_NodeNew.A := fun _ => .fail
def spec_NodeNew.f (a0 : List S90) (a1 : List Int) (a2 : List Int) (a3 : Int) (a4 : Int) (a5 : Int) (a6 : Int) : Option spec_NodeNew.A := (spec_NodeNew.begin a0 a1 a2 a3 a4 a5 a6).run (lp spec_NodeNew.tree)
def spec_NodeNew.Q : Plan C := { PL with cuts := [], ords := [(4, [5, 7, 8], (.take 2 [] (.take 4 [] (.take 0 [2, 3, 4, 6] (.alt 1 (.alt 3 (.alt 5 (.take 6 [0, 1, 2, 3, 4, 5] (.alt 7 (.alt 8 (.take 9 [] .done) .nil) .nil)) (.alt 6 (.alt 5 (.alt 7 (.alt 8 (.take 9 [] .done) .nil) .nil) .nil) .nil)) (.alt 6 (.alt 3 (.alt 5 (.alt 7 (.alt 8 (.take 9 [] .done) .nil) .nil) .nil) .nil) .nil)) (.alt 3 (.alt 1 (.alt 5 (.take 6 [0, 1, 2, 3, 4, 5] (.alt 7 (.alt 8 (.take 9 [] .done) .nil) .nil)) (.alt 6 (.alt 5 (.alt 7 (.alt 8 (.take 9 [] .done) .nil) .nil) .nil) .nil)) (.alt 6 (.alt 1 (.alt 5 (.alt 7 (.alt 8 (.take 9 [] .done) .nil) .nil) .nil) .nil) .nil)) (.alt 6 (.alt 1 (.alt 3 (.alt 5 (.alt 7 (.alt 8 (.take 9 [] .done) .nil) .nil) .nil) .nil) (.alt 3 (.alt 1 (.alt 5 (.alt 7 (.alt 8 (.take 9 [] .done) .nil) .nil) .nil) .nil) .nil)) .nil)))))))], weak := [] }
theorem spec_NodeNew.e (J : Nat → St C → Prop) (K : PV U → List (PV U) → Prop) (x : spec_NodeNew.X) : Tr.sem (fun x => J (spec_NodeNew.id x) (spec_NodeNew.st x)) (fun r => K (spec_NodeNew.v r) (spec_NodeNew.o r)) (spec_NodeNew.tree x) = evCut C spec_NodeNew.Q (SoundCall Try.prog C) J Try.f6 0 (spec_NodeNew.id x) (spec_NodeNew.st x) K := by cases x
theorem spec_NodeNew.b (a0 : List S90) (a1 : List Int) (a2 : List Int) (a3 : Int) (a4 : Int) (a5 : Int) (a6 : Int) (J : Nat → St C → Prop) (K : PV U → List (PV U) → Prop) : Tr.sem (fun x => J (spec_NodeNew.id x) (spec_NodeNew.st x)) (fun r => K (spec_NodeNew.v r) (spec_NodeNew.o r)) (spec_NodeNew.begin a0 a1 a2 a3 a4 a5 a6) = evFn C spec_NodeNew.Q (SoundCall Try.prog C) J Try.f6 (spec_NodeNew.S a0 a1 a2 a3 a4 a5 a6) 0 K := by kernel_rfl
def spec_NodeNew.told (a0 : List S90) (a1 : List Int) (a2 : List Int) (a3 : Int) (a4 : Int) (a5 : Int) (a6 : Int) : YtmdgdcjkbggkmaaEv.Told spec_NodeNew.A := ⟨spec_NodeNew.f a0 a1 a2 a3 a4 a5 a6, fun r => SoundCall Try.prog C 6 (spec_NodeNew.S a0 a1 a2 a3 a4 a5 a6) 0 (spec_NodeNew.v r) (spec_NodeNew.o r), fun r h =>
 soundCall_of_tree G mixed spec_NodeNew.Q Try.func6 rfl (of_decide_eq_true (by kernel_rfl)) (by rfl) spec_NodeNew.id spec_NodeNew.st spec_NodeNew.v spec_NodeNew.o (fun _ => rfl) spec_NodeNew.tree (fun J K x => spec_NodeNew.e J K x) (spec_NodeNew.begin a0 a1 a2 a3 a4 a5 a6) (fun J K => spec_NodeNew.b a0 a1 a2 a3 a4 a5 a6 J K) h⟩
/-! #### loop.example/g00983/impl.within (60) -/
def impl_within.S (a0 : Int) (a1 : Int) (a2 : Int) : List (PV U) := YtmdgdcjkbggkmaaEv.start C 15 [.int .i64 a0, .int .i64 a1, .int .i64 a2] []
abbrev impl_within.X := Empty
def impl_within.id : impl_within.X → Nat := fun _ => 0
def impl_within.st : impl_within.X → List (PV U) := fun _ => []
def impl_within.begin (a0 : Int) (a1 : Int) (a2 : Int) : Tr impl_within.X impl_within.A :=
 .ite (decide (a0 ≥ a1))
  (.ret ((decide (a0 ≤ a2))))
  (.ret false)
def impl_within.tree : impl_within.X → Tr impl_within.X impl_within.A := fun _ => .fail
def impl_within.f (a0 : Int) (a1 : Int) (a2 : Int) : Option impl_within.A := (impl_within.begin a0 a1 a2).run (lp impl_within.tree)
def impl_within.Q : Plan C := { PL with cuts := [], ords := [], weak := [] }
theorem impl_within.e (J : Nat → St C → Prop) (K : PV U → List (PV U) → Prop) (x : impl_within.X) : Tr.sem (fun x => J (impl_within.id x) (impl_within.st x)) (fun r => K (impl_within.v r) (impl_within.o r)) (impl_within.tree x) = evCut C impl_within.Q (SoundCall Try.prog C) J Try.f60 0 (impl_within.id x) (impl_within.st x) K := by cases x
theorem impl_within.b (a0 : Int) (a1 : Int) (a2 : Int) (J : Nat → St C → Prop) (K : PV U → List (PV U) → Prop) : Tr.sem (fun x => J (impl_within.id x) (impl_within.st x)) (fun r => K (impl_within.v r) (impl_within.o r)) (impl_within.begin a0 a1 a2) = evFn C impl_within.Q (SoundCall Try.prog C) J Try.f60 (impl_within.S a0 a1 a2) 0 K := by kernel_rfl
def impl_within.told (a0 : Int) (a1 : Int) (a2 : Int) : YtmdgdcjkbggkmaaEv.Told impl_within.A := ⟨impl_within.f a0 a1 a2, fun r => SoundCall Try.prog C 60 (impl_within.S a0 a1 a2) 0 (impl_within.v r) (impl_within.o r), fun r h =>
 soundCall_of_tree G mixed impl_within.Q Try.func60 rfl (of_decide_eq_true (by kernel_rfl)) (by rfl) impl_within.id impl_within.st impl_within.v impl_within.o (fun _ => rfl) impl_within.tree (fun J K x => impl_within.e J K x) (impl_within.begin a0 a1 a2) (fun J K => impl_within.b a0 a1 a2 J K) h⟩
/-! #### loop.example/g00983/impl.IsValue (66) -/
def impl_IsValue.S (a0 : Int) : List (PV U) := YtmdgdcjkbggkmaaEv.start C 5 [.int .i64 a0] []
abbrev impl_IsValue.X := Empty
def impl_IsValue.id : impl_IsValue.X → Nat := fun _ => 0
def impl_IsValue.st : impl_IsValue.X → List (PV U) := fun _ => []
def impl_IsValue.begin (a0 : Int) : Tr impl_IsValue.X impl_IsValue.A :=
 .call (impl_within.told a0 (-1000000 : Int) (1000000 : Int)) fun t1 => .ret t1
def impl_IsValue.tree : impl_IsValue.X → Tr impl_IsValue.X impl_IsValue.A := fun _ => .fail
def impl_IsValue.f (a0 : Int) : Option impl_IsValue.A := (impl_IsValue.begin a0).run (lp impl_IsValue.tree)
def impl_IsValue.Q : Plan C := { PL with cuts := [], ords := [], weak := [] }
theorem impl_IsValue.e (J : Nat → St C → Prop) (K : PV U → List (PV U) → Prop) (x : impl_IsValue.X) : Tr.sem (fun x => J (impl_IsValue.id x) (impl_IsValue.st x)) (fun r => K (impl_IsValue.v r) (impl_IsValue.o r)) (impl_IsValue.tree x) = evCut C impl_IsValue.Q (SoundCall Try.prog C) J Try.f66 0 (impl_IsValue.id x) (impl_IsValue.st x) K := by cases x
theorem impl_IsValue.b (a0 : Int) (J : Nat → St C → Prop) (K : PV U → List (PV U) → Prop) : Tr.sem (fun x => J (impl_IsValue.id x) (impl_IsValue.st x)) (fun r => K (impl_IsValue.v r) (impl_IsValue.o r)) (impl_IsValue.begin a0) = evFn C impl_IsValue.Q (SoundCall Try.prog C) J Try.f66 (impl_IsValue.S a0) 0 K := by kernel_rfl
def impl_IsValue.told (a0 : Int) : YtmdgdcjkbggkmaaEv.Told impl_IsValue.A := ⟨impl_IsValue.f a0, fun r => SoundCall Try.prog C 66 (impl_IsValue.S a0) 0 (impl_IsValue.v r) (impl_IsValue.o r), fun r h =>
 soundCall_of_tree G mixed impl_IsValue.Q Try.func66 rfl (of_decide_eq_true (by kernel_rfl)) (by rfl) impl_IsValue.id impl_IsValue.st impl_IsValue.v impl_IsValue.o (fun _ => rfl) impl_IsValue.tree (fun J K x => impl_IsValue.e J K x) (impl_IsValue.begin a0) (fun J K => impl_IsValue.b a0 J K) h⟩
/-! #### loop.example/g00983/impl.areValues$1 (65) -/
def impl_areValues_1.S (a0 : Int) : List (PV U) := YtmdgdcjkbggkmaaEv.start C 6 [.int .i64 a0] []
abbrev impl_areValues_1.X := Empty
def impl_areValues_1.id : impl_areValues_1.X → Nat := fun _ => 0
def impl_areValues_1.st : impl_areValues_1.X → List (PV U) := fun _ => []
def impl_areValues_1.begin (a0 : Int) : Tr impl_areValues_1.X impl_areValues_1.A :=
 .call (impl_IsValue.told a0) fun t1 => .ret ((!t1))
def impl_areValues_1.tree : impl_areValues_1.X → Tr impl_areValues_1.X impl_areValues_1.A := fun _ => .fail
def impl_areValues_1.f (a0 : Int) : Option impl_areValues_1.A := (impl_areValues_1.begin a0).run (lp impl_areValues_1.tree)
def impl_areValues_1.Q : Plan C := { PL with cuts := [], ords := [], weak := [] }
theorem impl_areValues_1.e (J : Nat → St C → Prop) (K : PV U → List (PV U) → Prop) (x : impl_areValues_1.X) : Tr.sem (fun x => J (impl_areValues_1.id x) (impl_areValues_1.st x)) (fun r => K (impl_areValues_1.v r) (impl_areValues_1.o r)) (impl_areValues_1.tree x) = evCut C impl_areValues_1.Q (SoundCall Try.prog C) J Try.f65 0 (impl_areValues_1.id x) (impl_areValues_1.st x) K := by cases x
theorem impl_areValues_1.b (a0 : Int) (J : Nat → St C → Prop) (K : PV U → List (PV U) → Prop) : Tr.sem (fun x => J (impl_areValues_1.id x) (impl_areValues_1.st x)) (fun r => K (impl_areValues_1.v r) (impl_areValues_1.o r)) (impl_areValues_1.begin a0) = evFn C impl_areValues_1.Q (SoundCall Try.prog C) J Try.f65 (impl_areValues_1.S a0) 0 K := by kernel_rfl
def impl_areValues_1.told (a0 : Int) : YtmdgdcjkbggkmaaEv.Told impl_areValues_1.A := ⟨impl_areValues_1.f a0, fun r => SoundCall Try.prog C 65 (impl_areValues_1.S a0) 0 (impl_areValues_1.v r) (impl_areValues_1.o r), fun r h =>
 soundCall_of_tree G mixed impl_areValues_1.Q Try.func65 rfl (of_decide_eq_true (by kernel_rfl)) (by rfl) impl_areValues_1.id impl_areValues_1.st impl_areValues_1.v impl_areValues_1.o (fun _ => rfl) impl_areValues_1.tree (fun J K x => impl_areValues_1.e J K x) (impl_areValues_1.begin a0) (fun J K => impl_areValues_1.b a0 J K) h⟩
/-! #### slices.IndexFunc[[]int,int] (92) -/
def slices_IndexFunc_int_areValues_1.S (a0 : List Int) : List (PV U) := YtmdgdcjkbggkmaaEv.start C 19 [.sl 3 a0, .fn 65 []] []
inductive slices_IndexFunc_int_areValues_1.X where
 | c2 (x0 : List Int) (x1 : Int) (x2 : Int)
def slices_IndexFunc_int_areValues_1.id : slices_IndexFunc_int_areValues_1.X → Nat
 | .c2 .. => 2
def slices_IndexFunc_int_areValues_1.st : slices_IndexFunc_int_areValues_1.X → List (PV U)
 | .c2 x0 x1 x2 => stOf 19 [(0, .sl 3 x0), (1, .fn 65 []), (7, .int .i64 x1), (8, .int .i64 x2)]
def slices_IndexFunc_int_areValues_1.begin (a0 : List Int) : Tr slices_IndexFunc_int_areValues_1.X slices_IndexFunc_int_areValues_1.A :=
 .jump (.c2 a0 (List.length a0 : Int) (0 : Int))
def slices_IndexFunc_int_areValues_1.tree : slices_IndexFunc_int_areValues_1.X → Tr slices_IndexFunc_int_areValues_1.X slices_IndexFunc_int_areValues_1.A
 | .c2 x0 x1 x2 =>
 .ite (decide (x2 < x1))
  (.need ((0 : Int) ≤ x2 ∧ x2 < (List.length x0 : Int)) (.call (impl_areValues_1.told (rdI x0 x2)) fun t1 => .ite t1
   (.ret x2)
   (.jump (.c2 x0 x1 (wr (x2 + (1 : Int)))))))
  (.ret ((-1 : Int)))
def slices_IndexFunc_int_areValues_1.f (a0 : List Int) : Option slices_IndexFunc_int_areValues_1.A := (slices_IndexFunc_int_areValues_1.begin a0).run (lp slices_IndexFunc_int_areValues_1.tree)
def slices_IndexFunc_int_areValues_1.Q : Plan C := { PL with cuts := [(2, [0, 1, 7, 8])], ords := [], weak := [] }
theorem slices_IndexFunc_int_areValues_1.e (J : Nat → St C → Prop) (K : PV U → List (PV U) → Prop) (x : slices_IndexFunc_int_areValues_1.X) : Tr.sem (fun x => J (slices_IndexFunc_int_areValues_1.id x) (slices_IndexFunc_int_areValues_1.st x)) (fun r => K (slices_IndexFunc_int_areValues_1.v r) (slices_IndexFunc_int_areValues_1.o r)) (slices_IndexFunc_int_areValues_1.tree x) = evCut C slices_IndexFunc_int_areValues_1.Q (SoundCall Try.prog C) J Try.f92 0 (slices_IndexFunc_int_areValues_1.id x) (slices_IndexFunc_int_areValues_1.st x) K := by cases x <;> kernel_rfl
theorem slices_IndexFunc_int_areValues_1.b (a0 : List Int) (J : Nat → St C → Prop) (K : PV U → List (PV U) → Prop) : Tr.sem (fun x => J (slices_IndexFunc_int_areValues_1.id x) (slices_IndexFunc_int_areValues_1.st x)) (fun r => K (slices_IndexFunc_int_areValues_1.v r) (slices_IndexFunc_int_areValues_1.o r)) (slices_IndexFunc_int_areValues_1.begin a0) = evFn C slices_IndexFunc_int_areValues_1.Q (SoundCall Try.prog C) J Try.f92 (slices_IndexFunc_int_areValues_1.S a0) 0 K := by kernel_rfl
def slices_IndexFunc_int_areValues_1.told (a0 : List Int) : YtmdgdcjkbggkmaaEv.Told slices_IndexFunc_int_areValues_1.A := ⟨slices_IndexFunc_int_areValues_1.f a0, fun r => SoundCall Try.prog C 92 (slices_IndexFunc_int_areValues_1.S a0) 0 (slices_IndexFunc_int_areValues_1.v r) (slices_IndexFunc_int_areValues_1.o r), fun r h =>
 soundCall_of_tree G mixed slices_IndexFunc_int_areValues_1.Q Try.func92 rfl (of_decide_eq_true (by kernel_rfl)) (by rfl) slices_IndexFunc_int_areValues_1.id slices_IndexFunc_int_areValues_1.st slices_IndexFunc_int_areValues_1.v slices_IndexFunc_int_areValues_1.o (fun _ => rfl) slices_IndexFunc_int_areValues_1.tree (fun J K x => slices_IndexFunc_int_areValues_1.e J K x) (slices_IndexFunc_int_areValues_1.begin a0) (fun J K => slices_IndexFunc_int_areValues_1.b a0 J K) h⟩
/-! #### slices.ContainsFunc[[]int,int] (64) -/
def slices_ContainsFunc_int_areValues_1.S (a0 : List Int) : List (PV U) := YtmdgdcjkbggkmaaEv.start C 9 [.sl 3 a0, .fn 65 []] []
abbrev slices_ContainsFunc_int_areValues_1.X := Empty
def slices_ContainsFunc_int_areValues_1.id : slices_ContainsFunc_int_areValues_1.X → Nat := fun _ => 0
def slices_ContainsFunc_int_areValues_1.st : slices_ContainsFunc_int_areValues_1.X → List (PV U) := fun _ => []
def slices_ContainsFunc_int_areValues_1.begin (a0 : List Int) : Tr slices_ContainsFunc_int_areValues_1.X slices_ContainsFunc_int_areValues_1.A :=
 .call (slices_IndexFunc_int_areValues_1.told a0) fun t1 => .ret ((decide (t1 ≥ (0 : Int))))
def slices_ContainsFunc_int_areValues_1.tree : slices_ContainsFunc_int_areValues_1.X → Tr slices_ContainsFunc_int_areValues_1.X slices_ContainsFunc_int_areValues_1.A := fun _ => .fail
def slices_ContainsFunc_int_areValues_1.f (a0 : List Int) : Option slices_ContainsFunc_int_areValues_1.A := (slices_ContainsFunc_int_areValues_1.begin a0).run (lp slices_ContainsFunc_int_areValues_1.tree)
def slices_ContainsFunc_int_areValues_1.Q : Plan C := { PL with cuts := [], ords := [], weak := [] }
theorem slices_ContainsFunc_int_areValues_1.e (J : Nat → St C → Prop) (K : PV U → List (PV U) → Prop) (x : slices_ContainsFunc_int_areValues_1.X) : Tr.sem (fun x => J (slices_ContainsFunc_int_areValues_1.id x) (slices_ContainsFunc_int_areValues_1.st x)) (fun r => K (slices_ContainsFunc_int_areValues_1.v r) (slices_ContainsFunc_int_areValues_1.o r)) (slices_ContainsFunc_int_areValues_1.tree x) = evCut C slices_ContainsFunc_int_areValues_1.Q (SoundCall Try.prog C) J Try.f64 0 (slices_ContainsFunc_int_areValues_1.id x) (slices_ContainsFunc_int_areValues_1.st x) K := by cases x
theorem slices_ContainsFunc_int_areValues_1.b (a0 : List Int) (J : Nat → St C → Prop) (K : PV U → List (PV U) → Prop) : Tr.sem (fun x => J (slices_ContainsFunc_int_areValues_1.id x) (slices_ContainsFunc_int_areValues_1.st x)) (fun r => K (slices_ContainsFunc_int_areValues_1.v r) (slices_ContainsFunc_int_areValues_1.o r)) (slices_ContainsFunc_int_areValues_1.begin a0) = evFn C slices_ContainsFunc_int_areValues_1.Q (SoundCall Try.prog C) J Try.f64 (slices_ContainsFunc_int_areValues_1.S a0) 0 K := by kernel_rfl
def slices_ContainsFunc_int_areValues_1.told (a0 : List Int) : YtmdgdcjkbggkmaaEv.Told slices_ContainsFunc_int_areValues_1.A := ⟨slices_ContainsFunc_int_areValues_1.f a0, fun r => SoundCall Try.prog C 64 (slices_ContainsFunc_int_areValues_1.S a0) 0 (slices_ContainsFunc_int_areValues_1.v r) (slices_ContainsFunc_int_areValues_1.o r), fun r h =>
 soundCall_of_tree G mixed slices_ContainsFunc_int_areValues_1.Q Try.func64 rfl (of_decide_eq_true (by kernel_rfl)) (by rfl) slices_ContainsFunc_int_areValues_1.id slices_ContainsFunc_int_areValues_1.st slices_ContainsFunc_int_areValues_1.v slices_ContainsFunc_int_areValues_1.o (fun _ => rfl) slices_ContainsFunc_int_areValues_1.tree (fun J K x => slices_ContainsFunc_int_areValues_1.e J K x) (slices_ContainsFunc_int_areValues_1.begin a0) (fun J K => slices_ContainsFunc_int_areValues_1.b a0 J K) h⟩
/-! #### loop.example/g00983/impl.areValues (33) -/
def impl_areValues.S (a0 : List Int) : List (PV U) := YtmdgdcjkbggkmaaEv.start C 6 [.sl 3 a0] []
abbrev impl_areValues.X := Empty
def impl_areValues.id : impl_areValues.X → Nat := fun _ => 0
def impl_areValues.st : impl_areValues.X → List (PV U) := fun _ => []
def impl_areValues.begin (a0 : List Int) : Tr impl_areValues.X impl_areValues.A :=
 .call (slices_ContainsFunc_int_areValues_1.told a0) fun t1 => .ret ((!t1))
def impl_areValues.tree : impl_areValues.X → Tr impl_areValues.X impl_areValues.A := fun _ => .fail
def impl_areValues.f (a0 : List Int) : Option impl_areValues.A := (impl_areValues.begin a0).run (lp impl_areValues.tree)
def impl_areValues.Q : Plan C := { PL with cuts := [], ords := [], weak := [] }
theorem impl_areValues.e (J : Nat → St C → Prop) (K : PV U → List (PV U) → Prop) (x : impl_areValues.X) : Tr.sem (fun x => J (impl_areValues.id x) (impl_areValues.st x)) (fun r => K (impl_areValues.v r) (impl_areValues.o r)) (impl_areValues.tree x) = evCut C impl_areValues.Q (SoundCall Try.prog C) J Try.f33 0 (impl_areValues.id x) (impl_areValues.st x) K := by cases x
theorem impl_areValues.b (a0 : List Int) (J : Nat → St C → Prop) (K : PV U → List (PV U) → Prop) : Tr.sem (fun x => J (impl_areValues.id x) (impl_areValues.st x)) (fun r => K (impl_areValues.v r) (impl_areValues.o r)) (impl_areValues.begin a0) = evFn C impl_areValues.Q (SoundCall Try.prog C) J Try.f33 (impl_areValues.S a0) 0 K := by kernel_rfl
def impl_areValues.told (a0 : List Int) : YtmdgdcjkbggkmaaEv.Told impl_areValues.A := ⟨impl_areValues.f a0, fun r => SoundCall Try.prog C 33 (impl_areValues.S a0) 0 (impl_areValues.v r) (impl_areValues.o r), fun r h =>
 soundCall_of_tree G mixed impl_areValues.Q Try.func33 rfl (of_decide_eq_true (by kernel_rfl)) (by rfl) impl_areValues.id impl_areValues.st impl_areValues.v impl_areValues.o (fun _ => rfl) impl_areValues.tree (fun J K x => impl_areValues.e J K x) (impl_areValues.begin a0) (fun J K => impl_areValues.b a0 J K) h⟩
/-! #### loop.example/g00983/impl.VarsOk (59) -/
def impl_VarsOk.S (a0 : List Int) : List (PV U) := YtmdgdcjkbggkmaaEv.start C 10 [.sl 3 a0] []
abbrev impl_VarsOk.X := Empty
def impl_VarsOk.id : impl_VarsOk.X → Nat := fun _ => 0
def impl_VarsOk.st : impl_VarsOk.X → List (PV U) := fun _ => []
def impl_VarsOk.begin (a0 : List Int) : Tr impl_VarsOk.X impl_VarsOk.A :=
 .ite (decide ((List.length a0 : Int) = (8 : Int)))
  (.call (impl_areValues.told a0) fun t1 => .ret t1)
  (.ret false)
def impl_VarsOk.tree : impl_VarsOk.X → Tr impl_VarsOk.X impl_VarsOk.A := fun _ => .fail
def impl_VarsOk.f (a0 : List Int) : Option impl_VarsOk.A := (impl_VarsOk.begin a0).run (lp impl_VarsOk.tree)
def impl_VarsOk.Q : Plan C := { PL with cuts := [], ords := [], weak := [] }
theorem impl_VarsOk.e (J : Nat → St C → Prop) (K : PV U → List (PV U) → Prop) (x : impl_VarsOk.X) : Tr.sem (fun x => J (impl_VarsOk.id x) (impl_VarsOk.st x)) (fun r => K (impl_VarsOk.v r) (impl_VarsOk.o r)) (impl_VarsOk.tree x) = evCut C impl_VarsOk.Q (SoundCall Try.prog C) J Try.f59 0 (impl_VarsOk.id x) (impl_VarsOk.st x) K := by cases x
theorem impl_VarsOk.b (a0 : List Int) (J : Nat → St C → Prop) (K : PV U → List (PV U) → Prop) : Tr.sem (fun x => J (impl_VarsOk.id x) (impl_VarsOk.st x)) (fun r => K (impl_VarsOk.v r) (impl_VarsOk.o r)) (impl_VarsOk.begin a0) = evFn C impl_VarsOk.Q (SoundCall Try.prog C) J Try.f59 (impl_VarsOk.S a0) 0 K := by kernel_rfl
def impl_VarsOk.told (a0 : List Int) : YtmdgdcjkbggkmaaEv.Told impl_VarsOk.A := ⟨impl_VarsOk.f a0, fun r => SoundCall Try.prog C 59 (impl_VarsOk.S a0) 0 (impl_VarsOk.v r) (impl_VarsOk.o r), fun r h =>
 soundCall_of_tree G mixed impl_VarsOk.Q Try.func59 rfl (of_decide_eq_true (by kernel_rfl)) (by rfl) impl_VarsOk.id impl_VarsOk.st impl_VarsOk.v impl_VarsOk.o (fun _ => rfl) impl_VarsOk.tree (fun J K x => impl_VarsOk.e J K x) (impl_VarsOk.begin a0) (fun J K => impl_VarsOk.b a0 J K) h⟩
/-! #### slices.Clone[[]int,int] (35) -/
def slices_Clone_int.S (a0 : List Int) : List (PV U) := YtmdgdcjkbggkmaaEv.start C 8 [.sl 3 a0] []
abbrev slices_Clone_int.X := Empty
def slices_Clone_int.id : slices_Clone_int.X → Nat := fun _ => 0
def slices_Clone_int.st : slices_Clone_int.X → List (PV U) := fun _ => []
def slices_Clone_int.begin (a0 : List Int) : Tr slices_Clone_int.X slices_Clone_int.A :=
 .nilq a0
  (.ret (([] : List Int)))
  (.need (((List.length ([] : List Int) : Int) + (List.length a0 : Int)) * (8 : Nat) ≤ room) (.ret ((([] : List Int) ++ a0))))
def slices_Clone_int.tree : slices_Clone_int.X → Tr slices_Clone_int.X slices_Clone_int.A := fun _ => .fail
def slices_Clone_int.f (a0 : List Int) : Option slices_Clone_int.A := (slices_Clone_int.begin a0).run (lp slices_Clone_int.tree)
def slices_Clone_int.Q : Plan C := { PL with cuts := [], ords := [], weak := [] }
theorem slices_Clone_int.e (J : Nat → St C → Prop) (K : PV U → List (PV U) → Prop) (x : slices_Clone_int.X) : Tr.sem (fun x => J (slices_Clone_int.id x) (slices_Clone_int.st x)) (fun r => K (slices_Clone_int.v r) (slices_Clone_int.o r)) (slices_Clone_int.tree x) = evCut C slices_Clone_int.Q (SoundCall Try.prog C) J Try.f35 0 (slices_Clone_int.id x) (slices_Clone_int.st x) K := by cases x
theorem slices_Clone_int.b (a0 : List Int) (J : Nat → St C → Prop) (K : PV U → List (PV U) → Prop) : Tr.sem (fun x => J (slices_Clone_int.id x) (slices_Clone_int.st x)) (fun r => K (slices_Clone_int.v r) (slices_Clone_int.o r)) (slices_Clone_int.begin a0) = evFn C slices_Clone_int.Q (SoundCall Try.prog C) J Try.f35 (slices_Clone_int.S a0) 0 K := by kernel_rfl
def slices_Clone_int.told (a0 : List Int) : YtmdgdcjkbggkmaaEv.Told slices_Clone_int.A := ⟨slices_Clone_int.f a0, fun r => SoundCall Try.prog C 35 (slices_Clone_int.S a0) 0 (slices_Clone_int.v r) (slices_Clone_int.o r), fun r h =>
 soundCall_of_tree G mixed slices_Clone_int.Q Try.func35 rfl (of_decide_eq_true (by kernel_rfl)) (by rfl) slices_Clone_int.id slices_Clone_int.st slices_Clone_int.v slices_Clone_int.o (fun _ => rfl) slices_Clone_int.tree (fun J K x => slices_Clone_int.e J K x) (slices_Clone_int.begin a0) (fun J K => slices_Clone_int.b a0 J K) h⟩
/-! #### loop.example/g00983/impl.MemNew (30) -/
def impl_MemNew.S (a0 : List Int) : List (PV U) := YtmdgdcjkbggkmaaEv.start C 10 [.sl 3 a0] []
abbrev impl_MemNew.X := Empty
def impl_MemNew.id : impl_MemNew.X → Nat := fun _ => 0
def impl_MemNew.st : impl_MemNew.X → List (PV U) := fun _ => []
def impl_MemNew.begin (a0 : List Int) : Tr impl_MemNew.X impl_MemNew.A :=
 .call (impl_VarsOk.told a0) fun t1 => .ite (!t1)
  (.ret (([] : List Int), false))
  (.call (slices_Clone_int.told a0) fun t2 => .need ((0 : Int) ≤ (41 : Int) ∧ ((List.length t2 : Int) + (41 : Int)) * (8 : Nat) ≤ room) (.ret ((t2 ++ List.replicate (Int.toNat (41 : Int)) (0 : Int)), true)))
def impl_MemNew.tree : impl_MemNew.X → Tr impl_MemNew.X impl_MemNew.A := fun _ => .fail
def impl_MemNew.f (a0 : List Int) : Option impl_MemNew.A := (impl_MemNew.begin a0).run (lp impl_MemNew.tree)
def impl_MemNew.Q : Plan C := { PL with cuts := [], ords := [], weak := [] }
theorem impl_MemNew.e (J : Nat → St C → Prop) (K : PV U → List (PV U) → Prop) (x : impl_MemNew.X) : Tr.sem (fun x => J (impl_MemNew.id x) (impl_MemNew.st x)) (fun r => K (impl_MemNew.v r) (impl_MemNew.o r)) (impl_MemNew.tree x) = evCut C impl_MemNew.Q (SoundCall Try.prog C) J Try.f30 0 (impl_MemNew.id x) (impl_MemNew.st x) K := by cases x
theorem impl_MemNew.b (a0 : List Int) (J : Nat → St C → Prop) (K : PV U → List (PV U) → Prop) : Tr.sem (fun x => J (impl_MemNew.id x) (impl_MemNew.st x)) (fun r => K (impl_MemNew.v r) (impl_MemNew.o r)) (impl_MemNew.begin a0) = evFn C impl_MemNew.Q (SoundCall Try.prog C) J Try.f30 (impl_MemNew.S a0) 0 K := by kernel_rfl
def impl_MemNew.told (a0 : List Int) : YtmdgdcjkbggkmaaEv.Told impl_MemNew.A := ⟨impl_MemNew.f a0, fun r => SoundCall Try.prog C 30 (impl_MemNew.S a0) 0 (impl_MemNew.v r) (impl_MemNew.o r), fun r h =>
 soundCall_of_tree G mixed impl_MemNew.Q Try.func30 rfl (of_decide_eq_true (by kernel_rfl)) (by rfl) impl_MemNew.id impl_MemNew.st impl_MemNew.v impl_MemNew.o (fun _ => rfl) impl_MemNew.tree (fun J K x => impl_MemNew.e J K x) (impl_MemNew.begin a0) (fun J K => impl_MemNew.b a0 J K) h⟩
/-! #### loop.example/g00983/impl.hasVar (109) -/
def impl_hasVar.S (a0 : Int) : List (PV U) := YtmdgdcjkbggkmaaEv.start C 9 [.int .i64 a0] []
abbrev impl_hasVar.X := Empty
def impl_hasVar.id : impl_hasVar.X → Nat := fun _ => 0
def impl_hasVar.st : impl_hasVar.X → List (PV U) := fun _ => []
def impl_hasVar.begin (a0 : Int) : Tr impl_hasVar.X impl_hasVar.A :=
 .ite (decide (a0 = (1 : Int)))
  (.ret true)
  (.ret ((decide (a0 = (2 : Int)))))
def impl_hasVar.tree : impl_hasVar.X → Tr impl_hasVar.X impl_hasVar.A := fun _ => .fail
def impl_hasVar.f (a0 : Int) : Option impl_hasVar.A := (impl_hasVar.begin a0).run (lp impl_hasVar.tree)
def impl_hasVar.Q : Plan C := { PL with cuts := [], ords := [], weak := [] }
theorem impl_hasVar.e (J : Nat → St C → Prop) (K : PV U → List (PV U) → Prop) (x : impl_hasVar.X) : Tr.sem (fun x => J (impl_hasVar.id x) (impl_hasVar.st x)) (fun r => K (impl_hasVar.v r) (impl_hasVar.o r)) (impl_hasVar.tree x) = evCut C impl_hasVar.Q (SoundCall Try.prog C) J Try.f109 0 (impl_hasVar.id x) (impl_hasVar.st x) K := by cases x
theorem impl_hasVar.b (a0 : Int) (J : Nat → St C → Prop) (K : PV U → List (PV U) → Prop) : Tr.sem (fun x => J (impl_hasVar.id x) (impl_hasVar.st x)) (fun r => K (impl_hasVar.v r) (impl_hasVar.o r)) (impl_hasVar.begin a0) = evFn C impl_hasVar.Q (SoundCall Try.prog C) J Try.f109 (impl_hasVar.S a0) 0 K := by kernel_rfl
def impl_hasVar.told (a0 : Int) : YtmdgdcjkbggkmaaEv.Told impl_hasVar.A := ⟨impl_hasVar.f a0, fun r => SoundCall Try.prog C 109 (impl_hasVar.S a0) 0 (impl_hasVar.v r) (impl_hasVar.o r), fun r h =>
 soundCall_of_tree G mixed impl_hasVar.Q Try.func109 rfl (of_decide_eq_true (by kernel_rfl)) (by rfl) impl_hasVar.id impl_hasVar.st impl_hasVar.v impl_hasVar.o (fun _ => rfl) impl_hasVar.tree (fun J K x => impl_hasVar.e J K x) (impl_hasVar.begin a0) (fun J K => impl_hasVar.b a0 J K) h⟩
/-! #### loop.example/g00983/impl.isVar (99) -/
def impl_isVar.S (a0 : Int) : List (PV U) := YtmdgdcjkbggkmaaEv.start C 5 [.int .i64 a0] []
abbrev impl_isVar.X := Empty
def impl_isVar.id : impl_isVar.X → Nat := fun _ => 0
def impl_isVar.st : impl_isVar.X → List (PV U) := fun _ => []
def impl_isVar.begin (a0 : Int) : Tr impl_isVar.X impl_isVar.A :=
 .call (impl_within.told a0 (0 : Int) (7 : Int)) fun t1 => .ret t1
def impl_isVar.tree : impl_isVar.X → Tr impl_isVar.X impl_isVar.A := fun _ => .fail
def impl_isVar.f (a0 : Int) : Option impl_isVar.A := (impl_isVar.begin a0).run (lp impl_isVar.tree)
def impl_isVar.Q : Plan C := { PL with cuts := [], ords := [], weak := [] }
theorem impl_isVar.e (J : Nat → St C → Prop) (K : PV U → List (PV U) → Prop) (x : impl_isVar.X) : Tr.sem (fun x => J (impl_isVar.id x) (impl_isVar.st x)) (fun r => K (impl_isVar.v r) (impl_isVar.o r)) (impl_isVar.tree x) = evCut C impl_isVar.Q (SoundCall Try.prog C) J Try.f99 0 (impl_isVar.id x) (impl_isVar.st x) K := by cases x
theorem impl_isVar.b (a0 : Int) (J : Nat → St C → Prop) (K : PV U → List (PV U) → Prop) : Tr.sem (fun x => J (impl_isVar.id x) (impl_isVar.st x)) (fun r => K (impl_isVar.v r) (impl_isVar.o r)) (impl_isVar.begin a0) = evFn C impl_isVar.Q (SoundCall Try.prog C) J Try.f99 (impl_isVar.S a0) 0 K := by kernel_rfl
def impl_isVar.told (a0 : Int) : YtmdgdcjkbggkmaaEv.Told impl_isVar.A := ⟨impl_isVar.f a0, fun r => SoundCall Try.prog C 99 (impl_isVar.S a0) 0 (impl_isVar.v r) (impl_isVar.o r), fun r h =>
 soundCall_of_tree G mixed impl_isVar.Q Try.func99 rfl (of_decide_eq_true (by kernel_rfl)) (by rfl) impl_isVar.id impl_isVar.st impl_isVar.v impl_isVar.o (fun _ => rfl) impl_isVar.tree (fun J K x => impl_isVar.e J K x) (impl_isVar.begin a0) (fun J K => impl_isVar.b a0 J K) h⟩
/-! #### loop.example/g00983/impl.hasExpr (110) -/
def impl_hasExpr.S (a0 : Int) : List (PV U) := YtmdgdcjkbggkmaaEv.start C 13 [.int .i64 a0] []
abbrev impl_hasExpr.X := Empty
def impl_hasExpr.id : impl_hasExpr.X → Nat := fun _ => 0
def impl_hasExpr.st : impl_hasExpr.X → List (PV U) := fun _ => []
def impl_hasExpr.begin (a0 : Int) : Tr impl_hasExpr.X impl_hasExpr.A :=
 .ite (decide (a0 = (1 : Int)))
  (.ret true)
  (.ite (decide (a0 = (3 : Int)))
   (.ret true)
   (.ret ((decide (a0 = (4 : Int))))))
def impl_hasExpr.tree : impl_hasExpr.X → Tr impl_hasExpr.X impl_hasExpr.A := fun _ => .fail
def impl_hasExpr.f (a0 : Int) : Option impl_hasExpr.A := (impl_hasExpr.begin a0).run (lp impl_hasExpr.tree)
def impl_hasExpr.Q : Plan C := { PL with cuts := [], ords := [], weak := [] }
theorem impl_hasExpr.e (J : Nat → St C → Prop) (K : PV U → List (PV U) → Prop) (x : impl_hasExpr.X) : Tr.sem (fun x => J (impl_hasExpr.id x) (impl_hasExpr.st x)) (fun r => K (impl_hasExpr.v r) (impl_hasExpr.o r)) (impl_hasExpr.tree x) = evCut C impl_hasExpr.Q (SoundCall Try.prog C) J Try.f110 0 (impl_hasExpr.id x) (impl_hasExpr.st x) K := by cases x
theorem impl_hasExpr.b (a0 : Int) (J : Nat → St C → Prop) (K : PV U → List (PV U) → Prop) : Tr.sem (fun x => J (impl_hasExpr.id x) (impl_hasExpr.st x)) (fun r => K (impl_hasExpr.v r) (impl_hasExpr.o r)) (impl_hasExpr.begin a0) = evFn C impl_hasExpr.Q (SoundCall Try.prog C) J Try.f110 (impl_hasExpr.S a0) 0 K := by kernel_rfl
def impl_hasExpr.told (a0 : Int) : YtmdgdcjkbggkmaaEv.Told impl_hasExpr.A := ⟨impl_hasExpr.f a0, fun r => SoundCall Try.prog C 110 (impl_hasExpr.S a0) 0 (impl_hasExpr.v r) (impl_hasExpr.o r), fun r h =>
 soundCall_of_tree G mixed impl_hasExpr.Q Try.func110 rfl (of_decide_eq_true (by kernel_rfl)) (by rfl) impl_hasExpr.id impl_hasExpr.st impl_hasExpr.v impl_hasExpr.o (fun _ => rfl) impl_hasExpr.tree (fun J K x => impl_hasExpr.e J K x) (impl_hasExpr.begin a0) (fun J K => impl_hasExpr.b a0 J K) h⟩
/-! #### loop.example/g00983/impl.OperandOk (106) -/
def impl_OperandOk.S (a0 : Int) : List (PV U) := YtmdgdcjkbggkmaaEv.start C 5 [.int .i64 a0] []
abbrev impl_OperandOk.X := Empty
def impl_OperandOk.id : impl_OperandOk.X → Nat := fun _ => 0
def impl_OperandOk.st : impl_OperandOk.X → List (PV U) := fun _ => []
def impl_OperandOk.begin (a0 : Int) : Tr impl_OperandOk.X impl_OperandOk.A :=
 .call (impl_within.told a0 (-8 : Int) (999 : Int)) fun t1 => .ret t1
def impl_OperandOk.tree : impl_OperandOk.X → Tr impl_OperandOk.X impl_OperandOk.A := fun _ => .fail
def impl_OperandOk.f (a0 : Int) : Option impl_OperandOk.A := (impl_OperandOk.begin a0).run (lp impl_OperandOk.tree)
def impl_OperandOk.Q : Plan C := { PL with cuts := [], ords := [], weak := [] }
theorem impl_OperandOk.e (J : Nat → St C → Prop) (K : PV U → List (PV U) → Prop) (x : impl_OperandOk.X) : Tr.sem (fun x => J (impl_OperandOk.id x) (impl_OperandOk.st x)) (fun r => K (impl_OperandOk.v r) (impl_OperandOk.o r)) (impl_OperandOk.tree x) = evCut C impl_OperandOk.Q (SoundCall Try.prog C) J Try.f106 0 (impl_OperandOk.id x) (impl_OperandOk.st x) K := by cases x
theorem impl_OperandOk.b (a0 : Int) (J : Nat → St C → Prop) (K : PV U → List (PV U) → Prop) : Tr.sem (fun x => J (impl_OperandOk.id x) (impl_OperandOk.st x)) (fun r => K (impl_OperandOk.v r) (impl_OperandOk.o r)) (impl_OperandOk.begin a0) = evFn C impl_OperandOk.Q (SoundCall Try.prog C) J Try.f106 (impl_OperandOk.S a0) 0 K := by kernel_rfl
def impl_OperandOk.told (a0 : Int) : YtmdgdcjkbggkmaaEv.Told impl_OperandOk.A := ⟨impl_OperandOk.f a0, fun r => SoundCall Try.prog C 106 (impl_OperandOk.S a0) 0 (impl_OperandOk.v r) (impl_OperandOk.o r), fun r h =>
 soundCall_of_tree G mixed impl_OperandOk.Q Try.func106 rfl (of_decide_eq_true (by kernel_rfl)) (by rfl) impl_OperandOk.id impl_OperandOk.st impl_OperandOk.v impl_OperandOk.o (fun _ => rfl) impl_OperandOk.tree (fun J K x => impl_OperandOk.e J K x) (impl_OperandOk.begin a0) (fun J K => impl_OperandOk.b a0 J K) h⟩
/-! #### loop.example/g00983/impl.ExprOk (91) -/
def impl_ExprOk.S (a0 : Int) (a1 : Int) (a2 : Int) : List (PV U) := YtmdgdcjkbggkmaaEv.start C 16 [.agg [.int .i64 a0, .int .i64 a1, .int .i64 a2]] []
abbrev impl_ExprOk.X := Empty
def impl_ExprOk.id : impl_ExprOk.X → Nat := fun _ => 0
def impl_ExprOk.st : impl_ExprOk.X → List (PV U) := fun _ => []
def impl_ExprOk.begin (a0 : Int) (a1 : Int) (a2 : Int) : Tr impl_ExprOk.X impl_ExprOk.A :=
 .call (impl_within.told a0 (1 : Int) (7 : Int)) fun t1 => .ite t1
  (.call (impl_OperandOk.told a1) fun t2 => .ite t2
   (.call (impl_OperandOk.told a2) fun t3 => .ret t3)
   (.ret false))
  (.ret false)
def impl_ExprOk.tree : impl_ExprOk.X → Tr impl_ExprOk.X impl_ExprOk.A := fun _ => .fail
def impl_ExprOk.f (a0 : Int) (a1 : Int) (a2 : Int) : Option impl_ExprOk.A := (impl_ExprOk.begin a0 a1 a2).run (lp impl_ExprOk.tree)
def impl_ExprOk.Q : Plan C := { PL with cuts := [], ords := [], weak := [] }
theorem impl_ExprOk.e (J : Nat → St C → Prop) (K : PV U → List (PV U) → Prop) (x : impl_ExprOk.X) : Tr.sem (fun x => J (impl_ExprOk.id x) (impl_ExprOk.st x)) (fun r => K (impl_ExprOk.v r) (impl_ExprOk.o r)) (impl_ExprOk.tree x) = evCut C impl_ExprOk.Q (SoundCall Try.prog C) J Try.f91 0 (impl_ExprOk.id x) (impl_ExprOk.st x) K := by cases x
theorem impl_ExprOk.b (a0 : Int) (a1 : Int) (a2 : Int) (J : Nat → St C → Prop) (K : PV U → List (PV U) → Prop) : Tr.sem (fun x => J (impl_ExprOk.id x) (impl_ExprOk.st x)) (fun r => K (impl_ExprOk.v r) (impl_ExprOk.o r)) (impl_ExprOk.begin a0 a1 a2) = evFn C impl_ExprOk.Q (SoundCall Try.prog C) J Try.f91 (impl_ExprOk.S a0 a1 a2) 0 K := by kernel_rfl
def impl_ExprOk.told (a0 : Int) (a1 : Int) (a2 : Int) : YtmdgdcjkbggkmaaEv.Told impl_ExprOk.A := ⟨impl_ExprOk.f a0 a1 a2, fun r => SoundCall Try.prog C 91 (impl_ExprOk.S a0 a1 a2) 0 (impl_ExprOk.v r) (impl_ExprOk.o r), fun r h =>
 soundCall_of_tree G mixed impl_ExprOk.Q Try.func91 rfl (of_decide_eq_true (by kernel_rfl)) (by rfl) impl_ExprOk.id impl_ExprOk.st impl_ExprOk.v impl_ExprOk.o (fun _ => rfl) impl_ExprOk.tree (fun J K x => impl_ExprOk.e J K x) (impl_ExprOk.begin a0 a1 a2) (fun J K => impl_ExprOk.b a0 a1 a2 J K) h⟩
/-! #### loop.example/g00983/impl.isSensor (111) -/
def impl_isSensor.S (a0 : Int) : List (PV U) := YtmdgdcjkbggkmaaEv.start C 5 [.int .i64 a0] []
abbrev impl_isSensor.X := Empty
def impl_isSensor.id : impl_isSensor.X → Nat := fun _ => 0
def impl_isSensor.st : impl_isSensor.X → List (PV U) := fun _ => []
def impl_isSensor.begin (a0 : Int) : Tr impl_isSensor.X impl_isSensor.A :=
 .call (impl_within.told a0 (0 : Int) (3 : Int)) fun t1 => .ret t1
def impl_isSensor.tree : impl_isSensor.X → Tr impl_isSensor.X impl_isSensor.A := fun _ => .fail
def impl_isSensor.f (a0 : Int) : Option impl_isSensor.A := (impl_isSensor.begin a0).run (lp impl_isSensor.tree)
def impl_isSensor.Q : Plan C := { PL with cuts := [], ords := [], weak := [] }
theorem impl_isSensor.e (J : Nat → St C → Prop) (K : PV U → List (PV U) → Prop) (x : impl_isSensor.X) : Tr.sem (fun x => J (impl_isSensor.id x) (impl_isSensor.st x)) (fun r => K (impl_isSensor.v r) (impl_isSensor.o r)) (impl_isSensor.tree x) = evCut C impl_isSensor.Q (SoundCall Try.prog C) J Try.f111 0 (impl_isSensor.id x) (impl_isSensor.st x) K := by cases x
theorem impl_isSensor.b (a0 : Int) (J : Nat → St C → Prop) (K : PV U → List (PV U) → Prop) : Tr.sem (fun x => J (impl_isSensor.id x) (impl_isSensor.st x)) (fun r => K (impl_isSensor.v r) (impl_isSensor.o r)) (impl_isSensor.begin a0) = evFn C impl_isSensor.Q (SoundCall Try.prog C) J Try.f111 (impl_isSensor.S a0) 0 K := by kernel_rfl
def impl_isSensor.told (a0 : Int) : YtmdgdcjkbggkmaaEv.Told impl_isSensor.A := ⟨impl_isSensor.f a0, fun r => SoundCall Try.prog C 111 (impl_isSensor.S a0) 0 (impl_isSensor.v r) (impl_isSensor.o r), fun r h =>
 soundCall_of_tree G mixed impl_isSensor.Q Try.func111 rfl (of_decide_eq_true (by kernel_rfl)) (by rfl) impl_isSensor.id impl_isSensor.st impl_isSensor.v impl_isSensor.o (fun _ => rfl) impl_isSensor.tree (fun J K x => impl_isSensor.e J K x) (impl_isSensor.begin a0) (fun J K => impl_isSensor.b a0 J K) h⟩
/-! #### loop.example/g00983/impl.StmtOk (104) -/
def impl_StmtOk.S (a0 : Int) (a1 : Int) (a2 : Int) (a3 : Int) (a4 : Int) (a5 : Int) : List (PV U) := YtmdgdcjkbggkmaaEv.start C 65 [.agg [.int .i64 a0, .int .i64 a1, .int .i64 a2, .int .i64 a3, .int .i64 a4, .int .i64 a5]] []
inductive impl_StmtOk.X where
 | c3 (x0 : Int) (x1 : Int) (x2 : Int) (x3 : Int) (x4 : Int) (x5 : Int)
 | c5 (x0 : Int) (x1 : Int) (x2 : Int) (x3 : Int) (x4 : Int) (x5 : Int)
def impl_StmtOk.id : impl_StmtOk.X → Nat
 | .c3 .. => 3
 | .c5 .. => 5
def impl_StmtOk.st : impl_StmtOk.X → List (PV U)
 | .c3 x0 x1 x2 x3 x4 x5 => stOf 65 [(1, .box [.int .i64 x0, .int .i64 x1, .int .i64 x2, .int .i64 x3, .int .i64 x4, .int .i64 x5])]
 | .c5 x0 x1 x2 x3 x4 x5 => stOf 65 [(1, .box [.int .i64 x0, .int .i64 x1, .int .i64 x2, .int .i64 x3, .int .i64 x4, .int .i64 x5])]
def impl_StmtOk.begin (a0 : Int) (a1 : Int) (a2 : Int) (a3 : Int) (a4 : Int) (a5 : Int) : Tr impl_StmtOk.X impl_StmtOk.A :=
 .call (impl_within.told a0 (1 : Int) (6 : Int)) fun t1 => .ite (!t1)
  (.ret false)
  (.call (impl_hasVar.told a0) fun t2 => .ite t2
   (.call (impl_isVar.told a1) fun t3 => .ite (!t3)
    (.ret false)
    (.call (impl_hasVar.told a0) fun t4 => .ite (!t4)
     (.ite (!decide (a1 = (0 : Int)))
      (.ret false)
      (.jump (.c3 a0 a1 a2 a3 a4 a5)))
     (.jump (.c3 a0 a1 a2 a3 a4 a5))))
   (.call (impl_hasVar.told a0) fun t5 => .ite (!t5)
    (.ite (!decide (a1 = (0 : Int)))
     (.ret false)
     (.jump (.c3 a0 a1 a2 a3 a4 a5)))
    (.jump (.c3 a0 a1 a2 a3 a4 a5))))
def impl_StmtOk.tree : impl_StmtOk.X → Tr impl_StmtOk.X impl_StmtOk.A
 | .c3 x0 x1 x2 x3 x4 x5 =>
 .call (impl_hasExpr.told x0) fun t6 => .ite t6
  (.call (impl_ExprOk.told x3 x4 x5) fun t7 => .ite (!t7)
   (.ret false)
   (.call (impl_hasExpr.told x0) fun t8 => .ite (!t8)
    (.val ((!(decide (x3 = (0 : Int)) && (decide (x4 = (0 : Int)) && (decide (x5 = (0 : Int)) && true)))) : Bool) fun v9 => .ite v9
     (.ret false)
     (.jump (.c5 x0 x1 x2 x3 x4 x5)))
    (.jump (.c5 x0 x1 x2 x3 x4 x5))))
  (.call (impl_hasExpr.told x0) fun t10 => .ite (!t10)
   (.val ((!(decide (x3 = (0 : Int)) && (decide (x4 = (0 : Int)) && (decide (x5 = (0 : Int)) && true)))) : Bool) fun v11 => .ite v11
    (.ret false)
    (.jump (.c5 x0 x1 x2 x3 x4 x5)))
   (.jump (.c5 x0 x1 x2 x3 x4 x5)))
 | .c5 x0 x1 x2 x3 x4 x5 =>
 .ite (decide (x0 = (2 : Int)))
  (.call (impl_isSensor.told x2) fun t12 => .ret t12)
  (.ite (decide (x0 = (5 : Int)))
   (.call (impl_within.told x2 (1 : Int) (5 : Int)) fun t13 => .ret t13)
   (.ret ((decide (x2 = (0 : Int))))))
def impl_StmtOk.f (a0 : Int) (a1 : Int) (a2 : Int) (a3 : Int) (a4 : Int) (a5 : Int) : Option impl_StmtOk.A := (impl_StmtOk.begin a0 a1 a2 a3 a4 a5).run (lp impl_StmtOk.tree)
def impl_StmtOk.Q : Plan C := { PL with cuts := [(3, [1, 33, 34, 35, 36, 39, 40, 41, 42, 43, 44, 45, 46, 47, 48]), (5, [1])], ords := [], weak := [] }
theorem impl_StmtOk.e (J : Nat → St C → Prop) (K : PV U → List (PV U) → Prop) (x : impl_StmtOk.X) : Tr.sem (fun x => J (impl_StmtOk.id x) (impl_StmtOk.st x)) (fun r => K (impl_StmtOk.v r) (impl_StmtOk.o r)) (impl_StmtOk.tree x) = evCut C impl_StmtOk.Q (SoundCall Try.prog C) J Try.f104 0 (impl_StmtOk.id x) (impl_StmtOk.st x) K := by cases x <;> kernel_rfl
theorem impl_StmtOk.b (a0 : Int) (a1 : Int) (a2 : Int) (a3 : Int) (a4 : Int) (a5 : Int) (J : Nat → St C → Prop) (K : PV U → List (PV U) → Prop) : Tr.sem (fun x => J (impl_StmtOk.id x) (impl_StmtOk.st x)) (fun r => K (impl_StmtOk.v r) (impl_StmtOk.o r)) (impl_StmtOk.begin a0 a1 a2 a3 a4 a5) = evFn C impl_StmtOk.Q (SoundCall Try.prog C) J Try.f104 (impl_StmtOk.S a0 a1 a2 a3 a4 a5) 0 K := by kernel_rfl
def impl_StmtOk.told (a0 : Int) (a1 : Int) (a2 : Int) (a3 : Int) (a4 : Int) (a5 : Int) : YtmdgdcjkbggkmaaEv.Told impl_StmtOk.A := ⟨impl_StmtOk.f a0 a1 a2 a3 a4 a5, fun r => SoundCall Try.prog C 104 (impl_StmtOk.S a0 a1 a2 a3 a4 a5) 0 (impl_StmtOk.v r) (impl_StmtOk.o r), fun r h =>
 soundCall_of_tree G mixed impl_StmtOk.Q Try.func104 rfl (of_decide_eq_true (by kernel_rfl)) (by rfl) impl_StmtOk.id impl_StmtOk.st impl_StmtOk.v impl_StmtOk.o (fun _ => rfl) impl_StmtOk.tree (fun J K x => impl_StmtOk.e J K x) (impl_StmtOk.begin a0 a1 a2 a3 a4 a5) (fun J K => impl_StmtOk.b a0 a1 a2 a3 a4 a5 J K) h⟩
/-! #### loop.example/g00983/impl.isOpening (105) -/
def impl_isOpening.S (a0 : Int) : List (PV U) := YtmdgdcjkbggkmaaEv.start C 9 [.int .i64 a0] []
abbrev impl_isOpening.X := Empty
def impl_isOpening.id : impl_isOpening.X → Nat := fun _ => 0
def impl_isOpening.st : impl_isOpening.X → List (PV U) := fun _ => []
def impl_isOpening.begin (a0 : Int) : Tr impl_isOpening.X impl_isOpening.A :=
 .ite (decide (a0 = (4 : Int)))
  (.ret true)
  (.ret ((decide (a0 = (5 : Int)))))
def impl_isOpening.tree : impl_isOpening.X → Tr impl_isOpening.X impl_isOpening.A := fun _ => .fail
def impl_isOpening.f (a0 : Int) : Option impl_isOpening.A := (impl_isOpening.begin a0).run (lp impl_isOpening.tree)
def impl_isOpening.Q : Plan C := { PL with cuts := [], ords := [], weak := [] }
theorem impl_isOpening.e (J : Nat → St C → Prop) (K : PV U → List (PV U) → Prop) (x : impl_isOpening.X) : Tr.sem (fun x => J (impl_isOpening.id x) (impl_isOpening.st x)) (fun r => K (impl_isOpening.v r) (impl_isOpening.o r)) (impl_isOpening.tree x) = evCut C impl_isOpening.Q (SoundCall Try.prog C) J Try.f105 0 (impl_isOpening.id x) (impl_isOpening.st x) K := by cases x
theorem impl_isOpening.b (a0 : Int) (J : Nat → St C → Prop) (K : PV U → List (PV U) → Prop) : Tr.sem (fun x => J (impl_isOpening.id x) (impl_isOpening.st x)) (fun r => K (impl_isOpening.v r) (impl_isOpening.o r)) (impl_isOpening.begin a0) = evFn C impl_isOpening.Q (SoundCall Try.prog C) J Try.f105 (impl_isOpening.S a0) 0 K := by kernel_rfl
def impl_isOpening.told (a0 : Int) : YtmdgdcjkbggkmaaEv.Told impl_isOpening.A := ⟨impl_isOpening.f a0, fun r => SoundCall Try.prog C 105 (impl_isOpening.S a0) 0 (impl_isOpening.v r) (impl_isOpening.o r), fun r h =>
 soundCall_of_tree G mixed impl_isOpening.Q Try.func105 rfl (of_decide_eq_true (by kernel_rfl)) (by rfl) impl_isOpening.id impl_isOpening.st impl_isOpening.v impl_isOpening.o (fun _ => rfl) impl_isOpening.tree (fun J K x => impl_isOpening.e J K x) (impl_isOpening.begin a0) (fun J K => impl_isOpening.b a0 J K) h⟩
/-! #### loop.example/g00983/impl.BlockOk (90) -/
def impl_BlockOk.S (a0 : List S113) : List (PV U) := YtmdgdcjkbggkmaaEv.start C 39 [.sl 114 a0] []
inductive impl_BlockOk.X where
 | c3 (x0 : List S113) (x1 : Int) (x2 : List S113) (x3 : Int) (x4 : Int)
 | c12
def impl_BlockOk.id : impl_BlockOk.X → Nat
 | .c3 .. => 3
 | .c12 .. => 12
def impl_BlockOk.st : impl_BlockOk.X → List (PV U)
 | .c3 x0 x1 x2 x3 x4 => stOf 39 [(0, .sl 114 x0), (3, .int .i64 x1), (6, .sl 114 x2), (7, .int .i64 x3), (8, .int .i64 x4)]
 | .c12 => stOf 39 []
def impl_BlockOk.begin (a0 : List S113) : Tr impl_BlockOk.X impl_BlockOk.A :=
 .jump (.c3 a0 (0 : Int) a0 (List.length a0 : Int) (0 : Int))
def impl_BlockOk.tree : impl_BlockOk.X → Tr impl_BlockOk.X impl_BlockOk.A
 | .c3 x0 x1 x2 x3 x4 =>
 .ite (decide (x4 < x3))
  (.need ((0 : Int) ≤ x4 ∧ x4 < (List.length x2 : Int)) (.call (impl_StmtOk.told ((rdS113 x2 x4).f0) ((rdS113 x2 x4).f1) ((rdS113 x2 x4).f2) ((rdS113 x2 x4).f3.f0) ((rdS113 x2 x4).f3.f1) ((rdS113 x2 x4).f3.f2)) fun t1 => .ite (!t1)
   (.ret false)
   (.call (impl_isOpening.told ((rdS113 x2 x4).f0)) fun t2 => .ite t2
    (.ite (decide ((rdS113 x2 x4).f0 = (6 : Int)))
     (.ite (decide ((wr ((wr (x1 + (1 : Int))) - (1 : Int))) < (0 : Int)))
      (.jump (.c12))
      (.ite (decide ((wr ((wr (x1 + (1 : Int))) - (1 : Int))) > (3 : Int)))
       (.jump (.c12))
       (.jump (.c3 x0 (wr ((wr (x1 + (1 : Int))) - (1 : Int))) x2 x3 (wr (x4 + (1 : Int)))))))
     (.ite (decide ((wr (x1 + (1 : Int))) < (0 : Int)))
      (.jump (.c12))
      (.ite (decide ((wr (x1 + (1 : Int))) > (3 : Int)))
       (.jump (.c12))
       (.jump (.c3 x0 (wr (x1 + (1 : Int))) x2 x3 (wr (x4 + (1 : Int))))))))
    (.ite (decide ((rdS113 x2 x4).f0 = (6 : Int)))
     (.ite (decide ((wr (x1 - (1 : Int))) < (0 : Int)))
      (.jump (.c12))
      (.ite (decide ((wr (x1 - (1 : Int))) > (3 : Int)))
       (.jump (.c12))
       (.jump (.c3 x0 (wr (x1 - (1 : Int))) x2 x3 (wr (x4 + (1 : Int)))))))
     (.ite (decide (x1 < (0 : Int)))
      (.jump (.c12))
      (.ite (decide (x1 > (3 : Int)))
       (.jump (.c12))
       (.jump (.c3 x0 x1 x2 x3 (wr (x4 + (1 : Int)))))))))))
  (.ite (decide (x1 = (0 : Int)))
   (.ret ((decide ((List.length x0 : Int) ≤ (24 : Int)))))
   (.ret false))
 | .c12 =>
 .ret false
def impl_BlockOk.f (a0 : List S113) : Option impl_BlockOk.A := (impl_BlockOk.begin a0).run (lp impl_BlockOk.tree)
def impl_BlockOk.Q : Plan C := { PL with cuts := [(3, [0, 3, 6, 7, 8, 35, 36, 37]), (12, [])], ords := [], weak := [] }
theorem impl_BlockOk.e (J : Nat → St C → Prop) (K : PV U → List (PV U) → Prop) (x : impl_BlockOk.X) : Tr.sem (fun x => J (impl_BlockOk.id x) (impl_BlockOk.st x)) (fun r => K (impl_BlockOk.v r) (impl_BlockOk.o r)) (impl_BlockOk.tree x) = evCut C impl_BlockOk.Q (SoundCall Try.prog C) J Try.f90 0 (impl_BlockOk.id x) (impl_BlockOk.st x) K := by cases x <;> kernel_rfl
theorem impl_BlockOk.b (a0 : List S113) (J : Nat → St C → Prop) (K : PV U → List (PV U) → Prop) : Tr.sem (fun x => J (impl_BlockOk.id x) (impl_BlockOk.st x)) (fun r => K (impl_BlockOk.v r) (impl_BlockOk.o r)) (impl_BlockOk.begin a0) = evFn C impl_BlockOk.Q (SoundCall Try.prog C) J Try.f90 (impl_BlockOk.S a0) 0 K := by kernel_rfl
def impl_BlockOk.told (a0 : List S113) : YtmdgdcjkbggkmaaEv.Told impl_BlockOk.A := ⟨impl_BlockOk.f a0, fun r => SoundCall Try.prog C 90 (impl_BlockOk.S a0) 0 (impl_BlockOk.v r) (impl_BlockOk.o r), fun r h =>
 soundCall_of_tree G mixed impl_BlockOk.Q Try.func90 rfl (of_decide_eq_true (by kernel_rfl)) (by rfl) impl_BlockOk.id impl_BlockOk.st impl_BlockOk.v impl_BlockOk.o (fun _ => rfl) impl_BlockOk.tree (fun J K x => impl_BlockOk.e J K x) (impl_BlockOk.begin a0) (fun J K => impl_BlockOk.b a0 J K) h⟩
/-! #### loop.example/g00983/impl.taskOk (63) -/
def impl_taskOk.S (a0 : List S113) (a1 : Int) (a2 : Int) (a3 : Int) : List (PV U) := YtmdgdcjkbggkmaaEv.start C 11 [.agg [.sl 114 a0, .int .i64 a1, .int .i64 a2, .int .i64 a3]] []
abbrev impl_taskOk.X := Empty
def impl_taskOk.id : impl_taskOk.X → Nat := fun _ => 0
def impl_taskOk.st : impl_taskOk.X → List (PV U) := fun _ => []
def impl_taskOk.begin (a0 : List S113) (a1 : Int) (a2 : Int) (a3 : Int) : Tr impl_taskOk.X impl_taskOk.A :=
 .call (impl_BlockOk.told a0) fun t1 => .ite t1
  (.call (impl_ExprOk.told a1 a2 a3) fun t2 => .ret t2)
  (.ret false)
def impl_taskOk.tree : impl_taskOk.X → Tr impl_taskOk.X impl_taskOk.A := fun _ => .fail
def impl_taskOk.f (a0 : List S113) (a1 : Int) (a2 : Int) (a3 : Int) : Option impl_taskOk.A := (impl_taskOk.begin a0 a1 a2 a3).run (lp impl_taskOk.tree)
def impl_taskOk.Q : Plan C := { PL with cuts := [], ords := [], weak := [] }
theorem impl_taskOk.e (J : Nat → St C → Prop) (K : PV U → List (PV U) → Prop) (x : impl_taskOk.X) : Tr.sem (fun x => J (impl_taskOk.id x) (impl_taskOk.st x)) (fun r => K (impl_taskOk.v r) (impl_taskOk.o r)) (impl_taskOk.tree x) = evCut C impl_taskOk.Q (SoundCall Try.prog C) J Try.f63 0 (impl_taskOk.id x) (impl_taskOk.st x) K := by cases x
theorem impl_taskOk.b (a0 : List S113) (a1 : Int) (a2 : Int) (a3 : Int) (J : Nat → St C → Prop) (K : PV U → List (PV U) → Prop) : Tr.sem (fun x => J (impl_taskOk.id x) (impl_taskOk.st x)) (fun r => K (impl_taskOk.v r) (impl_taskOk.o r)) (impl_taskOk.begin a0 a1 a2 a3) = evFn C impl_taskOk.Q (SoundCall Try.prog C) J Try.f63 (impl_taskOk.S a0 a1 a2 a3) 0 K := by kernel_rfl
def impl_taskOk.told (a0 : List S113) (a1 : Int) (a2 : Int) (a3 : Int) : YtmdgdcjkbggkmaaEv.Told impl_taskOk.A := ⟨impl_taskOk.f a0 a1 a2 a3, fun r => SoundCall Try.prog C 63 (impl_taskOk.S a0 a1 a2 a3) 0 (impl_taskOk.v r) (impl_taskOk.o r), fun r h =>
 soundCall_of_tree G mixed impl_taskOk.Q Try.func63 rfl (of_decide_eq_true (by kernel_rfl)) (by rfl) impl_taskOk.id impl_taskOk.st impl_taskOk.v impl_taskOk.o (fun _ => rfl) impl_taskOk.tree (fun J K x => impl_taskOk.e J K x) (impl_taskOk.begin a0 a1 a2 a3) (fun J K => impl_taskOk.b a0 a1 a2 a3 J K) h⟩
/-! #### loop.example/g00983/impl.ProgramOk$1 (62) -/
def impl_ProgramOk_1.S (a0 : List S113) (a1 : Int) (a2 : Int) (a3 : Int) : List (PV U) := YtmdgdcjkbggkmaaEv.start C 6 [.agg [.sl 114 a0, .int .i64 a1, .int .i64 a2, .int .i64 a3]] []
abbrev impl_ProgramOk_1.X := Empty
def impl_ProgramOk_1.id : impl_ProgramOk_1.X → Nat := fun _ => 0
def impl_ProgramOk_1.st : impl_ProgramOk_1.X → List (PV U) := fun _ => []
def impl_ProgramOk_1.begin (a0 : List S113) (a1 : Int) (a2 : Int) (a3 : Int) : Tr impl_ProgramOk_1.X impl_ProgramOk_1.A :=
 .call (impl_taskOk.told a0 a1 a2 a3) fun t1 => .ret ((!t1))
def impl_ProgramOk_1.tree : impl_ProgramOk_1.X → Tr impl_ProgramOk_1.X impl_ProgramOk_1.A := fun _ => .fail
def impl_ProgramOk_1.f (a0 : List S113) (a1 : Int) (a2 : Int) (a3 : Int) : Option impl_ProgramOk_1.A := (impl_ProgramOk_1.begin a0 a1 a2 a3).run (lp impl_ProgramOk_1.tree)
def impl_ProgramOk_1.Q : Plan C := { PL with cuts := [], ords := [], weak := [] }
theorem impl_ProgramOk_1.e (J : Nat → St C → Prop) (K : PV U → List (PV U) → Prop) (x : impl_ProgramOk_1.X) : Tr.sem (fun x => J (impl_ProgramOk_1.id x) (impl_ProgramOk_1.st x)) (fun r => K (impl_ProgramOk_1.v r) (impl_ProgramOk_1.o r)) (impl_ProgramOk_1.tree x) = evCut C impl_ProgramOk_1.Q (SoundCall Try.prog C) J Try.f62 0 (impl_ProgramOk_1.id x) (impl_ProgramOk_1.st x) K := by cases x
theorem impl_ProgramOk_1.b (a0 : List S113) (a1 : Int) (a2 : Int) (a3 : Int) (J : Nat → St C → Prop) (K : PV U → List (PV U) → Prop) : Tr.sem (fun x => J (impl_ProgramOk_1.id x) (impl_ProgramOk_1.st x)) (fun r => K (impl_ProgramOk_1.v r) (impl_ProgramOk_1.o r)) (impl_ProgramOk_1.begin a0 a1 a2 a3) = evFn C impl_ProgramOk_1.Q (SoundCall Try.prog C) J Try.f62 (impl_ProgramOk_1.S a0 a1 a2 a3) 0 K := by kernel_rfl
def impl_ProgramOk_1.told (a0 : List S113) (a1 : Int) (a2 : Int) (a3 : Int) : YtmdgdcjkbggkmaaEv.Told impl_ProgramOk_1.A := ⟨impl_ProgramOk_1.f a0 a1 a2 a3, fun r => SoundCall Try.prog C 62 (impl_ProgramOk_1.S a0 a1 a2 a3) 0 (impl_ProgramOk_1.v r) (impl_ProgramOk_1.o r), fun r h =>
 soundCall_of_tree G mixed impl_ProgramOk_1.Q Try.func62 rfl (of_decide_eq_true (by kernel_rfl)) (by rfl) impl_ProgramOk_1.id impl_ProgramOk_1.st impl_ProgramOk_1.v impl_ProgramOk_1.o (fun _ => rfl) impl_ProgramOk_1.tree (fun J K x => impl_ProgramOk_1.e J K x) (impl_ProgramOk_1.begin a0 a1 a2 a3) (fun J K => impl_ProgramOk_1.b a0 a1 a2 a3 J K) h⟩
/-! #### slices.IndexFunc[[]loop.example/g00983/impl.Task,loop.example/g00983/impl.Task] (89) -/
def slices_IndexFunc_impl_Task_ProgramOk_1.S (a0 : List S90) : List (PV U) := YtmdgdcjkbggkmaaEv.start C 19 [.sl 91 a0, .fn 62 []] []
inductive slices_IndexFunc_impl_Task_ProgramOk_1.X where
 | c2 (x0 : List S90) (x1 : Int) (x2 : Int)
def slices_IndexFunc_impl_Task_ProgramOk_1.id : slices_IndexFunc_impl_Task_ProgramOk_1.X → Nat
 | .c2 .. => 2
def slices_IndexFunc_impl_Task_ProgramOk_1.st : slices_IndexFunc_impl_Task_ProgramOk_1.X → List (PV U)
 | .c2 x0 x1 x2 => stOf 19 [(0, .sl 91 x0), (1, .fn 62 []), (7, .int .i64 x1), (8, .int .i64 x2)]
def slices_IndexFunc_impl_Task_ProgramOk_1.begin (a0 : List S90) : Tr slices_IndexFunc_impl_Task_ProgramOk_1.X slices_IndexFunc_impl_Task_ProgramOk_1.A :=
 .jump (.c2 a0 (List.length a0 : Int) (0 : Int))
def slices_IndexFunc_impl_Task_ProgramOk_1.tree : slices_IndexFunc_impl_Task_ProgramOk_1.X → Tr slices_IndexFunc_impl_Task_ProgramOk_1.X slices_IndexFunc_impl_Task_ProgramOk_1.A
 | .c2 x0 x1 x2 =>
 .ite (decide (x2 < x1))
  (.need ((0 : Int) ≤ x2 ∧ x2 < (List.length x0 : Int)) (.call (impl_ProgramOk_1.told ((rdS90 x0 x2).f0) ((rdS90 x0 x2).f1.f0) ((rdS90 x0 x2).f1.f1) ((rdS90 x0 x2).f1.f2)) fun t1 => .ite t1
   (.ret x2)
   (.jump (.c2 x0 x1 (wr (x2 + (1 : Int)))))))
  (.ret ((-1 : Int)))
def slices_IndexFunc_impl_Task_ProgramOk_1.f (a0 : List S90) : Option slices_IndexFunc_impl_Task_ProgramOk_1.A := (slices_IndexFunc_impl_Task_ProgramOk_1.begin a0).run (lp slices_IndexFunc_impl_Task_ProgramOk_1.tree)
def slices_IndexFunc_impl_Task_ProgramOk_1.Q : Plan C := { PL with cuts := [(2, [0, 1, 7, 8])], ords := [], weak := [] }
theorem slices_IndexFunc_impl_Task_ProgramOk_1.e (J : Nat → St C → Prop) (K : PV U → List (PV U) → Prop) (x : slices_IndexFunc_impl_Task_ProgramOk_1.X) : Tr.sem (fun x => J (slices_IndexFunc_impl_Task_ProgramOk_1.id x) (slices_IndexFunc_impl_Task_ProgramOk_1.st x)) (fun r => K (slices_IndexFunc_impl_Task_ProgramOk_1.v r) (slices_IndexFunc_impl_Task_ProgramOk_1.o r)) (slices_IndexFunc_impl_Task_ProgramOk_1.tree x) = evCut C slices_IndexFunc_impl_Task_ProgramOk_1.Q (SoundCall Try.prog C) J Try.f89 0 (slices_IndexFunc_impl_Task_ProgramOk_1.id x) (slices_IndexFunc_impl_Task_ProgramOk_1.st x) K := by cases x <;> kernel_rfl
theorem slices_IndexFunc_impl_Task_ProgramOk_1.b (a0 : List S90) (J : Nat → St C → Prop) (K : PV U → List (PV U) → Prop) : Tr.sem (fun x => J (slices_IndexFunc_impl_Task_ProgramOk_1.id x) (slices_IndexFunc_impl_Task_ProgramOk_1.st x)) (fun r => K (slices_IndexFunc_impl_Task_ProgramOk_1.v r) (slices_IndexFunc_impl_Task_ProgramOk_1.o r)) (slices_IndexFunc_impl_Task_ProgramOk_1.begin a0) = evFn C slices_IndexFunc_impl_Task_ProgramOk_1.Q (SoundCall Try.prog C) J Try.f89 (slices_IndexFunc_impl_Task_ProgramOk_1.S a0) 0 K := by kernel_rfl
def slices_IndexFunc_impl_Task_ProgramOk_1.told (a0 : List S90) : YtmdgdcjkbggkmaaEv.Told slices_IndexFunc_impl_Task_ProgramOk_1.A := ⟨slices_IndexFunc_impl_Task_ProgramOk_1.f a0, fun r => SoundCall Try.prog C 89 (slices_IndexFunc_impl_Task_ProgramOk_1.S a0) 0 (slices_IndexFunc_impl_Task_ProgramOk_1.v r) (slices_IndexFunc_impl_Task_ProgramOk_1.o r), fun r h =>
 soundCall_of_tree G mixed slices_IndexFunc_impl_Task_ProgramOk_1.Q Try.func89 rfl (of_decide_eq_true (by kernel_rfl)) (by rfl) slices_IndexFunc_impl_Task_ProgramOk_1.id slices_IndexFunc_impl_Task_ProgramOk_1.st slices_IndexFunc_impl_Task_ProgramOk_1.v slices_IndexFunc_impl_Task_ProgramOk_1.o (fun _ => rfl) slices_IndexFunc_impl_Task_ProgramOk_1.tree (fun J K x => slices_IndexFunc_impl_Task_ProgramOk_1.e J K x) (slices_IndexFunc_impl_Task_ProgramOk_1.begin a0) (fun J K => slices_IndexFunc_impl_Task_ProgramOk_1.b a0 J K) h⟩
/-! #### slices.ContainsFunc[[]loop.example/g00983/impl.Task,loop.example/g00983/impl.Task] (61) -/
def slices_ContainsFunc_impl_Task_ProgramOk_1.S (a0 : List S90) : List (PV U) := YtmdgdcjkbggkmaaEv.start C 9 [.sl 91 a0, .fn 62 []] []
abbrev slices_ContainsFunc_impl_Task_ProgramOk_1.X := Empty
def slices_ContainsFunc_impl_Task_ProgramOk_1.id : slices_ContainsFunc_impl_Task_ProgramOk_1.X → Nat := fun _ => 0
def slices_ContainsFunc_impl_Task_ProgramOk_1.st : slices_ContainsFunc_impl_Task_ProgramOk_1.X → List (PV U) := fun _ => []
def slices_ContainsFunc_impl_Task_ProgramOk_1.begin (a0 : List S90) : Tr slices_ContainsFunc_impl_Task_ProgramOk_1.X slices_ContainsFunc_impl_Task_ProgramOk_1.A :=
 .call (slices_IndexFunc_impl_Task_ProgramOk_1.told a0) fun t1 => .ret ((decide (t1 ≥ (0 : Int))))
def slices_ContainsFunc_impl_Task_ProgramOk_1.tree : slices_ContainsFunc_impl_Task_ProgramOk_1.X → Tr slices_ContainsFunc_impl_Task_ProgramOk_1.X slices_ContainsFunc_impl_Task_ProgramOk_1.A := fun _ => .fail
def slices_ContainsFunc_impl_Task_ProgramOk_1.f (a0 : List S90) : Option slices_ContainsFunc_impl_Task_ProgramOk_1.A := (slices_ContainsFunc_impl_Task_ProgramOk_1.begin a0).run (lp slices_ContainsFunc_impl_Task_ProgramOk_1.tree)
def slices_ContainsFunc_impl_Task_ProgramOk_1.Q : Plan C := { PL with cuts := [], ords := [], weak := [] }
theorem slices_ContainsFunc_impl_Task_ProgramOk_1.e (J : Nat → St C → Prop) (K : PV U → List (PV U) → Prop) (x : slices_ContainsFunc_impl_Task_ProgramOk_1.X) : Tr.sem (fun x => J (slices_ContainsFunc_impl_Task_ProgramOk_1.id x) (slices_ContainsFunc_impl_Task_ProgramOk_1.st x)) (fun r => K (slices_ContainsFunc_impl_Task_ProgramOk_1.v r) (slices_ContainsFunc_impl_Task_ProgramOk_1.o r)) (slices_ContainsFunc_impl_Task_ProgramOk_1.tree x) = evCut C slices_ContainsFunc_impl_Task_ProgramOk_1.Q (SoundCall Try.prog C) J Try.f61 0 (slices_ContainsFunc_impl_Task_ProgramOk_1.id x) (slices_ContainsFunc_impl_Task_ProgramOk_1.st x) K := by cases x
theorem slices_ContainsFunc_impl_Task_ProgramOk_1.b (a0 : List S90) (J : Nat → St C → Prop) (K : PV U → List (PV U) → Prop) : Tr.sem (fun x => J (slices_ContainsFunc_impl_Task_ProgramOk_1.id x) (slices_ContainsFunc_impl_Task_ProgramOk_1.st x)) (fun r => K (slices_ContainsFunc_impl_Task_ProgramOk_1.v r) (slices_ContainsFunc_impl_Task_ProgramOk_1.o r)) (slices_ContainsFunc_impl_Task_ProgramOk_1.begin a0) = evFn C slices_ContainsFunc_impl_Task_ProgramOk_1.Q (SoundCall Try.prog C) J Try.f61 (slices_ContainsFunc_impl_Task_ProgramOk_1.S a0) 0 K := by kernel_rfl
def slices_ContainsFunc_impl_Task_ProgramOk_1.told (a0 : List S90) : YtmdgdcjkbggkmaaEv.Told slices_ContainsFunc_impl_Task_ProgramOk_1.A := ⟨slices_ContainsFunc_impl_Task_ProgramOk_1.f a0, fun r => SoundCall Try.prog C 61 (slices_ContainsFunc_impl_Task_ProgramOk_1.S a0) 0 (slices_ContainsFunc_impl_Task_ProgramOk_1.v r) (slices_ContainsFunc_impl_Task_ProgramOk_1.o r), fun r h =>
 soundCall_of_tree G mixed slices_ContainsFunc_impl_Task_ProgramOk_1.Q Try.func61 rfl (of_decide_eq_true (by kernel_rfl)) (by rfl) slices_ContainsFunc_impl_Task_ProgramOk_1.id slices_ContainsFunc_impl_Task_ProgramOk_1.st slices_ContainsFunc_impl_Task_ProgramOk_1.v slices_ContainsFunc_impl_Task_ProgramOk_1.o (fun _ => rfl) slices_ContainsFunc_impl_Task_ProgramOk_1.tree (fun J K x => slices_ContainsFunc_impl_Task_ProgramOk_1.e J K x) (slices_ContainsFunc_impl_Task_ProgramOk_1.begin a0) (fun J K => slices_ContainsFunc_impl_Task_ProgramOk_1.b a0 J K) h⟩
/-! #### loop.example/g00983/impl.ProgramOk (31) -/
def impl_ProgramOk.S (a0 : List S90) : List (PV U) := YtmdgdcjkbggkmaaEv.start C 13 [.agg [.sl 91 a0]] []
abbrev impl_ProgramOk.X := Empty
def impl_ProgramOk.id : impl_ProgramOk.X → Nat := fun _ => 0
def impl_ProgramOk.st : impl_ProgramOk.X → List (PV U) := fun _ => []
def impl_ProgramOk.begin (a0 : List S90) : Tr impl_ProgramOk.X impl_ProgramOk.A :=
 .call (impl_within.told (List.length a0 : Int) (1 : Int) (6 : Int)) fun t1 => .ite t1
  (.call (slices_ContainsFunc_impl_Task_ProgramOk_1.told a0) fun t2 => .ret ((!t2)))
  (.ret false)
def impl_ProgramOk.tree : impl_ProgramOk.X → Tr impl_ProgramOk.X impl_ProgramOk.A := fun _ => .fail
def impl_ProgramOk.f (a0 : List S90) : Option impl_ProgramOk.A := (impl_ProgramOk.begin a0).run (lp impl_ProgramOk.tree)
def impl_ProgramOk.Q : Plan C := { PL with cuts := [], ords := [], weak := [] }
theorem impl_ProgramOk.e (J : Nat → St C → Prop) (K : PV U → List (PV U) → Prop) (x : impl_ProgramOk.X) : Tr.sem (fun x => J (impl_ProgramOk.id x) (impl_ProgramOk.st x)) (fun r => K (impl_ProgramOk.v r) (impl_ProgramOk.o r)) (impl_ProgramOk.tree x) = evCut C impl_ProgramOk.Q (SoundCall Try.prog C) J Try.f31 0 (impl_ProgramOk.id x) (impl_ProgramOk.st x) K := by cases x
theorem impl_ProgramOk.b (a0 : List S90) (J : Nat → St C → Prop) (K : PV U → List (PV U) → Prop) : Tr.sem (fun x => J (impl_ProgramOk.id x) (impl_ProgramOk.st x)) (fun r => K (impl_ProgramOk.v r) (impl_ProgramOk.o r)) (impl_ProgramOk.begin a0) = evFn C impl_ProgramOk.Q (SoundCall Try.prog C) J Try.f31 (impl_ProgramOk.S a0) 0 K := by kernel_rfl
def impl_ProgramOk.told (a0 : List S90) : YtmdgdcjkbggkmaaEv.Told impl_ProgramOk.A := ⟨impl_ProgramOk.f a0, fun r => SoundCall Try.prog C 31 (impl_ProgramOk.S a0) 0 (impl_ProgramOk.v r) (impl_ProgramOk.o r), fun r h =>
 soundCall_of_tree G mixed impl_ProgramOk.Q Try.func31 rfl (of_decide_eq_true (by kernel_rfl)) (by rfl) impl_ProgramOk.id impl_ProgramOk.st impl_ProgramOk.v impl_ProgramOk.o (fun _ => rfl) impl_ProgramOk.tree (fun J K x => impl_ProgramOk.e J K x) (impl_ProgramOk.begin a0) (fun J K => impl_ProgramOk.b a0 J K) h⟩
/-! #### loop.example/g00983/impl.StoreOk (32) -/
def impl_StoreOk.S (a0 : Int) (a1 : Int) (a2 : Int) (a3 : Int) : List (PV U) := YtmdgdcjkbggkmaaEv.start C 25 [.agg [.int .i64 a0, .int .i64 a1, .int .i64 a2, .int .i64 a3]] []
abbrev impl_StoreOk.X := Empty
def impl_StoreOk.id : impl_StoreOk.X → Nat := fun _ => 0
def impl_StoreOk.st : impl_StoreOk.X → List (PV U) := fun _ => []
def impl_StoreOk.begin (a0 : Int) (a1 : Int) (a2 : Int) (a3 : Int) : Tr impl_StoreOk.X impl_StoreOk.A :=
 .call (impl_within.told a1 (1 : Int) (5000 : Int)) fun t1 => .ite t1
  (.call (impl_within.told a0 (0 : Int) a1) fun t2 => .ite t2
   (.call (impl_within.told a2 (1 : Int) a1) fun t3 => .ite t3
    (.call (impl_within.told a3 (0 : Int) (100 : Int)) fun t4 => .ret t4)
    (.ret false))
   (.ret false))
  (.ret false)
def impl_StoreOk.tree : impl_StoreOk.X → Tr impl_StoreOk.X impl_StoreOk.A := fun _ => .fail
def impl_StoreOk.f (a0 : Int) (a1 : Int) (a2 : Int) (a3 : Int) : Option impl_StoreOk.A := (impl_StoreOk.begin a0 a1 a2 a3).run (lp impl_StoreOk.tree)
def impl_StoreOk.Q : Plan C := { PL with cuts := [], ords := [], weak := [] }
theorem impl_StoreOk.e (J : Nat → St C → Prop) (K : PV U → List (PV U) → Prop) (x : impl_StoreOk.X) : Tr.sem (fun x => J (impl_StoreOk.id x) (impl_StoreOk.st x)) (fun r => K (impl_StoreOk.v r) (impl_StoreOk.o r)) (impl_StoreOk.tree x) = evCut C impl_StoreOk.Q (SoundCall Try.prog C) J Try.f32 0 (impl_StoreOk.id x) (impl_StoreOk.st x) K := by cases x
theorem impl_StoreOk.b (a0 : Int) (a1 : Int) (a2 : Int) (a3 : Int) (J : Nat → St C → Prop) (K : PV U → List (PV U) → Prop) : Tr.sem (fun x => J (impl_StoreOk.id x) (impl_StoreOk.st x)) (fun r => K (impl_StoreOk.v r) (impl_StoreOk.o r)) (impl_StoreOk.begin a0 a1 a2 a3) = evFn C impl_StoreOk.Q (SoundCall Try.prog C) J Try.f32 (impl_StoreOk.S a0 a1 a2 a3) 0 K := by kernel_rfl
def impl_StoreOk.told (a0 : Int) (a1 : Int) (a2 : Int) (a3 : Int) : YtmdgdcjkbggkmaaEv.Told impl_StoreOk.A := ⟨impl_StoreOk.f a0 a1 a2 a3, fun r => SoundCall Try.prog C 32 (impl_StoreOk.S a0 a1 a2 a3) 0 (impl_StoreOk.v r) (impl_StoreOk.o r), fun r h =>
 soundCall_of_tree G mixed impl_StoreOk.Q Try.func32 rfl (of_decide_eq_true (by kernel_rfl)) (by rfl) impl_StoreOk.id impl_StoreOk.st impl_StoreOk.v impl_StoreOk.o (fun _ => rfl) impl_StoreOk.tree (fun J K x => impl_StoreOk.e J K x) (impl_StoreOk.begin a0 a1 a2 a3) (fun J K => impl_StoreOk.b a0 a1 a2 a3 J K) h⟩
/-! #### slices.Clone[[]loop.example/g00983/impl.Stmt,loop.example/g00983/impl.Stmt] (93) -/
def slices_Clone_impl_Stmt.S (a0 : List S113) : List (PV U) := YtmdgdcjkbggkmaaEv.start C 8 [.sl 114 a0] []
abbrev slices_Clone_impl_Stmt.X := Empty
def slices_Clone_impl_Stmt.id : slices_Clone_impl_Stmt.X → Nat := fun _ => 0
def slices_Clone_impl_Stmt.st : slices_Clone_impl_Stmt.X → List (PV U) := fun _ => []
def slices_Clone_impl_Stmt.begin (a0 : List S113) : Tr slices_Clone_impl_Stmt.X slices_Clone_impl_Stmt.A :=
 .nilq a0
  (.ret (([] : List S113)))
  (.need (((List.length ([] : List S113) : Int) + (List.length a0 : Int)) * (48 : Nat) ≤ room) (.ret ((([] : List S113) ++ a0))))
def slices_Clone_impl_Stmt.tree : slices_Clone_impl_Stmt.X → Tr slices_Clone_impl_Stmt.X slices_Clone_impl_Stmt.A := fun _ => .fail
def slices_Clone_impl_Stmt.f (a0 : List S113) : Option slices_Clone_impl_Stmt.A := (slices_Clone_impl_Stmt.begin a0).run (lp slices_Clone_impl_Stmt.tree)
def slices_Clone_impl_Stmt.Q : Plan C := { PL with cuts := [], ords := [], weak := [] }
theorem slices_Clone_impl_Stmt.e (J : Nat → St C → Prop) (K : PV U → List (PV U) → Prop) (x : slices_Clone_impl_Stmt.X) : Tr.sem (fun x => J (slices_Clone_impl_Stmt.id x) (slices_Clone_impl_Stmt.st x)) (fun r => K (slices_Clone_impl_Stmt.v r) (slices_Clone_impl_Stmt.o r)) (slices_Clone_impl_Stmt.tree x) = evCut C slices_Clone_impl_Stmt.Q (SoundCall Try.prog C) J Try.f93 0 (slices_Clone_impl_Stmt.id x) (slices_Clone_impl_Stmt.st x) K := by cases x
theorem slices_Clone_impl_Stmt.b (a0 : List S113) (J : Nat → St C → Prop) (K : PV U → List (PV U) → Prop) : Tr.sem (fun x => J (slices_Clone_impl_Stmt.id x) (slices_Clone_impl_Stmt.st x)) (fun r => K (slices_Clone_impl_Stmt.v r) (slices_Clone_impl_Stmt.o r)) (slices_Clone_impl_Stmt.begin a0) = evFn C slices_Clone_impl_Stmt.Q (SoundCall Try.prog C) J Try.f93 (slices_Clone_impl_Stmt.S a0) 0 K := by kernel_rfl
def slices_Clone_impl_Stmt.told (a0 : List S113) : YtmdgdcjkbggkmaaEv.Told slices_Clone_impl_Stmt.A := ⟨slices_Clone_impl_Stmt.f a0, fun r => SoundCall Try.prog C 93 (slices_Clone_impl_Stmt.S a0) 0 (slices_Clone_impl_Stmt.v r) (slices_Clone_impl_Stmt.o r), fun r h =>
 soundCall_of_tree G mixed slices_Clone_impl_Stmt.Q Try.func93 rfl (of_decide_eq_true (by kernel_rfl)) (by rfl) slices_Clone_impl_Stmt.id slices_Clone_impl_Stmt.st slices_Clone_impl_Stmt.v slices_Clone_impl_Stmt.o (fun _ => rfl) slices_Clone_impl_Stmt.tree (fun J K x => slices_Clone_impl_Stmt.e J K x) (slices_Clone_impl_Stmt.begin a0) (fun J K => slices_Clone_impl_Stmt.b a0 J K) h⟩
/-! #### loop.example/g00983/impl.copyTask (67) -/
def impl_copyTask.S (a0 : List S113) (a1 : Int) (a2 : Int) (a3 : Int) : List (PV U) := YtmdgdcjkbggkmaaEv.start C 8 [.agg [.sl 114 a0, .int .i64 a1, .int .i64 a2, .int .i64 a3]] []
abbrev impl_copyTask.X := Empty
def impl_copyTask.id : impl_copyTask.X → Nat := fun _ => 0
def impl_copyTask.st : impl_copyTask.X → List (PV U) := fun _ => []
def impl_copyTask.begin (a0 : List S113) (a1 : Int) (a2 : Int) (a3 : Int) : Tr impl_copyTask.X impl_copyTask.A :=
 .call (slices_Clone_impl_Stmt.told a0) fun t1 => .ret (t1, a1, a2, a3)
def impl_copyTask.tree : impl_copyTask.X → Tr impl_copyTask.X impl_copyTask.A := fun _ => .fail
def impl_copyTask.f (a0 : List S113) (a1 : Int) (a2 : Int) (a3 : Int) : Option impl_copyTask.A := (impl_copyTask.begin a0 a1 a2 a3).run (lp impl_copyTask.tree)
def impl_copyTask.Q : Plan C := { PL with cuts := [], ords := [], weak := [] }
theorem impl_copyTask.e (J : Nat → St C → Prop) (K : PV U → List (PV U) → Prop) (x : impl_copyTask.X) : Tr.sem (fun x => J (impl_copyTask.id x) (impl_copyTask.st x)) (fun r => K (impl_copyTask.v r) (impl_copyTask.o r)) (impl_copyTask.tree x) = evCut C impl_copyTask.Q (SoundCall Try.prog C) J Try.f67 0 (impl_copyTask.id x) (impl_copyTask.st x) K := by cases x
theorem impl_copyTask.b (a0 : List S113) (a1 : Int) (a2 : Int) (a3 : Int) (J : Nat → St C → Prop) (K : PV U → List (PV U) → Prop) : Tr.sem (fun x => J (impl_copyTask.id x) (impl_copyTask.st x)) (fun r => K (impl_copyTask.v r) (impl_copyTask.o r)) (impl_copyTask.begin a0 a1 a2 a3) = evFn C impl_copyTask.Q (SoundCall Try.prog C) J Try.f67 (impl_copyTask.S a0 a1 a2 a3) 0 K := by kernel_rfl
def impl_copyTask.told (a0 : List S113) (a1 : Int) (a2 : Int) (a3 : Int) : YtmdgdcjkbggkmaaEv.Told impl_copyTask.A := ⟨impl_copyTask.f a0 a1 a2 a3, fun r => SoundCall Try.prog C 67 (impl_copyTask.S a0 a1 a2 a3) 0 (impl_copyTask.v r) (impl_copyTask.o r), fun r h =>
 soundCall_of_tree G mixed impl_copyTask.Q Try.func67 rfl (of_decide_eq_true (by kernel_rfl)) (by rfl) impl_copyTask.id impl_copyTask.st impl_copyTask.v impl_copyTask.o (fun _ => rfl) impl_copyTask.tree (fun J K x => impl_copyTask.e J K x) (impl_copyTask.begin a0 a1 a2 a3) (fun J K => impl_copyTask.b a0 a1 a2 a3 J K) h⟩
/-! #### loop.example/g00983/impl.copyProgram (34) -/
def impl_copyProgram.S (a0 : List S90) : List (PV U) := YtmdgdcjkbggkmaaEv.start C 23 [.agg [.sl 91 a0]] []
inductive impl_copyProgram.X where
 | c3 (x0 : List S90) (x1 : List S90) (x2 : List S90) (x3 : Int) (x4 : Int)
def impl_copyProgram.id : impl_copyProgram.X → Nat
 | .c3 .. => 3
def impl_copyProgram.st : impl_copyProgram.X → List (PV U)
 | .c3 x0 x1 x2 x3 x4 => stOf 23 [(2, .box [.own true 91 x0]), (3, .box [.own true 91 x1]), (8, .sl 91 x2), (9, .int .i64 x3), (10, .int .i64 x4)]
def impl_copyProgram.begin (a0 : List S90) : Tr impl_copyProgram.X impl_copyProgram.A :=
 .jump (.c3 ([] : List S90) ([] : List S90) a0 (List.length a0 : Int) (0 : Int))
def impl_copyProgram.tree : impl_copyProgram.X → Tr impl_copyProgram.X impl_copyProgram.A
 | .c3 x0 x1 x2 x3 x4 =>
 .ite (decide (x4 < x3))
  (.need ((0 : Int) ≤ x4 ∧ x4 < (List.length x2 : Int)) (.both (.last (.call (impl_copyTask.told ((rdS90 x2 x4).f0) ((rdS90 x2 x4).f1.f0) ((rdS90 x2 x4).f1.f1) ((rdS90 x2 x4).f1.f2)) fun t1 => .last (.last (.need (((List.length x1 : Int) + (List.length ([(⟨t1.1, (⟨t1.2.1, t1.2.2.1, t1.2.2.2⟩ : S83)⟩ : S90)]) : Int)) * (48 : Nat) ≤ room) (.last (.jump (.c3 x0 (x1 ++ [(⟨t1.1, (⟨t1.2.1, t1.2.2.1, t1.2.2.2⟩ : S83)⟩ : S90)]) x2 x3 (wr (x4 + (1 : Int))))))))))
   (.last (.call (impl_copyTask.told ((rdS90 x2 x4).f0) ((rdS90 x2 x4).f1.f0) ((rdS90 x2 x4).f1.f1) ((rdS90 x2 x4).f1.f2)) fun t2 => .both (.last (.last (.need (((List.length x1 : Int) + (List.length ([(⟨t2.1, (⟨t2.2.1, t2.2.2.1, t2.2.2.2⟩ : S83)⟩ : S90)]) : Int)) * (48 : Nat) ≤ room) (.last (.jump (.c3 x0 (x1 ++ [(⟨t2.1, (⟨t2.2.1, t2.2.2.1, t2.2.2.2⟩ : S83)⟩ : S90)]) x2 x3 (wr (x4 + (1 : Int)))))))))
    (.last (.last (.need (((List.length x1 : Int) + (List.length ([(⟨t2.1, (⟨t2.2.1, t2.2.2.1, t2.2.2.2⟩ : S83)⟩ : S90)]) : Int)) * (48 : Nat) ≤ room) (.last (.jump (.c3 x0 (x1 ++ [(⟨t2.1, (⟨t2.2.1, t2.2.2.1, t2.2.2.2⟩ : S83)⟩ : S90)]) x2 x3 (wr (x4 + (1 : Int)))))))))))))
  (.ret x1)
def impl_copyProgram.f (a0 : List S90) : Option impl_copyProgram.A := (impl_copyProgram.begin a0).run (lp impl_copyProgram.tree)
def impl_copyProgram.Q : Plan C := { PL with cuts := [(3, [2, 3, 8, 9, 10])], ords := [(5, [4, 5, 7], (.take 0 [] (.take 2 [0, 1] (.alt 1 (.alt 3 (.alt 4 (.alt 5 (.take 6 [] (.alt 7 .done .nil)) .nil) .nil) .nil) (.alt 3 (.alt 1 (.alt 4 (.alt 5 (.take 6 [] (.alt 7 .done .nil)) .nil) .nil) (.alt 4 (.take 1 [0, 2, 3, 4] (.alt 5 (.take 6 [] (.alt 7 .done .nil)) .nil)) .nil)) .nil)))))], weak := [] }
theorem impl_copyProgram.e (J : Nat → St C → Prop) (K : PV U → List (PV U) → Prop) (x : impl_copyProgram.X) : Tr.sem (fun x => J (impl_copyProgram.id x) (impl_copyProgram.st x)) (fun r => K (impl_copyProgram.v r) (impl_copyProgram.o r)) (impl_copyProgram.tree x) = evCut C impl_copyProgram.Q (SoundCall Try.prog C) J Try.f34 0 (impl_copyProgram.id x) (impl_copyProgram.st x) K := by cases x <;> kernel_rfl
theorem impl_copyProgram.b (a0 : List S90) (J : Nat → St C → Prop) (K : PV U → List (PV U) → Prop) : Tr.sem (fun x => J (impl_copyProgram.id x) (impl_copyProgram.st x)) (fun r => K (impl_copyProgram.v r) (impl_copyProgram.o r)) (impl_copyProgram.begin a0) = evFn C impl_copyProgram.Q (SoundCall Try.prog C) J Try.f34 (impl_copyProgram.S a0) 0 K := by kernel_rfl
def impl_copyProgram.told (a0 : List S90) : YtmdgdcjkbggkmaaEv.Told impl_copyProgram.A := ⟨impl_copyProgram.f a0, fun r => SoundCall Try.prog C 34 (impl_copyProgram.S a0) 0 (impl_copyProgram.v r) (impl_copyProgram.o r), fun r h =>
 soundCall_of_tree G mixed impl_copyProgram.Q Try.func34 rfl (of_decide_eq_true (by kernel_rfl)) (by rfl) impl_copyProgram.id impl_copyProgram.st impl_copyProgram.v impl_copyProgram.o (fun _ => rfl) impl_copyProgram.tree (fun J K x => impl_copyProgram.e J K x) (impl_copyProgram.begin a0) (fun J K => impl_copyProgram.b a0 J K) h⟩
/-! #### loop.example/g00983/impl.NodeNew (10) -/
def impl_NodeNew.S (a0 : List S90) (a1 : List Int) (a2 : List Int) (a3 : Int) (a4 : Int) (a5 : Int) (a6 : Int) : List (PV U) := YtmdgdcjkbggkmaaEv.start C 42 [.agg [.sl 91 a0], .sl 3 a1, .sl 3 a2, .agg [.int .i64 a3, .int .i64 a4, .int .i64 a5, .int .i64 a6]] []
abbrev impl_NodeNew.X := Empty
def impl_NodeNew.id : impl_NodeNew.X → Nat := fun _ => 0
def impl_NodeNew.st : impl_NodeNew.X → List (PV U) := fun _ => []
def impl_NodeNew.begin (a0 : List S90) (a1 : List Int) (a2 : List Int) (a3 : Int) (a4 : Int) (a5 : Int) (a6 : Int) : Tr impl_NodeNew.X impl_NodeNew.A :=
 .call (impl_MemNew.told a1) fun t1 => .ite (!t1.2)
  (.ret (([] : List S90), ([] : List Int), ([] : List Int), (0 : Int), (0 : Int), (0 : Int), (0 : Int), (0 : Int), (0 : Int), (0 : Int), (0 : Int), ([] : List Int), (0 : Int), false))
  (.call (impl_ProgramOk.told a0) fun t2 => .ite (!t2)
   (.ret (([] : List S90), ([] : List Int), ([] : List Int), (0 : Int), (0 : Int), (0 : Int), (0 : Int), (0 : Int), (0 : Int), (0 : Int), (0 : Int), ([] : List Int), (0 : Int), false))
   (.call (impl_StoreOk.told a3 a4 a5 a6) fun t3 => .ite (!t3)
    (.ret (([] : List S90), ([] : List Int), ([] : List Int), (0 : Int), (0 : Int), (0 : Int), (0 : Int), (0 : Int), (0 : Int), (0 : Int), (0 : Int), ([] : List Int), (0 : Int), false))
    (.call (impl_areValues.told a2) fun t4 => .ite (!t4)
     (.ret (([] : List S90), ([] : List Int), ([] : List Int), (0 : Int), (0 : Int), (0 : Int), (0 : Int), (0 : Int), (0 : Int), (0 : Int), (0 : Int), ([] : List Int), (0 : Int), false))
     (.last (.call (impl_copyProgram.told a0) fun t5 => .last (.call (slices_Clone_int.told a2) fun t6 => .last (.last (.ret (t5, t1.1, t6, (0 : Int), a3, a4, a5, a6, (0 : Int), (0 : Int), (0 : Int), ([] : List Int), (0 : Int), true)))))))))
def impl_NodeNew.tree : impl_NodeNew.X → Tr impl_NodeNew.X impl_NodeNew.A := fun _ => .fail
def impl_NodeNew.f (a0 : List S90) (a1 : List Int) (a2 : List Int) (a3 : Int) (a4 : Int) (a5 : Int) (a6 : Int) : Option impl_NodeNew.A := (impl_NodeNew.begin a0 a1 a2 a3 a4 a5 a6).run (lp impl_NodeNew.tree)
def impl_NodeNew.Q : Plan C := { PL with cuts := [], ords := [(4, [6, 7], (.take 2 [] (.take 3 [] (.take 0 [2, 3, 5] (.take 5 [0, 1, 2, 3, 4] (.alt 1 (.alt 4 (.alt 6 (.alt 7 (.take 8 [] .done) .nil) .nil) .nil) .nil))))))], weak := [] }
theorem impl_NodeNew.e (J : Nat → St C → Prop) (K : PV U → List (PV U) → Prop) (x : impl_NodeNew.X) : Tr.sem (fun x => J (impl_NodeNew.id x) (impl_NodeNew.st x)) (fun r => K (impl_NodeNew.v r) (impl_NodeNew.o r)) (impl_NodeNew.tree x) = evCut C impl_NodeNew.Q (SoundCall Try.prog C) J Try.f10 0 (impl_NodeNew.id x) (impl_NodeNew.st x) K := by cases x
theorem impl_NodeNew.b (a0 : List S90) (a1 : List Int) (a2 : List Int) (a3 : Int) (a4 : Int) (a5 : Int) (a6 : Int) (J : Nat → St C → Prop) (K : PV U → List (PV U) → Prop) : Tr.sem (fun x => J (impl_NodeNew.id x) (impl_NodeNew.st x)) (fun r => K (impl_NodeNew.v r) (impl_NodeNew.o r)) (impl_NodeNew.begin a0 a1 a2 a3 a4 a5 a6) = evFn C impl_NodeNew.Q (SoundCall Try.prog C) J Try.f10 (impl_NodeNew.S a0 a1 a2 a3 a4 a5 a6) 0 K := by kernel_rfl
def impl_NodeNew.told (a0 : List S90) (a1 : List Int) (a2 : List Int) (a3 : Int) (a4 : Int) (a5 : Int) (a6 : Int) : YtmdgdcjkbggkmaaEv.Told impl_NodeNew.A := ⟨impl_NodeNew.f a0 a1 a2 a3 a4 a5 a6, fun r => SoundCall Try.prog C 10 (impl_NodeNew.S a0 a1 a2 a3 a4 a5 a6) 0 (impl_NodeNew.v r) (impl_NodeNew.o r), fun r h =>
 soundCall_of_tree G mixed impl_NodeNew.Q Try.func10 rfl (of_decide_eq_true (by kernel_rfl)) (by rfl) impl_NodeNew.id impl_NodeNew.st impl_NodeNew.v impl_NodeNew.o (fun _ => rfl) impl_NodeNew.tree (fun J K x => impl_NodeNew.e J K x) (impl_NodeNew.begin a0 a1 a2 a3 a4 a5 a6) (fun J K => impl_NodeNew.b a0 a1 a2 a3 a4 a5 a6 J K) h⟩
/-! #### loop.example/g00983/laws.eqExpr (95) -/
def laws_eqExpr.S (a0 : Int) (a1 : Int) (a2 : Int) (a3 : Int) (a4 : Int) (a5 : Int) : List (PV U) := YtmdgdcjkbggkmaaEv.start C 20 [.agg [.int .i64 a0, .int .i64 a1, .int .i64 a2], .agg [.int .i64 a3, .int .i64 a4, .int .i64 a5]] []
abbrev laws_eqExpr.X := Empty
def laws_eqExpr.id : laws_eqExpr.X → Nat := fun _ => 0
def laws_eqExpr.st : laws_eqExpr.X → List (PV U) := fun _ => []
def laws_eqExpr.begin (a0 : Int) (a1 : Int) (a2 : Int) (a3 : Int) (a4 : Int) (a5 : Int) : Tr laws_eqExpr.X laws_eqExpr.A :=
 .ite (!decide (a0 = a3))
  (.ret false)
  (.ite (!decide (a1 = a4))
   (.ret false)
   (.ite (!decide (a2 = a5))
    (.ret false)
    (.ret true)))
def laws_eqExpr.tree : laws_eqExpr.X → Tr laws_eqExpr.X laws_eqExpr.A := fun _ => .fail
def laws_eqExpr.f (a0 : Int) (a1 : Int) (a2 : Int) (a3 : Int) (a4 : Int) (a5 : Int) : Option laws_eqExpr.A := (laws_eqExpr.begin a0 a1 a2 a3 a4 a5).run (lp laws_eqExpr.tree)
def laws_eqExpr.Q : Plan C := { PL with cuts := [], ords := [], weak := [] }
theorem laws_eqExpr.e (J : Nat → St C → Prop) (K : PV U → List (PV U) → Prop) (x : laws_eqExpr.X) : Tr.sem (fun x => J (laws_eqExpr.id x) (laws_eqExpr.st x)) (fun r => K (laws_eqExpr.v r) (laws_eqExpr.o r)) (laws_eqExpr.tree x) = evCut C laws_eqExpr.Q (SoundCall Try.prog C) J Try.f95 0 (laws_eqExpr.id x) (laws_eqExpr.st x) K := by cases x
theorem laws_eqExpr.b (a0 : Int) (a1 : Int) (a2 : Int) (a3 : Int) (a4 : Int) (a5 : Int) (J : Nat → St C → Prop) (K : PV U → List (PV U) → Prop) : Tr.sem (fun x => J (laws_eqExpr.id x) (laws_eqExpr.st x)) (fun r => K (laws_eqExpr.v r) (laws_eqExpr.o r)) (laws_eqExpr.begin a0 a1 a2 a3 a4 a5) = evFn C laws_eqExpr.Q (SoundCall Try.prog C) J Try.f95 (laws_eqExpr.S a0 a1 a2 a3 a4 a5) 0 K := by kernel_rfl
def laws_eqExpr.told (a0 : Int) (a1 : Int) (a2 : Int) (a3 : Int) (a4 : Int) (a5 : Int) : YtmdgdcjkbggkmaaEv.Told laws_eqExpr.A := ⟨laws_eqExpr.f a0 a1 a2 a3 a4 a5, fun r => SoundCall Try.prog C 95 (laws_eqExpr.S a0 a1 a2 a3 a4 a5) 0 (laws_eqExpr.v r) (laws_eqExpr.o r), fun r h =>
 soundCall_of_tree G mixed laws_eqExpr.Q Try.func95 rfl (of_decide_eq_true (by kernel_rfl)) (by rfl) laws_eqExpr.id laws_eqExpr.st laws_eqExpr.v laws_eqExpr.o (fun _ => rfl) laws_eqExpr.tree (fun J K x => laws_eqExpr.e J K x) (laws_eqExpr.begin a0 a1 a2 a3 a4 a5) (fun J K => laws_eqExpr.b a0 a1 a2 a3 a4 a5 J K) h⟩
/-! #### loop.example/g00983/laws.eqStmt (107) -/
def laws_eqStmt.S (a0 : Int) (a1 : Int) (a2 : Int) (a3 : Int) (a4 : Int) (a5 : Int) (a6 : Int) (a7 : Int) (a8 : Int) (a9 : Int) (a10 : Int) (a11 : Int) : List (PV U) := YtmdgdcjkbggkmaaEv.start C 26 [.agg [.int .i64 a0, .int .i64 a1, .int .i64 a2, .int .i64 a3, .int .i64 a4, .int .i64 a5], .agg [.int .i64 a6, .int .i64 a7, .int .i64 a8, .int .i64 a9, .int .i64 a10, .int .i64 a11]] []
abbrev laws_eqStmt.X := Empty
def laws_eqStmt.id : laws_eqStmt.X → Nat := fun _ => 0
def laws_eqStmt.st : laws_eqStmt.X → List (PV U) := fun _ => []
def laws_eqStmt.begin (a0 : Int) (a1 : Int) (a2 : Int) (a3 : Int) (a4 : Int) (a5 : Int) (a6 : Int) (a7 : Int) (a8 : Int) (a9 : Int) (a10 : Int) (a11 : Int) : Tr laws_eqStmt.X laws_eqStmt.A :=
 .ite (!decide (a0 = a6))
  (.ret false)
  (.ite (!decide (a1 = a7))
   (.ret false)
   (.ite (!decide (a2 = a8))
    (.ret false)
    (.call (laws_eqExpr.told a3 a4 a5 a9 a10 a11) fun t1 => .ite (!t1)
     (.ret false)
     (.ret true))))
def laws_eqStmt.tree : laws_eqStmt.X → Tr laws_eqStmt.X laws_eqStmt.A := fun _ => .fail
def laws_eqStmt.f (a0 : Int) (a1 : Int) (a2 : Int) (a3 : Int) (a4 : Int) (a5 : Int) (a6 : Int) (a7 : Int) (a8 : Int) (a9 : Int) (a10 : Int) (a11 : Int) : Option laws_eqStmt.A := (laws_eqStmt.begin a0 a1 a2 a3 a4 a5 a6 a7 a8 a9 a10 a11).run (lp laws_eqStmt.tree)
def laws_eqStmt.Q : Plan C := { PL with cuts := [], ords := [], weak := [] }
theorem laws_eqStmt.e (J : Nat → St C → Prop) (K : PV U → List (PV U) → Prop) (x : laws_eqStmt.X) : Tr.sem (fun x => J (laws_eqStmt.id x) (laws_eqStmt.st x)) (fun r => K (laws_eqStmt.v r) (laws_eqStmt.o r)) (laws_eqStmt.tree x) = evCut C laws_eqStmt.Q (SoundCall Try.prog C) J Try.f107 0 (laws_eqStmt.id x) (laws_eqStmt.st x) K := by cases x
theorem laws_eqStmt.b (a0 : Int) (a1 : Int) (a2 : Int) (a3 : Int) (a4 : Int) (a5 : Int) (a6 : Int) (a7 : Int) (a8 : Int) (a9 : Int) (a10 : Int) (a11 : Int) (J : Nat → St C → Prop) (K : PV U → List (PV U) → Prop) : Tr.sem (fun x => J (laws_eqStmt.id x) (laws_eqStmt.st x)) (fun r => K (laws_eqStmt.v r) (laws_eqStmt.o r)) (laws_eqStmt.begin a0 a1 a2 a3 a4 a5 a6 a7 a8 a9 a10 a11) = evFn C laws_eqStmt.Q (SoundCall Try.prog C) J Try.f107 (laws_eqStmt.S a0 a1 a2 a3 a4 a5 a6 a7 a8 a9 a10 a11) 0 K := by kernel_rfl
def laws_eqStmt.told (a0 : Int) (a1 : Int) (a2 : Int) (a3 : Int) (a4 : Int) (a5 : Int) (a6 : Int) (a7 : Int) (a8 : Int) (a9 : Int) (a10 : Int) (a11 : Int) : YtmdgdcjkbggkmaaEv.Told laws_eqStmt.A := ⟨laws_eqStmt.f a0 a1 a2 a3 a4 a5 a6 a7 a8 a9 a10 a11, fun r => SoundCall Try.prog C 107 (laws_eqStmt.S a0 a1 a2 a3 a4 a5 a6 a7 a8 a9 a10 a11) 0 (laws_eqStmt.v r) (laws_eqStmt.o r), fun r h =>
 soundCall_of_tree G mixed laws_eqStmt.Q Try.func107 rfl (of_decide_eq_true (by kernel_rfl)) (by rfl) laws_eqStmt.id laws_eqStmt.st laws_eqStmt.v laws_eqStmt.o (fun _ => rfl) laws_eqStmt.tree (fun J K x => laws_eqStmt.e J K x) (laws_eqStmt.begin a0 a1 a2 a3 a4 a5 a6 a7 a8 a9 a10 a11) (fun J K => laws_eqStmt.b a0 a1 a2 a3 a4 a5 a6 a7 a8 a9 a10 a11 J K) h⟩
/-! #### loop.example/g00983/laws.eqStmtS (94) -/
def laws_eqStmtS.S (a0 : List S113) (a1 : List S113) : List (PV U) := YtmdgdcjkbggkmaaEv.start C 27 [.sl 114 a0, .sl 114 a1] []
inductive laws_eqStmtS.X where
 | c4 (x0 : List S113) (x1 : List S113) (x2 : Int)
def laws_eqStmtS.id : laws_eqStmtS.X → Nat
 | .c4 .. => 4
def laws_eqStmtS.st : laws_eqStmtS.X → List (PV U)
 | .c4 x0 x1 x2 => stOf 27 [(0, .sl 114 x0), (1, .sl 114 x1), (5, .int .i64 x2)]
def laws_eqStmtS.begin (a0 : List S113) (a1 : List S113) : Tr laws_eqStmtS.X laws_eqStmtS.A :=
 .ite (!decide ((List.length a0 : Int) = (List.length a1 : Int)))
  (.ret false)
  (.jump (.c4 a0 a1 (0 : Int)))
def laws_eqStmtS.tree : laws_eqStmtS.X → Tr laws_eqStmtS.X laws_eqStmtS.A
 | .c4 x0 x1 x2 =>
 .ite (decide (x2 < (List.length x0 : Int)))
  (.need ((0 : Int) ≤ x2 ∧ x2 < (List.length x0 : Int)) (.need ((0 : Int) ≤ x2 ∧ x2 < (List.length x1 : Int)) (.last (.call (laws_eqStmt.told ((rdS113 x0 x2).f0) ((rdS113 x0 x2).f1) ((rdS113 x0 x2).f2) ((rdS113 x0 x2).f3.f0) ((rdS113 x0 x2).f3.f1) ((rdS113 x0 x2).f3.f2) ((rdS113 x1 x2).f0) ((rdS113 x1 x2).f1) ((rdS113 x1 x2).f2) ((rdS113 x1 x2).f3.f0) ((rdS113 x1 x2).f3.f1) ((rdS113 x1 x2).f3.f2)) fun t1 => .ite (!t1)
   (.ret false)
   (.jump (.c4 x0 x1 (wr (x2 + (1 : Int)))))))))
  (.ret true)
def laws_eqStmtS.f (a0 : List S113) (a1 : List S113) : Option laws_eqStmtS.A := (laws_eqStmtS.begin a0 a1).run (lp laws_eqStmtS.tree)
def laws_eqStmtS.Q : Plan C := { PL with cuts := [(4, [0, 1, 5])], ords := [(6, [], (.take 0 [] (.take 1 [] (.take 2 [] (.take 4 [] (.take 5 [] (.take 6 [] (.take 3 [0, 1, 2, 4, 5, 6, 7] (.take 7 [0, 1, 2, 3, 4, 5, 6] (.alt 8 (.take 9 [] .done) .nil))))))))))], weak := [] }
theorem laws_eqStmtS.e (J : Nat → St C → Prop) (K : PV U → List (PV U) → Prop) (x : laws_eqStmtS.X) : Tr.sem (fun x => J (laws_eqStmtS.id x) (laws_eqStmtS.st x)) (fun r => K (laws_eqStmtS.v r) (laws_eqStmtS.o r)) (laws_eqStmtS.tree x) = evCut C laws_eqStmtS.Q (SoundCall Try.prog C) J Try.f94 0 (laws_eqStmtS.id x) (laws_eqStmtS.st x) K := by cases x <;> kernel_rfl
theorem laws_eqStmtS.b (a0 : List S113) (a1 : List S113) (J : Nat → St C → Prop) (K : PV U → List (PV U) → Prop) : Tr.sem (fun x => J (laws_eqStmtS.id x) (laws_eqStmtS.st x)) (fun r => K (laws_eqStmtS.v r) (laws_eqStmtS.o r)) (laws_eqStmtS.begin a0 a1) = evFn C laws_eqStmtS.Q (SoundCall Try.prog C) J Try.f94 (laws_eqStmtS.S a0 a1) 0 K := by kernel_rfl
def laws_eqStmtS.told (a0 : List S113) (a1 : List S113) : YtmdgdcjkbggkmaaEv.Told laws_eqStmtS.A := ⟨laws_eqStmtS.f a0 a1, fun r => SoundCall Try.prog C 94 (laws_eqStmtS.S a0 a1) 0 (laws_eqStmtS.v r) (laws_eqStmtS.o r), fun r h =>
 soundCall_of_tree G mixed laws_eqStmtS.Q Try.func94 rfl (of_decide_eq_true (by kernel_rfl)) (by rfl) laws_eqStmtS.id laws_eqStmtS.st laws_eqStmtS.v laws_eqStmtS.o (fun _ => rfl) laws_eqStmtS.tree (fun J K x => laws_eqStmtS.e J K x) (laws_eqStmtS.begin a0 a1) (fun J K => laws_eqStmtS.b a0 a1 J K) h⟩
/-! #### loop.example/g00983/laws.eqTask (69) -/
def laws_eqTask.S (a0 : List S113) (a1 : Int) (a2 : Int) (a3 : Int) (a4 : List S113) (a5 : Int) (a6 : Int) (a7 : Int) : List (PV U) := YtmdgdcjkbggkmaaEv.start C 17 [.agg [.sl 114 a0, .int .i64 a1, .int .i64 a2, .int .i64 a3], .agg [.sl 114 a4, .int .i64 a5, .int .i64 a6, .int .i64 a7]] []
abbrev laws_eqTask.X := Empty
def laws_eqTask.id : laws_eqTask.X → Nat := fun _ => 0
def laws_eqTask.st : laws_eqTask.X → List (PV U) := fun _ => []
def laws_eqTask.begin (a0 : List S113) (a1 : Int) (a2 : Int) (a3 : Int) (a4 : List S113) (a5 : Int) (a6 : Int) (a7 : Int) : Tr laws_eqTask.X laws_eqTask.A :=
 .call (laws_eqStmtS.told a0 a4) fun t1 => .ite (!t1)
  (.ret false)
  (.call (laws_eqExpr.told a1 a2 a3 a5 a6 a7) fun t2 => .ite (!t2)
   (.ret false)
   (.ret true))
def laws_eqTask.tree : laws_eqTask.X → Tr laws_eqTask.X laws_eqTask.A := fun _ => .fail
def laws_eqTask.f (a0 : List S113) (a1 : Int) (a2 : Int) (a3 : Int) (a4 : List S113) (a5 : Int) (a6 : Int) (a7 : Int) : Option laws_eqTask.A := (laws_eqTask.begin a0 a1 a2 a3 a4 a5 a6 a7).run (lp laws_eqTask.tree)
def laws_eqTask.Q : Plan C := { PL with cuts := [], ords := [], weak := [] }
theorem laws_eqTask.e (J : Nat → St C → Prop) (K : PV U → List (PV U) → Prop) (x : laws_eqTask.X) : Tr.sem (fun x => J (laws_eqTask.id x) (laws_eqTask.st x)) (fun r => K (laws_eqTask.v r) (laws_eqTask.o r)) (laws_eqTask.tree x) = evCut C laws_eqTask.Q (SoundCall Try.prog C) J Try.f69 0 (laws_eqTask.id x) (laws_eqTask.st x) K := by cases x
theorem laws_eqTask.b (a0 : List S113) (a1 : Int) (a2 : Int) (a3 : Int) (a4 : List S113) (a5 : Int) (a6 : Int) (a7 : Int) (J : Nat → St C → Prop) (K : PV U → List (PV U) → Prop) : Tr.sem (fun x => J (laws_eqTask.id x) (laws_eqTask.st x)) (fun r => K (laws_eqTask.v r) (laws_eqTask.o r)) (laws_eqTask.begin a0 a1 a2 a3 a4 a5 a6 a7) = evFn C laws_eqTask.Q (SoundCall Try.prog C) J Try.f69 (laws_eqTask.S a0 a1 a2 a3 a4 a5 a6 a7) 0 K := by kernel_rfl
def laws_eqTask.told (a0 : List S113) (a1 : Int) (a2 : Int) (a3 : Int) (a4 : List S113) (a5 : Int) (a6 : Int) (a7 : Int) : YtmdgdcjkbggkmaaEv.Told laws_eqTask.A := ⟨laws_eqTask.f a0 a1 a2 a3 a4 a5 a6 a7, fun r => SoundCall Try.prog C 69 (laws_eqTask.S a0 a1 a2 a3 a4 a5 a6 a7) 0 (laws_eqTask.v r) (laws_eqTask.o r), fun r h =>
 soundCall_of_tree G mixed laws_eqTask.Q Try.func69 rfl (of_decide_eq_true (by kernel_rfl)) (by rfl) laws_eqTask.id laws_eqTask.st laws_eqTask.v laws_eqTask.o (fun _ => rfl) laws_eqTask.tree (fun J K x => laws_eqTask.e J K x) (laws_eqTask.begin a0 a1 a2 a3 a4 a5 a6 a7) (fun J K => laws_eqTask.b a0 a1 a2 a3 a4 a5 a6 a7 J K) h⟩
/-! #### loop.example/g00983/laws.eqTaskS (39) -/
def laws_eqTaskS.S (a0 : List S90) (a1 : List S90) : List (PV U) := YtmdgdcjkbggkmaaEv.start C 27 [.sl 91 a0, .sl 91 a1] []
inductive laws_eqTaskS.X where
 | c4 (x0 : List S90) (x1 : List S90) (x2 : Int)
def laws_eqTaskS.id : laws_eqTaskS.X → Nat
 | .c4 .. => 4
def laws_eqTaskS.st : laws_eqTaskS.X → List (PV U)
 | .c4 x0 x1 x2 => stOf 27 [(0, .sl 91 x0), (1, .sl 91 x1), (5, .int .i64 x2)]
def laws_eqTaskS.begin (a0 : List S90) (a1 : List S90) : Tr laws_eqTaskS.X laws_eqTaskS.A :=
 .ite (!decide ((List.length a0 : Int) = (List.length a1 : Int)))
  (.ret false)
  (.jump (.c4 a0 a1 (0 : Int)))
def laws_eqTaskS.tree : laws_eqTaskS.X → Tr laws_eqTaskS.X laws_eqTaskS.A
 | .c4 x0 x1 x2 =>
 .ite (decide (x2 < (List.length x0 : Int)))
  (.need ((0 : Int) ≤ x2 ∧ x2 < (List.length x0 : Int)) (.need ((0 : Int) ≤ x2 ∧ x2 < (List.length x1 : Int)) (.last (.call (laws_eqTask.told ((rdS90 x0 x2).f0) ((rdS90 x0 x2).f1.f0) ((rdS90 x0 x2).f1.f1) ((rdS90 x0 x2).f1.f2) ((rdS90 x1 x2).f0) ((rdS90 x1 x2).f1.f0) ((rdS90 x1 x2).f1.f1) ((rdS90 x1 x2).f1.f2)) fun t1 => .ite (!t1)
   (.ret false)
   (.jump (.c4 x0 x1 (wr (x2 + (1 : Int)))))))))
  (.ret true)
def laws_eqTaskS.f (a0 : List S90) (a1 : List S90) : Option laws_eqTaskS.A := (laws_eqTaskS.begin a0 a1).run (lp laws_eqTaskS.tree)
def laws_eqTaskS.Q : Plan C := { PL with cuts := [(4, [0, 1, 5])], ords := [(6, [], (.take 0 [] (.take 1 [] (.take 2 [] (.take 4 [] (.take 5 [] (.take 6 [] (.take 3 [0, 1, 2, 4, 5, 6, 7] (.take 7 [0, 1, 2, 3, 4, 5, 6] (.alt 8 (.take 9 [] .done) .nil))))))))))], weak := [] }
theorem laws_eqTaskS.e (J : Nat → St C → Prop) (K : PV U → List (PV U) → Prop) (x : laws_eqTaskS.X) : Tr.sem (fun x => J (laws_eqTaskS.id x) (laws_eqTaskS.st x)) (fun r => K (laws_eqTaskS.v r) (laws_eqTaskS.o r)) (laws_eqTaskS.tree x) = evCut C laws_eqTaskS.Q (SoundCall Try.prog C) J Try.f39 0 (laws_eqTaskS.id x) (laws_eqTaskS.st x) K := by cases x <;> kernel_rfl
theorem laws_eqTaskS.b (a0 : List S90) (a1 : List S90) (J : Nat → St C → Prop) (K : PV U → List (PV U) → Prop) : Tr.sem (fun x => J (laws_eqTaskS.id x) (laws_eqTaskS.st x)) (fun r => K (laws_eqTaskS.v r) (laws_eqTaskS.o r)) (laws_eqTaskS.begin a0 a1) = evFn C laws_eqTaskS.Q (SoundCall Try.prog C) J Try.f39 (laws_eqTaskS.S a0 a1) 0 K := by kernel_rfl
def laws_eqTaskS.told (a0 : List S90) (a1 : List S90) : YtmdgdcjkbggkmaaEv.Told laws_eqTaskS.A := ⟨laws_eqTaskS.f a0 a1, fun r => SoundCall Try.prog C 39 (laws_eqTaskS.S a0 a1) 0 (laws_eqTaskS.v r) (laws_eqTaskS.o r), fun r h =>
 soundCall_of_tree G mixed laws_eqTaskS.Q Try.func39 rfl (of_decide_eq_true (by kernel_rfl)) (by rfl) laws_eqTaskS.id laws_eqTaskS.st laws_eqTaskS.v laws_eqTaskS.o (fun _ => rfl) laws_eqTaskS.tree (fun J K x => laws_eqTaskS.e J K x) (laws_eqTaskS.begin a0 a1) (fun J K => laws_eqTaskS.b a0 a1 J K) h⟩
/-! #### loop.example/g00983/laws.eqProgram (12) -/
def laws_eqProgram.S (a0 : List S90) (a1 : List S90) : List (PV U) := YtmdgdcjkbggkmaaEv.start C 11 [.agg [.sl 91 a0], .agg [.sl 91 a1]] []
abbrev laws_eqProgram.X := Empty
def laws_eqProgram.id : laws_eqProgram.X → Nat := fun _ => 0
def laws_eqProgram.st : laws_eqProgram.X → List (PV U) := fun _ => []
def laws_eqProgram.begin (a0 : List S90) (a1 : List S90) : Tr laws_eqProgram.X laws_eqProgram.A :=
 .call (laws_eqTaskS.told a0 a1) fun t1 => .ite (!t1)
  (.ret false)
  (.ret true)
def laws_eqProgram.tree : laws_eqProgram.X → Tr laws_eqProgram.X laws_eqProgram.A := fun _ => .fail
def laws_eqProgram.f (a0 : List S90) (a1 : List S90) : Option laws_eqProgram.A := (laws_eqProgram.begin a0 a1).run (lp laws_eqProgram.tree)
def laws_eqProgram.Q : Plan C := { PL with cuts := [], ords := [], weak := [] }
theorem laws_eqProgram.e (J : Nat → St C → Prop) (K : PV U → List (PV U) → Prop) (x : laws_eqProgram.X) : Tr.sem (fun x => J (laws_eqProgram.id x) (laws_eqProgram.st x)) (fun r => K (laws_eqProgram.v r) (laws_eqProgram.o r)) (laws_eqProgram.tree x) = evCut C laws_eqProgram.Q (SoundCall Try.prog C) J Try.f12 0 (laws_eqProgram.id x) (laws_eqProgram.st x) K := by cases x
theorem laws_eqProgram.b (a0 : List S90) (a1 : List S90) (J : Nat → St C → Prop) (K : PV U → List (PV U) → Prop) : Tr.sem (fun x => J (laws_eqProgram.id x) (laws_eqProgram.st x)) (fun r => K (laws_eqProgram.v r) (laws_eqProgram.o r)) (laws_eqProgram.begin a0 a1) = evFn C laws_eqProgram.Q (SoundCall Try.prog C) J Try.f12 (laws_eqProgram.S a0 a1) 0 K := by kernel_rfl
def laws_eqProgram.told (a0 : List S90) (a1 : List S90) : YtmdgdcjkbggkmaaEv.Told laws_eqProgram.A := ⟨laws_eqProgram.f a0 a1, fun r => SoundCall Try.prog C 12 (laws_eqProgram.S a0 a1) 0 (laws_eqProgram.v r) (laws_eqProgram.o r), fun r h =>
 soundCall_of_tree G mixed laws_eqProgram.Q Try.func12 rfl (of_decide_eq_true (by kernel_rfl)) (by rfl) laws_eqProgram.id laws_eqProgram.st laws_eqProgram.v laws_eqProgram.o (fun _ => rfl) laws_eqProgram.tree (fun J K x => laws_eqProgram.e J K x) (laws_eqProgram.begin a0 a1) (fun J K => laws_eqProgram.b a0 a1 J K) h⟩
/-! #### loop.example/g00983/laws.eqIntS (13) -/
def laws_eqIntS.S (a0 : List Int) (a1 : List Int) : List (PV U) := YtmdgdcjkbggkmaaEv.start C 26 [.sl 3 a0, .sl 3 a1] []
inductive laws_eqIntS.X where
 | c4 (x0 : List Int) (x1 : List Int) (x2 : Int)
def laws_eqIntS.id : laws_eqIntS.X → Nat
 | .c4 .. => 4
def laws_eqIntS.st : laws_eqIntS.X → List (PV U)
 | .c4 x0 x1 x2 => stOf 26 [(0, .sl 3 x0), (1, .sl 3 x1), (5, .int .i64 x2)]
def laws_eqIntS.begin (a0 : List Int) (a1 : List Int) : Tr laws_eqIntS.X laws_eqIntS.A :=
 .ite (!decide ((List.length a0 : Int) = (List.length a1 : Int)))
  (.ret false)
  (.jump (.c4 a0 a1 (0 : Int)))
def laws_eqIntS.tree : laws_eqIntS.X → Tr laws_eqIntS.X laws_eqIntS.A
 | .c4 x0 x1 x2 =>
 .ite (decide (x2 < (List.length x0 : Int)))
  (.need ((0 : Int) ≤ x2 ∧ x2 < (List.length x0 : Int)) (.need ((0 : Int) ≤ x2 ∧ x2 < (List.length x1 : Int)) (.ite (!decide ((rdI x0 x2) = (rdI x1 x2)))
   (.ret false)
   (.jump (.c4 x0 x1 (wr (x2 + (1 : Int))))))))
  (.ret true)
def laws_eqIntS.f (a0 : List Int) (a1 : List Int) : Option laws_eqIntS.A := (laws_eqIntS.begin a0 a1).run (lp laws_eqIntS.tree)
def laws_eqIntS.Q : Plan C := { PL with cuts := [(4, [0, 1, 5])], ords := [(6, [], (.take 0 [] (.take 1 [] (.take 2 [] (.take 4 [] (.take 5 [] (.take 6 [] (.take 3 [0, 1, 2, 4, 5, 6, 7] (.take 7 [0, 1, 2, 3, 4, 5, 6] (.take 8 [] .done))))))))))], weak := [] }
theorem laws_eqIntS.e (J : Nat → St C → Prop) (K : PV U → List (PV U) → Prop) (x : laws_eqIntS.X) : Tr.sem (fun x => J (laws_eqIntS.id x) (laws_eqIntS.st x)) (fun r => K (laws_eqIntS.v r) (laws_eqIntS.o r)) (laws_eqIntS.tree x) = evCut C laws_eqIntS.Q (SoundCall Try.prog C) J Try.f13 0 (laws_eqIntS.id x) (laws_eqIntS.st x) K := by cases x <;> kernel_rfl
theorem laws_eqIntS.b (a0 : List Int) (a1 : List Int) (J : Nat → St C → Prop) (K : PV U → List (PV U) → Prop) : Tr.sem (fun x => J (laws_eqIntS.id x) (laws_eqIntS.st x)) (fun r => K (laws_eqIntS.v r) (laws_eqIntS.o r)) (laws_eqIntS.begin a0 a1) = evFn C laws_eqIntS.Q (SoundCall Try.prog C) J Try.f13 (laws_eqIntS.S a0 a1) 0 K := by kernel_rfl
def laws_eqIntS.told (a0 : List Int) (a1 : List Int) : YtmdgdcjkbggkmaaEv.Told laws_eqIntS.A := ⟨laws_eqIntS.f a0 a1, fun r => SoundCall Try.prog C 13 (laws_eqIntS.S a0 a1) 0 (laws_eqIntS.v r) (laws_eqIntS.o r), fun r h =>
 soundCall_of_tree G mixed laws_eqIntS.Q Try.func13 rfl (of_decide_eq_true (by kernel_rfl)) (by rfl) laws_eqIntS.id laws_eqIntS.st laws_eqIntS.v laws_eqIntS.o (fun _ => rfl) laws_eqIntS.tree (fun J K x => laws_eqIntS.e J K x) (laws_eqIntS.begin a0 a1) (fun J K => laws_eqIntS.b a0 a1 J K) h⟩
/-! #### loop.example/g00983/laws.eqStore (36) -/
def laws_eqStore.S (a0 : Int) (a1 : Int) (a2 : Int) (a3 : Int) (a4 : Int) (a5 : Int) (a6 : Int) (a7 : Int) : List (PV U) := YtmdgdcjkbggkmaaEv.start C 25 [.agg [.int .i64 a0, .int .i64 a1, .int .i64 a2, .int .i64 a3], .agg [.int .i64 a4, .int .i64 a5, .int .i64 a6, .int .i64 a7]] []
abbrev laws_eqStore.X := Empty
def laws_eqStore.id : laws_eqStore.X → Nat := fun _ => 0
def laws_eqStore.st : laws_eqStore.X → List (PV U) := fun _ => []
def laws_eqStore.begin (a0 : Int) (a1 : Int) (a2 : Int) (a3 : Int) (a4 : Int) (a5 : Int) (a6 : Int) (a7 : Int) : Tr laws_eqStore.X laws_eqStore.A :=
 .ite (!decide (a0 = a4))
  (.ret false)
  (.ite (!decide (a1 = a5))
   (.ret false)
   (.ite (!decide (a2 = a6))
    (.ret false)
    (.ite (!decide (a3 = a7))
     (.ret false)
     (.ret true))))
def laws_eqStore.tree : laws_eqStore.X → Tr laws_eqStore.X laws_eqStore.A := fun _ => .fail
def laws_eqStore.f (a0 : Int) (a1 : Int) (a2 : Int) (a3 : Int) (a4 : Int) (a5 : Int) (a6 : Int) (a7 : Int) : Option laws_eqStore.A := (laws_eqStore.begin a0 a1 a2 a3 a4 a5 a6 a7).run (lp laws_eqStore.tree)
def laws_eqStore.Q : Plan C := { PL with cuts := [], ords := [], weak := [] }
theorem laws_eqStore.e (J : Nat → St C → Prop) (K : PV U → List (PV U) → Prop) (x : laws_eqStore.X) : Tr.sem (fun x => J (laws_eqStore.id x) (laws_eqStore.st x)) (fun r => K (laws_eqStore.v r) (laws_eqStore.o r)) (laws_eqStore.tree x) = evCut C laws_eqStore.Q (SoundCall Try.prog C) J Try.f36 0 (laws_eqStore.id x) (laws_eqStore.st x) K := by cases x
theorem laws_eqStore.b (a0 : Int) (a1 : Int) (a2 : Int) (a3 : Int) (a4 : Int) (a5 : Int) (a6 : Int) (a7 : Int) (J : Nat → St C → Prop) (K : PV U → List (PV U) → Prop) : Tr.sem (fun x => J (laws_eqStore.id x) (laws_eqStore.st x)) (fun r => K (laws_eqStore.v r) (laws_eqStore.o r)) (laws_eqStore.begin a0 a1 a2 a3 a4 a5 a6 a7) = evFn C laws_eqStore.Q (SoundCall Try.prog C) J Try.f36 (laws_eqStore.S a0 a1 a2 a3 a4 a5 a6 a7) 0 K := by kernel_rfl
def laws_eqStore.told (a0 : Int) (a1 : Int) (a2 : Int) (a3 : Int) (a4 : Int) (a5 : Int) (a6 : Int) (a7 : Int) : YtmdgdcjkbggkmaaEv.Told laws_eqStore.A := ⟨laws_eqStore.f a0 a1 a2 a3 a4 a5 a6 a7, fun r => SoundCall Try.prog C 36 (laws_eqStore.S a0 a1 a2 a3 a4 a5 a6 a7) 0 (laws_eqStore.v r) (laws_eqStore.o r), fun r h =>
 soundCall_of_tree G mixed laws_eqStore.Q Try.func36 rfl (of_decide_eq_true (by kernel_rfl)) (by rfl) laws_eqStore.id laws_eqStore.st laws_eqStore.v laws_eqStore.o (fun _ => rfl) laws_eqStore.tree (fun J K x => laws_eqStore.e J K x) (laws_eqStore.begin a0 a1 a2 a3 a4 a5 a6 a7) (fun J K => laws_eqStore.b a0 a1 a2 a3 a4 a5 a6 a7 J K) h⟩
/-! #### loop.example/g00983/laws.eqSpan (37) -/
def laws_eqSpan.S (a0 : Int) (a1 : Int) (a2 : Int) (a3 : Int) : List (PV U) := YtmdgdcjkbggkmaaEv.start C 15 [.agg [.int .i64 a0, .int .i64 a1], .agg [.int .i64 a2, .int .i64 a3]] []
abbrev laws_eqSpan.X := Empty
def laws_eqSpan.id : laws_eqSpan.X → Nat := fun _ => 0
def laws_eqSpan.st : laws_eqSpan.X → List (PV U) := fun _ => []
def laws_eqSpan.begin (a0 : Int) (a1 : Int) (a2 : Int) (a3 : Int) : Tr laws_eqSpan.X laws_eqSpan.A :=
 .ite (!decide (a0 = a2))
  (.ret false)
  (.ite (!decide (a1 = a3))
   (.ret false)
   (.ret true))
def laws_eqSpan.tree : laws_eqSpan.X → Tr laws_eqSpan.X laws_eqSpan.A := fun _ => .fail
def laws_eqSpan.f (a0 : Int) (a1 : Int) (a2 : Int) (a3 : Int) : Option laws_eqSpan.A := (laws_eqSpan.begin a0 a1 a2 a3).run (lp laws_eqSpan.tree)
def laws_eqSpan.Q : Plan C := { PL with cuts := [], ords := [], weak := [] }
theorem laws_eqSpan.e (J : Nat → St C → Prop) (K : PV U → List (PV U) → Prop) (x : laws_eqSpan.X) : Tr.sem (fun x => J (laws_eqSpan.id x) (laws_eqSpan.st x)) (fun r => K (laws_eqSpan.v r) (laws_eqSpan.o r)) (laws_eqSpan.tree x) = evCut C laws_eqSpan.Q (SoundCall Try.prog C) J Try.f37 0 (laws_eqSpan.id x) (laws_eqSpan.st x) K := by cases x
theorem laws_eqSpan.b (a0 : Int) (a1 : Int) (a2 : Int) (a3 : Int) (J : Nat → St C → Prop) (K : PV U → List (PV U) → Prop) : Tr.sem (fun x => J (laws_eqSpan.id x) (laws_eqSpan.st x)) (fun r => K (laws_eqSpan.v r) (laws_eqSpan.o r)) (laws_eqSpan.begin a0 a1 a2 a3) = evFn C laws_eqSpan.Q (SoundCall Try.prog C) J Try.f37 (laws_eqSpan.S a0 a1 a2 a3) 0 K := by kernel_rfl
def laws_eqSpan.told (a0 : Int) (a1 : Int) (a2 : Int) (a3 : Int) : YtmdgdcjkbggkmaaEv.Told laws_eqSpan.A := ⟨laws_eqSpan.f a0 a1 a2 a3, fun r => SoundCall Try.prog C 37 (laws_eqSpan.S a0 a1 a2 a3) 0 (laws_eqSpan.v r) (laws_eqSpan.o r), fun r h =>
 soundCall_of_tree G mixed laws_eqSpan.Q Try.func37 rfl (of_decide_eq_true (by kernel_rfl)) (by rfl) laws_eqSpan.id laws_eqSpan.st laws_eqSpan.v laws_eqSpan.o (fun _ => rfl) laws_eqSpan.tree (fun J K x => laws_eqSpan.e J K x) (laws_eqSpan.begin a0 a1 a2 a3) (fun J K => laws_eqSpan.b a0 a1 a2 a3 J K) h⟩
/-! #### loop.example/g00983/laws.eqGateway (68) -/
def laws_eqGateway.S (a0 : List Int) (a1 : List Int) : List (PV U) := YtmdgdcjkbggkmaaEv.start C 11 [.agg [.sl 3 a0], .agg [.sl 3 a1]] []
abbrev laws_eqGateway.X := Empty
def laws_eqGateway.id : laws_eqGateway.X → Nat := fun _ => 0
def laws_eqGateway.st : laws_eqGateway.X → List (PV U) := fun _ => []
def laws_eqGateway.begin (a0 : List Int) (a1 : List Int) : Tr laws_eqGateway.X laws_eqGateway.A :=
 .call (laws_eqIntS.told a0 a1) fun t1 => .ite (!t1)
  (.ret false)
  (.ret true)
def laws_eqGateway.tree : laws_eqGateway.X → Tr laws_eqGateway.X laws_eqGateway.A := fun _ => .fail
def laws_eqGateway.f (a0 : List Int) (a1 : List Int) : Option laws_eqGateway.A := (laws_eqGateway.begin a0 a1).run (lp laws_eqGateway.tree)
def laws_eqGateway.Q : Plan C := { PL with cuts := [], ords := [], weak := [] }
theorem laws_eqGateway.e (J : Nat → St C → Prop) (K : PV U → List (PV U) → Prop) (x : laws_eqGateway.X) : Tr.sem (fun x => J (laws_eqGateway.id x) (laws_eqGateway.st x)) (fun r => K (laws_eqGateway.v r) (laws_eqGateway.o r)) (laws_eqGateway.tree x) = evCut C laws_eqGateway.Q (SoundCall Try.prog C) J Try.f68 0 (laws_eqGateway.id x) (laws_eqGateway.st x) K := by cases x
theorem laws_eqGateway.b (a0 : List Int) (a1 : List Int) (J : Nat → St C → Prop) (K : PV U → List (PV U) → Prop) : Tr.sem (fun x => J (laws_eqGateway.id x) (laws_eqGateway.st x)) (fun r => K (laws_eqGateway.v r) (laws_eqGateway.o r)) (laws_eqGateway.begin a0 a1) = evFn C laws_eqGateway.Q (SoundCall Try.prog C) J Try.f68 (laws_eqGateway.S a0 a1) 0 K := by kernel_rfl
def laws_eqGateway.told (a0 : List Int) (a1 : List Int) : YtmdgdcjkbggkmaaEv.Told laws_eqGateway.A := ⟨laws_eqGateway.f a0 a1, fun r => SoundCall Try.prog C 68 (laws_eqGateway.S a0 a1) 0 (laws_eqGateway.v r) (laws_eqGateway.o r), fun r h =>
 soundCall_of_tree G mixed laws_eqGateway.Q Try.func68 rfl (of_decide_eq_true (by kernel_rfl)) (by rfl) laws_eqGateway.id laws_eqGateway.st laws_eqGateway.v laws_eqGateway.o (fun _ => rfl) laws_eqGateway.tree (fun J K x => laws_eqGateway.e J K x) (laws_eqGateway.begin a0 a1) (fun J K => laws_eqGateway.b a0 a1 J K) h⟩
/-! #### loop.example/g00983/laws.eqLink (38) -/
def laws_eqLink.S (a0 : Int) (a1 : List Int) (a2 : Int) (a3 : List Int) : List (PV U) := YtmdgdcjkbggkmaaEv.start C 16 [.agg [.int .i64 a0, .sl 3 a1], .agg [.int .i64 a2, .sl 3 a3]] []
abbrev laws_eqLink.X := Empty
def laws_eqLink.id : laws_eqLink.X → Nat := fun _ => 0
def laws_eqLink.st : laws_eqLink.X → List (PV U) := fun _ => []
def laws_eqLink.begin (a0 : Int) (a1 : List Int) (a2 : Int) (a3 : List Int) : Tr laws_eqLink.X laws_eqLink.A :=
 .ite (!decide (a0 = a2))
  (.ret false)
  (.call (laws_eqGateway.told a1 a3) fun t1 => .ite (!t1)
   (.ret false)
   (.ret true))
def laws_eqLink.tree : laws_eqLink.X → Tr laws_eqLink.X laws_eqLink.A := fun _ => .fail
def laws_eqLink.f (a0 : Int) (a1 : List Int) (a2 : Int) (a3 : List Int) : Option laws_eqLink.A := (laws_eqLink.begin a0 a1 a2 a3).run (lp laws_eqLink.tree)
def laws_eqLink.Q : Plan C := { PL with cuts := [], ords := [], weak := [] }
theorem laws_eqLink.e (J : Nat → St C → Prop) (K : PV U → List (PV U) → Prop) (x : laws_eqLink.X) : Tr.sem (fun x => J (laws_eqLink.id x) (laws_eqLink.st x)) (fun r => K (laws_eqLink.v r) (laws_eqLink.o r)) (laws_eqLink.tree x) = evCut C laws_eqLink.Q (SoundCall Try.prog C) J Try.f38 0 (laws_eqLink.id x) (laws_eqLink.st x) K := by cases x
theorem laws_eqLink.b (a0 : Int) (a1 : List Int) (a2 : Int) (a3 : List Int) (J : Nat → St C → Prop) (K : PV U → List (PV U) → Prop) : Tr.sem (fun x => J (laws_eqLink.id x) (laws_eqLink.st x)) (fun r => K (laws_eqLink.v r) (laws_eqLink.o r)) (laws_eqLink.begin a0 a1 a2 a3) = evFn C laws_eqLink.Q (SoundCall Try.prog C) J Try.f38 (laws_eqLink.S a0 a1 a2 a3) 0 K := by kernel_rfl
def laws_eqLink.told (a0 : Int) (a1 : List Int) (a2 : Int) (a3 : List Int) : YtmdgdcjkbggkmaaEv.Told laws_eqLink.A := ⟨laws_eqLink.f a0 a1 a2 a3, fun r => SoundCall Try.prog C 38 (laws_eqLink.S a0 a1 a2 a3) 0 (laws_eqLink.v r) (laws_eqLink.o r), fun r h =>
 soundCall_of_tree G mixed laws_eqLink.Q Try.func38 rfl (of_decide_eq_true (by kernel_rfl)) (by rfl) laws_eqLink.id laws_eqLink.st laws_eqLink.v laws_eqLink.o (fun _ => rfl) laws_eqLink.tree (fun J K x => laws_eqLink.e J K x) (laws_eqLink.begin a0 a1 a2 a3) (fun J K => laws_eqLink.b a0 a1 a2 a3 J K) h⟩
/-! #### loop.example/g00983/laws.eqNode (11) -/
def laws_eqNode.S (a0 : List S90) (a1 : List Int) (a2 : List Int) (a3 : Int) (a4 : Int) (a5 : Int) (a6 : Int) (a7 : Int) (a8 : Int) (a9 : Int) (a10 : Int) (a11 : List Int) (a12 : Int) (a13 : List S90) (a14 : List Int) (a15 : List Int) (a16 : Int) (a17 : Int) (a18 : Int) (a19 : Int) (a20 : Int) (a21 : Int) (a22 : Int) (a23 : Int) (a24 : List Int) (a25 : Int) : List (PV U) := YtmdgdcjkbggkmaaEv.start C 51 [.agg [.sl 91 a0, .sl 3 a1, .sl 3 a2, .int .i64 a3, .int .i64 a4, .int .i64 a5, .int .i64 a6, .int .i64 a7, .int .i64 a8, .int .i64 a9, .int .i64 a10, .sl 3 a11, .int .i64 a12], .agg [.sl 91 a13, .sl 3 a14, .sl 3 a15, .int .i64 a16, .int .i64 a17, .int .i64 a18, .int .i64 a19, .int .i64 a20, .int .i64 a21, .int .i64 a22, .int .i64 a23, .sl 3 a24, .int .i64 a25]] []
abbrev laws_eqNode.X := Empty
def laws_eqNode.id : laws_eqNode.X → Nat := fun _ => 0
def laws_eqNode.st : laws_eqNode.X → List (PV U) := fun _ => []
def laws_eqNode.begin (a0 : List S90) (a1 : List Int) (a2 : List Int) (a3 : Int) (a4 : Int) (a5 : Int) (a6 : Int) (a7 : Int) (a8 : Int) (a9 : Int) (a10 : Int) (a11 : List Int) (a12 : Int) (a13 : List S90) (a14 : List Int) (a15 : List Int) (a16 : Int) (a17 : Int) (a18 : Int) (a19 : Int) (a20 : Int) (a21 : Int) (a22 : Int) (a23 : Int) (a24 : List Int) (a25 : Int) : Tr laws_eqNode.X laws_eqNode.A :=
 .call (laws_eqProgram.told a0 a13) fun t1 => .ite (!t1)
  (.ret false)
  (.call (laws_eqIntS.told a1 a14) fun t2 => .ite (!t2)
   (.ret false)
   (.call (laws_eqIntS.told a2 a15) fun t3 => .ite (!t3)
    (.ret false)
    (.ite (!decide (a3 = a16))
     (.ret false)
     (.call (laws_eqStore.told a4 a5 a6 a7 a17 a18 a19 a20) fun t4 => .ite (!t4)
      (.ret false)
      (.call (laws_eqSpan.told a8 a9 a21 a22) fun t5 => .ite (!t5)
       (.ret false)
       (.call (laws_eqLink.told a10 a11 a23 a24) fun t6 => .ite (!t6)
        (.ret false)
        (.ite (!decide (a12 = a25))
         (.ret false)
         (.ret true))))))))
def laws_eqNode.tree : laws_eqNode.X → Tr laws_eqNode.X laws_eqNode.A := fun _ => .fail
def laws_eqNode.f (a0 : List S90) (a1 : List Int) (a2 : List Int) (a3 : Int) (a4 : Int) (a5 : Int) (a6 : Int) (a7 : Int) (a8 : Int) (a9 : Int) (a10 : Int) (a11 : List Int) (a12 : Int) (a13 : List S90) (a14 : List Int) (a15 : List Int) (a16 : Int) (a17 : Int) (a18 : Int) (a19 : Int) (a20 : Int) (a21 : Int) (a22 : Int) (a23 : Int) (a24 : List Int) (a25 : Int) : Option laws_eqNode.A := (laws_eqNode.begin a0 a1 a2 a3 a4 a5 a6 a7 a8 a9 a10 a11 a12 a13 a14 a15 a16 a17 a18 a19 a20 a21 a22 a23 a24 a25).run (lp laws_eqNode.tree)
def laws_eqNode.Q : Plan C := { PL with cuts := [], ords := [], weak := [] }
theorem laws_eqNode.e (J : Nat → St C → Prop) (K : PV U → List (PV U) → Prop) (x : laws_eqNode.X) : Tr.sem (fun x => J (laws_eqNode.id x) (laws_eqNode.st x)) (fun r => K (laws_eqNode.v r) (laws_eqNode.o r)) (laws_eqNode.tree x) = evCut C laws_eqNode.Q (SoundCall Try.prog C) J Try.f11 0 (laws_eqNode.id x) (laws_eqNode.st x) K := by cases x
theorem laws_eqNode.b (a0 : List S90) (a1 : List Int) (a2 : List Int) (a3 : Int) (a4 : Int) (a5 : Int) (a6 : Int) (a7 : Int) (a8 : Int) (a9 : Int) (a10 : Int) (a11 : List Int) (a12 : Int) (a13 : List S90) (a14 : List Int) (a15 : List Int) (a16 : Int) (a17 : Int) (a18 : Int) (a19 : Int) (a20 : Int) (a21 : Int) (a22 : Int) (a23 : Int) (a24 : List Int) (a25 : Int) (J : Nat → St C → Prop) (K : PV U → List (PV U) → Prop) : Tr.sem (fun x => J (laws_eqNode.id x) (laws_eqNode.st x)) (fun r => K (laws_eqNode.v r) (laws_eqNode.o r)) (laws_eqNode.begin a0 a1 a2 a3 a4 a5 a6 a7 a8 a9 a10 a11 a12 a13 a14 a15 a16 a17 a18 a19 a20 a21 a22 a23 a24 a25) = evFn C laws_eqNode.Q (SoundCall Try.prog C) J Try.f11 (laws_eqNode.S a0 a1 a2 a3 a4 a5 a6 a7 a8 a9 a10 a11 a12 a13 a14 a15 a16 a17 a18 a19 a20 a21 a22 a23 a24 a25) 0 K := by kernel_rfl
def laws_eqNode.told (a0 : List S90) (a1 : List Int) (a2 : List Int) (a3 : Int) (a4 : Int) (a5 : Int) (a6 : Int) (a7 : Int) (a8 : Int) (a9 : Int) (a10 : Int) (a11 : List Int) (a12 : Int) (a13 : List S90) (a14 : List Int) (a15 : List Int) (a16 : Int) (a17 : Int) (a18 : Int) (a19 : Int) (a20 : Int) (a21 : Int) (a22 : Int) (a23 : Int) (a24 : List Int) (a25 : Int) : YtmdgdcjkbggkmaaEv.Told laws_eqNode.A := ⟨laws_eqNode.f a0 a1 a2 a3 a4 a5 a6 a7 a8 a9 a10 a11 a12 a13 a14 a15 a16 a17 a18 a19 a20 a21 a22 a23 a24 a25, fun r => SoundCall Try.prog C 11 (laws_eqNode.S a0 a1 a2 a3 a4 a5 a6 a7 a8 a9 a10 a11 a12 a13 a14 a15 a16 a17 a18 a19 a20 a21 a22 a23 a24 a25) 0 (laws_eqNode.v r) (laws_eqNode.o r), fun r h =>
 soundCall_of_tree G mixed laws_eqNode.Q Try.func11 rfl (of_decide_eq_true (by kernel_rfl)) (by rfl) laws_eqNode.id laws_eqNode.st laws_eqNode.v laws_eqNode.o (fun _ => rfl) laws_eqNode.tree (fun J K x => laws_eqNode.e J K x) (laws_eqNode.begin a0 a1 a2 a3 a4 a5 a6 a7 a8 a9 a10 a11 a12 a13 a14 a15 a16 a17 a18 a19 a20 a21 a22 a23 a24 a25) (fun J K => laws_eqNode.b a0 a1 a2 a3 a4 a5 a6 a7 a8 a9 a10 a11 a12 a13 a14 a15 a16 a17 a18 a19 a20 a21 a22 a23 a24 a25 J K) h⟩
/-! #### loop.example/g00983/laws.markStmtS (70) -/
def laws_markStmtS.S (a0 : Int) (a1 : List S113) : List (PV U) := YtmdgdcjkbggkmaaEv.start C 58 [.ali (58, []), .int .i64 a0] [.own true 114 a1]
inductive laws_markStmtS.X where
 | c2 (x0 : Int) (x1 : Int) (x2 : List S113)
def laws_markStmtS.id : laws_markStmtS.X → Nat
 | .c2 .. => 2
def laws_markStmtS.st : laws_markStmtS.X → List (PV U)
 | .c2 x0 x1 x2 => stOf 59 [(0, .ali (58, [])), (1, .int .i64 x0), (5, .int .i64 x1), (58, .own true 114 x2)]
def laws_markStmtS.begin (a0 : Int) (a1 : List S113) : Tr laws_markStmtS.X laws_markStmtS.A :=
 .jump (.c2 a0 (0 : Int) a1)
def laws_markStmtS.tree : laws_markStmtS.X → Tr laws_markStmtS.X laws_markStmtS.A
 | .c2 x0 x1 x2 =>
 .ite (decide (x1 < (List.length x2 : Int)))
  (.need ((0 : Int) ≤ x1 ∧ x1 < (List.length x2 : Int)) (.val ((List.set x2 (Int.toNat x1) (⟨x0, (rdS113 x2 x1).f1, (rdS113 x2 x1).f2, (⟨(rdS113 x2 x1).f3.f0, (rdS113 x2 x1).f3.f1, (rdS113 x2 x1).f3.f2⟩ : S83)⟩ : S113)) : List S113) fun v1 => .need ((0 : Int) ≤ x1 ∧ x1 < (List.length v1 : Int)) (.val ((List.set v1 (Int.toNat x1) (⟨(rdS113 v1 x1).f0, (wr (x0 + (1 : Int))), (rdS113 v1 x1).f2, (⟨(rdS113 v1 x1).f3.f0, (rdS113 v1 x1).f3.f1, (rdS113 v1 x1).f3.f2⟩ : S83)⟩ : S113)) : List S113) fun v2 => .need ((0 : Int) ≤ x1 ∧ x1 < (List.length v2 : Int)) (.val ((List.set v2 (Int.toNat x1) (⟨(rdS113 v2 x1).f0, (rdS113 v2 x1).f1, (wr ((wr (x0 + (1 : Int))) + (1 : Int))), (⟨(rdS113 v2 x1).f3.f0, (rdS113 v2 x1).f3.f1, (rdS113 v2 x1).f3.f2⟩ : S83)⟩ : S113)) : List S113) fun v3 => .need ((0 : Int) ≤ x1 ∧ x1 < (List.length v3 : Int)) (.val ((List.set v3 (Int.toNat x1) (⟨(rdS113 v3 x1).f0, (rdS113 v3 x1).f1, (rdS113 v3 x1).f2, (⟨(wr ((wr ((wr (x0 + (1 : Int))) + (1 : Int))) + (1 : Int))), (rdS113 v3 x1).f3.f1, (rdS113 v3 x1).f3.f2⟩ : S83)⟩ : S113)) : List S113) fun v4 => .need ((0 : Int) ≤ x1 ∧ x1 < (List.length v4 : Int)) (.val ((List.set v4 (Int.toNat x1) (⟨(rdS113 v4 x1).f0, (rdS113 v4 x1).f1, (rdS113 v4 x1).f2, (⟨(rdS113 v4 x1).f3.f0, (wr ((wr ((wr ((wr (x0 + (1 : Int))) + (1 : Int))) + (1 : Int))) + (1 : Int))), (rdS113 v4 x1).f3.f2⟩ : S83)⟩ : S113)) : List S113) fun v5 => .val ((wr ((wr ((wr ((wr ((wr (x0 + (1 : Int))) + (1 : Int))) + (1 : Int))) + (1 : Int))) + (1 : Int))) : Int) fun v6 => .need ((0 : Int) ≤ x1 ∧ x1 < (List.length v5 : Int)) (.val ((List.set v5 (Int.toNat x1) (⟨(rdS113 v5 x1).f0, (rdS113 v5 x1).f1, (rdS113 v5 x1).f2, (⟨(rdS113 v5 x1).f3.f0, (rdS113 v5 x1).f3.f1, v6⟩ : S83)⟩ : S113)) : List S113) fun v7 => .jump (.c2 (wr (v6 + (1 : Int))) (wr (x1 + (1 : Int))) v7))))))))
  (.ret (x0, x2))
def laws_markStmtS.f (a0 : Int) (a1 : List S113) : Option laws_markStmtS.A := (laws_markStmtS.begin a0 a1).run (lp laws_markStmtS.tree)
def laws_markStmtS.Q : Plan C := { PL with cuts := [(2, [0, 1, 5, 58])], ords := [], weak := [] }
theorem laws_markStmtS.e (J : Nat → St C → Prop) (K : PV U → List (PV U) → Prop) (x : laws_markStmtS.X) : Tr.sem (fun x => J (laws_markStmtS.id x) (laws_markStmtS.st x)) (fun r => K (laws_markStmtS.v r) (laws_markStmtS.o r)) (laws_markStmtS.tree x) = evCut C laws_markStmtS.Q (SoundCall Try.prog C) J Try.f70 1 (laws_markStmtS.id x) (laws_markStmtS.st x) K := by cases x <;> kernel_rfl
theorem laws_markStmtS.b (a0 : Int) (a1 : List S113) (J : Nat → St C → Prop) (K : PV U → List (PV U) → Prop) : Tr.sem (fun x => J (laws_markStmtS.id x) (laws_markStmtS.st x)) (fun r => K (laws_markStmtS.v r) (laws_markStmtS.o r)) (laws_markStmtS.begin a0 a1) = evFn C laws_markStmtS.Q (SoundCall Try.prog C) J Try.f70 (laws_markStmtS.S a0 a1) 1 K := by kernel_rfl
def laws_markStmtS.told (a0 : Int) (a1 : List S113) : YtmdgdcjkbggkmaaEv.Told laws_markStmtS.A := ⟨laws_markStmtS.f a0 a1, fun r => SoundCall Try.prog C 70 (laws_markStmtS.S a0 a1) 1 (laws_markStmtS.v r) (laws_markStmtS.o r), fun r h =>
 soundCall_of_tree G mixed laws_markStmtS.Q Try.func70 rfl (of_decide_eq_true (by kernel_rfl)) (by rfl) laws_markStmtS.id laws_markStmtS.st laws_markStmtS.v laws_markStmtS.o (fun _ => rfl) laws_markStmtS.tree (fun J K x => laws_markStmtS.e J K x) (laws_markStmtS.begin a0 a1) (fun J K => laws_markStmtS.b a0 a1 J K) h⟩
/-! #### loop.example/g00983/laws.markTaskS (40) -/
def laws_markTaskS.S (a0 : Int) (a1 : List S90) : List (PV U) := YtmdgdcjkbggkmaaEv.start C 44 [.ali (44, []), .int .i64 a0] [.own true 91 a1]
inductive laws_markTaskS.X where
 | c2 (x0 : Int) (x1 : Int) (x2 : List S90)
def laws_markTaskS.id : laws_markTaskS.X → Nat
 | .c2 .. => 2
def laws_markTaskS.st : laws_markTaskS.X → List (PV U)
 | .c2 x0 x1 x2 => stOf 45 [(0, .ali (44, [])), (1, .int .i64 x0), (5, .int .i64 x1), (44, .own true 91 x2)]
def laws_markTaskS.begin (a0 : Int) (a1 : List S90) : Tr laws_markTaskS.X laws_markTaskS.A :=
 .jump (.c2 a0 (0 : Int) a1)
def laws_markTaskS.tree : laws_markTaskS.X → Tr laws_markTaskS.X laws_markTaskS.A
 | .c2 x0 x1 x2 =>
 .ite (decide (x1 < (List.length x2 : Int)))
  (.need ((0 : Int) ≤ x1 ∧ x1 < (List.length x2 : Int)) (.call (laws_markStmtS.told x0 ((rdS90 x2 x1).f0)) fun t1 => .need ((0 : Int) ≤ x1 ∧ x1 < (List.length (List.set x2 (Int.toNat x1) (⟨t1.2, (⟨(rdS90 x2 x1).f1.f0, (rdS90 x2 x1).f1.f1, (rdS90 x2 x1).f1.f2⟩ : S83)⟩ : S90)) : Int)) (.val ((List.set (List.set x2 (Int.toNat x1) (⟨t1.2, (⟨(rdS90 x2 x1).f1.f0, (rdS90 x2 x1).f1.f1, (rdS90 x2 x1).f1.f2⟩ : S83)⟩ : S90)) (Int.toNat x1) (⟨(rdS90 (List.set x2 (Int.toNat x1) (⟨t1.2, (⟨(rdS90 x2 x1).f1.f0, (rdS90 x2 x1).f1.f1, (rdS90 x2 x1).f1.f2⟩ : S83)⟩ : S90)) x1).f0, (⟨t1.1, (rdS90 (List.set x2 (Int.toNat x1) (⟨t1.2, (⟨(rdS90 x2 x1).f1.f0, (rdS90 x2 x1).f1.f1, (rdS90 x2 x1).f1.f2⟩ : S83)⟩ : S90)) x1).f1.f1, (rdS90 (List.set x2 (Int.toNat x1) (⟨t1.2, (⟨(rdS90 x2 x1).f1.f0, (rdS90 x2 x1).f1.f1, (rdS90 x2 x1).f1.f2⟩ : S83)⟩ : S90)) x1).f1.f2⟩ : S83)⟩ : S90)) : List S90) fun v2 => .need ((0 : Int) ≤ x1 ∧ x1 < (List.length v2 : Int)) (.val ((List.set v2 (Int.toNat x1) (⟨(rdS90 v2 x1).f0, (⟨(rdS90 v2 x1).f1.f0, (wr (t1.1 + (1 : Int))), (rdS90 v2 x1).f1.f2⟩ : S83)⟩ : S90)) : List S90) fun v3 => .need ((0 : Int) ≤ x1 ∧ x1 < (List.length v3 : Int)) (.val ((List.set v3 (Int.toNat x1) (⟨(rdS90 v3 x1).f0, (⟨(rdS90 v3 x1).f1.f0, (rdS90 v3 x1).f1.f1, (wr ((wr (t1.1 + (1 : Int))) + (1 : Int)))⟩ : S83)⟩ : S90)) : List S90) fun v4 => .jump (.c2 (wr ((wr ((wr (t1.1 + (1 : Int))) + (1 : Int))) + (1 : Int))) (wr (x1 + (1 : Int))) v4))))))
  (.ret (x0, x2))
def laws_markTaskS.f (a0 : Int) (a1 : List S90) : Option laws_markTaskS.A := (laws_markTaskS.begin a0 a1).run (lp laws_markTaskS.tree)
def laws_markTaskS.Q : Plan C := { PL with cuts := [(2, [0, 1, 5, 44])], ords := [], weak := [] }
theorem laws_markTaskS.e (J : Nat → St C → Prop) (K : PV U → List (PV U) → Prop) (x : laws_markTaskS.X) : Tr.sem (fun x => J (laws_markTaskS.id x) (laws_markTaskS.st x)) (fun r => K (laws_markTaskS.v r) (laws_markTaskS.o r)) (laws_markTaskS.tree x) = evCut C laws_markTaskS.Q (SoundCall Try.prog C) J Try.f40 1 (laws_markTaskS.id x) (laws_markTaskS.st x) K := by cases x <;> kernel_rfl
theorem laws_markTaskS.b (a0 : Int) (a1 : List S90) (J : Nat → St C → Prop) (K : PV U → List (PV U) → Prop) : Tr.sem (fun x => J (laws_markTaskS.id x) (laws_markTaskS.st x)) (fun r => K (laws_markTaskS.v r) (laws_markTaskS.o r)) (laws_markTaskS.begin a0 a1) = evFn C laws_markTaskS.Q (SoundCall Try.prog C) J Try.f40 (laws_markTaskS.S a0 a1) 1 K := by kernel_rfl
def laws_markTaskS.told (a0 : Int) (a1 : List S90) : YtmdgdcjkbggkmaaEv.Told laws_markTaskS.A := ⟨laws_markTaskS.f a0 a1, fun r => SoundCall Try.prog C 40 (laws_markTaskS.S a0 a1) 1 (laws_markTaskS.v r) (laws_markTaskS.o r), fun r h =>
 soundCall_of_tree G mixed laws_markTaskS.Q Try.func40 rfl (of_decide_eq_true (by kernel_rfl)) (by rfl) laws_markTaskS.id laws_markTaskS.st laws_markTaskS.v laws_markTaskS.o (fun _ => rfl) laws_markTaskS.tree (fun J K x => laws_markTaskS.e J K x) (laws_markTaskS.begin a0 a1) (fun J K => laws_markTaskS.b a0 a1 J K) h⟩
/-! #### loop.example/g00983/laws.markProgram (14) -/
def laws_markProgram.S (a0 : Int) (a1 : List S90) : List (PV U) := YtmdgdcjkbggkmaaEv.start C 10 [.agg [.ali (10, [])], .int .i64 a0] [.own true 91 a1]
abbrev laws_markProgram.X := Empty
def laws_markProgram.id : laws_markProgram.X → Nat := fun _ => 0
def laws_markProgram.st : laws_markProgram.X → List (PV U) := fun _ => []
def laws_markProgram.begin (a0 : Int) (a1 : List S90) : Tr laws_markProgram.X laws_markProgram.A :=
 .call (laws_markTaskS.told a0 a1) fun t1 => .ret (t1.1, t1.2)
def laws_markProgram.tree : laws_markProgram.X → Tr laws_markProgram.X laws_markProgram.A := fun _ => .fail
def laws_markProgram.f (a0 : Int) (a1 : List S90) : Option laws_markProgram.A := (laws_markProgram.begin a0 a1).run (lp laws_markProgram.tree)
def laws_markProgram.Q : Plan C := { PL with cuts := [], ords := [], weak := [] }
theorem laws_markProgram.e (J : Nat → St C → Prop) (K : PV U → List (PV U) → Prop) (x : laws_markProgram.X) : Tr.sem (fun x => J (laws_markProgram.id x) (laws_markProgram.st x)) (fun r => K (laws_markProgram.v r) (laws_markProgram.o r)) (laws_markProgram.tree x) = evCut C laws_markProgram.Q (SoundCall Try.prog C) J Try.f14 1 (laws_markProgram.id x) (laws_markProgram.st x) K := by cases x
theorem laws_markProgram.b (a0 : Int) (a1 : List S90) (J : Nat → St C → Prop) (K : PV U → List (PV U) → Prop) : Tr.sem (fun x => J (laws_markProgram.id x) (laws_markProgram.st x)) (fun r => K (laws_markProgram.v r) (laws_markProgram.o r)) (laws_markProgram.begin a0 a1) = evFn C laws_markProgram.Q (SoundCall Try.prog C) J Try.f14 (laws_markProgram.S a0 a1) 1 K := by kernel_rfl
def laws_markProgram.told (a0 : Int) (a1 : List S90) : YtmdgdcjkbggkmaaEv.Told laws_markProgram.A := ⟨laws_markProgram.f a0 a1, fun r => SoundCall Try.prog C 14 (laws_markProgram.S a0 a1) 1 (laws_markProgram.v r) (laws_markProgram.o r), fun r h =>
 soundCall_of_tree G mixed laws_markProgram.Q Try.func14 rfl (of_decide_eq_true (by kernel_rfl)) (by rfl) laws_markProgram.id laws_markProgram.st laws_markProgram.v laws_markProgram.o (fun _ => rfl) laws_markProgram.tree (fun J K x => laws_markProgram.e J K x) (laws_markProgram.begin a0 a1) (fun J K => laws_markProgram.b a0 a1 J K) h⟩
/-! #### loop.example/g00983/laws.markIntS (15) -/
def laws_markIntS.S (a0 : Int) (a1 : List Int) : List (PV U) := YtmdgdcjkbggkmaaEv.start C 19 [.ali (19, []), .int .i64 a0] [.own true 3 a1]
inductive laws_markIntS.X where
 | c2 (x0 : Int) (x1 : Int) (x2 : List Int)
def laws_markIntS.id : laws_markIntS.X → Nat
 | .c2 .. => 2
def laws_markIntS.st : laws_markIntS.X → List (PV U)
 | .c2 x0 x1 x2 => stOf 20 [(0, .ali (19, [])), (1, .int .i64 x0), (5, .int .i64 x1), (19, .own true 3 x2)]
def laws_markIntS.begin (a0 : Int) (a1 : List Int) : Tr laws_markIntS.X laws_markIntS.A :=
 .jump (.c2 a0 (0 : Int) a1)
def laws_markIntS.tree : laws_markIntS.X → Tr laws_markIntS.X laws_markIntS.A
 | .c2 x0 x1 x2 =>
 .ite (decide (x1 < (List.length x2 : Int)))
  (.need ((0 : Int) ≤ x1 ∧ x1 < (List.length x2 : Int)) (.jump (.c2 (wr (x0 + (1 : Int))) (wr (x1 + (1 : Int))) (List.set x2 (Int.toNat x1) x0))))
  (.ret (x0, x2))
def laws_markIntS.f (a0 : Int) (a1 : List Int) : Option laws_markIntS.A := (laws_markIntS.begin a0 a1).run (lp laws_markIntS.tree)
def laws_markIntS.Q : Plan C := { PL with cuts := [(2, [0, 1, 5, 19])], ords := [], weak := [] }
theorem laws_markIntS.e (J : Nat → St C → Prop) (K : PV U → List (PV U) → Prop) (x : laws_markIntS.X) : Tr.sem (fun x => J (laws_markIntS.id x) (laws_markIntS.st x)) (fun r => K (laws_markIntS.v r) (laws_markIntS.o r)) (laws_markIntS.tree x) = evCut C laws_markIntS.Q (SoundCall Try.prog C) J Try.f15 1 (laws_markIntS.id x) (laws_markIntS.st x) K := by cases x <;> kernel_rfl
theorem laws_markIntS.b (a0 : Int) (a1 : List Int) (J : Nat → St C → Prop) (K : PV U → List (PV U) → Prop) : Tr.sem (fun x => J (laws_markIntS.id x) (laws_markIntS.st x)) (fun r => K (laws_markIntS.v r) (laws_markIntS.o r)) (laws_markIntS.begin a0 a1) = evFn C laws_markIntS.Q (SoundCall Try.prog C) J Try.f15 (laws_markIntS.S a0 a1) 1 K := by kernel_rfl
def laws_markIntS.told (a0 : Int) (a1 : List Int) : YtmdgdcjkbggkmaaEv.Told laws_markIntS.A := ⟨laws_markIntS.f a0 a1, fun r => SoundCall Try.prog C 15 (laws_markIntS.S a0 a1) 1 (laws_markIntS.v r) (laws_markIntS.o r), fun r h =>
 soundCall_of_tree G mixed laws_markIntS.Q Try.func15 rfl (of_decide_eq_true (by kernel_rfl)) (by rfl) laws_markIntS.id laws_markIntS.st laws_markIntS.v laws_markIntS.o (fun _ => rfl) laws_markIntS.tree (fun J K x => laws_markIntS.e J K x) (laws_markIntS.begin a0 a1) (fun J K => laws_markIntS.b a0 a1 J K) h⟩
/-! #### loop.example/g00983/laws.markGateway (71) -/
def laws_markGateway.S (a0 : Int) (a1 : List Int) : List (PV U) := YtmdgdcjkbggkmaaEv.start C 10 [.agg [.ali (10, [])], .int .i64 a0] [.own true 3 a1]
abbrev laws_markGateway.X := Empty
def laws_markGateway.id : laws_markGateway.X → Nat := fun _ => 0
def laws_markGateway.st : laws_markGateway.X → List (PV U) := fun _ => []
def laws_markGateway.begin (a0 : Int) (a1 : List Int) : Tr laws_markGateway.X laws_markGateway.A :=
 .call (laws_markIntS.told a0 a1) fun t1 => .ret (t1.1, t1.2)
def laws_markGateway.tree : laws_markGateway.X → Tr laws_markGateway.X laws_markGateway.A := fun _ => .fail
def laws_markGateway.f (a0 : Int) (a1 : List Int) : Option laws_markGateway.A := (laws_markGateway.begin a0 a1).run (lp laws_markGateway.tree)
def laws_markGateway.Q : Plan C := { PL with cuts := [], ords := [], weak := [] }
theorem laws_markGateway.e (J : Nat → St C → Prop) (K : PV U → List (PV U) → Prop) (x : laws_markGateway.X) : Tr.sem (fun x => J (laws_markGateway.id x) (laws_markGateway.st x)) (fun r => K (laws_markGateway.v r) (laws_markGateway.o r)) (laws_markGateway.tree x) = evCut C laws_markGateway.Q (SoundCall Try.prog C) J Try.f71 1 (laws_markGateway.id x) (laws_markGateway.st x) K := by cases x
theorem laws_markGateway.b (a0 : Int) (a1 : List Int) (J : Nat → St C → Prop) (K : PV U → List (PV U) → Prop) : Tr.sem (fun x => J (laws_markGateway.id x) (laws_markGateway.st x)) (fun r => K (laws_markGateway.v r) (laws_markGateway.o r)) (laws_markGateway.begin a0 a1) = evFn C laws_markGateway.Q (SoundCall Try.prog C) J Try.f71 (laws_markGateway.S a0 a1) 1 K := by kernel_rfl
def laws_markGateway.told (a0 : Int) (a1 : List Int) : YtmdgdcjkbggkmaaEv.Told laws_markGateway.A := ⟨laws_markGateway.f a0 a1, fun r => SoundCall Try.prog C 71 (laws_markGateway.S a0 a1) 1 (laws_markGateway.v r) (laws_markGateway.o r), fun r h =>
 soundCall_of_tree G mixed laws_markGateway.Q Try.func71 rfl (of_decide_eq_true (by kernel_rfl)) (by rfl) laws_markGateway.id laws_markGateway.st laws_markGateway.v laws_markGateway.o (fun _ => rfl) laws_markGateway.tree (fun J K x => laws_markGateway.e J K x) (laws_markGateway.begin a0 a1) (fun J K => laws_markGateway.b a0 a1 J K) h⟩
/-! #### loop.example/g00983/laws.markLink (41) -/
def laws_markLink.S (a0 : Int) (a1 : Int) (a2 : List Int) : List (PV U) := YtmdgdcjkbggkmaaEv.start C 10 [.agg [.int .i64 a0, .ali (10, [])], .int .i64 a1] [.own true 3 a2]
abbrev laws_markLink.X := Empty
def laws_markLink.id : laws_markLink.X → Nat := fun _ => 0
def laws_markLink.st : laws_markLink.X → List (PV U) := fun _ => []
def laws_markLink.begin (a0 : Int) (a1 : Int) (a2 : List Int) : Tr laws_markLink.X laws_markLink.A :=
 .call (laws_markGateway.told a1 a2) fun t1 => .ret (t1.1, t1.2)
def laws_markLink.tree : laws_markLink.X → Tr laws_markLink.X laws_markLink.A := fun _ => .fail
def laws_markLink.f (a0 : Int) (a1 : Int) (a2 : List Int) : Option laws_markLink.A := (laws_markLink.begin a0 a1 a2).run (lp laws_markLink.tree)
def laws_markLink.Q : Plan C := { PL with cuts := [], ords := [], weak := [] }
theorem laws_markLink.e (J : Nat → St C → Prop) (K : PV U → List (PV U) → Prop) (x : laws_markLink.X) : Tr.sem (fun x => J (laws_markLink.id x) (laws_markLink.st x)) (fun r => K (laws_markLink.v r) (laws_markLink.o r)) (laws_markLink.tree x) = evCut C laws_markLink.Q (SoundCall Try.prog C) J Try.f41 1 (laws_markLink.id x) (laws_markLink.st x) K := by cases x
theorem laws_markLink.b (a0 : Int) (a1 : Int) (a2 : List Int) (J : Nat → St C → Prop) (K : PV U → List (PV U) → Prop) : Tr.sem (fun x => J (laws_markLink.id x) (laws_markLink.st x)) (fun r => K (laws_markLink.v r) (laws_markLink.o r)) (laws_markLink.begin a0 a1 a2) = evFn C laws_markLink.Q (SoundCall Try.prog C) J Try.f41 (laws_markLink.S a0 a1 a2) 1 K := by kernel_rfl
def laws_markLink.told (a0 : Int) (a1 : Int) (a2 : List Int) : YtmdgdcjkbggkmaaEv.Told laws_markLink.A := ⟨laws_markLink.f a0 a1 a2, fun r => SoundCall Try.prog C 41 (laws_markLink.S a0 a1 a2) 1 (laws_markLink.v r) (laws_markLink.o r), fun r h =>
 soundCall_of_tree G mixed laws_markLink.Q Try.func41 rfl (of_decide_eq_true (by kernel_rfl)) (by rfl) laws_markLink.id laws_markLink.st laws_markLink.v laws_markLink.o (fun _ => rfl) laws_markLink.tree (fun J K x => laws_markLink.e J K x) (laws_markLink.begin a0 a1 a2) (fun J K => laws_markLink.b a0 a1 a2 J K) h⟩
/-! #### loop.example/g00983/laws.markNode (16) -/
def laws_markNode.S (a0 : Int) (a1 : Int) (a2 : Int) (a3 : Int) (a4 : Int) (a5 : Int) (a6 : Int) (a7 : Int) (a8 : Int) (a9 : Int) (a10 : List S90) (a11 : List Int) (a12 : List Int) (a13 : List Int) : List (PV U) := YtmdgdcjkbggkmaaEv.start C 22 [.agg [.ali (22, []), .ali (23, []), .ali (24, []), .int .i64 a0, .int .i64 a1, .int .i64 a2, .int .i64 a3, .int .i64 a4, .int .i64 a5, .int .i64 a6, .int .i64 a7, .ali (25, []), .int .i64 a8], .int .i64 a9] [.own true 91 a10, .own true 3 a11, .own true 3 a12, .own true 3 a13]
abbrev laws_markNode.X := Empty
def laws_markNode.id : laws_markNode.X → Nat := fun _ => 0
def laws_markNode.st : laws_markNode.X → List (PV U) := fun _ => []
def laws_markNode.begin (a0 : Int) (a1 : Int) (a2 : Int) (a3 : Int) (a4 : Int) (a5 : Int) (a6 : Int) (a7 : Int) (a8 : Int) (a9 : Int) (a10 : List S90) (a11 : List Int) (a12 : List Int) (a13 : List Int) : Tr laws_markNode.X laws_markNode.A :=
 .call (laws_markProgram.told a9 a10) fun t1 => .call (laws_markIntS.told t1.1 a11) fun t2 => .call (laws_markIntS.told t2.1 a12) fun t3 => .call (laws_markLink.told a7 t3.1 a13) fun t4 => .ret (t4.1, t1.2, t2.2, t3.2, t4.2)
def laws_markNode.tree : laws_markNode.X → Tr laws_markNode.X laws_markNode.A := fun _ => .fail
def laws_markNode.f (a0 : Int) (a1 : Int) (a2 : Int) (a3 : Int) (a4 : Int) (a5 : Int) (a6 : Int) (a7 : Int) (a8 : Int) (a9 : Int) (a10 : List S90) (a11 : List Int) (a12 : List Int) (a13 : List Int) : Option laws_markNode.A := (laws_markNode.begin a0 a1 a2 a3 a4 a5 a6 a7 a8 a9 a10 a11 a12 a13).run (lp laws_markNode.tree)
def laws_markNode.Q : Plan C := { PL with cuts := [], ords := [], weak := [] }
theorem laws_markNode.e (J : Nat → St C → Prop) (K : PV U → List (PV U) → Prop) (x : laws_markNode.X) : Tr.sem (fun x => J (laws_markNode.id x) (laws_markNode.st x)) (fun r => K (laws_markNode.v r) (laws_markNode.o r)) (laws_markNode.tree x) = evCut C laws_markNode.Q (SoundCall Try.prog C) J Try.f16 4 (laws_markNode.id x) (laws_markNode.st x) K := by cases x
theorem laws_markNode.b (a0 : Int) (a1 : Int) (a2 : Int) (a3 : Int) (a4 : Int) (a5 : Int) (a6 : Int) (a7 : Int) (a8 : Int) (a9 : Int) (a10 : List S90) (a11 : List Int) (a12 : List Int) (a13 : List Int) (J : Nat → St C → Prop) (K : PV U → List (PV U) → Prop) : Tr.sem (fun x => J (laws_markNode.id x) (laws_markNode.st x)) (fun r => K (laws_markNode.v r) (laws_markNode.o r)) (laws_markNode.begin a0 a1 a2 a3 a4 a5 a6 a7 a8 a9 a10 a11 a12 a13) = evFn C laws_markNode.Q (SoundCall Try.prog C) J Try.f16 (laws_markNode.S a0 a1 a2 a3 a4 a5 a6 a7 a8 a9 a10 a11 a12 a13) 4 K := by kernel_rfl
def laws_markNode.told (a0 : Int) (a1 : Int) (a2 : Int) (a3 : Int) (a4 : Int) (a5 : Int) (a6 : Int) (a7 : Int) (a8 : Int) (a9 : Int) (a10 : List S90) (a11 : List Int) (a12 : List Int) (a13 : List Int) : YtmdgdcjkbggkmaaEv.Told laws_markNode.A := ⟨laws_markNode.f a0 a1 a2 a3 a4 a5 a6 a7 a8 a9 a10 a11 a12 a13, fun r => SoundCall Try.prog C 16 (laws_markNode.S a0 a1 a2 a3 a4 a5 a6 a7 a8 a9 a10 a11 a12 a13) 4 (laws_markNode.v r) (laws_markNode.o r), fun r h =>
 soundCall_of_tree G mixed laws_markNode.Q Try.func16 rfl (of_decide_eq_true (by kernel_rfl)) (by rfl) laws_markNode.id laws_markNode.st laws_markNode.v laws_markNode.o (fun _ => rfl) laws_markNode.tree (fun J K x => laws_markNode.e J K x) (laws_markNode.begin a0 a1 a2 a3 a4 a5 a6 a7 a8 a9 a10 a11 a12 a13) (fun J K => laws_markNode.b a0 a1 a2 a3 a4 a5 a6 a7 a8 a9 a10 a11 a12 a13 J K) h⟩
/-! #### loop.example/g00983/laws.heldStmtS (96) -/
def laws_heldStmtS.S (a0 : List S113) (a1 : Int) : List (PV U) := YtmdgdcjkbggkmaaEv.start C 70 [.sl 114 a0, .int .i64 a1] []
inductive laws_heldStmtS.X where
 | c2 (x0 : List S113) (x1 : Int) (x2 : Int)
def laws_heldStmtS.id : laws_heldStmtS.X → Nat
 | .c2 .. => 2
def laws_heldStmtS.st : laws_heldStmtS.X → List (PV U)
 | .c2 x0 x1 x2 => stOf 70 [(0, .sl 114 x0), (1, .int .i64 x1), (5, .int .i64 x2)]
def laws_heldStmtS.begin (a0 : List S113) (a1 : Int) : Tr laws_heldStmtS.X laws_heldStmtS.A :=
 .jump (.c2 a0 a1 (0 : Int))
def laws_heldStmtS.tree : laws_heldStmtS.X → Tr laws_heldStmtS.X laws_heldStmtS.A
 | .c2 x0 x1 x2 =>
 .ite (decide (x2 < (List.length x0 : Int)))
  (.need ((0 : Int) ≤ x2 ∧ x2 < (List.length x0 : Int)) (.ite (!decide ((rdS113 x0 x2).f0 = x1))
   (.ret ((-1 : Int)))
   (.need ((0 : Int) ≤ x2 ∧ x2 < (List.length x0 : Int)) (.ite (!decide ((rdS113 x0 x2).f1 = (wr (x1 + (1 : Int)))))
    (.ret ((-1 : Int)))
    (.need ((0 : Int) ≤ x2 ∧ x2 < (List.length x0 : Int)) (.ite (!decide ((rdS113 x0 x2).f2 = (wr ((wr (x1 + (1 : Int))) + (1 : Int)))))
     (.ret ((-1 : Int)))
     (.need ((0 : Int) ≤ x2 ∧ x2 < (List.length x0 : Int)) (.val ((!decide ((rdS113 x0 x2).f3.f0 = (wr ((wr ((wr (x1 + (1 : Int))) + (1 : Int))) + (1 : Int))))) : Bool) fun v1 => .ite v1
      (.ret ((-1 : Int)))
      (.need ((0 : Int) ≤ x2 ∧ x2 < (List.length x0 : Int)) (.val ((!decide ((rdS113 x0 x2).f3.f1 = (wr ((wr ((wr ((wr (x1 + (1 : Int))) + (1 : Int))) + (1 : Int))) + (1 : Int))))) : Bool) fun v2 => .ite v2
       (.ret ((-1 : Int)))
       (.val ((wr ((wr ((wr ((wr ((wr (x1 + (1 : Int))) + (1 : Int))) + (1 : Int))) + (1 : Int))) + (1 : Int))) : Int) fun v3 => .need ((0 : Int) ≤ x2 ∧ x2 < (List.length x0 : Int)) (.ite (!decide ((rdS113 x0 x2).f3.f2 = v3))
        (.ret ((-1 : Int)))
        (.jump (.c2 x0 (wr (v3 + (1 : Int))) (wr (x2 + (1 : Int)))))))))))))))))
  (.ret x1)
def laws_heldStmtS.f (a0 : List S113) (a1 : Int) : Option laws_heldStmtS.A := (laws_heldStmtS.begin a0 a1).run (lp laws_heldStmtS.tree)
def laws_heldStmtS.Q : Plan C := { PL with cuts := [(2, [0, 1, 5])], ords := [], weak := [] }
theorem laws_heldStmtS.e (J : Nat → St C → Prop) (K : PV U → List (PV U) → Prop) (x : laws_heldStmtS.X) : Tr.sem (fun x => J (laws_heldStmtS.id x) (laws_heldStmtS.st x)) (fun r => K (laws_heldStmtS.v r) (laws_heldStmtS.o r)) (laws_heldStmtS.tree x) = evCut C laws_heldStmtS.Q (SoundCall Try.prog C) J Try.f96 0 (laws_heldStmtS.id x) (laws_heldStmtS.st x) K := by cases x <;> kernel_rfl
theorem laws_heldStmtS.b (a0 : List S113) (a1 : Int) (J : Nat → St C → Prop) (K : PV U → List (PV U) → Prop) : Tr.sem (fun x => J (laws_heldStmtS.id x) (laws_heldStmtS.st x)) (fun r => K (laws_heldStmtS.v r) (laws_heldStmtS.o r)) (laws_heldStmtS.begin a0 a1) = evFn C laws_heldStmtS.Q (SoundCall Try.prog C) J Try.f96 (laws_heldStmtS.S a0 a1) 0 K := by kernel_rfl
def laws_heldStmtS.told (a0 : List S113) (a1 : Int) : YtmdgdcjkbggkmaaEv.Told laws_heldStmtS.A := ⟨laws_heldStmtS.f a0 a1, fun r => SoundCall Try.prog C 96 (laws_heldStmtS.S a0 a1) 0 (laws_heldStmtS.v r) (laws_heldStmtS.o r), fun r h =>
 soundCall_of_tree G mixed laws_heldStmtS.Q Try.func96 rfl (of_decide_eq_true (by kernel_rfl)) (by rfl) laws_heldStmtS.id laws_heldStmtS.st laws_heldStmtS.v laws_heldStmtS.o (fun _ => rfl) laws_heldStmtS.tree (fun J K x => laws_heldStmtS.e J K x) (laws_heldStmtS.begin a0 a1) (fun J K => laws_heldStmtS.b a0 a1 J K) h⟩
/-! #### loop.example/g00983/laws.heldTaskS (72) -/
def laws_heldTaskS.S (a0 : List S90) (a1 : Int) : List (PV U) := YtmdgdcjkbggkmaaEv.start C 52 [.sl 91 a0, .int .i64 a1] []
inductive laws_heldTaskS.X where
 | c2 (x0 : List S90) (x1 : Int) (x2 : Int)
def laws_heldTaskS.id : laws_heldTaskS.X → Nat
 | .c2 .. => 2
def laws_heldTaskS.st : laws_heldTaskS.X → List (PV U)
 | .c2 x0 x1 x2 => stOf 52 [(0, .sl 91 x0), (1, .int .i64 x1), (5, .int .i64 x2)]
def laws_heldTaskS.begin (a0 : List S90) (a1 : Int) : Tr laws_heldTaskS.X laws_heldTaskS.A :=
 .jump (.c2 a0 a1 (0 : Int))
def laws_heldTaskS.tree : laws_heldTaskS.X → Tr laws_heldTaskS.X laws_heldTaskS.A
 | .c2 x0 x1 x2 =>
 .ite (decide (x2 < (List.length x0 : Int)))
  (.need ((0 : Int) ≤ x2 ∧ x2 < (List.length x0 : Int)) (.call (laws_heldStmtS.told ((rdS90 x0 x2).f0) x1) fun t1 => .ite (decide (t1 < (0 : Int)))
   (.ret ((-1 : Int)))
   (.need ((0 : Int) ≤ x2 ∧ x2 < (List.length x0 : Int)) (.ite (!decide ((rdS90 x0 x2).f1.f0 = t1))
    (.ret ((-1 : Int)))
    (.need ((0 : Int) ≤ x2 ∧ x2 < (List.length x0 : Int)) (.ite (!decide ((rdS90 x0 x2).f1.f1 = (wr (t1 + (1 : Int)))))
     (.ret ((-1 : Int)))
     (.need ((0 : Int) ≤ x2 ∧ x2 < (List.length x0 : Int)) (.ite (!decide ((rdS90 x0 x2).f1.f2 = (wr ((wr (t1 + (1 : Int))) + (1 : Int)))))
      (.ret ((-1 : Int)))
      (.jump (.c2 x0 (wr ((wr ((wr (t1 + (1 : Int))) + (1 : Int))) + (1 : Int))) (wr (x2 + (1 : Int)))))))))))))
  (.ret x1)
def laws_heldTaskS.f (a0 : List S90) (a1 : Int) : Option laws_heldTaskS.A := (laws_heldTaskS.begin a0 a1).run (lp laws_heldTaskS.tree)
def laws_heldTaskS.Q : Plan C := { PL with cuts := [(2, [0, 1, 5])], ords := [], weak := [] }
theorem laws_heldTaskS.e (J : Nat → St C → Prop) (K : PV U → List (PV U) → Prop) (x : laws_heldTaskS.X) : Tr.sem (fun x => J (laws_heldTaskS.id x) (laws_heldTaskS.st x)) (fun r => K (laws_heldTaskS.v r) (laws_heldTaskS.o r)) (laws_heldTaskS.tree x) = evCut C laws_heldTaskS.Q (SoundCall Try.prog C) J Try.f72 0 (laws_heldTaskS.id x) (laws_heldTaskS.st x) K := by cases x <;> kernel_rfl
theorem laws_heldTaskS.b (a0 : List S90) (a1 : Int) (J : Nat → St C → Prop) (K : PV U → List (PV U) → Prop) : Tr.sem (fun x => J (laws_heldTaskS.id x) (laws_heldTaskS.st x)) (fun r => K (laws_heldTaskS.v r) (laws_heldTaskS.o r)) (laws_heldTaskS.begin a0 a1) = evFn C laws_heldTaskS.Q (SoundCall Try.prog C) J Try.f72 (laws_heldTaskS.S a0 a1) 0 K := by kernel_rfl
def laws_heldTaskS.told (a0 : List S90) (a1 : Int) : YtmdgdcjkbggkmaaEv.Told laws_heldTaskS.A := ⟨laws_heldTaskS.f a0 a1, fun r => SoundCall Try.prog C 72 (laws_heldTaskS.S a0 a1) 0 (laws_heldTaskS.v r) (laws_heldTaskS.o r), fun r h =>
 soundCall_of_tree G mixed laws_heldTaskS.Q Try.func72 rfl (of_decide_eq_true (by kernel_rfl)) (by rfl) laws_heldTaskS.id laws_heldTaskS.st laws_heldTaskS.v laws_heldTaskS.o (fun _ => rfl) laws_heldTaskS.tree (fun J K x => laws_heldTaskS.e J K x) (laws_heldTaskS.begin a0 a1) (fun J K => laws_heldTaskS.b a0 a1 J K) h⟩
/-! #### loop.example/g00983/laws.heldProgram (42) -/
def laws_heldProgram.S (a0 : List S90) (a1 : Int) : List (PV U) := YtmdgdcjkbggkmaaEv.start C 12 [.agg [.sl 91 a0], .int .i64 a1] []
abbrev laws_heldProgram.X := Empty
def laws_heldProgram.id : laws_heldProgram.X → Nat := fun _ => 0
def laws_heldProgram.st : laws_heldProgram.X → List (PV U) := fun _ => []
def laws_heldProgram.begin (a0 : List S90) (a1 : Int) : Tr laws_heldProgram.X laws_heldProgram.A :=
 .call (laws_heldTaskS.told a0 a1) fun t1 => .ite (decide (t1 < (0 : Int)))
  (.ret ((-1 : Int)))
  (.ret t1)
def laws_heldProgram.tree : laws_heldProgram.X → Tr laws_heldProgram.X laws_heldProgram.A := fun _ => .fail
def laws_heldProgram.f (a0 : List S90) (a1 : Int) : Option laws_heldProgram.A := (laws_heldProgram.begin a0 a1).run (lp laws_heldProgram.tree)
def laws_heldProgram.Q : Plan C := { PL with cuts := [], ords := [], weak := [] }
theorem laws_heldProgram.e (J : Nat → St C → Prop) (K : PV U → List (PV U) → Prop) (x : laws_heldProgram.X) : Tr.sem (fun x => J (laws_heldProgram.id x) (laws_heldProgram.st x)) (fun r => K (laws_heldProgram.v r) (laws_heldProgram.o r)) (laws_heldProgram.tree x) = evCut C laws_heldProgram.Q (SoundCall Try.prog C) J Try.f42 0 (laws_heldProgram.id x) (laws_heldProgram.st x) K := by cases x
theorem laws_heldProgram.b (a0 : List S90) (a1 : Int) (J : Nat → St C → Prop) (K : PV U → List (PV U) → Prop) : Tr.sem (fun x => J (laws_heldProgram.id x) (laws_heldProgram.st x)) (fun r => K (laws_heldProgram.v r) (laws_heldProgram.o r)) (laws_heldProgram.begin a0 a1) = evFn C laws_heldProgram.Q (SoundCall Try.prog C) J Try.f42 (laws_heldProgram.S a0 a1) 0 K := by kernel_rfl
def laws_heldProgram.told (a0 : List S90) (a1 : Int) : YtmdgdcjkbggkmaaEv.Told laws_heldProgram.A := ⟨laws_heldProgram.f a0 a1, fun r => SoundCall Try.prog C 42 (laws_heldProgram.S a0 a1) 0 (laws_heldProgram.v r) (laws_heldProgram.o r), fun r h =>
 soundCall_of_tree G mixed laws_heldProgram.Q Try.func42 rfl (of_decide_eq_true (by kernel_rfl)) (by rfl) laws_heldProgram.id laws_heldProgram.st laws_heldProgram.v laws_heldProgram.o (fun _ => rfl) laws_heldProgram.tree (fun J K x => laws_heldProgram.e J K x) (laws_heldProgram.begin a0 a1) (fun J K => laws_heldProgram.b a0 a1 J K) h⟩
/-! #### loop.example/g00983/laws.heldIntS (22) -/
def laws_heldIntS.S (a0 : List Int) (a1 : Int) : List (PV U) := YtmdgdcjkbggkmaaEv.start C 21 [.sl 3 a0, .int .i64 a1] []
inductive laws_heldIntS.X where
 | c2 (x0 : List Int) (x1 : Int) (x2 : Int)
def laws_heldIntS.id : laws_heldIntS.X → Nat
 | .c2 .. => 2
def laws_heldIntS.st : laws_heldIntS.X → List (PV U)
 | .c2 x0 x1 x2 => stOf 21 [(0, .sl 3 x0), (1, .int .i64 x1), (5, .int .i64 x2)]
def laws_heldIntS.begin (a0 : List Int) (a1 : Int) : Tr laws_heldIntS.X laws_heldIntS.A :=
 .jump (.c2 a0 a1 (0 : Int))
def laws_heldIntS.tree : laws_heldIntS.X → Tr laws_heldIntS.X laws_heldIntS.A
 | .c2 x0 x1 x2 =>
 .ite (decide (x2 < (List.length x0 : Int)))
  (.need ((0 : Int) ≤ x2 ∧ x2 < (List.length x0 : Int)) (.ite (!decide ((rdI x0 x2) = x1))
   (.ret ((-1 : Int)))
   (.jump (.c2 x0 (wr (x1 + (1 : Int))) (wr (x2 + (1 : Int)))))))
  (.ret x1)
def laws_heldIntS.f (a0 : List Int) (a1 : Int) : Option laws_heldIntS.A := (laws_heldIntS.begin a0 a1).run (lp laws_heldIntS.tree)
def laws_heldIntS.Q : Plan C := { PL with cuts := [(2, [0, 1, 5])], ords := [], weak := [] }
theorem laws_heldIntS.e (J : Nat → St C → Prop) (K : PV U → List (PV U) → Prop) (x : laws_heldIntS.X) : Tr.sem (fun x => J (laws_heldIntS.id x) (laws_heldIntS.st x)) (fun r => K (laws_heldIntS.v r) (laws_heldIntS.o r)) (laws_heldIntS.tree x) = evCut C laws_heldIntS.Q (SoundCall Try.prog C) J Try.f22 0 (laws_heldIntS.id x) (laws_heldIntS.st x) K := by cases x <;> kernel_rfl
theorem laws_heldIntS.b (a0 : List Int) (a1 : Int) (J : Nat → St C → Prop) (K : PV U → List (PV U) → Prop) : Tr.sem (fun x => J (laws_heldIntS.id x) (laws_heldIntS.st x)) (fun r => K (laws_heldIntS.v r) (laws_heldIntS.o r)) (laws_heldIntS.begin a0 a1) = evFn C laws_heldIntS.Q (SoundCall Try.prog C) J Try.f22 (laws_heldIntS.S a0 a1) 0 K := by kernel_rfl
def laws_heldIntS.told (a0 : List Int) (a1 : Int) : YtmdgdcjkbggkmaaEv.Told laws_heldIntS.A := ⟨laws_heldIntS.f a0 a1, fun r => SoundCall Try.prog C 22 (laws_heldIntS.S a0 a1) 0 (laws_heldIntS.v r) (laws_heldIntS.o r), fun r h =>
 soundCall_of_tree G mixed laws_heldIntS.Q Try.func22 rfl (of_decide_eq_true (by kernel_rfl)) (by rfl) laws_heldIntS.id laws_heldIntS.st laws_heldIntS.v laws_heldIntS.o (fun _ => rfl) laws_heldIntS.tree (fun J K x => laws_heldIntS.e J K x) (laws_heldIntS.begin a0 a1) (fun J K => laws_heldIntS.b a0 a1 J K) h⟩
/-! #### loop.example/g00983/laws.heldGateway (73) -/
def laws_heldGateway.S (a0 : List Int) (a1 : Int) : List (PV U) := YtmdgdcjkbggkmaaEv.start C 12 [.agg [.sl 3 a0], .int .i64 a1] []
abbrev laws_heldGateway.X := Empty
def laws_heldGateway.id : laws_heldGateway.X → Nat := fun _ => 0
def laws_heldGateway.st : laws_heldGateway.X → List (PV U) := fun _ => []
def laws_heldGateway.begin (a0 : List Int) (a1 : Int) : Tr laws_heldGateway.X laws_heldGateway.A :=
 .call (laws_heldIntS.told a0 a1) fun t1 => .ite (decide (t1 < (0 : Int)))
  (.ret ((-1 : Int)))
  (.ret t1)
def laws_heldGateway.tree : laws_heldGateway.X → Tr laws_heldGateway.X laws_heldGateway.A := fun _ => .fail
def laws_heldGateway.f (a0 : List Int) (a1 : Int) : Option laws_heldGateway.A := (laws_heldGateway.begin a0 a1).run (lp laws_heldGateway.tree)
def laws_heldGateway.Q : Plan C := { PL with cuts := [], ords := [], weak := [] }
theorem laws_heldGateway.e (J : Nat → St C → Prop) (K : PV U → List (PV U) → Prop) (x : laws_heldGateway.X) : Tr.sem (fun x => J (laws_heldGateway.id x) (laws_heldGateway.st x)) (fun r => K (laws_heldGateway.v r) (laws_heldGateway.o r)) (laws_heldGateway.tree x) = evCut C laws_heldGateway.Q (SoundCall Try.prog C) J Try.f73 0 (laws_heldGateway.id x) (laws_heldGateway.st x) K := by cases x
theorem laws_heldGateway.b (a0 : List Int) (a1 : Int) (J : Nat → St C → Prop) (K : PV U → List (PV U) → Prop) : Tr.sem (fun x => J (laws_heldGateway.id x) (laws_heldGateway.st x)) (fun r => K (laws_heldGateway.v r) (laws_heldGateway.o r)) (laws_heldGateway.begin a0 a1) = evFn C laws_heldGateway.Q (SoundCall Try.prog C) J Try.f73 (laws_heldGateway.S a0 a1) 0 K := by kernel_rfl
def laws_heldGateway.told (a0 : List Int) (a1 : Int) : YtmdgdcjkbggkmaaEv.Told laws_heldGateway.A := ⟨laws_heldGateway.f a0 a1, fun r => SoundCall Try.prog C 73 (laws_heldGateway.S a0 a1) 0 (laws_heldGateway.v r) (laws_heldGateway.o r), fun r h =>
 soundCall_of_tree G mixed laws_heldGateway.Q Try.func73 rfl (of_decide_eq_true (by kernel_rfl)) (by rfl) laws_heldGateway.id laws_heldGateway.st laws_heldGateway.v laws_heldGateway.o (fun _ => rfl) laws_heldGateway.tree (fun J K x => laws_heldGateway.e J K x) (laws_heldGateway.begin a0 a1) (fun J K => laws_heldGateway.b a0 a1 J K) h⟩
/-! #### loop.example/g00983/laws.heldLink (43) -/
def laws_heldLink.S (a0 : Int) (a1 : List Int) (a2 : Int) : List (PV U) := YtmdgdcjkbggkmaaEv.start C 12 [.agg [.int .i64 a0, .sl 3 a1], .int .i64 a2] []
abbrev laws_heldLink.X := Empty
def laws_heldLink.id : laws_heldLink.X → Nat := fun _ => 0
def laws_heldLink.st : laws_heldLink.X → List (PV U) := fun _ => []
def laws_heldLink.begin (a0 : Int) (a1 : List Int) (a2 : Int) : Tr laws_heldLink.X laws_heldLink.A :=
 .call (laws_heldGateway.told a1 a2) fun t1 => .ite (decide (t1 < (0 : Int)))
  (.ret ((-1 : Int)))
  (.ret t1)
def laws_heldLink.tree : laws_heldLink.X → Tr laws_heldLink.X laws_heldLink.A := fun _ => .fail
def laws_heldLink.f (a0 : Int) (a1 : List Int) (a2 : Int) : Option laws_heldLink.A := (laws_heldLink.begin a0 a1 a2).run (lp laws_heldLink.tree)
def laws_heldLink.Q : Plan C := { PL with cuts := [], ords := [], weak := [] }
theorem laws_heldLink.e (J : Nat → St C → Prop) (K : PV U → List (PV U) → Prop) (x : laws_heldLink.X) : Tr.sem (fun x => J (laws_heldLink.id x) (laws_heldLink.st x)) (fun r => K (laws_heldLink.v r) (laws_heldLink.o r)) (laws_heldLink.tree x) = evCut C laws_heldLink.Q (SoundCall Try.prog C) J Try.f43 0 (laws_heldLink.id x) (laws_heldLink.st x) K := by cases x
theorem laws_heldLink.b (a0 : Int) (a1 : List Int) (a2 : Int) (J : Nat → St C → Prop) (K : PV U → List (PV U) → Prop) : Tr.sem (fun x => J (laws_heldLink.id x) (laws_heldLink.st x)) (fun r => K (laws_heldLink.v r) (laws_heldLink.o r)) (laws_heldLink.begin a0 a1 a2) = evFn C laws_heldLink.Q (SoundCall Try.prog C) J Try.f43 (laws_heldLink.S a0 a1 a2) 0 K := by kernel_rfl
def laws_heldLink.told (a0 : Int) (a1 : List Int) (a2 : Int) : YtmdgdcjkbggkmaaEv.Told laws_heldLink.A := ⟨laws_heldLink.f a0 a1 a2, fun r => SoundCall Try.prog C 43 (laws_heldLink.S a0 a1 a2) 0 (laws_heldLink.v r) (laws_heldLink.o r), fun r h =>
 soundCall_of_tree G mixed laws_heldLink.Q Try.func43 rfl (of_decide_eq_true (by kernel_rfl)) (by rfl) laws_heldLink.id laws_heldLink.st laws_heldLink.v laws_heldLink.o (fun _ => rfl) laws_heldLink.tree (fun J K x => laws_heldLink.e J K x) (laws_heldLink.begin a0 a1 a2) (fun J K => laws_heldLink.b a0 a1 a2 J K) h⟩
end
end Go.Proofs.Ytmdgdcjkbggkmaa.Ev
