/- Functions as trees, with their contracts. No conditions. -/
import Derived.Test.YtobfemcobakeoaaGreatMEvH
namespace Go.Proofs.YtobfemcobakeoaaGreat.Ev
open Go.Proofs.YtobfemcobakeoaaGreatEv Go.RowKit
set_option linter.unusedVariables false
set_option maxRecDepth 100000
noncomputable section
/-! #### loop.example/g00983/laws.szStmtS (195) -/
namespace laws_szStmtS
def S (a0 : List S239) (a1 : Int) : List (PV U) := YtobfemcobakeoaaGreatEv.start C 12 [.sl 240 a0, .int .i64 a1] []
abbrev X := Empty
def id : X → Nat := fun _ => 0
def st : X → List (PV U) := fun _ => []
def begin (a0 : List S239) (a1 : Int) : Tr X A :=
 .ite (decide ((wr (a1 - (List.length a0 : Int))) < (0 : Int)))
  (.ret ((-1 : Int)))
  (.ret ((wr (a1 - (List.length a0 : Int)))))
def tree : X → Tr X A := fun _ => .fail
def f (a0 : List S239) (a1 : Int) : Option A := (begin a0 a1).run (lp tree)
def Q : Plan C := { PL with cuts := [], ords := [], weak := [] }
theorem e : CutEq Pg C Q Tryz.f195 0 id st v o tree := fun J K x => by cases x
theorem b (a0 : List S239) (a1 : Int) : BegEq Pg C Q Tryz.f195 0 id st v o (S a0 a1) (begin a0 a1) := fun J K => by kernel_rfl
def told (a0 : List S239) (a1 : Int) : YtobfemcobakeoaaGreatEv.Told A := ⟨f a0 a1, fun r => SoundCall Pg C 195 (S a0 a1) 0 (v r) (o r), fun r h => soundCall_of_tree G mixed Q Tryz.func195 rfl (of_decide_eq_true (by kernel_rfl)) (by rfl) id st v o (fun _ => rfl) tree e (begin a0 a1) (b a0 a1) h⟩
end laws_szStmtS
/-! #### loop.example/g00983/laws.szTask (136) -/
namespace laws_szTask
def S (a0 : List S239) (a1 a2 a3 a4 : Int) : List (PV U) := YtobfemcobakeoaaGreatEv.start C 12 [.agg [.sl 240 a0, .int .i64 a1, .int .i64 a2, .int .i64 a3], .int .i64 a4] []
abbrev X := Empty
def id : X → Nat := fun _ => 0
def st : X → List (PV U) := fun _ => []
def begin (a0 : List S239) (a1 a2 a3 a4 : Int) : Tr X A :=
 .call (laws_szStmtS.told a0 a4) fun t1 => .ite (decide (t1 < (0 : Int)))
  (.ret ((-1 : Int)))
  (.ret t1)
def tree : X → Tr X A := fun _ => .fail
def f (a0 : List S239) (a1 a2 a3 a4 : Int) : Option A := (begin a0 a1 a2 a3 a4).run (lp tree)
def Q : Plan C := { PL with cuts := [], ords := [], weak := [] }
theorem e : CutEq Pg C Q Tryz.f136 0 id st v o tree := fun J K x => by cases x
theorem b (a0 : List S239) (a1 a2 a3 a4 : Int) : BegEq Pg C Q Tryz.f136 0 id st v o (S a0 a1 a2 a3 a4) (begin a0 a1 a2 a3 a4) := fun J K => by kernel_rfl
def told (a0 : List S239) (a1 a2 a3 a4 : Int) : YtobfemcobakeoaaGreatEv.Told A := ⟨f a0 a1 a2 a3 a4, fun r => SoundCall Pg C 136 (S a0 a1 a2 a3 a4) 0 (v r) (o r), fun r h => soundCall_of_tree G mixed Q Tryz.func136 rfl (of_decide_eq_true (by kernel_rfl)) (by rfl) id st v o (fun _ => rfl) tree e (begin a0 a1 a2 a3 a4) (b a0 a1 a2 a3 a4) h⟩
end laws_szTask
/-! #### loop.example/g00983/laws.szTaskS (65) -/
namespace laws_szTaskS
def S (a0 : List S172) (a1 : Int) : List (PV U) := YtobfemcobakeoaaGreatEv.start C 27 [.sl 173 a0, .int .i64 a1] []
inductive X where
 | c5 (x0 : List S172) (x1 x2 : Int)
def id : X → Nat
 | .c5 .. => 5
def st : X → List (PV U)
 | .c5 x0 x1 x2 => stOf 27 [(0, .sl 173 x0), (1, .int .i64 x1), (5, .int .i64 x2)]
def begin (a0 : List S172) (a1 : Int) : Tr X A :=
 .ite (decide ((wr (a1 - (List.length a0 : Int))) < (0 : Int)))
  (.ret ((-1 : Int)))
  (.jump (.c5 a0 (wr (a1 - (List.length a0 : Int))) (0 : Int)))
def tree : X → Tr X A
 | .c5 x0 x1 x2 =>
 .ite (decide (x2 < (List.length x0 : Int)))
  (.need ((0 : Int) ≤ x2 ∧ x2 < (List.length x0 : Int)) (.call (laws_szTask.told ((rdS172 x0 x2).f0) ((rdS172 x0 x2).f1.f0) ((rdS172 x0 x2).f1.f1) ((rdS172 x0 x2).f1.f2) x1) fun t1 => .ite (decide (t1 < (0 : Int)))
   (.ret ((-1 : Int)))
   (.jump (.c5 x0 t1 (wr (x2 + (1 : Int)))))))
  (.ret x1)
def f (a0 : List S172) (a1 : Int) : Option A := (begin a0 a1).run (lp tree)
def Q : Plan C := { PL with cuts := [(5, [0, 1, 5])], ords := [], weak := [] }
theorem e : CutEq Pg C Q Tryz.f65 0 id st v o tree := fun J K x => by cases x <;> kernel_rfl
theorem b (a0 : List S172) (a1 : Int) : BegEq Pg C Q Tryz.f65 0 id st v o (S a0 a1) (begin a0 a1) := fun J K => by kernel_rfl
def told (a0 : List S172) (a1 : Int) : YtobfemcobakeoaaGreatEv.Told A := ⟨f a0 a1, fun r => SoundCall Pg C 65 (S a0 a1) 0 (v r) (o r), fun r h => soundCall_of_tree G mixed Q Tryz.func65 rfl (of_decide_eq_true (by kernel_rfl)) (by rfl) id st v o (fun _ => rfl) tree e (begin a0 a1) (b a0 a1) h⟩
end laws_szTaskS
/-! #### loop.example/g00983/laws.szProgram (12) -/
namespace laws_szProgram
def S (a0 : List S172) (a1 : Int) : List (PV U) := YtobfemcobakeoaaGreatEv.start C 12 [.agg [.sl 173 a0], .int .i64 a1] []
abbrev X := Empty
def id : X → Nat := fun _ => 0
def st : X → List (PV U) := fun _ => []
def begin (a0 : List S172) (a1 : Int) : Tr X A :=
 .call (laws_szTaskS.told a0 a1) fun t1 => .ite (decide (t1 < (0 : Int)))
  (.ret ((-1 : Int)))
  (.ret t1)
def tree : X → Tr X A := fun _ => .fail
def f (a0 : List S172) (a1 : Int) : Option A := (begin a0 a1).run (lp tree)
def Q : Plan C := { PL with cuts := [], ords := [], weak := [] }
theorem e : CutEq Pg C Q Tryz.f12 0 id st v o tree := fun J K x => by cases x
theorem b (a0 : List S172) (a1 : Int) : BegEq Pg C Q Tryz.f12 0 id st v o (S a0 a1) (begin a0 a1) := fun J K => by kernel_rfl
def told (a0 : List S172) (a1 : Int) : YtobfemcobakeoaaGreatEv.Told A := ⟨f a0 a1, fun r => SoundCall Pg C 12 (S a0 a1) 0 (v r) (o r), fun r h => soundCall_of_tree G mixed Q Tryz.func12 rfl (of_decide_eq_true (by kernel_rfl)) (by rfl) id st v o (fun _ => rfl) tree e (begin a0 a1) (b a0 a1) h⟩
end laws_szProgram
/-! #### loop.example/g00983/laws.szExprS (66) -/
namespace laws_szExprS
def S (a0 : List S153) (a1 : Int) : List (PV U) := YtobfemcobakeoaaGreatEv.start C 12 [.sl 171 a0, .int .i64 a1] []
abbrev X := Empty
def id : X → Nat := fun _ => 0
def st : X → List (PV U) := fun _ => []
def begin (a0 : List S153) (a1 : Int) : Tr X A :=
 .ite (decide ((wr (a1 - (List.length a0 : Int))) < (0 : Int)))
  (.ret ((-1 : Int)))
  (.ret ((wr (a1 - (List.length a0 : Int)))))
def tree : X → Tr X A := fun _ => .fail
def f (a0 : List S153) (a1 : Int) : Option A := (begin a0 a1).run (lp tree)
def Q : Plan C := { PL with cuts := [], ords := [], weak := [] }
theorem e : CutEq Pg C Q Tryz.f66 0 id st v o tree := fun J K x => by cases x
theorem b (a0 : List S153) (a1 : Int) : BegEq Pg C Q Tryz.f66 0 id st v o (S a0 a1) (begin a0 a1) := fun J K => by kernel_rfl
def told (a0 : List S153) (a1 : Int) : YtobfemcobakeoaaGreatEv.Told A := ⟨f a0 a1, fun r => SoundCall Pg C 66 (S a0 a1) 0 (v r) (o r), fun r h => soundCall_of_tree G mixed Q Tryz.func66 rfl (of_decide_eq_true (by kernel_rfl)) (by rfl) id st v o (fun _ => rfl) tree e (begin a0 a1) (b a0 a1) h⟩
end laws_szExprS
/-! #### loop.example/g00983/laws.szRules (13) -/
namespace laws_szRules
def S (a0 : List S153) (a1 : Int) : List (PV U) := YtobfemcobakeoaaGreatEv.start C 12 [.agg [.sl 171 a0], .int .i64 a1] []
abbrev X := Empty
def id : X → Nat := fun _ => 0
def st : X → List (PV U) := fun _ => []
def begin (a0 : List S153) (a1 : Int) : Tr X A :=
 .call (laws_szExprS.told a0 a1) fun t1 => .ite (decide (t1 < (0 : Int)))
  (.ret ((-1 : Int)))
  (.ret t1)
def tree : X → Tr X A := fun _ => .fail
def f (a0 : List S153) (a1 : Int) : Option A := (begin a0 a1).run (lp tree)
def Q : Plan C := { PL with cuts := [], ords := [], weak := [] }
theorem e : CutEq Pg C Q Tryz.f13 0 id st v o tree := fun J K x => by cases x
theorem b (a0 : List S153) (a1 : Int) : BegEq Pg C Q Tryz.f13 0 id st v o (S a0 a1) (begin a0 a1) := fun J K => by kernel_rfl
def told (a0 : List S153) (a1 : Int) : YtobfemcobakeoaaGreatEv.Told A := ⟨f a0 a1, fun r => SoundCall Pg C 13 (S a0 a1) 0 (v r) (o r), fun r h => soundCall_of_tree G mixed Q Tryz.func13 rfl (of_decide_eq_true (by kernel_rfl)) (by rfl) id st v o (fun _ => rfl) tree e (begin a0 a1) (b a0 a1) h⟩
end laws_szRules
/-! #### loop.example/g00983/laws.toExpr (147) -/
namespace laws_toExpr
def S (a0 a1 a2 : Int) : List (PV U) := YtobfemcobakeoaaGreatEv.start C 14 [.agg [.int .i64 a0, .int .i64 a1, .int .i64 a2]] []
abbrev X := Empty
def id : X → Nat := fun _ => 0
def st : X → List (PV U) := fun _ => []
def begin (a0 a1 a2 : Int) : Tr X A :=
 .ret (a0, a1, a2)
def tree : X → Tr X A := fun _ => .fail
def f (a0 a1 a2 : Int) : Option A := (begin a0 a1 a2).run (lp tree)
def Q : Plan C := { PL with cuts := [], ords := [], weak := [] }
theorem e : CutEq Pg C Q Tryz.f147 0 id st v o tree := fun J K x => by cases x
theorem b (a0 a1 a2 : Int) : BegEq Pg C Q Tryz.f147 0 id st v o (S a0 a1 a2) (begin a0 a1 a2) := fun J K => by kernel_rfl
def told (a0 a1 a2 : Int) : YtobfemcobakeoaaGreatEv.Told A := ⟨f a0 a1 a2, fun r => SoundCall Pg C 147 (S a0 a1 a2) 0 (v r) (o r), fun r h => soundCall_of_tree G mixed Q Tryz.func147 rfl (of_decide_eq_true (by kernel_rfl)) (by rfl) id st v o (fun _ => rfl) tree e (begin a0 a1 a2) (b a0 a1 a2) h⟩
end laws_toExpr
/-! #### loop.example/g00983/laws.toStmt (227) -/
namespace laws_toStmt
def S (a0 a1 a2 a3 a4 a5 : Int) : List (PV U) := YtobfemcobakeoaaGreatEv.start C 18 [.agg [.int .i64 a0, .int .i64 a1, .int .i64 a2, .int .i64 a3, .int .i64 a4, .int .i64 a5]] []
abbrev X := Empty
def id : X → Nat := fun _ => 0
def st : X → List (PV U) := fun _ => []
def begin (a0 a1 a2 a3 a4 a5 : Int) : Tr X A :=
 .call (laws_toExpr.told a3 a4 a5) fun t1 => .ret (a0, a1, a2, t1.1, t1.2.1, t1.2.2)
def tree : X → Tr X A := fun _ => .fail
def f (a0 a1 a2 a3 a4 a5 : Int) : Option A := (begin a0 a1 a2 a3 a4 a5).run (lp tree)
def Q : Plan C := { PL with cuts := [], ords := [], weak := [] }
theorem e : CutEq Pg C Q Tryz.f227 0 id st v o tree := fun J K x => by cases x
theorem b (a0 a1 a2 a3 a4 a5 : Int) : BegEq Pg C Q Tryz.f227 0 id st v o (S a0 a1 a2 a3 a4 a5) (begin a0 a1 a2 a3 a4 a5) := fun J K => by kernel_rfl
def told (a0 a1 a2 a3 a4 a5 : Int) : YtobfemcobakeoaaGreatEv.Told A := ⟨f a0 a1 a2 a3 a4 a5, fun r => SoundCall Pg C 227 (S a0 a1 a2 a3 a4 a5) 0 (v r) (o r), fun r h => soundCall_of_tree G mixed Q Tryz.func227 rfl (of_decide_eq_true (by kernel_rfl)) (by rfl) id st v o (fun _ => rfl) tree e (begin a0 a1 a2 a3 a4 a5) (b a0 a1 a2 a3 a4 a5) h⟩
end laws_toStmt
/-! #### loop.example/g00983/laws.toStmtS (203) -/
namespace laws_toStmtS
def S (a0 : List S239) : List (PV U) := YtobfemcobakeoaaGreatEv.start C 23 [.sl 240 a0] []
inductive X where
 | c3 (x0 : List S239) (x1 : List S210) (x2 : Int)
def id : X → Nat
 | .c3 .. => 3
def st : X → List (PV U)
 | .c3 x0 x1 x2 => stOf 23 [(0, .sl 240 x0), (3, .own true 211 x1), (4, .int .i64 x2)]
def begin (a0 : List S239) : Tr X A :=
 .need ((0 : Int) ≤ (List.length a0 : Int) ∧ (List.length a0 : Int) ≤ (List.length a0 : Int) ∧ (List.length a0 : Int) * (48 : Nat) ≤ room) (.jump (.c3 a0 (List.replicate (Int.toNat (List.length a0 : Int)) z210) (0 : Int)))
def tree : X → Tr X A
 | .c3 x0 x1 x2 =>
 .ite (decide (x2 < (List.length x0 : Int)))
  (.need ((0 : Int) ≤ x2 ∧ x2 < (List.length x0 : Int)) (.call (laws_toStmt.told ((rdS239 x0 x2).f0) ((rdS239 x0 x2).f1) ((rdS239 x0 x2).f2) ((rdS239 x0 x2).f3.f0) ((rdS239 x0 x2).f3.f1) ((rdS239 x0 x2).f3.f2)) fun t1 => .need ((0 : Int) ≤ x2 ∧ x2 < (List.length x1 : Int)) (.val ((List.set x1 (Int.toNat x2) (⟨t1.1, t1.2.1, t1.2.2.1, (⟨t1.2.2.2.1, t1.2.2.2.2.1, t1.2.2.2.2.2⟩ : S153)⟩ : S210)) : List S210) fun v2 => .jump (.c3 x0 v2 (wr (x2 + (1 : Int)))))))
  (.ret x1)
def f (a0 : List S239) : Option A := (begin a0).run (lp tree)
def Q : Plan C := { PL with cuts := [(3, [0, 3, 4])], ords := [], weak := [] }
theorem e : CutEq Pg C Q Tryz.f203 0 id st v o tree := fun J K x => by cases x <;> kernel_rfl
theorem b (a0 : List S239) : BegEq Pg C Q Tryz.f203 0 id st v o (S a0) (begin a0) := fun J K => by kernel_rfl
def told (a0 : List S239) : YtobfemcobakeoaaGreatEv.Told A := ⟨f a0, fun r => SoundCall Pg C 203 (S a0) 0 (v r) (o r), fun r h => soundCall_of_tree G mixed Q Tryz.func203 rfl (of_decide_eq_true (by kernel_rfl)) (by rfl) id st v o (fun _ => rfl) tree e (begin a0) (b a0) h⟩
end laws_toStmtS
/-! #### loop.example/g00983/laws.toTask (146) -/
namespace laws_toTask
def S (a0 : List S239) (a1 a2 a3 : Int) : List (PV U) := YtobfemcobakeoaaGreatEv.start C 13 [.agg [.sl 240 a0, .int .i64 a1, .int .i64 a2, .int .i64 a3]] []
abbrev X := Empty
def id : X → Nat := fun _ => 0
def st : X → List (PV U) := fun _ => []
def begin (a0 : List S239) (a1 a2 a3 : Int) : Tr X A :=
 .call (laws_toStmtS.told a0) fun t1 => .call (laws_toExpr.told a1 a2 a3) fun t2 => .ret (t1, t2.1, t2.2.1, t2.2.2)
def tree : X → Tr X A := fun _ => .fail
def f (a0 : List S239) (a1 a2 a3 : Int) : Option A := (begin a0 a1 a2 a3).run (lp tree)
def Q : Plan C := { PL with cuts := [], ords := [], weak := [] }
theorem e : CutEq Pg C Q Tryz.f146 0 id st v o tree := fun J K x => by cases x
theorem b (a0 : List S239) (a1 a2 a3 : Int) : BegEq Pg C Q Tryz.f146 0 id st v o (S a0 a1 a2 a3) (begin a0 a1 a2 a3) := fun J K => by kernel_rfl
def told (a0 : List S239) (a1 a2 a3 : Int) : YtobfemcobakeoaaGreatEv.Told A := ⟨f a0 a1 a2 a3, fun r => SoundCall Pg C 146 (S a0 a1 a2 a3) 0 (v r) (o r), fun r h => soundCall_of_tree G mixed Q Tryz.func146 rfl (of_decide_eq_true (by kernel_rfl)) (by rfl) id st v o (fun _ => rfl) tree e (begin a0 a1 a2 a3) (b a0 a1 a2 a3) h⟩
end laws_toTask
/-! #### loop.example/g00983/laws.toTaskS (74) -/
namespace laws_toTaskS
def S (a0 : List S172) : List (PV U) := YtobfemcobakeoaaGreatEv.start C 23 [.sl 173 a0] []
inductive X where
 | c3 (x0 : List S172) (x1 : List S166) (x2 : Int)
def id : X → Nat
 | .c3 .. => 3
def st : X → List (PV U)
 | .c3 x0 x1 x2 => stOf 23 [(0, .sl 173 x0), (3, .own true 167 x1), (4, .int .i64 x2)]
def begin (a0 : List S172) : Tr X A :=
 .need ((0 : Int) ≤ (List.length a0 : Int) ∧ (List.length a0 : Int) ≤ (List.length a0 : Int) ∧ (List.length a0 : Int) * (48 : Nat) ≤ room) (.jump (.c3 a0 (List.replicate (Int.toNat (List.length a0 : Int)) z166) (0 : Int)))
def tree : X → Tr X A
 | .c3 x0 x1 x2 =>
 .ite (decide (x2 < (List.length x0 : Int)))
  (.need ((0 : Int) ≤ x2 ∧ x2 < (List.length x0 : Int)) (.call (laws_toTask.told ((rdS172 x0 x2).f0) ((rdS172 x0 x2).f1.f0) ((rdS172 x0 x2).f1.f1) ((rdS172 x0 x2).f1.f2)) fun t1 => .need ((0 : Int) ≤ x2 ∧ x2 < (List.length x1 : Int)) (.jump (.c3 x0 (List.set x1 (Int.toNat x2) (⟨t1.1, (⟨t1.2.1, t1.2.2.1, t1.2.2.2⟩ : S153)⟩ : S166)) (wr (x2 + (1 : Int)))))))
  (.ret x1)
def f (a0 : List S172) : Option A := (begin a0).run (lp tree)
def Q : Plan C := { PL with cuts := [(3, [0, 3, 4])], ords := [], weak := [] }
theorem e : CutEq Pg C Q Tryz.f74 0 id st v o tree := fun J K x => by cases x <;> kernel_rfl
theorem b (a0 : List S172) : BegEq Pg C Q Tryz.f74 0 id st v o (S a0) (begin a0) := fun J K => by kernel_rfl
def told (a0 : List S172) : YtobfemcobakeoaaGreatEv.Told A := ⟨f a0, fun r => SoundCall Pg C 74 (S a0) 0 (v r) (o r), fun r h => soundCall_of_tree G mixed Q Tryz.func74 rfl (of_decide_eq_true (by kernel_rfl)) (by rfl) id st v o (fun _ => rfl) tree e (begin a0) (b a0) h⟩
end laws_toTaskS
/-! #### loop.example/g00983/laws.toProgram (15) -/
namespace laws_toProgram
def S (a0 : List S172) : List (PV U) := YtobfemcobakeoaaGreatEv.start C 9 [.agg [.sl 173 a0]] []
abbrev X := Empty
def id : X → Nat := fun _ => 0
def st : X → List (PV U) := fun _ => []
def begin (a0 : List S172) : Tr X A :=
 .call (laws_toTaskS.told a0) fun t1 => .ret t1
def tree : X → Tr X A := fun _ => .fail
def f (a0 : List S172) : Option A := (begin a0).run (lp tree)
def Q : Plan C := { PL with cuts := [], ords := [], weak := [] }
theorem e : CutEq Pg C Q Tryz.f15 0 id st v o tree := fun J K x => by cases x
theorem b (a0 : List S172) : BegEq Pg C Q Tryz.f15 0 id st v o (S a0) (begin a0) := fun J K => by kernel_rfl
def told (a0 : List S172) : YtobfemcobakeoaaGreatEv.Told A := ⟨f a0, fun r => SoundCall Pg C 15 (S a0) 0 (v r) (o r), fun r h => soundCall_of_tree G mixed Q Tryz.func15 rfl (of_decide_eq_true (by kernel_rfl)) (by rfl) id st v o (fun _ => rfl) tree e (begin a0) (b a0) h⟩
end laws_toProgram
/-! #### loop.example/g00983/laws.toIntS (16) -/
namespace laws_toIntS
def S (a0 : List Int) : List (PV U) := YtobfemcobakeoaaGreatEv.start C 22 [.sl 3 a0] []
inductive X where
 | c3 (x0 x1 : List Int) (x2 : Int)
def id : X → Nat
 | .c3 .. => 3
def st : X → List (PV U)
 | .c3 x0 x1 x2 => stOf 22 [(0, .sl 3 x0), (3, .own true 3 x1), (4, .int .i64 x2)]
def begin (a0 : List Int) : Tr X A :=
 .need ((0 : Int) ≤ (List.length a0 : Int) ∧ (List.length a0 : Int) ≤ (List.length a0 : Int) ∧ (List.length a0 : Int) * (8 : Nat) ≤ room) (.jump (.c3 a0 (List.replicate (Int.toNat (List.length a0 : Int)) (0 : Int)) (0 : Int)))
def tree : X → Tr X A
 | .c3 x0 x1 x2 =>
 .ite (decide (x2 < (List.length x0 : Int)))
  (.need ((0 : Int) ≤ x2 ∧ x2 < (List.length x0 : Int)) (.need ((0 : Int) ≤ x2 ∧ x2 < (List.length x1 : Int)) (.jump (.c3 x0 (List.set x1 (Int.toNat x2) (rdI x0 x2)) (wr (x2 + (1 : Int)))))))
  (.ret x1)
def f (a0 : List Int) : Option A := (begin a0).run (lp tree)
def Q : Plan C := { PL with cuts := [(3, [0, 3, 4])], ords := [], weak := [] }
theorem e : CutEq Pg C Q Tryz.f16 0 id st v o tree := fun J K x => by cases x <;> kernel_rfl
theorem b (a0 : List Int) : BegEq Pg C Q Tryz.f16 0 id st v o (S a0) (begin a0) := fun J K => by kernel_rfl
def told (a0 : List Int) : YtobfemcobakeoaaGreatEv.Told A := ⟨f a0, fun r => SoundCall Pg C 16 (S a0) 0 (v r) (o r), fun r h => soundCall_of_tree G mixed Q Tryz.func16 rfl (of_decide_eq_true (by kernel_rfl)) (by rfl) id st v o (fun _ => rfl) tree e (begin a0) (b a0) h⟩
end laws_toIntS
/-! #### loop.example/g00983/laws.toExprS (75) -/
namespace laws_toExprS
def S (a0 : List S153) : List (PV U) := YtobfemcobakeoaaGreatEv.start C 23 [.sl 171 a0] []
inductive X where
 | c3 (x0 x1 : List S153) (x2 : Int)
def id : X → Nat
 | .c3 .. => 3
def st : X → List (PV U)
 | .c3 x0 x1 x2 => stOf 23 [(0, .sl 171 x0), (3, .own true 154 x1), (4, .int .i64 x2)]
def begin (a0 : List S153) : Tr X A :=
 .need ((0 : Int) ≤ (List.length a0 : Int) ∧ (List.length a0 : Int) ≤ (List.length a0 : Int) ∧ (List.length a0 : Int) * (24 : Nat) ≤ room) (.jump (.c3 a0 (List.replicate (Int.toNat (List.length a0 : Int)) z153) (0 : Int)))
def tree : X → Tr X A
 | .c3 x0 x1 x2 =>
 .ite (decide (x2 < (List.length x0 : Int)))
  (.need ((0 : Int) ≤ x2 ∧ x2 < (List.length x0 : Int)) (.call (laws_toExpr.told ((rdS153 x0 x2).f0) ((rdS153 x0 x2).f1) ((rdS153 x0 x2).f2)) fun t1 => .need ((0 : Int) ≤ x2 ∧ x2 < (List.length x1 : Int)) (.jump (.c3 x0 (List.set x1 (Int.toNat x2) (⟨t1.1, t1.2.1, t1.2.2⟩ : S153)) (wr (x2 + (1 : Int)))))))
  (.ret x1)
def f (a0 : List S153) : Option A := (begin a0).run (lp tree)
def Q : Plan C := { PL with cuts := [(3, [0, 3, 4])], ords := [], weak := [] }
theorem e : CutEq Pg C Q Tryz.f75 0 id st v o tree := fun J K x => by cases x <;> kernel_rfl
theorem b (a0 : List S153) : BegEq Pg C Q Tryz.f75 0 id st v o (S a0) (begin a0) := fun J K => by kernel_rfl
def told (a0 : List S153) : YtobfemcobakeoaaGreatEv.Told A := ⟨f a0, fun r => SoundCall Pg C 75 (S a0) 0 (v r) (o r), fun r h => soundCall_of_tree G mixed Q Tryz.func75 rfl (of_decide_eq_true (by kernel_rfl)) (by rfl) id st v o (fun _ => rfl) tree e (begin a0) (b a0) h⟩
end laws_toExprS
/-! #### loop.example/g00983/laws.toRules (17) -/
namespace laws_toRules
def S (a0 : List S153) : List (PV U) := YtobfemcobakeoaaGreatEv.start C 9 [.agg [.sl 171 a0]] []
abbrev X := Empty
def id : X → Nat := fun _ => 0
def st : X → List (PV U) := fun _ => []
def begin (a0 : List S153) : Tr X A :=
 .call (laws_toExprS.told a0) fun t1 => .ret t1
def tree : X → Tr X A := fun _ => .fail
def f (a0 : List S153) : Option A := (begin a0).run (lp tree)
def Q : Plan C := { PL with cuts := [], ords := [], weak := [] }
theorem e : CutEq Pg C Q Tryz.f17 0 id st v o tree := fun J K x => by cases x
theorem b (a0 : List S153) : BegEq Pg C Q Tryz.f17 0 id st v o (S a0) (begin a0) := fun J K => by kernel_rfl
def told (a0 : List S153) : YtobfemcobakeoaaGreatEv.Told A := ⟨f a0, fun r => SoundCall Pg C 17 (S a0) 0 (v r) (o r), fun r h => soundCall_of_tree G mixed Q Tryz.func17 rfl (of_decide_eq_true (by kernel_rfl)) (by rfl) id st v o (fun _ => rfl) tree e (begin a0) (b a0) h⟩
end laws_toRules
/-! #### loop.example/g00983/spec.l04Plain (244) -/
namespace spec_l04Plain
def S (a0 a1 a2 a3 a4 a5 : Int) : List (PV U) := YtobfemcobakeoaaGreatEv.start C 37 [.agg [.int .i64 a0, .int .i64 a1, .int .i64 a2, .int .i64 a3, .int .i64 a4, .int .i64 a5]] []
inductive X where
 | c14 (x0 x1 x2 x3 x4 x5 x6 x7 x8 x9 x10 x11 : Int)
def id : X → Nat
 | .c14 .. => 14
def st : X → List (PV U)
 | .c14 x0 x1 x2 x3 x4 x5 x6 x7 x8 x9 x10 x11 => stOf 37 [(2, .box [.int .i64 x0, .int .i64 x1, .int .i64 x2, .int .i64 x3, .int .i64 x4, .int .i64 x5]), (3, .box [.int .i64 x6, .int .i64 x7, .int .i64 x8, .int .i64 x9, .int .i64 x10, .int .i64 x11])]
def begin (a0 a1 a2 a3 a4 a5 : Int) : Tr X A :=
 .ite (decide (a0 = (1 : Int)))
  (.jump (.c14 (0 : Int) (0 : Int) (0 : Int) (0 : Int) (0 : Int) (0 : Int) a0 a1 (0 : Int) a3 a4 a5))
  (.ite (decide (a0 = (2 : Int)))
   (.jump (.c14 (0 : Int) (0 : Int) (0 : Int) (0 : Int) (0 : Int) (0 : Int) a0 a1 a2 (0 : Int) (0 : Int) (0 : Int)))
   (.ite (decide (a0 = (3 : Int)))
    (.ite (decide (a0 = (3 : Int)))
     (.jump (.c14 (0 : Int) (0 : Int) (0 : Int) (0 : Int) (0 : Int) (0 : Int) a0 (0 : Int) (0 : Int) a3 a4 a5))
     (.ite (decide (a0 = (5 : Int)))
      (.jump (.c14 (0 : Int) (0 : Int) (0 : Int) (0 : Int) (0 : Int) (0 : Int) a0 (0 : Int) a2 (0 : Int) (0 : Int) (0 : Int)))
      (.jump (.c14 (0 : Int) (0 : Int) (0 : Int) (0 : Int) (0 : Int) (0 : Int) a0 (0 : Int) (0 : Int) (0 : Int) (0 : Int) (0 : Int)))))
    (.ite (decide (a0 = (4 : Int)))
     (.jump (.c14 (0 : Int) (0 : Int) (0 : Int) (0 : Int) (0 : Int) (0 : Int) a0 (0 : Int) (0 : Int) a3 a4 a5))
     (.ite (decide (a0 = (5 : Int)))
      (.jump (.c14 (0 : Int) (0 : Int) (0 : Int) (0 : Int) (0 : Int) (0 : Int) a0 (0 : Int) a2 (0 : Int) (0 : Int) (0 : Int)))
      (.jump (.c14 (0 : Int) (0 : Int) (0 : Int) (0 : Int) (0 : Int) (0 : Int) a0 (0 : Int) (0 : Int) (0 : Int) (0 : Int) (0 : Int)))))))
def tree : X → Tr X A
 | .c14 x0 x1 x2 x3 x4 x5 x6 x7 x8 x9 x10 x11 =>
 .ret (x6, x7, x8, x9, x10, x11)
def f (a0 a1 a2 a3 a4 a5 : Int) : Option A := (begin a0 a1 a2 a3 a4 a5).run (lp tree)
def Q : Plan C := { PL with cuts := [(14, [2, 3])], ords := [], weak := [] }
theorem e : CutEq Pg C Q Tryz.f244 0 id st v o tree := fun J K x => by cases x <;> kernel_rfl
theorem b (a0 a1 a2 a3 a4 a5 : Int) : BegEq Pg C Q Tryz.f244 0 id st v o (S a0 a1 a2 a3 a4 a5) (begin a0 a1 a2 a3 a4 a5) := fun J K => by kernel_rfl
def told (a0 a1 a2 a3 a4 a5 : Int) : YtobfemcobakeoaaGreatEv.Told A := ⟨f a0 a1 a2 a3 a4 a5, fun r => SoundCall Pg C 244 (S a0 a1 a2 a3 a4 a5) 0 (v r) (o r), fun r h => soundCall_of_tree G mixed Q Tryz.func244 rfl (of_decide_eq_true (by kernel_rfl)) (by rfl) id st v o (fun _ => rfl) tree e (begin a0 a1 a2 a3 a4 a5) (b a0 a1 a2 a3 a4 a5) h⟩
end spec_l04Plain
/-! #### loop.example/g00983/spec.l01In (139) -/
namespace spec_l01In
def S (a0 a1 a2 : Int) : List (PV U) := YtobfemcobakeoaaGreatEv.start C 15 [.int .i64 a0, .int .i64 a1, .int .i64 a2] []
abbrev X := Empty
def id : X → Nat := fun _ => 0
def st : X → List (PV U) := fun _ => []
def begin (a0 a1 a2 : Int) : Tr X A :=
 .ite (decide (a0 ≥ a1))
  (.ret ((decide (a0 ≤ a2))))
  (.ret false)
def tree : X → Tr X A := fun _ => .fail
def f (a0 a1 a2 : Int) : Option A := (begin a0 a1 a2).run (lp tree)
def Q : Plan C := { PL with cuts := [], ords := [], weak := [] }
theorem e : CutEq Pg C Q Tryz.f139 0 id st v o tree := fun J K x => by cases x
theorem b (a0 a1 a2 : Int) : BegEq Pg C Q Tryz.f139 0 id st v o (S a0 a1 a2) (begin a0 a1 a2) := fun J K => by kernel_rfl
def told (a0 a1 a2 : Int) : YtobfemcobakeoaaGreatEv.Told A := ⟨f a0 a1 a2, fun r => SoundCall Pg C 139 (S a0 a1 a2) 0 (v r) (o r), fun r h => soundCall_of_tree G mixed Q Tryz.func139 rfl (of_decide_eq_true (by kernel_rfl)) (by rfl) id st v o (fun _ => rfl) tree e (begin a0 a1 a2) (b a0 a1 a2) h⟩
end spec_l01In
/-! #### loop.example/g00983/spec.OperandOk (197) -/
namespace spec_OperandOk
def S (a0 : Int) : List (PV U) := YtobfemcobakeoaaGreatEv.start C 5 [.int .i64 a0] []
abbrev X := Empty
def id : X → Nat := fun _ => 0
def st : X → List (PV U) := fun _ => []
def begin (a0 : Int) : Tr X A :=
 .call (spec_l01In.told a0 (-8 : Int) (999 : Int)) fun t1 => .ret t1
def tree : X → Tr X A := fun _ => .fail
def f (a0 : Int) : Option A := (begin a0).run (lp tree)
def Q : Plan C := { PL with cuts := [], ords := [], weak := [] }
theorem e : CutEq Pg C Q Tryz.f197 0 id st v o tree := fun J K x => by cases x
theorem b (a0 : Int) : BegEq Pg C Q Tryz.f197 0 id st v o (S a0) (begin a0) := fun J K => by kernel_rfl
def told (a0 : Int) : YtobfemcobakeoaaGreatEv.Told A := ⟨f a0, fun r => SoundCall Pg C 197 (S a0) 0 (v r) (o r), fun r h => soundCall_of_tree G mixed Q Tryz.func197 rfl (of_decide_eq_true (by kernel_rfl)) (by rfl) id st v o (fun _ => rfl) tree e (begin a0) (b a0) h⟩
end spec_OperandOk
/-! #### loop.example/g00983/spec.ExprOk (141) -/
namespace spec_ExprOk
def S (a0 a1 a2 : Int) : List (PV U) := YtobfemcobakeoaaGreatEv.start C 16 [.agg [.int .i64 a0, .int .i64 a1, .int .i64 a2]] []
abbrev X := Empty
def id : X → Nat := fun _ => 0
def st : X → List (PV U) := fun _ => []
def begin (a0 a1 a2 : Int) : Tr X A :=
 .call (spec_l01In.told a0 (1 : Int) (7 : Int)) fun t1 => .ite t1
  (.call (spec_OperandOk.told a1) fun t2 => .ite t2
   (.call (spec_OperandOk.told a2) fun t3 => .ret t3)
   (.ret false))
  (.ret false)
def tree : X → Tr X A := fun _ => .fail
def f (a0 a1 a2 : Int) : Option A := (begin a0 a1 a2).run (lp tree)
def Q : Plan C := { PL with cuts := [], ords := [], weak := [] }
theorem e : CutEq Pg C Q Tryz.f141 0 id st v o tree := fun J K x => by cases x
theorem b (a0 a1 a2 : Int) : BegEq Pg C Q Tryz.f141 0 id st v o (S a0 a1 a2) (begin a0 a1 a2) := fun J K => by kernel_rfl
def told (a0 a1 a2 : Int) : YtobfemcobakeoaaGreatEv.Told A := ⟨f a0 a1 a2, fun r => SoundCall Pg C 141 (S a0 a1 a2) 0 (v r) (o r), fun r h => soundCall_of_tree G mixed Q Tryz.func141 rfl (of_decide_eq_true (by kernel_rfl)) (by rfl) id st v o (fun _ => rfl) tree e (begin a0 a1 a2) (b a0 a1 a2) h⟩
end spec_ExprOk
/-! #### loop.example/g00983/spec.StmtOk (225) -/
namespace spec_StmtOk
def S (a0 a1 a2 a3 a4 a5 : Int) : List (PV U) := YtobfemcobakeoaaGreatEv.start C 43 [.agg [.int .i64 a0, .int .i64 a1, .int .i64 a2, .int .i64 a3, .int .i64 a4, .int .i64 a5]] []
abbrev X := Empty
def id : X → Nat := fun _ => 0
def st : X → List (PV U) := fun _ => []
def begin (a0 a1 a2 a3 a4 a5 : Int) : Tr X A :=
 .last (.call (spec_l04Plain.told a0 a1 a2 a3 a4 a5) fun t1 => .last (.val ((!(decide (a0 = t1.1) && (decide (a1 = t1.2.1) && (decide (a2 = t1.2.2.1) && (decide (a3 = t1.2.2.2.1) && (decide (a4 = t1.2.2.2.2.1) && (decide (a5 = t1.2.2.2.2.2) && true))))))) : Bool) fun v2 => .ite v2
  (.ret false)
  (.ite (decide (a0 = (1 : Int)))
   (.call (spec_l01In.told a1 (0 : Int) (7 : Int)) fun t3 => .ite t3
    (.call (spec_ExprOk.told a3 a4 a5) fun t4 => .ret t4)
    (.ret false))
   (.ite (decide (a0 = (2 : Int)))
    (.call (spec_l01In.told a1 (0 : Int) (7 : Int)) fun t5 => .ite t5
     (.call (spec_l01In.told a2 (0 : Int) (3 : Int)) fun t6 => .ret t6)
     (.ret false))
    (.ite (decide (a0 = (3 : Int)))
     (.ite (decide (a0 = (3 : Int)))
      (.call (spec_ExprOk.told a3 a4 a5) fun t7 => .ret t7)
      (.ite (decide (a0 = (5 : Int)))
       (.call (spec_l01In.told a2 (1 : Int) (5 : Int)) fun t8 => .ret t8)
       (.ret ((decide (a0 = (6 : Int)))))))
     (.ite (decide (a0 = (4 : Int)))
      (.call (spec_ExprOk.told a3 a4 a5) fun t9 => .ret t9)
      (.ite (decide (a0 = (5 : Int)))
       (.call (spec_l01In.told a2 (1 : Int) (5 : Int)) fun t10 => .ret t10)
       (.ret ((decide (a0 = (6 : Int))))))))))))
def tree : X → Tr X A := fun _ => .fail
def f (a0 a1 a2 a3 a4 a5 : Int) : Option A := (begin a0 a1 a2 a3 a4 a5).run (lp tree)
def Q : Plan C := { PL with cuts := [], ords := [(1, [], (.take 0 [1, 2] (.take 1 [0] (.alt 2 (.alt 3 .done .nil) .nil))))], weak := [] }
theorem e : CutEq Pg C Q Tryz.f225 0 id st v o tree := fun J K x => by cases x
theorem b (a0 a1 a2 a3 a4 a5 : Int) : BegEq Pg C Q Tryz.f225 0 id st v o (S a0 a1 a2 a3 a4 a5) (begin a0 a1 a2 a3 a4 a5) := fun J K => by kernel_rfl
def told (a0 a1 a2 a3 a4 a5 : Int) : YtobfemcobakeoaaGreatEv.Told A := ⟨f a0 a1 a2 a3 a4 a5, fun r => SoundCall Pg C 225 (S a0 a1 a2 a3 a4 a5) 0 (v r) (o r), fun r h => soundCall_of_tree G mixed Q Tryz.func225 rfl (of_decide_eq_true (by kernel_rfl)) (by rfl) id st v o (fun _ => rfl) tree e (begin a0 a1 a2 a3 a4 a5) (b a0 a1 a2 a3 a4 a5) h⟩
end spec_StmtOk
/-! #### loop.example/g00983/spec.BlockOk (196) -/
namespace spec_BlockOk
def S (a0 : List S210) : List (PV U) := YtobfemcobakeoaaGreatEv.start C 41 [.sl 211 a0] []
inductive X where
 | c3 (x0 : List S210) (x1 x2 : Int)
def id : X → Nat
 | .c3 .. => 3
def st : X → List (PV U)
 | .c3 x0 x1 x2 => stOf 41 [(0, .sl 211 x0), (3, .int .i64 x1), (4, .int .i64 x2)]
def begin (a0 : List S210) : Tr X A :=
 .jump (.c3 a0 (0 : Int) (0 : Int))
def tree : X → Tr X A
 | .c3 x0 x1 x2 =>
 .ite (decide (x2 < (List.length x0 : Int)))
  (.need ((0 : Int) ≤ x2 ∧ x2 < (List.length x0 : Int)) (.call (spec_StmtOk.told ((rdS210 x0 x2).f0) ((rdS210 x0 x2).f1) ((rdS210 x0 x2).f2) ((rdS210 x0 x2).f3.f0) ((rdS210 x0 x2).f3.f1) ((rdS210 x0 x2).f3.f2)) fun t1 => .ite (!t1)
   (.ret false)
   (.need ((0 : Int) ≤ x2 ∧ x2 < (List.length x0 : Int)) (.ite (decide ((rdS210 x0 x2).f0 = (4 : Int)))
    (.ite (decide ((rdS210 x0 x2).f0 = (4 : Int)))
     (.call (spec_l01In.told (wr (x1 + (1 : Int))) (0 : Int) (3 : Int)) fun t2 => .ite (!t2)
      (.ret false)
      (.jump (.c3 x0 (wr (x1 + (1 : Int))) (wr (x2 + (1 : Int))))))
     (.ite (decide ((rdS210 x0 x2).f0 = (6 : Int)))
      (.call (spec_l01In.told (wr (x1 - (1 : Int))) (0 : Int) (3 : Int)) fun t3 => .ite (!t3)
       (.ret false)
       (.jump (.c3 x0 (wr (x1 - (1 : Int))) (wr (x2 + (1 : Int))))))
      (.call (spec_l01In.told x1 (0 : Int) (3 : Int)) fun t4 => .ite (!t4)
       (.ret false)
       (.jump (.c3 x0 x1 (wr (x2 + (1 : Int))))))))
    (.ite (decide ((rdS210 x0 x2).f0 = (5 : Int)))
     (.call (spec_l01In.told (wr (x1 + (1 : Int))) (0 : Int) (3 : Int)) fun t5 => .ite (!t5)
      (.ret false)
      (.jump (.c3 x0 (wr (x1 + (1 : Int))) (wr (x2 + (1 : Int))))))
     (.ite (decide ((rdS210 x0 x2).f0 = (6 : Int)))
      (.call (spec_l01In.told (wr (x1 - (1 : Int))) (0 : Int) (3 : Int)) fun t6 => .ite (!t6)
       (.ret false)
       (.jump (.c3 x0 (wr (x1 - (1 : Int))) (wr (x2 + (1 : Int))))))
      (.call (spec_l01In.told x1 (0 : Int) (3 : Int)) fun t7 => .ite (!t7)
       (.ret false)
       (.jump (.c3 x0 x1 (wr (x2 + (1 : Int))))))))))))
  (.ite (decide (x1 = (0 : Int)))
   (.ret ((decide ((List.length x0 : Int) ≤ (24 : Int)))))
   (.ret false))
def f (a0 : List S210) : Option A := (begin a0).run (lp tree)
def Q : Plan C := { PL with cuts := [(3, [0, 3, 4, 37, 38, 39])], ords := [], weak := [] }
theorem e : CutEq Pg C Q Tryz.f196 0 id st v o tree := fun J K x => by cases x <;> kernel_rfl
theorem b (a0 : List S210) : BegEq Pg C Q Tryz.f196 0 id st v o (S a0) (begin a0) := fun J K => by kernel_rfl
def told (a0 : List S210) : YtobfemcobakeoaaGreatEv.Told A := ⟨f a0, fun r => SoundCall Pg C 196 (S a0) 0 (v r) (o r), fun r h => soundCall_of_tree G mixed Q Tryz.func196 rfl (of_decide_eq_true (by kernel_rfl)) (by rfl) id st v o (fun _ => rfl) tree e (begin a0) (b a0) h⟩
end spec_BlockOk
/-! #### loop.example/g00983/spec.ProgramOk (137) -/
namespace spec_ProgramOk
def S (a0 : List S166) : List (PV U) := YtobfemcobakeoaaGreatEv.start C 33 [.agg [.sl 167 a0]] []
inductive X where
 | c2 (x0 : List S166) (x1 : Int)
def id : X → Nat
 | .c2 .. => 2
def st : X → List (PV U)
 | .c2 x0 x1 => stOf 33 [(1, .box [.sl 167 x0]), (3, .int .i64 x1)]
def begin (a0 : List S166) : Tr X A :=
 .jump (.c2 a0 (0 : Int))
def tree : X → Tr X A
 | .c2 x0 x1 =>
 .ite (decide (x1 < (List.length x0 : Int)))
  (.need ((0 : Int) ≤ x1 ∧ x1 < (List.length x0 : Int)) (.call (spec_BlockOk.told ((rdS166 x0 x1).f0)) fun t1 => .ite (!t1)
   (.ret false)
   (.need ((0 : Int) ≤ x1 ∧ x1 < (List.length x0 : Int)) (.call (spec_ExprOk.told ((rdS166 x0 x1).f1.f0) ((rdS166 x0 x1).f1.f1) ((rdS166 x0 x1).f1.f2)) fun t2 => .ite (!t2)
    (.ret false)
    (.jump (.c2 x0 (wr (x1 + (1 : Int)))))))))
  (.call (spec_l01In.told (List.length x0 : Int) (1 : Int) (6 : Int)) fun t3 => .ret t3)
def f (a0 : List S166) : Option A := (begin a0).run (lp tree)
def Q : Plan C := { PL with cuts := [(2, [1, 3])], ords := [], weak := [] }
theorem e : CutEq Pg C Q Tryz.f137 0 id st v o tree := fun J K x => by cases x <;> kernel_rfl
theorem b (a0 : List S166) : BegEq Pg C Q Tryz.f137 0 id st v o (S a0) (begin a0) := fun J K => by kernel_rfl
def told (a0 : List S166) : YtobfemcobakeoaaGreatEv.Told A := ⟨f a0, fun r => SoundCall Pg C 137 (S a0) 0 (v r) (o r), fun r h => soundCall_of_tree G mixed Q Tryz.func137 rfl (of_decide_eq_true (by kernel_rfl)) (by rfl) id st v o (fun _ => rfl) tree e (begin a0) (b a0) h⟩
end spec_ProgramOk
/-! #### loop.example/g00983/spec.PackControl (73) -/
namespace spec_PackControl
def S (a0 a1 a2 : Int) : List (PV U) := YtobfemcobakeoaaGreatEv.start C 27 [.int .i64 a0, .int .i64 a1, .int .i64 a2] []
abbrev X := Empty
def id : X → Nat := fun _ => 0
def st : X → List (PV U) := fun _ => []
def begin (a0 a1 a2 : Int) : Tr X A :=
 .call (spec_l01In.told a0 (0 : Int) (5 : Int)) fun t1 => .ite (!t1)
  (.ret ((-1 : Int)))
  (.call (spec_l01In.told a1 (0 : Int) (8 : Int)) fun t2 => .ite (!t2)
   (.ret ((-1 : Int)))
   (.call (spec_l01In.told a2 (0 : Int) (24 : Int)) fun t3 => .ite (!t3)
    (.ret ((-1 : Int)))
    (.ret ((wr (a0 + (wr ((8 : Int) * (wr (a1 + (wr ((16 : Int) * a2))))))))))))
def tree : X → Tr X A := fun _ => .fail
def f (a0 a1 a2 : Int) : Option A := (begin a0 a1 a2).run (lp tree)
def Q : Plan C := { PL with cuts := [], ords := [], weak := [] }
theorem e : CutEq Pg C Q Tryz.f73 0 id st v o tree := fun J K x => by cases x
theorem b (a0 a1 a2 : Int) : BegEq Pg C Q Tryz.f73 0 id st v o (S a0 a1 a2) (begin a0 a1 a2) := fun J K => by kernel_rfl
def told (a0 a1 a2 : Int) : YtobfemcobakeoaaGreatEv.Told A := ⟨f a0 a1 a2, fun r => SoundCall Pg C 73 (S a0 a1 a2) 0 (v r) (o r), fun r h => soundCall_of_tree G mixed Q Tryz.func73 rfl (of_decide_eq_true (by kernel_rfl)) (by rfl) id st v o (fun _ => rfl) tree e (begin a0 a1 a2) (b a0 a1 a2) h⟩
end spec_PackControl
/-! #### loop.example/g00983/spec.UnpackControl (72) -/
namespace spec_UnpackControl
def S (a0 : Int) : List (PV U) := YtobfemcobakeoaaGreatEv.start C 30 [.int .i64 a0] []
abbrev X := Empty
def id : X → Nat := fun _ => 0
def st : X → List (PV U) := fun _ => []
def begin (a0 : Int) : Tr X A :=
 .ite (decide (a0 < (0 : Int)))
  (.ret ((-1 : Int), (-1 : Int), (-1 : Int)))
  (.ite (decide (a0 > (100000 : Int)))
   (.ret ((-1 : Int), (-1 : Int), (-1 : Int)))
   (.need ((8 : Int) ≠ 0) (.need ((8 : Int) ≠ 0) (.need ((16 : Int) ≠ 0) (.need ((128 : Int) ≠ 0) (.call (spec_PackControl.told (Int.tmod a0 (8 : Int)) (Int.tmod (wr (Int.tdiv a0 (8 : Int))) (16 : Int)) (wr (Int.tdiv a0 (128 : Int)))) fun t1 => .ite (!decide (t1 = a0))
    (.ret ((-1 : Int), (-1 : Int), (-1 : Int)))
    (.ret ((Int.tmod a0 (8 : Int)), (Int.tmod (wr (Int.tdiv a0 (8 : Int))) (16 : Int)), (wr (Int.tdiv a0 (128 : Int)))))))))))
def tree : X → Tr X A := fun _ => .fail
def f (a0 : Int) : Option A := (begin a0).run (lp tree)
def Q : Plan C := { PL with cuts := [], ords := [], weak := [] }
theorem e : CutEq Pg C Q Tryz.f72 0 id st v o tree := fun J K x => by cases x
theorem b (a0 : Int) : BegEq Pg C Q Tryz.f72 0 id st v o (S a0) (begin a0) := fun J K => by kernel_rfl
def told (a0 : Int) : YtobfemcobakeoaaGreatEv.Told A := ⟨f a0, fun r => SoundCall Pg C 72 (S a0) 0 (v r) (o r), fun r h => soundCall_of_tree G mixed Q Tryz.func72 rfl (of_decide_eq_true (by kernel_rfl)) (by rfl) id st v o (fun _ => rfl) tree e (begin a0) (b a0) h⟩
end spec_UnpackControl
/-! #### loop.example/g00983/spec.IsValue (140) -/
namespace spec_IsValue
def S (a0 : Int) : List (PV U) := YtobfemcobakeoaaGreatEv.start C 5 [.int .i64 a0] []
abbrev X := Empty
def id : X → Nat := fun _ => 0
def st : X → List (PV U) := fun _ => []
def begin (a0 : Int) : Tr X A :=
 .call (spec_l01In.told a0 (-1000000 : Int) (1000000 : Int)) fun t1 => .ret t1
def tree : X → Tr X A := fun _ => .fail
def f (a0 : Int) : Option A := (begin a0).run (lp tree)
def Q : Plan C := { PL with cuts := [], ords := [], weak := [] }
theorem e : CutEq Pg C Q Tryz.f140 0 id st v o tree := fun J K x => by cases x
theorem b (a0 : Int) : BegEq Pg C Q Tryz.f140 0 id st v o (S a0) (begin a0) := fun J K => by kernel_rfl
def told (a0 : Int) : YtobfemcobakeoaaGreatEv.Told A := ⟨f a0, fun r => SoundCall Pg C 140 (S a0) 0 (v r) (o r), fun r h => soundCall_of_tree G mixed Q Tryz.func140 rfl (of_decide_eq_true (by kernel_rfl)) (by rfl) id st v o (fun _ => rfl) tree e (begin a0) (b a0) h⟩
end spec_IsValue
/-! #### loop.example/g00983/spec.l09Values (138) -/
namespace spec_l09Values
def S (a0 : List Int) : List (PV U) := YtobfemcobakeoaaGreatEv.start C 16 [.sl 3 a0] []
inductive X where
 | c2 (x0 : List Int) (x1 : Int)
def id : X → Nat
 | .c2 .. => 2
def st : X → List (PV U)
 | .c2 x0 x1 => stOf 16 [(0, .sl 3 x0), (3, .int .i64 x1)]
def begin (a0 : List Int) : Tr X A :=
 .jump (.c2 a0 (0 : Int))
def tree : X → Tr X A
 | .c2 x0 x1 =>
 .ite (decide (x1 < (List.length x0 : Int)))
  (.need ((0 : Int) ≤ x1 ∧ x1 < (List.length x0 : Int)) (.call (spec_IsValue.told (rdI x0 x1)) fun t1 => .ite (!t1)
   (.ret false)
   (.jump (.c2 x0 (wr (x1 + (1 : Int)))))))
  (.ret true)
def f (a0 : List Int) : Option A := (begin a0).run (lp tree)
def Q : Plan C := { PL with cuts := [(2, [0, 3])], ords := [], weak := [] }
theorem e : CutEq Pg C Q Tryz.f138 0 id st v o tree := fun J K x => by cases x <;> kernel_rfl
theorem b (a0 : List Int) : BegEq Pg C Q Tryz.f138 0 id st v o (S a0) (begin a0) := fun J K => by kernel_rfl
def told (a0 : List Int) : YtobfemcobakeoaaGreatEv.Told A := ⟨f a0, fun r => SoundCall Pg C 138 (S a0) 0 (v r) (o r), fun r h => soundCall_of_tree G mixed Q Tryz.func138 rfl (of_decide_eq_true (by kernel_rfl)) (by rfl) id st v o (fun _ => rfl) tree e (begin a0) (b a0) h⟩
end spec_l09Values
/-! #### loop.example/g00983/spec.MemOk (67) -/
namespace spec_MemOk
def S (a0 : List S166) (a1 : List Int) : List (PV U) := YtobfemcobakeoaaGreatEv.start C 72 [.agg [.sl 167 a0], .sl 3 a1] []
inductive X where
 | c7 (x0 : List Int) (x1 x2 : Int)
def id : X → Nat
 | .c7 .. => 7
def st : X → List (PV U)
 | .c7 x0 x1 x2 => stOf 72 [(1, .sl 3 x0), (6, .int .i64 x1), (8, .int .i64 x2)]
def begin (a0 : List S166) (a1 : List Int) : Tr X A :=
 .call (spec_ProgramOk.told a0) fun t1 => .ite (!t1)
  (.ret false)
  (.ite (!decide ((List.length a1 : Int) = (49 : Int)))
   (.ret false)
   (.need ((0 : Int) ≤ (8 : Int) ∧ (8 : Int) < (List.length a1 : Int)) (.call (spec_UnpackControl.told (rdI a1 (8 : Int))) fun t2 => .ite (decide (t2.1 < (0 : Int)))
    (.ret false)
    (.ite (decide (t2.1 ≥ (List.length a0 : Int)))
     (.ret false)
     (.need ((0 : Int) ≤ (0 : Int) ∧ (0 : Int) ≤ (8 : Int) ∧ (8 : Int) ≤ (List.length a1 : Int)) (.call (spec_l09Values.told (List.take (Int.toNat (8 : Int)) a1)) fun t3 => .ite (!t3)
      (.ret false)
      (.need ((0 : Int) ≤ (25 : Int) ∧ (25 : Int) ≤ (wr ((25 : Int) + t2.2.2)) ∧ (wr ((25 : Int) + t2.2.2)) ≤ (List.length a1 : Int)) (.call (spec_l09Values.told (List.drop (Int.toNat (25 : Int)) (List.take (Int.toNat (wr ((25 : Int) + t2.2.2))) a1))) fun t4 => .ite (!t4)
       (.ret false)
       (.jump (.c7 a1 t2.2.1 (0 : Int)))))))))))
def tree : X → Tr X A
 | .c7 x0 x1 x2 =>
 .ite (decide (x2 < x1))
  (.need ((0 : Int) ≤ (wr ((9 : Int) + (wr ((2 : Int) * x2)))) ∧ (wr ((9 : Int) + (wr ((2 : Int) * x2)))) < (List.length x0 : Int)) (.call (spec_l01In.told (rdI x0 (wr ((9 : Int) + (wr ((2 : Int) * x2))))) (0 : Int) (7 : Int)) fun t5 => .ite (!t5)
   (.ret false)
   (.need ((0 : Int) ≤ (wr ((wr ((9 : Int) + (wr ((2 : Int) * x2)))) + (1 : Int))) ∧ (wr ((wr ((9 : Int) + (wr ((2 : Int) * x2)))) + (1 : Int))) < (List.length x0 : Int)) (.call (spec_IsValue.told (rdI x0 (wr ((wr ((9 : Int) + (wr ((2 : Int) * x2)))) + (1 : Int))))) fun t6 => .ite (!t6)
    (.ret false)
    (.jump (.c7 x0 x1 (wr (x2 + (1 : Int)))))))))
  (.ret true)
def f (a0 : List S166) (a1 : List Int) : Option A := (begin a0 a1).run (lp tree)
def Q : Plan C := { PL with cuts := [(7, [1, 6, 8])], ords := [], weak := [] }
theorem e : CutEq Pg C Q Tryz.f67 0 id st v o tree := fun J K x => by cases x <;> kernel_rfl
theorem b (a0 : List S166) (a1 : List Int) : BegEq Pg C Q Tryz.f67 0 id st v o (S a0 a1) (begin a0 a1) := fun J K => by kernel_rfl
def told (a0 : List S166) (a1 : List Int) : YtobfemcobakeoaaGreatEv.Told A := ⟨f a0 a1, fun r => SoundCall Pg C 67 (S a0 a1) 0 (v r) (o r), fun r h => soundCall_of_tree G mixed Q Tryz.func67 rfl (of_decide_eq_true (by kernel_rfl)) (by rfl) id st v o (fun _ => rfl) tree e (begin a0 a1) (b a0 a1) h⟩
end spec_MemOk
/-! #### loop.example/g00983/spec.RulesOk (68) -/
namespace spec_RulesOk
def S (a0 : List S153) : List (PV U) := YtobfemcobakeoaaGreatEv.start C 22 [.agg [.sl 154 a0]] []
inductive X where
 | c2 (x0 : List S153) (x1 : Int)
def id : X → Nat
 | .c2 .. => 2
def st : X → List (PV U)
 | .c2 x0 x1 => stOf 22 [(1, .box [.sl 154 x0]), (3, .int .i64 x1)]
def begin (a0 : List S153) : Tr X A :=
 .jump (.c2 a0 (0 : Int))
def tree : X → Tr X A
 | .c2 x0 x1 =>
 .ite (decide (x1 < (List.length x0 : Int)))
  (.need ((0 : Int) ≤ x1 ∧ x1 < (List.length x0 : Int)) (.call (spec_ExprOk.told ((rdS153 x0 x1).f0) ((rdS153 x0 x1).f1) ((rdS153 x0 x1).f2)) fun t1 => .ite (!t1)
   (.ret false)
   (.jump (.c2 x0 (wr (x1 + (1 : Int)))))))
  (.ret ((decide ((List.length x0 : Int) = (8 : Int)))))
def f (a0 : List S153) : Option A := (begin a0).run (lp tree)
def Q : Plan C := { PL with cuts := [(2, [1, 3])], ords := [], weak := [] }
theorem e : CutEq Pg C Q Tryz.f68 0 id st v o tree := fun J K x => by cases x <;> kernel_rfl
theorem b (a0 : List S153) : BegEq Pg C Q Tryz.f68 0 id st v o (S a0) (begin a0) := fun J K => by kernel_rfl
def told (a0 : List S153) : YtobfemcobakeoaaGreatEv.Told A := ⟨f a0, fun r => SoundCall Pg C 68 (S a0) 0 (v r) (o r), fun r h => soundCall_of_tree G mixed Q Tryz.func68 rfl (of_decide_eq_true (by kernel_rfl)) (by rfl) id st v o (fun _ => rfl) tree e (begin a0) (b a0) h⟩
end spec_RulesOk
/-! #### loop.example/g00983/spec.RecoveryWrites (142) -/
namespace spec_RecoveryWrites
def S (a0 : List Int) : List (PV U) := YtobfemcobakeoaaGreatEv.start C 60 [.sl 3 a0] []
inductive X where
 | c6 (x0 : List Int) (x1 : List S205) (x2 x3 x4 x5 : Int)
def id : X → Nat
 | .c6 .. => 6
def st : X → List (PV U)
 | .c6 x0 x1 x2 x3 x4 x5 => stOf 60 [(0, .sl 3 x0), (3, .own true 206 x1), (4, .int .i64 x2), (5, .int .i64 x3), (6, .int .i64 x4), (7, .int .i64 x5)]
def begin (a0 : List Int) : Tr X A :=
 .ite (!decide ((List.length a0 : Int) = (49 : Int)))
  (.ret (([] : List S205)))
  (.need ((0 : Int) ≤ (8 : Int) ∧ (8 : Int) < (List.length a0 : Int)) (.call (spec_UnpackControl.told (rdI a0 (8 : Int))) fun t1 => .jump (.c6 a0 ([] : List S205) t1.1 t1.2.1 t1.2.2 (wr (t1.2.1 - (1 : Int))))))
def tree : X → Tr X A
 | .c6 x0 x1 x2 x3 x4 x5 =>
 .ite (decide (x5 ≥ (0 : Int)))
  (.need ((0 : Int) ≤ (wr ((9 : Int) + (wr ((2 : Int) * x5)))) ∧ (wr ((9 : Int) + (wr ((2 : Int) * x5)))) < (List.length x0 : Int)) (.call (spec_l01In.told (rdI x0 (wr ((9 : Int) + (wr ((2 : Int) * x5))))) (0 : Int) (7 : Int)) fun t2 => .ite (!t2)
   (.ret (([] : List S205)))
   (.need ((0 : Int) ≤ (wr ((wr ((9 : Int) + (wr ((2 : Int) * x5)))) + (1 : Int))) ∧ (wr ((wr ((9 : Int) + (wr ((2 : Int) * x5)))) + (1 : Int))) < (List.length x0 : Int)) (.val ([(⟨(rdI x0 (wr ((9 : Int) + (wr ((2 : Int) * x5))))), (rdI x0 (wr ((wr ((9 : Int) + (wr ((2 : Int) * x5)))) + (1 : Int))))⟩ : S205)] : List S205) fun v3 => .need (((List.length x1 : Int) + (List.length v3 : Int)) * (16 : Nat) ≤ room) (.jump (.c6 x0 (x1 ++ v3) x2 x3 x4 (wr (x5 - (1 : Int)))))))))
  (.ite (decide (x3 ≤ (0 : Int)))
   (.ret x1)
   (.call (spec_PackControl.told x2 (0 : Int) x4) fun t4 => .need (((List.length x1 : Int) + (List.length ([(⟨(8 : Int), t4⟩ : S205)]) : Int)) * (16 : Nat) ≤ room) (.ret ((x1 ++ [(⟨(8 : Int), t4⟩ : S205)])))))
def f (a0 : List Int) : Option A := (begin a0).run (lp tree)
def Q : Plan C := { PL with cuts := [(6, [0, 3, 4, 5, 6, 7])], ords := [], weak := [] }
theorem e : CutEq Pg C Q Tryz.f142 0 id st v o tree := fun J K x => by cases x <;> kernel_rfl
theorem b (a0 : List Int) : BegEq Pg C Q Tryz.f142 0 id st v o (S a0) (begin a0) := fun J K => by kernel_rfl
def told (a0 : List Int) : YtobfemcobakeoaaGreatEv.Told A := ⟨f a0, fun r => SoundCall Pg C 142 (S a0) 0 (v r) (o r), fun r h => soundCall_of_tree G mixed Q Tryz.func142 rfl (of_decide_eq_true (by kernel_rfl)) (by rfl) id st v o (fun _ => rfl) tree e (begin a0) (b a0) h⟩
end spec_RecoveryWrites
/-! #### loop.example/g00983/spec.ApplyWrites (143) -/
namespace spec_ApplyWrites
def S (a0 : List Int) (a1 : List S205) (a2 : Int) : List (PV U) := YtobfemcobakeoaaGreatEv.start C 45 [.sl 3 a0, .sl 206 a1, .int .i64 a2] []
inductive X where
 | c3 (x0 : List Int) (x1 : List S205) (x2 : Int) (x3 : List Int) (x4 : Int)
def id : X → Nat
 | .c3 .. => 3
def st : X → List (PV U)
 | .c3 x0 x1 x2 x3 x4 => stOf 45 [(0, .sl 3 x0), (1, .sl 206 x1), (2, .int .i64 x2), (7, .own true 3 x3), (8, .int .i64 x4)]
def begin (a0 : List Int) (a1 : List S205) (a2 : Int) : Tr X A :=
 .need (((List.length ([] : List Int) : Int) + (List.length a0 : Int)) * (8 : Nat) ≤ room) (.jump (.c3 a0 a1 a2 (([] : List Int) ++ a0) (0 : Int)))
def tree : X → Tr X A
 | .c3 x0 x1 x2 x3 x4 =>
 .ite (decide (x4 < (List.length x1 : Int)))
  (.ite (decide (x4 < x2))
   (.need ((0 : Int) ≤ x4 ∧ x4 < (List.length x1 : Int)) (.call (spec_l01In.told ((rdS205 x1 x4).f0) (0 : Int) (wr ((List.length x0 : Int) - (1 : Int)))) fun t1 => .ite t1
    (.need ((0 : Int) ≤ x4 ∧ x4 < (List.length x1 : Int)) (.need ((0 : Int) ≤ x4 ∧ x4 < (List.length x1 : Int)) (.need ((0 : Int) ≤ (rdS205 x1 x4).f0 ∧ (rdS205 x1 x4).f0 < (List.length x3 : Int)) (.last (.jump (.c3 x0 x1 x2 (List.set x3 (Int.toNat ((rdS205 x1 x4).f0)) ((rdS205 x1 x4).f1)) (wr (x4 + (1 : Int)))))))))
    (.jump (.c3 x0 x1 x2 x3 (wr (x4 + (1 : Int)))))))
   (.ret x3))
  (.ret x3)
def f (a0 : List Int) (a1 : List S205) (a2 : Int) : Option A := (begin a0 a1 a2).run (lp tree)
def Q : Plan C := { PL with cuts := [(3, [0, 1, 2, 7, 8])], ords := [(6, [12], (.take 0 [] (.take 1 [] (.take 2 [] (.take 3 [] (.take 4 [] (.take 6 [] (.take 7 [] (.take 8 [] (.take 9 [] (.take 5 [0, 1, 2, 3, 4, 6, 7, 8, 9, 10] (.take 10 [0, 1, 2, 3, 4, 5, 6, 7, 8, 9] (.take 11 [] (.alt 12 .done .nil))))))))))))))], weak := [] }
theorem e : CutEq Pg C Q Tryz.f143 0 id st v o tree := fun J K x => by cases x <;> kernel_rfl
theorem b (a0 : List Int) (a1 : List S205) (a2 : Int) : BegEq Pg C Q Tryz.f143 0 id st v o (S a0 a1 a2) (begin a0 a1 a2) := fun J K => by kernel_rfl
def told (a0 : List Int) (a1 : List S205) (a2 : Int) : YtobfemcobakeoaaGreatEv.Told A := ⟨f a0 a1 a2, fun r => SoundCall Pg C 143 (S a0 a1 a2) 0 (v r) (o r), fun r h => soundCall_of_tree G mixed Q Tryz.func143 rfl (of_decide_eq_true (by kernel_rfl)) (by rfl) id st v o (fun _ => rfl) tree e (begin a0 a1 a2) (b a0 a1 a2) h⟩
end spec_ApplyWrites
/-! #### loop.example/g00983/spec.Recovered (69) -/
namespace spec_Recovered
def S (a0 : List Int) : List (PV U) := YtobfemcobakeoaaGreatEv.start C 11 [.sl 3 a0] []
abbrev X := Empty
def id : X → Nat := fun _ => 0
def st : X → List (PV U) := fun _ => []
def begin (a0 : List Int) : Tr X A :=
 .call (spec_RecoveryWrites.told a0) fun t1 => .call (spec_ApplyWrites.told a0 t1 (List.length t1 : Int)) fun t2 => .ret t2
def tree : X → Tr X A := fun _ => .fail
def f (a0 : List Int) : Option A := (begin a0).run (lp tree)
def Q : Plan C := { PL with cuts := [], ords := [], weak := [] }
theorem e : CutEq Pg C Q Tryz.f69 0 id st v o tree := fun J K x => by cases x
theorem b (a0 : List Int) : BegEq Pg C Q Tryz.f69 0 id st v o (S a0) (begin a0) := fun J K => by kernel_rfl
def told (a0 : List Int) : YtobfemcobakeoaaGreatEv.Told A := ⟨f a0, fun r => SoundCall Pg C 69 (S a0) 0 (v r) (o r), fun r h => soundCall_of_tree G mixed Q Tryz.func69 rfl (of_decide_eq_true (by kernel_rfl)) (by rfl) id st v o (fun _ => rfl) tree e (begin a0) (b a0) h⟩
end spec_Recovered
/-! #### loop.example/g00983/spec.MemVars (71) -/
namespace spec_MemVars
def S (a0 : List Int) : List (PV U) := YtobfemcobakeoaaGreatEv.start C 11 [.sl 3 a0] []
abbrev X := Empty
def id : X → Nat := fun _ => 0
def st : X → List (PV U) := fun _ => []
def begin (a0 : List Int) : Tr X A :=
 .ite (!decide ((List.length a0 : Int) = (49 : Int)))
  (.ret (([] : List Int)))
  (.need ((0 : Int) ≤ (0 : Int) ∧ (0 : Int) ≤ (8 : Int) ∧ (8 : Int) ≤ (List.length a0 : Int)) (.need (((List.length ([] : List Int) : Int) + (List.length (List.take (Int.toNat (8 : Int)) a0) : Int)) * (8 : Nat) ≤ room) (.ret ((([] : List Int) ++ (List.take (Int.toNat (8 : Int)) a0))))))
def tree : X → Tr X A := fun _ => .fail
def f (a0 : List Int) : Option A := (begin a0).run (lp tree)
def Q : Plan C := { PL with cuts := [], ords := [], weak := [] }
theorem e : CutEq Pg C Q Tryz.f71 0 id st v o tree := fun J K x => by cases x
theorem b (a0 : List Int) : BegEq Pg C Q Tryz.f71 0 id st v o (S a0) (begin a0) := fun J K => by kernel_rfl
def told (a0 : List Int) : YtobfemcobakeoaaGreatEv.Told A := ⟨f a0, fun r => SoundCall Pg C 71 (S a0) 0 (v r) (o r), fun r h => soundCall_of_tree G mixed Q Tryz.func71 rfl (of_decide_eq_true (by kernel_rfl)) (by rfl) id st v o (fun _ => rfl) tree e (begin a0) (b a0) h⟩
end spec_MemVars
/-! #### loop.example/g00983/spec.VarsOk (144) -/
namespace spec_VarsOk
def S (a0 : List Int) : List (PV U) := YtobfemcobakeoaaGreatEv.start C 19 [.sl 3 a0] []
inductive X where
 | c2 (x0 : List Int) (x1 : Int)
def id : X → Nat
 | .c2 .. => 2
def st : X → List (PV U)
 | .c2 x0 x1 => stOf 19 [(0, .sl 3 x0), (3, .int .i64 x1)]
def begin (a0 : List Int) : Tr X A :=
 .jump (.c2 a0 (0 : Int))
def tree : X → Tr X A
 | .c2 x0 x1 =>
 .ite (decide (x1 < (List.length x0 : Int)))
  (.need ((0 : Int) ≤ x1 ∧ x1 < (List.length x0 : Int)) (.call (spec_IsValue.told (rdI x0 x1)) fun t1 => .ite (!t1)
   (.ret false)
   (.jump (.c2 x0 (wr (x1 + (1 : Int)))))))
  (.ret ((decide ((List.length x0 : Int) = (8 : Int)))))
def f (a0 : List Int) : Option A := (begin a0).run (lp tree)
def Q : Plan C := { PL with cuts := [(2, [0, 3])], ords := [], weak := [] }
theorem e : CutEq Pg C Q Tryz.f144 0 id st v o tree := fun J K x => by cases x <;> kernel_rfl
theorem b (a0 : List Int) : BegEq Pg C Q Tryz.f144 0 id st v o (S a0) (begin a0) := fun J K => by kernel_rfl
def told (a0 : List Int) : YtobfemcobakeoaaGreatEv.Told A := ⟨f a0, fun r => SoundCall Pg C 144 (S a0) 0 (v r) (o r), fun r h => soundCall_of_tree G mixed Q Tryz.func144 rfl (of_decide_eq_true (by kernel_rfl)) (by rfl) id st v o (fun _ => rfl) tree e (begin a0) (b a0) h⟩
end spec_VarsOk
/-! #### loop.example/g00983/spec.l03Value (198) -/
namespace spec_l03Value
def S (a0 : List Int) (a1 : Int) : List (PV U) := YtobfemcobakeoaaGreatEv.start C 13 [.sl 3 a0, .int .i64 a1] []
abbrev X := Empty
def id : X → Nat := fun _ => 0
def st : X → List (PV U) := fun _ => []
def begin (a0 : List Int) (a1 : Int) : Tr X A :=
 .ite (decide (a1 < (0 : Int)))
  (.need ((0 : Int) ≤ (wr ((-1 : Int) - a1)) ∧ (wr ((-1 : Int) - a1)) < (List.length a0 : Int)) (.ret ((rdI a0 (wr ((-1 : Int) - a1))))))
  (.ret a1)
def tree : X → Tr X A := fun _ => .fail
def f (a0 : List Int) (a1 : Int) : Option A := (begin a0 a1).run (lp tree)
def Q : Plan C := { PL with cuts := [], ords := [], weak := [] }
theorem e : CutEq Pg C Q Tryz.f198 0 id st v o tree := fun J K x => by cases x
theorem b (a0 : List Int) (a1 : Int) : BegEq Pg C Q Tryz.f198 0 id st v o (S a0 a1) (begin a0 a1) := fun J K => by kernel_rfl
def told (a0 : List Int) (a1 : Int) : YtobfemcobakeoaaGreatEv.Told A := ⟨f a0 a1, fun r => SoundCall Pg C 198 (S a0 a1) 0 (v r) (o r), fun r h => soundCall_of_tree G mixed Q Tryz.func198 rfl (of_decide_eq_true (by kernel_rfl)) (by rfl) id st v o (fun _ => rfl) tree e (begin a0 a1) (b a0 a1) h⟩
end spec_l03Value
/-! #### loop.example/g00983/spec.Clamp (245) -/
namespace spec_Clamp
def S (a0 a1 a2 : Int) : List (PV U) := YtobfemcobakeoaaGreatEv.start C 21 [.int .i64 a0, .int .i64 a1, .int .i64 a2] []
abbrev X := Empty
def id : X → Nat := fun _ => 0
def st : X → List (PV U) := fun _ => []
def begin (a0 a1 a2 : Int) : Tr X A :=
 .ite (decide (a2 < a1))
  (.ret a1)
  (.ite (decide (a0 < a1))
   (.ret a1)
   (.ite (decide (a0 > a2))
    (.ret a2)
    (.ret a0)))
def tree : X → Tr X A := fun _ => .fail
def f (a0 a1 a2 : Int) : Option A := (begin a0 a1 a2).run (lp tree)
def Q : Plan C := { PL with cuts := [], ords := [], weak := [] }
theorem e : CutEq Pg C Q Tryz.f245 0 id st v o tree := fun J K x => by cases x
theorem b (a0 a1 a2 : Int) : BegEq Pg C Q Tryz.f245 0 id st v o (S a0 a1 a2) (begin a0 a1 a2) := fun J K => by kernel_rfl
def told (a0 a1 a2 : Int) : YtobfemcobakeoaaGreatEv.Told A := ⟨f a0 a1 a2, fun r => SoundCall Pg C 245 (S a0 a1 a2) 0 (v r) (o r), fun r h => soundCall_of_tree G mixed Q Tryz.func245 rfl (of_decide_eq_true (by kernel_rfl)) (by rfl) id st v o (fun _ => rfl) tree e (begin a0 a1 a2) (b a0 a1 a2) h⟩
end spec_Clamp
/-! #### loop.example/g00983/spec.Saturate (226) -/
namespace spec_Saturate
def S (a0 : Int) : List (PV U) := YtobfemcobakeoaaGreatEv.start C 5 [.int .i64 a0] []
abbrev X := Empty
def id : X → Nat := fun _ => 0
def st : X → List (PV U) := fun _ => []
def begin (a0 : Int) : Tr X A :=
 .call (spec_Clamp.told a0 (-1000000 : Int) (1000000 : Int)) fun t1 => .ret t1
def tree : X → Tr X A := fun _ => .fail
def f (a0 : Int) : Option A := (begin a0).run (lp tree)
def Q : Plan C := { PL with cuts := [], ords := [], weak := [] }
theorem e : CutEq Pg C Q Tryz.f226 0 id st v o tree := fun J K x => by cases x
theorem b (a0 : Int) : BegEq Pg C Q Tryz.f226 0 id st v o (S a0) (begin a0) := fun J K => by kernel_rfl
def told (a0 : Int) : YtobfemcobakeoaaGreatEv.Told A := ⟨f a0, fun r => SoundCall Pg C 226 (S a0) 0 (v r) (o r), fun r h => soundCall_of_tree G mixed Q Tryz.func226 rfl (of_decide_eq_true (by kernel_rfl)) (by rfl) id st v o (fun _ => rfl) tree e (begin a0) (b a0) h⟩
end spec_Saturate
/-! #### loop.example/g00983/spec.AddValues (199) -/
namespace spec_AddValues
def S (a0 a1 : Int) : List (PV U) := YtobfemcobakeoaaGreatEv.start C 11 [.int .i64 a0, .int .i64 a1] []
abbrev X := Empty
def id : X → Nat := fun _ => 0
def st : X → List (PV U) := fun _ => []
def begin (a0 a1 : Int) : Tr X A :=
 .call (spec_Saturate.told a0) fun t1 => .call (spec_Saturate.told a1) fun t2 => .call (spec_Saturate.told (wr (t1 + t2))) fun t3 => .ret t3
def tree : X → Tr X A := fun _ => .fail
def f (a0 a1 : Int) : Option A := (begin a0 a1).run (lp tree)
def Q : Plan C := { PL with cuts := [], ords := [], weak := [] }
theorem e : CutEq Pg C Q Tryz.f199 0 id st v o tree := fun J K x => by cases x
theorem b (a0 a1 : Int) : BegEq Pg C Q Tryz.f199 0 id st v o (S a0 a1) (begin a0 a1) := fun J K => by kernel_rfl
def told (a0 a1 : Int) : YtobfemcobakeoaaGreatEv.Told A := ⟨f a0 a1, fun r => SoundCall Pg C 199 (S a0 a1) 0 (v r) (o r), fun r h => soundCall_of_tree G mixed Q Tryz.func199 rfl (of_decide_eq_true (by kernel_rfl)) (by rfl) id st v o (fun _ => rfl) tree e (begin a0 a1) (b a0 a1) h⟩
end spec_AddValues
/-! #### loop.example/g00983/spec.SubValues (200) -/
namespace spec_SubValues
def S (a0 a1 : Int) : List (PV U) := YtobfemcobakeoaaGreatEv.start C 11 [.int .i64 a0, .int .i64 a1] []
abbrev X := Empty
def id : X → Nat := fun _ => 0
def st : X → List (PV U) := fun _ => []
def begin (a0 a1 : Int) : Tr X A :=
 .call (spec_Saturate.told a0) fun t1 => .call (spec_Saturate.told a1) fun t2 => .call (spec_Saturate.told (wr (t1 - t2))) fun t3 => .ret t3
def tree : X → Tr X A := fun _ => .fail
def f (a0 a1 : Int) : Option A := (begin a0 a1).run (lp tree)
def Q : Plan C := { PL with cuts := [], ords := [], weak := [] }
theorem e : CutEq Pg C Q Tryz.f200 0 id st v o tree := fun J K x => by cases x
theorem b (a0 a1 : Int) : BegEq Pg C Q Tryz.f200 0 id st v o (S a0 a1) (begin a0 a1) := fun J K => by kernel_rfl
def told (a0 a1 : Int) : YtobfemcobakeoaaGreatEv.Told A := ⟨f a0 a1, fun r => SoundCall Pg C 200 (S a0 a1) 0 (v r) (o r), fun r h => soundCall_of_tree G mixed Q Tryz.func200 rfl (of_decide_eq_true (by kernel_rfl)) (by rfl) id st v o (fun _ => rfl) tree e (begin a0 a1) (b a0 a1) h⟩
end spec_SubValues
/-! #### loop.example/g00983/spec.MulValues (201) -/
namespace spec_MulValues
def S (a0 a1 : Int) : List (PV U) := YtobfemcobakeoaaGreatEv.start C 11 [.int .i64 a0, .int .i64 a1] []
abbrev X := Empty
def id : X → Nat := fun _ => 0
def st : X → List (PV U) := fun _ => []
def begin (a0 a1 : Int) : Tr X A :=
 .call (spec_Saturate.told a0) fun t1 => .call (spec_Saturate.told a1) fun t2 => .call (spec_Saturate.told (wr (t1 * t2))) fun t3 => .ret t3
def tree : X → Tr X A := fun _ => .fail
def f (a0 a1 : Int) : Option A := (begin a0 a1).run (lp tree)
def Q : Plan C := { PL with cuts := [], ords := [], weak := [] }
theorem e : CutEq Pg C Q Tryz.f201 0 id st v o tree := fun J K x => by cases x
theorem b (a0 a1 : Int) : BegEq Pg C Q Tryz.f201 0 id st v o (S a0 a1) (begin a0 a1) := fun J K => by kernel_rfl
def told (a0 a1 : Int) : YtobfemcobakeoaaGreatEv.Told A := ⟨f a0 a1, fun r => SoundCall Pg C 201 (S a0 a1) 0 (v r) (o r), fun r h => soundCall_of_tree G mixed Q Tryz.func201 rfl (of_decide_eq_true (by kernel_rfl)) (by rfl) id st v o (fun _ => rfl) tree e (begin a0 a1) (b a0 a1) h⟩
end spec_MulValues
/-! #### loop.example/g00983/spec.l03Bit (202) -/
namespace spec_l03Bit
def S (a0 : Bool) : List (PV U) := YtobfemcobakeoaaGreatEv.start C 4 [.bool a0] []
abbrev X := Empty
def id : X → Nat := fun _ => 0
def st : X → List (PV U) := fun _ => []
def begin (a0 : Bool) : Tr X A :=
 .ite a0
  (.ret ((1 : Int)))
  (.ret ((0 : Int)))
def tree : X → Tr X A := fun _ => .fail
def f (a0 : Bool) : Option A := (begin a0).run (lp tree)
def Q : Plan C := { PL with cuts := [], ords := [], weak := [] }
theorem e : CutEq Pg C Q Tryz.f202 0 id st v o tree := fun J K x => by cases x
theorem b (a0 : Bool) : BegEq Pg C Q Tryz.f202 0 id st v o (S a0) (begin a0) := fun J K => by kernel_rfl
def told (a0 : Bool) : YtobfemcobakeoaaGreatEv.Told A := ⟨f a0, fun r => SoundCall Pg C 202 (S a0) 0 (v r) (o r), fun r h => soundCall_of_tree G mixed Q Tryz.func202 rfl (of_decide_eq_true (by kernel_rfl)) (by rfl) id st v o (fun _ => rfl) tree e (begin a0) (b a0) h⟩
end spec_l03Bit
/-! #### loop.example/g00983/spec.l03Eval (145) -/
namespace spec_l03Eval
def S (a0 : List Int) (a1 a2 a3 : Int) : List (PV U) := YtobfemcobakeoaaGreatEv.start C 52 [.sl 3 a0, .agg [.int .i64 a1, .int .i64 a2, .int .i64 a3]] []
abbrev X := Empty
def id : X → Nat := fun _ => 0
def st : X → List (PV U) := fun _ => []
def begin (a0 : List Int) (a1 a2 a3 : Int) : Tr X A :=
 .call (spec_l03Value.told a0 a2) fun t1 => .call (spec_l03Value.told a0 a3) fun t2 => .ite (decide (a1 = (1 : Int)))
  (.call (spec_AddValues.told t1 t2) fun t3 => .ret t3)
  (.ite (decide (a1 = (2 : Int)))
   (.call (spec_SubValues.told t1 t2) fun t4 => .ret t4)
   (.ite (decide (a1 = (3 : Int)))
    (.call (spec_MulValues.told t1 t2) fun t5 => .ret t5)
    (.ite (decide (a1 = (4 : Int)))
     (.ret ((if t2 < t1 then t2 else t1)))
     (.ite (decide (a1 = (5 : Int)))
      (.ret ((if t2 > t1 then t2 else t1)))
      (.ite (decide (a1 = (6 : Int)))
       (.call (spec_l03Bit.told (decide (t1 < t2))) fun t6 => .ret t6)
       (.call (spec_l03Bit.told (decide (t1 = t2))) fun t7 => .ret t7))))))
def tree : X → Tr X A := fun _ => .fail
def f (a0 : List Int) (a1 a2 a3 : Int) : Option A := (begin a0 a1 a2 a3).run (lp tree)
def Q : Plan C := { PL with cuts := [], ords := [], weak := [] }
theorem e : CutEq Pg C Q Tryz.f145 0 id st v o tree := fun J K x => by cases x
theorem b (a0 : List Int) (a1 a2 a3 : Int) : BegEq Pg C Q Tryz.f145 0 id st v o (S a0 a1 a2 a3) (begin a0 a1 a2 a3) := fun J K => by kernel_rfl
def told (a0 : List Int) (a1 a2 a3 : Int) : YtobfemcobakeoaaGreatEv.Told A := ⟨f a0 a1 a2 a3, fun r => SoundCall Pg C 145 (S a0 a1 a2 a3) 0 (v r) (o r), fun r h => soundCall_of_tree G mixed Q Tryz.func145 rfl (of_decide_eq_true (by kernel_rfl)) (by rfl) id st v o (fun _ => rfl) tree e (begin a0 a1 a2 a3) (b a0 a1 a2 a3) h⟩
end spec_l03Eval
/-! #### loop.example/g00983/spec.Migrate (70) -/
namespace spec_Migrate
def S (a0 : List Int) (a1 : List S153) : List (PV U) := YtobfemcobakeoaaGreatEv.start C 33 [.sl 3 a0, .agg [.sl 154 a1]] []
inductive X where
 | c5 (x0 : List Int) (x1 : List S153) (x2 : List Int) (x3 : Int)
def id : X → Nat
 | .c5 .. => 5
def st : X → List (PV U)
 | .c5 x0 x1 x2 x3 => stOf 33 [(0, .sl 3 x0), (3, .box [.sl 154 x1]), (6, .own true 3 x2), (7, .int .i64 x3)]
def begin (a0 : List Int) (a1 : List S153) : Tr X A :=
 .call (spec_VarsOk.told a0) fun t1 => .ite (!t1)
  (.ret (([] : List Int), false))
  (.call (spec_RulesOk.told a1) fun t2 => .ite (!t2)
   (.ret (([] : List Int), false))
   (.jump (.c5 a0 a1 ([] : List Int) (0 : Int))))
def tree : X → Tr X A
 | .c5 x0 x1 x2 x3 =>
 .ite (decide (x3 < (8 : Int)))
  (.need ((0 : Int) ≤ x3 ∧ x3 < (List.length x1 : Int)) (.call (spec_l03Eval.told x0 ((rdS153 x1 x3).f0) ((rdS153 x1 x3).f1) ((rdS153 x1 x3).f2)) fun t3 => .need (((List.length x2 : Int) + (List.length ([t3]) : Int)) * (8 : Nat) ≤ room) (.jump (.c5 x0 x1 (x2 ++ [t3]) (wr (x3 + (1 : Int)))))))
  (.ret (x2, true))
def f (a0 : List Int) (a1 : List S153) : Option A := (begin a0 a1).run (lp tree)
def Q : Plan C := { PL with cuts := [(5, [0, 3, 6, 7])], ords := [], weak := [] }
theorem e : CutEq Pg C Q Tryz.f70 0 id st v o tree := fun J K x => by cases x <;> kernel_rfl
theorem b (a0 : List Int) (a1 : List S153) : BegEq Pg C Q Tryz.f70 0 id st v o (S a0 a1) (begin a0 a1) := fun J K => by kernel_rfl
def told (a0 : List Int) (a1 : List S153) : YtobfemcobakeoaaGreatEv.Told A := ⟨f a0 a1, fun r => SoundCall Pg C 70 (S a0 a1) 0 (v r) (o r), fun r h => soundCall_of_tree G mixed Q Tryz.func70 rfl (of_decide_eq_true (by kernel_rfl)) (by rfl) id st v o (fun _ => rfl) tree e (begin a0 a1) (b a0 a1) h⟩
end spec_Migrate
/-! #### loop.example/g00983/spec.MigrateMem (14) -/
namespace spec_MigrateMem
def S (a0 : List S166) (a1 : List Int) (a2 : List S153) : List (PV U) := YtobfemcobakeoaaGreatEv.start C 58 [.agg [.sl 167 a0], .sl 3 a1, .agg [.sl 154 a2]] []
inductive X where
 | c6 (x0 x1 : List Int) (x2 : Int)
def id : X → Nat
 | .c6 .. => 6
def st : X → List (PV U)
 | .c6 x0 x1 x2 => stOf 58 [(8, .own true 3 x0), (9, .own true 3 x1), (11, .int .i64 x2)]
def begin (a0 : List S166) (a1 : List Int) (a2 : List S153) : Tr X A :=
 .call (spec_MemOk.told a0 a1) fun t1 => .ite (!t1)
  (.ret (([] : List Int), false))
  (.call (spec_RulesOk.told a2) fun t2 => .ite (!t2)
   (.ret (([] : List Int), false))
   (.call (spec_Recovered.told a1) fun t3 => .last (.call (spec_MemVars.told t3) fun t4 => .last (.call (spec_Migrate.told t4 a2) fun t5 => .jump (.c6 t3 t5.1 (0 : Int))))))
def tree : X → Tr X A
 | .c6 x0 x1 x2 =>
 .ite (decide (x2 < (8 : Int)))
  (.need ((0 : Int) ≤ x2 ∧ x2 < (List.length x1 : Int)) (.need ((0 : Int) ≤ x2 ∧ x2 < (List.length x0 : Int)) (.jump (.c6 (List.set x0 (Int.toNat x2) (rdI x1 x2)) x1 (wr (x2 + (1 : Int)))))))
  (.need ((0 : Int) ≤ (8 : Int) ∧ (8 : Int) < (List.length x0 : Int)) (.call (spec_UnpackControl.told (rdI x0 (8 : Int))) fun t6 => .call (spec_PackControl.told (0 : Int) (0 : Int) t6.2.2) fun t7 => .need ((0 : Int) ≤ (8 : Int) ∧ (8 : Int) < (List.length x0 : Int)) (.ret ((List.set x0 (Int.toNat (8 : Int)) t7), true))))
def f (a0 : List S166) (a1 : List Int) (a2 : List S153) : Option A := (begin a0 a1 a2).run (lp tree)
def Q : Plan C := { PL with cuts := [(6, [8, 9, 11])], ords := [(4, [], (.take 0 [] (.take 2 [0, 1] (.alt 1 (.alt 3 (.take 4 [] (.take 5 [] (.take 6 [] (.take 7 [] (.take 8 [] .done))))) .nil) .nil))))], weak := [] }
theorem e : CutEq Pg C Q Tryz.f14 0 id st v o tree := fun J K x => by cases x <;> kernel_rfl
theorem b (a0 : List S166) (a1 : List Int) (a2 : List S153) : BegEq Pg C Q Tryz.f14 0 id st v o (S a0 a1 a2) (begin a0 a1 a2) := fun J K => by kernel_rfl
def told (a0 : List S166) (a1 : List Int) (a2 : List S153) : YtobfemcobakeoaaGreatEv.Told A := ⟨f a0 a1 a2, fun r => SoundCall Pg C 14 (S a0 a1 a2) 0 (v r) (o r), fun r h => soundCall_of_tree G mixed Q Tryz.func14 rfl (of_decide_eq_true (by kernel_rfl)) (by rfl) id st v o (fun _ => rfl) tree e (begin a0 a1 a2) (b a0 a1 a2) h⟩
end spec_MigrateMem
/-! #### loop.example/g00983/impl.within (105) -/
namespace impl_within
def S (a0 a1 a2 : Int) : List (PV U) := YtobfemcobakeoaaGreatEv.start C 15 [.int .i64 a0, .int .i64 a1, .int .i64 a2] []
abbrev X := Empty
def id : X → Nat := fun _ => 0
def st : X → List (PV U) := fun _ => []
def begin (a0 a1 a2 : Int) : Tr X A :=
 .ite (decide (a0 ≥ a1))
  (.ret ((decide (a0 ≤ a2))))
  (.ret false)
def tree : X → Tr X A := fun _ => .fail
def f (a0 a1 a2 : Int) : Option A := (begin a0 a1 a2).run (lp tree)
def Q : Plan C := { PL with cuts := [], ords := [], weak := [] }
theorem e : CutEq Pg C Q Tryz.f105 0 id st v o tree := fun J K x => by cases x
theorem b (a0 a1 a2 : Int) : BegEq Pg C Q Tryz.f105 0 id st v o (S a0 a1 a2) (begin a0 a1 a2) := fun J K => by kernel_rfl
def told (a0 a1 a2 : Int) : YtobfemcobakeoaaGreatEv.Told A := ⟨f a0 a1 a2, fun r => SoundCall Pg C 105 (S a0 a1 a2) 0 (v r) (o r), fun r h => soundCall_of_tree G mixed Q Tryz.func105 rfl (of_decide_eq_true (by kernel_rfl)) (by rfl) id st v o (fun _ => rfl) tree e (begin a0 a1 a2) (b a0 a1 a2) h⟩
end impl_within
/-! #### loop.example/g00983/impl.hasVar (255) -/
namespace impl_hasVar
def S (a0 : Int) : List (PV U) := YtobfemcobakeoaaGreatEv.start C 9 [.int .i64 a0] []
abbrev X := Empty
def id : X → Nat := fun _ => 0
def st : X → List (PV U) := fun _ => []
def begin (a0 : Int) : Tr X A :=
 .ite (decide (a0 = (1 : Int)))
  (.ret true)
  (.ret ((decide (a0 = (2 : Int)))))
def tree : X → Tr X A := fun _ => .fail
def f (a0 : Int) : Option A := (begin a0).run (lp tree)
def Q : Plan C := { PL with cuts := [], ords := [], weak := [] }
theorem e : CutEq Pg C Q Tryz.f255 0 id st v o tree := fun J K x => by cases x
theorem b (a0 : Int) : BegEq Pg C Q Tryz.f255 0 id st v o (S a0) (begin a0) := fun J K => by kernel_rfl
def told (a0 : Int) : YtobfemcobakeoaaGreatEv.Told A := ⟨f a0, fun r => SoundCall Pg C 255 (S a0) 0 (v r) (o r), fun r h => soundCall_of_tree G mixed Q Tryz.func255 rfl (of_decide_eq_true (by kernel_rfl)) (by rfl) id st v o (fun _ => rfl) tree e (begin a0) (b a0) h⟩
end impl_hasVar
/-! #### loop.example/g00983/impl.isVar (109) -/
namespace impl_isVar
def S (a0 : Int) : List (PV U) := YtobfemcobakeoaaGreatEv.start C 5 [.int .i64 a0] []
abbrev X := Empty
def id : X → Nat := fun _ => 0
def st : X → List (PV U) := fun _ => []
def begin (a0 : Int) : Tr X A :=
 .call (impl_within.told a0 (0 : Int) (7 : Int)) fun t1 => .ret t1
def tree : X → Tr X A := fun _ => .fail
def f (a0 : Int) : Option A := (begin a0).run (lp tree)
def Q : Plan C := { PL with cuts := [], ords := [], weak := [] }
theorem e : CutEq Pg C Q Tryz.f109 0 id st v o tree := fun J K x => by cases x
theorem b (a0 : Int) : BegEq Pg C Q Tryz.f109 0 id st v o (S a0) (begin a0) := fun J K => by kernel_rfl
def told (a0 : Int) : YtobfemcobakeoaaGreatEv.Told A := ⟨f a0, fun r => SoundCall Pg C 109 (S a0) 0 (v r) (o r), fun r h => soundCall_of_tree G mixed Q Tryz.func109 rfl (of_decide_eq_true (by kernel_rfl)) (by rfl) id st v o (fun _ => rfl) tree e (begin a0) (b a0) h⟩
end impl_isVar
/-! #### loop.example/g00983/impl.hasExpr (256) -/
namespace impl_hasExpr
def S (a0 : Int) : List (PV U) := YtobfemcobakeoaaGreatEv.start C 13 [.int .i64 a0] []
abbrev X := Empty
def id : X → Nat := fun _ => 0
def st : X → List (PV U) := fun _ => []
def begin (a0 : Int) : Tr X A :=
 .ite (decide (a0 = (1 : Int)))
  (.ret true)
  (.ite (decide (a0 = (3 : Int)))
   (.ret true)
   (.ret ((decide (a0 = (4 : Int))))))
def tree : X → Tr X A := fun _ => .fail
def f (a0 : Int) : Option A := (begin a0).run (lp tree)
def Q : Plan C := { PL with cuts := [], ords := [], weak := [] }
theorem e : CutEq Pg C Q Tryz.f256 0 id st v o tree := fun J K x => by cases x
theorem b (a0 : Int) : BegEq Pg C Q Tryz.f256 0 id st v o (S a0) (begin a0) := fun J K => by kernel_rfl
def told (a0 : Int) : YtobfemcobakeoaaGreatEv.Told A := ⟨f a0, fun r => SoundCall Pg C 256 (S a0) 0 (v r) (o r), fun r h => soundCall_of_tree G mixed Q Tryz.func256 rfl (of_decide_eq_true (by kernel_rfl)) (by rfl) id st v o (fun _ => rfl) tree e (begin a0) (b a0) h⟩
end impl_hasExpr
/-! #### loop.example/g00983/impl.OperandOk (205) -/
namespace impl_OperandOk
def S (a0 : Int) : List (PV U) := YtobfemcobakeoaaGreatEv.start C 5 [.int .i64 a0] []
abbrev X := Empty
def id : X → Nat := fun _ => 0
def st : X → List (PV U) := fun _ => []
def begin (a0 : Int) : Tr X A :=
 .call (impl_within.told a0 (-8 : Int) (999 : Int)) fun t1 => .ret t1
def tree : X → Tr X A := fun _ => .fail
def f (a0 : Int) : Option A := (begin a0).run (lp tree)
def Q : Plan C := { PL with cuts := [], ords := [], weak := [] }
theorem e : CutEq Pg C Q Tryz.f205 0 id st v o tree := fun J K x => by cases x
theorem b (a0 : Int) : BegEq Pg C Q Tryz.f205 0 id st v o (S a0) (begin a0) := fun J K => by kernel_rfl
def told (a0 : Int) : YtobfemcobakeoaaGreatEv.Told A := ⟨f a0, fun r => SoundCall Pg C 205 (S a0) 0 (v r) (o r), fun r h => soundCall_of_tree G mixed Q Tryz.func205 rfl (of_decide_eq_true (by kernel_rfl)) (by rfl) id st v o (fun _ => rfl) tree e (begin a0) (b a0) h⟩
end impl_OperandOk
/-! #### loop.example/g00983/impl.ExprOk (150) -/
namespace impl_ExprOk
def S (a0 a1 a2 : Int) : List (PV U) := YtobfemcobakeoaaGreatEv.start C 16 [.agg [.int .i64 a0, .int .i64 a1, .int .i64 a2]] []
abbrev X := Empty
def id : X → Nat := fun _ => 0
def st : X → List (PV U) := fun _ => []
def begin (a0 a1 a2 : Int) : Tr X A :=
 .call (impl_within.told a0 (1 : Int) (7 : Int)) fun t1 => .ite t1
  (.call (impl_OperandOk.told a1) fun t2 => .ite t2
   (.call (impl_OperandOk.told a2) fun t3 => .ret t3)
   (.ret false))
  (.ret false)
def tree : X → Tr X A := fun _ => .fail
def f (a0 a1 a2 : Int) : Option A := (begin a0 a1 a2).run (lp tree)
def Q : Plan C := { PL with cuts := [], ords := [], weak := [] }
theorem e : CutEq Pg C Q Tryz.f150 0 id st v o tree := fun J K x => by cases x
theorem b (a0 a1 a2 : Int) : BegEq Pg C Q Tryz.f150 0 id st v o (S a0 a1 a2) (begin a0 a1 a2) := fun J K => by kernel_rfl
def told (a0 a1 a2 : Int) : YtobfemcobakeoaaGreatEv.Told A := ⟨f a0 a1 a2, fun r => SoundCall Pg C 150 (S a0 a1 a2) 0 (v r) (o r), fun r h => soundCall_of_tree G mixed Q Tryz.func150 rfl (of_decide_eq_true (by kernel_rfl)) (by rfl) id st v o (fun _ => rfl) tree e (begin a0 a1 a2) (b a0 a1 a2) h⟩
end impl_ExprOk
/-! #### loop.example/g00983/impl.isSensor (253) -/
namespace impl_isSensor
def S (a0 : Int) : List (PV U) := YtobfemcobakeoaaGreatEv.start C 5 [.int .i64 a0] []
abbrev X := Empty
def id : X → Nat := fun _ => 0
def st : X → List (PV U) := fun _ => []
def begin (a0 : Int) : Tr X A :=
 .call (impl_within.told a0 (0 : Int) (3 : Int)) fun t1 => .ret t1
def tree : X → Tr X A := fun _ => .fail
def f (a0 : Int) : Option A := (begin a0).run (lp tree)
def Q : Plan C := { PL with cuts := [], ords := [], weak := [] }
theorem e : CutEq Pg C Q Tryz.f253 0 id st v o tree := fun J K x => by cases x
theorem b (a0 : Int) : BegEq Pg C Q Tryz.f253 0 id st v o (S a0) (begin a0) := fun J K => by kernel_rfl
def told (a0 : Int) : YtobfemcobakeoaaGreatEv.Told A := ⟨f a0, fun r => SoundCall Pg C 253 (S a0) 0 (v r) (o r), fun r h => soundCall_of_tree G mixed Q Tryz.func253 rfl (of_decide_eq_true (by kernel_rfl)) (by rfl) id st v o (fun _ => rfl) tree e (begin a0) (b a0) h⟩
end impl_isSensor
/-! #### loop.example/g00983/impl.StmtOk (241) -/
namespace impl_StmtOk
def S (a0 a1 a2 a3 a4 a5 : Int) : List (PV U) := YtobfemcobakeoaaGreatEv.start C 65 [.agg [.int .i64 a0, .int .i64 a1, .int .i64 a2, .int .i64 a3, .int .i64 a4, .int .i64 a5]] []
inductive X where
 | c3 (x0 x1 x2 x3 x4 x5 : Int)
 | c5 (x0 x1 x2 x3 x4 x5 : Int)
def id : X → Nat
 | .c3 .. => 3
 | .c5 .. => 5
def st : X → List (PV U)
 | .c3 x0 x1 x2 x3 x4 x5 => stOf 65 [(1, .box [.int .i64 x0, .int .i64 x1, .int .i64 x2, .int .i64 x3, .int .i64 x4, .int .i64 x5])]
 | .c5 x0 x1 x2 x3 x4 x5 => stOf 65 [(1, .box [.int .i64 x0, .int .i64 x1, .int .i64 x2, .int .i64 x3, .int .i64 x4, .int .i64 x5])]
def begin (a0 a1 a2 a3 a4 a5 : Int) : Tr X A :=
 .call (impl_within.told a0 (1 : Int) (6 : Int)) fun t1 => .ite (!t1)
  (.ret false)
  (.call (impl_hasVar.told a0) fun t2 => .ite t2
   (.call (impl_isVar.told a1) fun t3 => .ite (!t3)
    (.ret false)
    (.call (impl_hasVar.told a0) fun t4 => .ite (!t4)
     (.ite (!decide (a1 = (0 : Int)))
      (.ret false)
      (.jump (.c3 a0 a1 a2 a3 a4 a5)))
     (.jump (.c3 a0 a1 a2 a3 a4 a5))))
   (.call (impl_hasVar.told a0) fun t5 => .ite (!t5)
    (.ite (!decide (a1 = (0 : Int)))
     (.ret false)
     (.jump (.c3 a0 a1 a2 a3 a4 a5)))
    (.jump (.c3 a0 a1 a2 a3 a4 a5))))
def tree : X → Tr X A
 | .c3 x0 x1 x2 x3 x4 x5 =>
 .call (impl_hasExpr.told x0) fun t6 => .ite t6
  (.call (impl_ExprOk.told x3 x4 x5) fun t7 => .ite (!t7)
   (.ret false)
   (.call (impl_hasExpr.told x0) fun t8 => .ite (!t8)
    (.val ((!(decide (x3 = (0 : Int)) && (decide (x4 = (0 : Int)) && (decide (x5 = (0 : Int)) && true)))) : Bool) fun v9 => .ite v9
     (.ret false)
     (.jump (.c5 x0 x1 x2 x3 x4 x5)))
    (.jump (.c5 x0 x1 x2 x3 x4 x5))))
  (.call (impl_hasExpr.told x0) fun t10 => .ite (!t10)
   (.val ((!(decide (x3 = (0 : Int)) && (decide (x4 = (0 : Int)) && (decide (x5 = (0 : Int)) && true)))) : Bool) fun v11 => .ite v11
    (.ret false)
    (.jump (.c5 x0 x1 x2 x3 x4 x5)))
   (.jump (.c5 x0 x1 x2 x3 x4 x5)))
 | .c5 x0 x1 x2 x3 x4 x5 =>
 .ite (decide (x0 = (2 : Int)))
  (.call (impl_isSensor.told x2) fun t12 => .ret t12)
  (.ite (decide (x0 = (5 : Int)))
   (.call (impl_within.told x2 (1 : Int) (5 : Int)) fun t13 => .ret t13)
   (.ret ((decide (x2 = (0 : Int))))))
def f (a0 a1 a2 a3 a4 a5 : Int) : Option A := (begin a0 a1 a2 a3 a4 a5).run (lp tree)
def Q : Plan C := { PL with cuts := [(3, [1, 33, 34, 35, 36, 39, 40, 41, 42, 43, 44, 45, 46, 47, 48]), (5, [1])], ords := [], weak := [] }
theorem e : CutEq Pg C Q Tryz.f241 0 id st v o tree := fun J K x => by cases x <;> kernel_rfl
theorem b (a0 a1 a2 a3 a4 a5 : Int) : BegEq Pg C Q Tryz.f241 0 id st v o (S a0 a1 a2 a3 a4 a5) (begin a0 a1 a2 a3 a4 a5) := fun J K => by kernel_rfl
def told (a0 a1 a2 a3 a4 a5 : Int) : YtobfemcobakeoaaGreatEv.Told A := ⟨f a0 a1 a2 a3 a4 a5, fun r => SoundCall Pg C 241 (S a0 a1 a2 a3 a4 a5) 0 (v r) (o r), fun r h => soundCall_of_tree G mixed Q Tryz.func241 rfl (of_decide_eq_true (by kernel_rfl)) (by rfl) id st v o (fun _ => rfl) tree e (begin a0 a1 a2 a3 a4 a5) (b a0 a1 a2 a3 a4 a5) h⟩
end impl_StmtOk
/-! #### loop.example/g00983/impl.isOpening (242) -/
namespace impl_isOpening
def S (a0 : Int) : List (PV U) := YtobfemcobakeoaaGreatEv.start C 9 [.int .i64 a0] []
abbrev X := Empty
def id : X → Nat := fun _ => 0
def st : X → List (PV U) := fun _ => []
def begin (a0 : Int) : Tr X A :=
 .ite (decide (a0 = (4 : Int)))
  (.ret true)
  (.ret ((decide (a0 = (5 : Int)))))
def tree : X → Tr X A := fun _ => .fail
def f (a0 : Int) : Option A := (begin a0).run (lp tree)
def Q : Plan C := { PL with cuts := [], ords := [], weak := [] }
theorem e : CutEq Pg C Q Tryz.f242 0 id st v o tree := fun J K x => by cases x
theorem b (a0 : Int) : BegEq Pg C Q Tryz.f242 0 id st v o (S a0) (begin a0) := fun J K => by kernel_rfl
def told (a0 : Int) : YtobfemcobakeoaaGreatEv.Told A := ⟨f a0, fun r => SoundCall Pg C 242 (S a0) 0 (v r) (o r), fun r h => soundCall_of_tree G mixed Q Tryz.func242 rfl (of_decide_eq_true (by kernel_rfl)) (by rfl) id st v o (fun _ => rfl) tree e (begin a0) (b a0) h⟩
end impl_isOpening
/-! #### loop.example/g00983/impl.BlockOk (218) -/
namespace impl_BlockOk
def S (a0 : List S210) : List (PV U) := YtobfemcobakeoaaGreatEv.start C 39 [.sl 211 a0] []
inductive X where
 | c3 (x0 : List S210) (x1 : Int) (x2 : List S210) (x3 x4 : Int)
 | c12
def id : X → Nat
 | .c3 .. => 3
 | .c12 .. => 12
def st : X → List (PV U)
 | .c3 x0 x1 x2 x3 x4 => stOf 39 [(0, .sl 211 x0), (3, .int .i64 x1), (6, .sl 211 x2), (7, .int .i64 x3), (8, .int .i64 x4)]
 | .c12 => stOf 39 []
def begin (a0 : List S210) : Tr X A :=
 .jump (.c3 a0 (0 : Int) a0 (List.length a0 : Int) (0 : Int))
def tree : X → Tr X A
 | .c3 x0 x1 x2 x3 x4 =>
 .ite (decide (x4 < x3))
  (.need ((0 : Int) ≤ x4 ∧ x4 < (List.length x2 : Int)) (.call (impl_StmtOk.told ((rdS210 x2 x4).f0) ((rdS210 x2 x4).f1) ((rdS210 x2 x4).f2) ((rdS210 x2 x4).f3.f0) ((rdS210 x2 x4).f3.f1) ((rdS210 x2 x4).f3.f2)) fun t1 => .ite (!t1)
   (.ret false)
   (.call (impl_isOpening.told ((rdS210 x2 x4).f0)) fun t2 => .ite t2
    (.ite (decide ((rdS210 x2 x4).f0 = (6 : Int)))
     (.ite (decide ((wr ((wr (x1 + (1 : Int))) - (1 : Int))) < (0 : Int)))
      (.jump (.c12))
      (.ite (decide ((wr ((wr (x1 + (1 : Int))) - (1 : Int))) > (3 : Int)))
       (.jump (.c12))
       (.jump (.c3 x0 (wr ((wr (x1 + (1 : Int))) - (1 : Int))) x2 x3 (wr (x4 + (1 : Int)))))))
     (.ite (decide ((wr (x1 + (1 : Int))) < (0 : Int)))
      (.jump (.c12))
      (.ite (decide ((wr (x1 + (1 : Int))) > (3 : Int)))
       (.jump (.c12))
       (.jump (.c3 x0 (wr (x1 + (1 : Int))) x2 x3 (wr (x4 + (1 : Int))))))))
    (.ite (decide ((rdS210 x2 x4).f0 = (6 : Int)))
     (.ite (decide ((wr (x1 - (1 : Int))) < (0 : Int)))
      (.jump (.c12))
      (.ite (decide ((wr (x1 - (1 : Int))) > (3 : Int)))
       (.jump (.c12))
       (.jump (.c3 x0 (wr (x1 - (1 : Int))) x2 x3 (wr (x4 + (1 : Int)))))))
     (.ite (decide (x1 < (0 : Int)))
      (.jump (.c12))
      (.ite (decide (x1 > (3 : Int)))
       (.jump (.c12))
       (.jump (.c3 x0 x1 x2 x3 (wr (x4 + (1 : Int)))))))))))
  (.ite (decide (x1 = (0 : Int)))
   (.ret ((decide ((List.length x0 : Int) ≤ (24 : Int)))))
   (.ret false))
 | .c12 =>
 .ret false
def f (a0 : List S210) : Option A := (begin a0).run (lp tree)
def Q : Plan C := { PL with cuts := [(3, [0, 3, 6, 7, 8, 35, 36, 37]), (12, [])], ords := [], weak := [] }
theorem e : CutEq Pg C Q Tryz.f218 0 id st v o tree := fun J K x => by cases x <;> kernel_rfl
theorem b (a0 : List S210) : BegEq Pg C Q Tryz.f218 0 id st v o (S a0) (begin a0) := fun J K => by kernel_rfl
def told (a0 : List S210) : YtobfemcobakeoaaGreatEv.Told A := ⟨f a0, fun r => SoundCall Pg C 218 (S a0) 0 (v r) (o r), fun r h => soundCall_of_tree G mixed Q Tryz.func218 rfl (of_decide_eq_true (by kernel_rfl)) (by rfl) id st v o (fun _ => rfl) tree e (begin a0) (b a0) h⟩
end impl_BlockOk
/-! #### loop.example/g00983/impl.taskOk (178) -/
namespace impl_taskOk
def S (a0 : List S210) (a1 a2 a3 : Int) : List (PV U) := YtobfemcobakeoaaGreatEv.start C 11 [.agg [.sl 211 a0, .int .i64 a1, .int .i64 a2, .int .i64 a3]] []
abbrev X := Empty
def id : X → Nat := fun _ => 0
def st : X → List (PV U) := fun _ => []
def begin (a0 : List S210) (a1 a2 a3 : Int) : Tr X A :=
 .call (impl_BlockOk.told a0) fun t1 => .ite t1
  (.call (impl_ExprOk.told a1 a2 a3) fun t2 => .ret t2)
  (.ret false)
def tree : X → Tr X A := fun _ => .fail
def f (a0 : List S210) (a1 a2 a3 : Int) : Option A := (begin a0 a1 a2 a3).run (lp tree)
def Q : Plan C := { PL with cuts := [], ords := [], weak := [] }
theorem e : CutEq Pg C Q Tryz.f178 0 id st v o tree := fun J K x => by cases x
theorem b (a0 : List S210) (a1 a2 a3 : Int) : BegEq Pg C Q Tryz.f178 0 id st v o (S a0 a1 a2 a3) (begin a0 a1 a2 a3) := fun J K => by kernel_rfl
def told (a0 : List S210) (a1 a2 a3 : Int) : YtobfemcobakeoaaGreatEv.Told A := ⟨f a0 a1 a2 a3, fun r => SoundCall Pg C 178 (S a0 a1 a2 a3) 0 (v r) (o r), fun r h => soundCall_of_tree G mixed Q Tryz.func178 rfl (of_decide_eq_true (by kernel_rfl)) (by rfl) id st v o (fun _ => rfl) tree e (begin a0 a1 a2 a3) (b a0 a1 a2 a3) h⟩
end impl_taskOk
/-! #### loop.example/g00983/impl.ProgramOk$1 (177) -/
namespace impl_ProgramOk_1
def S (a0 : List S210) (a1 a2 a3 : Int) : List (PV U) := YtobfemcobakeoaaGreatEv.start C 6 [.agg [.sl 211 a0, .int .i64 a1, .int .i64 a2, .int .i64 a3]] []
abbrev X := Empty
def id : X → Nat := fun _ => 0
def st : X → List (PV U) := fun _ => []
def begin (a0 : List S210) (a1 a2 a3 : Int) : Tr X A :=
 .call (impl_taskOk.told a0 a1 a2 a3) fun t1 => .ret ((!t1))
def tree : X → Tr X A := fun _ => .fail
def f (a0 : List S210) (a1 a2 a3 : Int) : Option A := (begin a0 a1 a2 a3).run (lp tree)
def Q : Plan C := { PL with cuts := [], ords := [], weak := [] }
theorem e : CutEq Pg C Q Tryz.f177 0 id st v o tree := fun J K x => by cases x
theorem b (a0 : List S210) (a1 a2 a3 : Int) : BegEq Pg C Q Tryz.f177 0 id st v o (S a0 a1 a2 a3) (begin a0 a1 a2 a3) := fun J K => by kernel_rfl
def told (a0 : List S210) (a1 a2 a3 : Int) : YtobfemcobakeoaaGreatEv.Told A := ⟨f a0 a1 a2 a3, fun r => SoundCall Pg C 177 (S a0 a1 a2 a3) 0 (v r) (o r), fun r h => soundCall_of_tree G mixed Q Tryz.func177 rfl (of_decide_eq_true (by kernel_rfl)) (by rfl) id st v o (fun _ => rfl) tree e (begin a0 a1 a2 a3) (b a0 a1 a2 a3) h⟩
end impl_ProgramOk_1
/-! #### slices.IndexFunc[[]loop.example/g00983/impl.Task,loop.example/g00983/impl.Task] (217) -/
namespace slices_IndexFunc_impl_Task_ProgramOk_1
def S (a0 : List S166) : List (PV U) := YtobfemcobakeoaaGreatEv.start C 19 [.sl 167 a0, .fn 177 []] []
inductive X where
 | c2 (x0 : List S166) (x1 x2 : Int)
def id : X → Nat
 | .c2 .. => 2
def st : X → List (PV U)
 | .c2 x0 x1 x2 => stOf 19 [(0, .sl 167 x0), (1, .fn 177 []), (7, .int .i64 x1), (8, .int .i64 x2)]
def begin (a0 : List S166) : Tr X A :=
 .jump (.c2 a0 (List.length a0 : Int) (0 : Int))
def tree : X → Tr X A
 | .c2 x0 x1 x2 =>
 .ite (decide (x2 < x1))
  (.need ((0 : Int) ≤ x2 ∧ x2 < (List.length x0 : Int)) (.call (impl_ProgramOk_1.told ((rdS166 x0 x2).f0) ((rdS166 x0 x2).f1.f0) ((rdS166 x0 x2).f1.f1) ((rdS166 x0 x2).f1.f2)) fun t1 => .ite t1
   (.ret x2)
   (.jump (.c2 x0 x1 (wr (x2 + (1 : Int)))))))
  (.ret ((-1 : Int)))
def f (a0 : List S166) : Option A := (begin a0).run (lp tree)
def Q : Plan C := { PL with cuts := [(2, [0, 1, 7, 8])], ords := [], weak := [] }
theorem e : CutEq Pg C Q Tryz.f217 0 id st v o tree := fun J K x => by cases x <;> kernel_rfl
theorem b (a0 : List S166) : BegEq Pg C Q Tryz.f217 0 id st v o (S a0) (begin a0) := fun J K => by kernel_rfl
def told (a0 : List S166) : YtobfemcobakeoaaGreatEv.Told A := ⟨f a0, fun r => SoundCall Pg C 217 (S a0) 0 (v r) (o r), fun r h => soundCall_of_tree G mixed Q Tryz.func217 rfl (of_decide_eq_true (by kernel_rfl)) (by rfl) id st v o (fun _ => rfl) tree e (begin a0) (b a0) h⟩
end slices_IndexFunc_impl_Task_ProgramOk_1
/-! #### slices.ContainsFunc[[]loop.example/g00983/impl.Task,loop.example/g00983/impl.Task] (176) -/
namespace slices_ContainsFunc_impl_Task_ProgramOk_1
def S (a0 : List S166) : List (PV U) := YtobfemcobakeoaaGreatEv.start C 9 [.sl 167 a0, .fn 177 []] []
abbrev X := Empty
def id : X → Nat := fun _ => 0
def st : X → List (PV U) := fun _ => []
def begin (a0 : List S166) : Tr X A :=
 .call (slices_IndexFunc_impl_Task_ProgramOk_1.told a0) fun t1 => .ret ((decide (t1 ≥ (0 : Int))))
def tree : X → Tr X A := fun _ => .fail
def f (a0 : List S166) : Option A := (begin a0).run (lp tree)
def Q : Plan C := { PL with cuts := [], ords := [], weak := [] }
theorem e : CutEq Pg C Q Tryz.f176 0 id st v o tree := fun J K x => by cases x
theorem b (a0 : List S166) : BegEq Pg C Q Tryz.f176 0 id st v o (S a0) (begin a0) := fun J K => by kernel_rfl
def told (a0 : List S166) : YtobfemcobakeoaaGreatEv.Told A := ⟨f a0, fun r => SoundCall Pg C 176 (S a0) 0 (v r) (o r), fun r h => soundCall_of_tree G mixed Q Tryz.func176 rfl (of_decide_eq_true (by kernel_rfl)) (by rfl) id st v o (fun _ => rfl) tree e (begin a0) (b a0) h⟩
end slices_ContainsFunc_impl_Task_ProgramOk_1
/-! #### loop.example/g00983/impl.ProgramOk (107) -/
namespace impl_ProgramOk
def S (a0 : List S166) : List (PV U) := YtobfemcobakeoaaGreatEv.start C 13 [.agg [.sl 167 a0]] []
abbrev X := Empty
def id : X → Nat := fun _ => 0
def st : X → List (PV U) := fun _ => []
def begin (a0 : List S166) : Tr X A :=
 .call (impl_within.told (List.length a0 : Int) (1 : Int) (6 : Int)) fun t1 => .ite t1
  (.call (slices_ContainsFunc_impl_Task_ProgramOk_1.told a0) fun t2 => .ret ((!t2)))
  (.ret false)
def tree : X → Tr X A := fun _ => .fail
def f (a0 : List S166) : Option A := (begin a0).run (lp tree)
def Q : Plan C := { PL with cuts := [], ords := [], weak := [] }
theorem e : CutEq Pg C Q Tryz.f107 0 id st v o tree := fun J K x => by cases x
theorem b (a0 : List S166) : BegEq Pg C Q Tryz.f107 0 id st v o (S a0) (begin a0) := fun J K => by kernel_rfl
def told (a0 : List S166) : YtobfemcobakeoaaGreatEv.Told A := ⟨f a0, fun r => SoundCall Pg C 107 (S a0) 0 (v r) (o r), fun r h => soundCall_of_tree G mixed Q Tryz.func107 rfl (of_decide_eq_true (by kernel_rfl)) (by rfl) id st v o (fun _ => rfl) tree e (begin a0) (b a0) h⟩
end impl_ProgramOk
/-! #### loop.example/g00983/impl.IsValue (110) -/
namespace impl_IsValue
def S (a0 : Int) : List (PV U) := YtobfemcobakeoaaGreatEv.start C 5 [.int .i64 a0] []
abbrev X := Empty
def id : X → Nat := fun _ => 0
def st : X → List (PV U) := fun _ => []
def begin (a0 : Int) : Tr X A :=
 .call (impl_within.told a0 (-1000000 : Int) (1000000 : Int)) fun t1 => .ret t1
def tree : X → Tr X A := fun _ => .fail
def f (a0 : Int) : Option A := (begin a0).run (lp tree)
def Q : Plan C := { PL with cuts := [], ords := [], weak := [] }
theorem e : CutEq Pg C Q Tryz.f110 0 id st v o tree := fun J K x => by cases x
theorem b (a0 : Int) : BegEq Pg C Q Tryz.f110 0 id st v o (S a0) (begin a0) := fun J K => by kernel_rfl
def told (a0 : Int) : YtobfemcobakeoaaGreatEv.Told A := ⟨f a0, fun r => SoundCall Pg C 110 (S a0) 0 (v r) (o r), fun r h => soundCall_of_tree G mixed Q Tryz.func110 rfl (of_decide_eq_true (by kernel_rfl)) (by rfl) id st v o (fun _ => rfl) tree e (begin a0) (b a0) h⟩
end impl_IsValue
/-! #### loop.example/g00983/impl.areValues$1 (179) -/
namespace impl_areValues_1
def S (a0 : Int) : List (PV U) := YtobfemcobakeoaaGreatEv.start C 6 [.int .i64 a0] []
abbrev X := Empty
def id : X → Nat := fun _ => 0
def st : X → List (PV U) := fun _ => []
def begin (a0 : Int) : Tr X A :=
 .call (impl_IsValue.told a0) fun t1 => .ret ((!t1))
def tree : X → Tr X A := fun _ => .fail
def f (a0 : Int) : Option A := (begin a0).run (lp tree)
def Q : Plan C := { PL with cuts := [], ords := [], weak := [] }
theorem e : CutEq Pg C Q Tryz.f179 0 id st v o tree := fun J K x => by cases x
theorem b (a0 : Int) : BegEq Pg C Q Tryz.f179 0 id st v o (S a0) (begin a0) := fun J K => by kernel_rfl
def told (a0 : Int) : YtobfemcobakeoaaGreatEv.Told A := ⟨f a0, fun r => SoundCall Pg C 179 (S a0) 0 (v r) (o r), fun r h => soundCall_of_tree G mixed Q Tryz.func179 rfl (of_decide_eq_true (by kernel_rfl)) (by rfl) id st v o (fun _ => rfl) tree e (begin a0) (b a0) h⟩
end impl_areValues_1
/-! #### slices.IndexFunc[[]int,int] (184) -/
namespace slices_IndexFunc_int_areValues_1
def S (a0 : List Int) : List (PV U) := YtobfemcobakeoaaGreatEv.start C 19 [.sl 3 a0, .fn 179 []] []
inductive X where
 | c2 (x0 : List Int) (x1 x2 : Int)
def id : X → Nat
 | .c2 .. => 2
def st : X → List (PV U)
 | .c2 x0 x1 x2 => stOf 19 [(0, .sl 3 x0), (1, .fn 179 []), (7, .int .i64 x1), (8, .int .i64 x2)]
def begin (a0 : List Int) : Tr X A :=
 .jump (.c2 a0 (List.length a0 : Int) (0 : Int))
def tree : X → Tr X A
 | .c2 x0 x1 x2 =>
 .ite (decide (x2 < x1))
  (.need ((0 : Int) ≤ x2 ∧ x2 < (List.length x0 : Int)) (.call (impl_areValues_1.told (rdI x0 x2)) fun t1 => .ite t1
   (.ret x2)
   (.jump (.c2 x0 x1 (wr (x2 + (1 : Int)))))))
  (.ret ((-1 : Int)))
def f (a0 : List Int) : Option A := (begin a0).run (lp tree)
def Q : Plan C := { PL with cuts := [(2, [0, 1, 7, 8])], ords := [], weak := [] }
theorem e : CutEq Pg C Q Tryz.f184 0 id st v o tree := fun J K x => by cases x <;> kernel_rfl
theorem b (a0 : List Int) : BegEq Pg C Q Tryz.f184 0 id st v o (S a0) (begin a0) := fun J K => by kernel_rfl
def told (a0 : List Int) : YtobfemcobakeoaaGreatEv.Told A := ⟨f a0, fun r => SoundCall Pg C 184 (S a0) 0 (v r) (o r), fun r h => soundCall_of_tree G mixed Q Tryz.func184 rfl (of_decide_eq_true (by kernel_rfl)) (by rfl) id st v o (fun _ => rfl) tree e (begin a0) (b a0) h⟩
end slices_IndexFunc_int_areValues_1
/-! #### slices.ContainsFunc[[]int,int] (124) -/
namespace slices_ContainsFunc_int_areValues_1
def S (a0 : List Int) : List (PV U) := YtobfemcobakeoaaGreatEv.start C 9 [.sl 3 a0, .fn 179 []] []
abbrev X := Empty
def id : X → Nat := fun _ => 0
def st : X → List (PV U) := fun _ => []
def begin (a0 : List Int) : Tr X A :=
 .call (slices_IndexFunc_int_areValues_1.told a0) fun t1 => .ret ((decide (t1 ≥ (0 : Int))))
def tree : X → Tr X A := fun _ => .fail
def f (a0 : List Int) : Option A := (begin a0).run (lp tree)
def Q : Plan C := { PL with cuts := [], ords := [], weak := [] }
theorem e : CutEq Pg C Q Tryz.f124 0 id st v o tree := fun J K x => by cases x
theorem b (a0 : List Int) : BegEq Pg C Q Tryz.f124 0 id st v o (S a0) (begin a0) := fun J K => by kernel_rfl
def told (a0 : List Int) : YtobfemcobakeoaaGreatEv.Told A := ⟨f a0, fun r => SoundCall Pg C 124 (S a0) 0 (v r) (o r), fun r h => soundCall_of_tree G mixed Q Tryz.func124 rfl (of_decide_eq_true (by kernel_rfl)) (by rfl) id st v o (fun _ => rfl) tree e (begin a0) (b a0) h⟩
end slices_ContainsFunc_int_areValues_1
/-! #### loop.example/g00983/impl.areValues (108) -/
namespace impl_areValues
def S (a0 : List Int) : List (PV U) := YtobfemcobakeoaaGreatEv.start C 6 [.sl 3 a0] []
abbrev X := Empty
def id : X → Nat := fun _ => 0
def st : X → List (PV U) := fun _ => []
def begin (a0 : List Int) : Tr X A :=
 .call (slices_ContainsFunc_int_areValues_1.told a0) fun t1 => .ret ((!t1))
def tree : X → Tr X A := fun _ => .fail
def f (a0 : List Int) : Option A := (begin a0).run (lp tree)
def Q : Plan C := { PL with cuts := [], ords := [], weak := [] }
theorem e : CutEq Pg C Q Tryz.f108 0 id st v o tree := fun J K x => by cases x
theorem b (a0 : List Int) : BegEq Pg C Q Tryz.f108 0 id st v o (S a0) (begin a0) := fun J K => by kernel_rfl
def told (a0 : List Int) : YtobfemcobakeoaaGreatEv.Told A := ⟨f a0, fun r => SoundCall Pg C 108 (S a0) 0 (v r) (o r), fun r h => soundCall_of_tree G mixed Q Tryz.func108 rfl (of_decide_eq_true (by kernel_rfl)) (by rfl) id st v o (fun _ => rfl) tree e (begin a0) (b a0) h⟩
end impl_areValues
/-! #### loop.example/g00983/impl.PackControl (78) -/
namespace impl_PackControl
def S (a0 a1 a2 : Int) : List (PV U) := YtobfemcobakeoaaGreatEv.start C 27 [.int .i64 a0, .int .i64 a1, .int .i64 a2] []
abbrev X := Empty
def id : X → Nat := fun _ => 0
def st : X → List (PV U) := fun _ => []
def begin (a0 a1 a2 : Int) : Tr X A :=
 .call (impl_within.told a0 (0 : Int) (5 : Int)) fun t1 => .ite (!t1)
  (.ret ((-1 : Int)))
  (.call (impl_within.told a1 (0 : Int) (8 : Int)) fun t2 => .ite (!t2)
   (.ret ((-1 : Int)))
   (.call (impl_within.told a2 (0 : Int) (24 : Int)) fun t3 => .ite (!t3)
    (.ret ((-1 : Int)))
    (.ret ((wr (a0 + (wr ((8 : Int) * (wr (a1 + (wr ((16 : Int) * a2))))))))))))
def tree : X → Tr X A := fun _ => .fail
def f (a0 a1 a2 : Int) : Option A := (begin a0 a1 a2).run (lp tree)
def Q : Plan C := { PL with cuts := [], ords := [], weak := [] }
theorem e : CutEq Pg C Q Tryz.f78 0 id st v o tree := fun J K x => by cases x
theorem b (a0 a1 a2 : Int) : BegEq Pg C Q Tryz.f78 0 id st v o (S a0 a1 a2) (begin a0 a1 a2) := fun J K => by kernel_rfl
def told (a0 a1 a2 : Int) : YtobfemcobakeoaaGreatEv.Told A := ⟨f a0 a1 a2, fun r => SoundCall Pg C 78 (S a0 a1 a2) 0 (v r) (o r), fun r h => soundCall_of_tree G mixed Q Tryz.func78 rfl (of_decide_eq_true (by kernel_rfl)) (by rfl) id st v o (fun _ => rfl) tree e (begin a0 a1 a2) (b a0 a1 a2) h⟩
end impl_PackControl
/-! #### loop.example/g00983/impl.UnpackControl (77) -/
namespace impl_UnpackControl
def S (a0 : Int) : List (PV U) := YtobfemcobakeoaaGreatEv.start C 28 [.int .i64 a0] []
abbrev X := Empty
def id : X → Nat := fun _ => 0
def st : X → List (PV U) := fun _ => []
def begin (a0 : Int) : Tr X A :=
 .need ((8 : Int) ≠ 0) (.need ((8 : Int) ≠ 0) (.need ((16 : Int) ≠ 0) (.need ((128 : Int) ≠ 0) (.ite (decide (a0 < (0 : Int)))
  (.ret ((-1 : Int), (-1 : Int), (-1 : Int)))
  (.call (impl_PackControl.told (Int.tmod a0 (8 : Int)) (Int.tmod (wr (Int.tdiv a0 (8 : Int))) (16 : Int)) (wr (Int.tdiv a0 (128 : Int)))) fun t1 => .ite (!decide (t1 = a0))
   (.ret ((-1 : Int), (-1 : Int), (-1 : Int)))
   (.ret ((Int.tmod a0 (8 : Int)), (Int.tmod (wr (Int.tdiv a0 (8 : Int))) (16 : Int)), (wr (Int.tdiv a0 (128 : Int))))))))))
def tree : X → Tr X A := fun _ => .fail
def f (a0 : Int) : Option A := (begin a0).run (lp tree)
def Q : Plan C := { PL with cuts := [], ords := [], weak := [] }
theorem e : CutEq Pg C Q Tryz.f77 0 id st v o tree := fun J K x => by cases x
theorem b (a0 : Int) : BegEq Pg C Q Tryz.f77 0 id st v o (S a0) (begin a0) := fun J K => by kernel_rfl
def told (a0 : Int) : YtobfemcobakeoaaGreatEv.Told A := ⟨f a0, fun r => SoundCall Pg C 77 (S a0) 0 (v r) (o r), fun r h => soundCall_of_tree G mixed Q Tryz.func77 rfl (of_decide_eq_true (by kernel_rfl)) (by rfl) id st v o (fun _ => rfl) tree e (begin a0) (b a0) h⟩
end impl_UnpackControl
/-! #### loop.example/g00983/impl.MemOk (41) -/
namespace impl_MemOk
def S (a0 : List S166) (a1 : List Int) : List (PV U) := YtobfemcobakeoaaGreatEv.start C 72 [.agg [.sl 167 a0], .sl 3 a1] []
inductive X where
 | c7 (x0 : List Int) (x1 x2 : Int)
def id : X → Nat
 | .c7 .. => 7
def st : X → List (PV U)
 | .c7 x0 x1 x2 => stOf 72 [(1, .sl 3 x0), (48, .int .i64 x1), (49, .int .i64 x2)]
def begin (a0 : List S166) (a1 : List Int) : Tr X A :=
 .call (impl_ProgramOk.told a0) fun t1 => .ite (!t1)
  (.ret false)
  (.ite (!decide ((List.length a1 : Int) = (49 : Int)))
   (.ret false)
   (.need ((0 : Int) ≤ (0 : Int) ∧ (0 : Int) ≤ (8 : Int) ∧ (8 : Int) ≤ (List.length a1 : Int)) (.call (impl_areValues.told (List.take (Int.toNat (8 : Int)) a1)) fun t2 => .ite (!t2)
    (.ret false)
    (.need ((0 : Int) ≤ (8 : Int) ∧ (8 : Int) < (List.length a1 : Int)) (.call (impl_UnpackControl.told (rdI a1 (8 : Int))) fun t3 => .ite (decide (t3.1 < (0 : Int)))
     (.ret false)
     (.ite (decide (t3.1 ≥ (List.length a0 : Int)))
      (.ret false)
      (.need ((0 : Int) ≤ (25 : Int) ∧ (25 : Int) ≤ (wr ((25 : Int) + t3.2.2)) ∧ (wr ((25 : Int) + t3.2.2)) ≤ (List.length a1 : Int)) (.call (impl_areValues.told (List.drop (Int.toNat (25 : Int)) (List.take (Int.toNat (wr ((25 : Int) + t3.2.2))) a1))) fun t4 => .ite (!t4)
       (.ret false)
       (.jump (.c7 a1 t3.2.1 (0 : Int)))))))))))
def tree : X → Tr X A
 | .c7 x0 x1 x2 =>
 .ite (decide (x2 < x1))
  (.need ((0 : Int) ≤ (wr ((9 : Int) + (wr ((2 : Int) * x2)))) ∧ (wr ((9 : Int) + (wr ((2 : Int) * x2)))) < (List.length x0 : Int)) (.call (impl_isVar.told (rdI x0 (wr ((9 : Int) + (wr ((2 : Int) * x2)))))) fun t5 => .ite (!t5)
   (.ret false)
   (.need ((0 : Int) ≤ (wr ((wr ((9 : Int) + (wr ((2 : Int) * x2)))) + (1 : Int))) ∧ (wr ((wr ((9 : Int) + (wr ((2 : Int) * x2)))) + (1 : Int))) < (List.length x0 : Int)) (.call (impl_IsValue.told (rdI x0 (wr ((wr ((9 : Int) + (wr ((2 : Int) * x2)))) + (1 : Int))))) fun t6 => .ite (!t6)
    (.ret false)
    (.jump (.c7 x0 x1 (wr (x2 + (1 : Int)))))))))
  (.ret true)
def f (a0 : List S166) (a1 : List Int) : Option A := (begin a0 a1).run (lp tree)
def Q : Plan C := { PL with cuts := [(7, [1, 48, 49])], ords := [], weak := [] }
theorem e : CutEq Pg C Q Tryz.f41 0 id st v o tree := fun J K x => by cases x <;> kernel_rfl
theorem b (a0 : List S166) (a1 : List Int) : BegEq Pg C Q Tryz.f41 0 id st v o (S a0 a1) (begin a0 a1) := fun J K => by kernel_rfl
def told (a0 : List S166) (a1 : List Int) : YtobfemcobakeoaaGreatEv.Told A := ⟨f a0 a1, fun r => SoundCall Pg C 41 (S a0 a1) 0 (v r) (o r), fun r h => soundCall_of_tree G mixed Q Tryz.func41 rfl (of_decide_eq_true (by kernel_rfl)) (by rfl) id st v o (fun _ => rfl) tree e (begin a0 a1) (b a0 a1) h⟩
end impl_MemOk
/-! #### loop.example/g00983/impl.RulesOk$1 (149) -/
namespace impl_RulesOk_1
def S (a0 a1 a2 : Int) : List (PV U) := YtobfemcobakeoaaGreatEv.start C 6 [.agg [.int .i64 a0, .int .i64 a1, .int .i64 a2]] []
abbrev X := Empty
def id : X → Nat := fun _ => 0
def st : X → List (PV U) := fun _ => []
def begin (a0 a1 a2 : Int) : Tr X A :=
 .call (impl_ExprOk.told a0 a1 a2) fun t1 => .ret ((!t1))
def tree : X → Tr X A := fun _ => .fail
def f (a0 a1 a2 : Int) : Option A := (begin a0 a1 a2).run (lp tree)
def Q : Plan C := { PL with cuts := [], ords := [], weak := [] }
theorem e : CutEq Pg C Q Tryz.f149 0 id st v o tree := fun J K x => by cases x
theorem b (a0 a1 a2 : Int) : BegEq Pg C Q Tryz.f149 0 id st v o (S a0 a1 a2) (begin a0 a1 a2) := fun J K => by kernel_rfl
def told (a0 a1 a2 : Int) : YtobfemcobakeoaaGreatEv.Told A := ⟨f a0 a1 a2, fun r => SoundCall Pg C 149 (S a0 a1 a2) 0 (v r) (o r), fun r h => soundCall_of_tree G mixed Q Tryz.func149 rfl (of_decide_eq_true (by kernel_rfl)) (by rfl) id st v o (fun _ => rfl) tree e (begin a0 a1 a2) (b a0 a1 a2) h⟩
end impl_RulesOk_1
/-! #### slices.IndexFunc[[]loop.example/g00983/impl.Expr,loop.example/g00983/impl.Expr] (204) -/
namespace slices_IndexFunc_impl_Expr_RulesOk_1
def S (a0 : List S153) : List (PV U) := YtobfemcobakeoaaGreatEv.start C 19 [.sl 154 a0, .fn 149 []] []
inductive X where
 | c2 (x0 : List S153) (x1 x2 : Int)
def id : X → Nat
 | .c2 .. => 2
def st : X → List (PV U)
 | .c2 x0 x1 x2 => stOf 19 [(0, .sl 154 x0), (1, .fn 149 []), (7, .int .i64 x1), (8, .int .i64 x2)]
def begin (a0 : List S153) : Tr X A :=
 .jump (.c2 a0 (List.length a0 : Int) (0 : Int))
def tree : X → Tr X A
 | .c2 x0 x1 x2 =>
 .ite (decide (x2 < x1))
  (.need ((0 : Int) ≤ x2 ∧ x2 < (List.length x0 : Int)) (.call (impl_RulesOk_1.told ((rdS153 x0 x2).f0) ((rdS153 x0 x2).f1) ((rdS153 x0 x2).f2)) fun t1 => .ite t1
   (.ret x2)
   (.jump (.c2 x0 x1 (wr (x2 + (1 : Int)))))))
  (.ret ((-1 : Int)))
def f (a0 : List S153) : Option A := (begin a0).run (lp tree)
def Q : Plan C := { PL with cuts := [(2, [0, 1, 7, 8])], ords := [], weak := [] }
theorem e : CutEq Pg C Q Tryz.f204 0 id st v o tree := fun J K x => by cases x <;> kernel_rfl
theorem b (a0 : List S153) : BegEq Pg C Q Tryz.f204 0 id st v o (S a0) (begin a0) := fun J K => by kernel_rfl
def told (a0 : List S153) : YtobfemcobakeoaaGreatEv.Told A := ⟨f a0, fun r => SoundCall Pg C 204 (S a0) 0 (v r) (o r), fun r h => soundCall_of_tree G mixed Q Tryz.func204 rfl (of_decide_eq_true (by kernel_rfl)) (by rfl) id st v o (fun _ => rfl) tree e (begin a0) (b a0) h⟩
end slices_IndexFunc_impl_Expr_RulesOk_1
/-! #### slices.ContainsFunc[[]loop.example/g00983/impl.Expr,loop.example/g00983/impl.Expr] (148) -/
namespace slices_ContainsFunc_impl_Expr_RulesOk_1
def S (a0 : List S153) : List (PV U) := YtobfemcobakeoaaGreatEv.start C 9 [.sl 154 a0, .fn 149 []] []
abbrev X := Empty
def id : X → Nat := fun _ => 0
def st : X → List (PV U) := fun _ => []
def begin (a0 : List S153) : Tr X A :=
 .call (slices_IndexFunc_impl_Expr_RulesOk_1.told a0) fun t1 => .ret ((decide (t1 ≥ (0 : Int))))
def tree : X → Tr X A := fun _ => .fail
def f (a0 : List S153) : Option A := (begin a0).run (lp tree)
def Q : Plan C := { PL with cuts := [], ords := [], weak := [] }
theorem e : CutEq Pg C Q Tryz.f148 0 id st v o tree := fun J K x => by cases x
theorem b (a0 : List S153) : BegEq Pg C Q Tryz.f148 0 id st v o (S a0) (begin a0) := fun J K => by kernel_rfl
def told (a0 : List S153) : YtobfemcobakeoaaGreatEv.Told A := ⟨f a0, fun r => SoundCall Pg C 148 (S a0) 0 (v r) (o r), fun r h => soundCall_of_tree G mixed Q Tryz.func148 rfl (of_decide_eq_true (by kernel_rfl)) (by rfl) id st v o (fun _ => rfl) tree e (begin a0) (b a0) h⟩
end slices_ContainsFunc_impl_Expr_RulesOk_1
/-! #### loop.example/g00983/impl.RulesOk (76) -/
namespace impl_RulesOk
def S (a0 : List S153) : List (PV U) := YtobfemcobakeoaaGreatEv.start C 13 [.agg [.sl 154 a0]] []
abbrev X := Empty
def id : X → Nat := fun _ => 0
def st : X → List (PV U) := fun _ => []
def begin (a0 : List S153) : Tr X A :=
 .ite (decide ((List.length a0 : Int) = (8 : Int)))
  (.call (slices_ContainsFunc_impl_Expr_RulesOk_1.told a0) fun t1 => .ret ((!t1)))
  (.ret false)
def tree : X → Tr X A := fun _ => .fail
def f (a0 : List S153) : Option A := (begin a0).run (lp tree)
def Q : Plan C := { PL with cuts := [], ords := [], weak := [] }
theorem e : CutEq Pg C Q Tryz.f76 0 id st v o tree := fun J K x => by cases x
theorem b (a0 : List S153) : BegEq Pg C Q Tryz.f76 0 id st v o (S a0) (begin a0) := fun J K => by kernel_rfl
def told (a0 : List S153) : YtobfemcobakeoaaGreatEv.Told A := ⟨f a0, fun r => SoundCall Pg C 76 (S a0) 0 (v r) (o r), fun r h => soundCall_of_tree G mixed Q Tryz.func76 rfl (of_decide_eq_true (by kernel_rfl)) (by rfl) id st v o (fun _ => rfl) tree e (begin a0) (b a0) h⟩
end impl_RulesOk
/-! #### loop.example/g00983/impl.RecoveryWrites (129) -/
namespace impl_RecoveryWrites
def S (a0 : List Int) : List (PV U) := YtobfemcobakeoaaGreatEv.start C 57 [.sl 3 a0] []
inductive X where
 | c8 (x0 : List Int) (x1 x2 : Int) (x3 : List S205) (x4 : Int)
def id : X → Nat
 | .c8 .. => 8
def st : X → List (PV U)
 | .c8 x0 x1 x2 x3 x4 => stOf 57 [(0, .sl 3 x0), (3, .int .i64 x1), (5, .int .i64 x2), (6, .own true 206 x3), (7, .int .i64 x4)]
def begin (a0 : List Int) : Tr X A :=
 .ite (!decide ((List.length a0 : Int) = (49 : Int)))
  (.ret (([] : List S205)))
  (.need ((0 : Int) ≤ (8 : Int) ∧ (8 : Int) < (List.length a0 : Int)) (.call (impl_UnpackControl.told (rdI a0 (8 : Int))) fun t1 => .ite (decide (t1.2.1 < (1 : Int)))
   (.ret (([] : List S205)))
   (.jump (.c8 a0 t1.1 t1.2.2 ([] : List S205) (wr (t1.2.1 - (1 : Int)))))))
def tree : X → Tr X A
 | .c8 x0 x1 x2 x3 x4 =>
 .ite (decide (x4 ≥ (0 : Int)))
  (.need ((0 : Int) ≤ (wr ((9 : Int) + (wr ((2 : Int) * x4)))) ∧ (wr ((9 : Int) + (wr ((2 : Int) * x4)))) < (List.length x0 : Int)) (.call (impl_isVar.told (rdI x0 (wr ((9 : Int) + (wr ((2 : Int) * x4)))))) fun t2 => .ite (!t2)
   (.ret (([] : List S205)))
   (.need ((0 : Int) ≤ (wr ((wr ((9 : Int) + (wr ((2 : Int) * x4)))) + (1 : Int))) ∧ (wr ((wr ((9 : Int) + (wr ((2 : Int) * x4)))) + (1 : Int))) < (List.length x0 : Int)) (.val ([(⟨(rdI x0 (wr ((9 : Int) + (wr ((2 : Int) * x4))))), (rdI x0 (wr ((wr ((9 : Int) + (wr ((2 : Int) * x4)))) + (1 : Int))))⟩ : S205)] : List S205) fun v3 => .need (((List.length x3 : Int) + (List.length v3 : Int)) * (16 : Nat) ≤ room) (.jump (.c8 x0 x1 x2 (x3 ++ v3) (wr (x4 - (1 : Int)))))))))
  (.call (impl_PackControl.told x1 (0 : Int) x2) fun t4 => .need (((List.length x3 : Int) + (List.length ([(⟨(8 : Int), t4⟩ : S205)]) : Int)) * (16 : Nat) ≤ room) (.ret ((x3 ++ [(⟨(8 : Int), t4⟩ : S205)]))))
def f (a0 : List Int) : Option A := (begin a0).run (lp tree)
def Q : Plan C := { PL with cuts := [(8, [0, 3, 5, 6, 7])], ords := [], weak := [] }
theorem e : CutEq Pg C Q Tryz.f129 0 id st v o tree := fun J K x => by cases x <;> kernel_rfl
theorem b (a0 : List Int) : BegEq Pg C Q Tryz.f129 0 id st v o (S a0) (begin a0) := fun J K => by kernel_rfl
def told (a0 : List Int) : YtobfemcobakeoaaGreatEv.Told A := ⟨f a0, fun r => SoundCall Pg C 129 (S a0) 0 (v r) (o r), fun r h => soundCall_of_tree G mixed Q Tryz.func129 rfl (of_decide_eq_true (by kernel_rfl)) (by rfl) id st v o (fun _ => rfl) tree e (begin a0) (b a0) h⟩
end impl_RecoveryWrites
/-! #### slices.Clone[[]int,int] (112) -/
namespace slices_Clone_int
def S (a0 : List Int) : List (PV U) := YtobfemcobakeoaaGreatEv.start C 8 [.sl 3 a0] []
abbrev X := Empty
def id : X → Nat := fun _ => 0
def st : X → List (PV U) := fun _ => []
def begin (a0 : List Int) : Tr X A :=
 .nilq a0
  (.ret (([] : List Int)))
  (.need (((List.length ([] : List Int) : Int) + (List.length a0 : Int)) * (8 : Nat) ≤ room) (.ret ((([] : List Int) ++ a0))))
def tree : X → Tr X A := fun _ => .fail
def f (a0 : List Int) : Option A := (begin a0).run (lp tree)
def Q : Plan C := { PL with cuts := [], ords := [], weak := [] }
theorem e : CutEq Pg C Q Tryz.f112 0 id st v o tree := fun J K x => by cases x
theorem b (a0 : List Int) : BegEq Pg C Q Tryz.f112 0 id st v o (S a0) (begin a0) := fun J K => by kernel_rfl
def told (a0 : List Int) : YtobfemcobakeoaaGreatEv.Told A := ⟨f a0, fun r => SoundCall Pg C 112 (S a0) 0 (v r) (o r), fun r h => soundCall_of_tree G mixed Q Tryz.func112 rfl (of_decide_eq_true (by kernel_rfl)) (by rfl) id st v o (fun _ => rfl) tree e (begin a0) (b a0) h⟩
end slices_Clone_int
/-! #### loop.example/g00983/impl.Clamp (182) -/
namespace impl_Clamp
def S (a0 a1 a2 : Int) : List (PV U) := YtobfemcobakeoaaGreatEv.start C 16 [.int .i64 a0, .int .i64 a1, .int .i64 a2] []
abbrev X := Empty
def id : X → Nat := fun _ => 0
def st : X → List (PV U) := fun _ => []
def begin (a0 a1 a2 : Int) : Tr X A :=
 .ite (decide (a2 < a1))
  (.ret a1)
  (.ret ((if a2 < (if a1 > a0 then a1 else a0) then a2 else (if a1 > a0 then a1 else a0))))
def tree : X → Tr X A := fun _ => .fail
def f (a0 a1 a2 : Int) : Option A := (begin a0 a1 a2).run (lp tree)
def Q : Plan C := { PL with cuts := [], ords := [], weak := [] }
theorem e : CutEq Pg C Q Tryz.f182 0 id st v o tree := fun J K x => by cases x
theorem b (a0 a1 a2 : Int) : BegEq Pg C Q Tryz.f182 0 id st v o (S a0 a1 a2) (begin a0 a1 a2) := fun J K => by kernel_rfl
def told (a0 a1 a2 : Int) : YtobfemcobakeoaaGreatEv.Told A := ⟨f a0 a1 a2, fun r => SoundCall Pg C 182 (S a0 a1 a2) 0 (v r) (o r), fun r h => soundCall_of_tree G mixed Q Tryz.func182 rfl (of_decide_eq_true (by kernel_rfl)) (by rfl) id st v o (fun _ => rfl) tree e (begin a0 a1 a2) (b a0 a1 a2) h⟩
end impl_Clamp
/-! #### loop.example/g00983/impl.ApplyWrites (130) -/
namespace impl_ApplyWrites
def S (a0 : List Int) (a1 : List S205) (a2 : Int) : List (PV U) := YtobfemcobakeoaaGreatEv.start C 37 [.sl 3 a0, .sl 206 a1, .int .i64 a2] []
inductive X where
 | c3 (x0 : List Int) (x1 : List S205) (x2 x3 : Int)
def id : X → Nat
 | .c3 .. => 3
def st : X → List (PV U)
 | .c3 x0 x1 x2 x3 => stOf 37 [(7, .own true 3 x0), (17, .sl 206 x1), (18, .int .i64 x2), (19, .int .i64 x3)]
def begin (a0 : List Int) (a1 : List S205) (a2 : Int) : Tr X A :=
 .call (slices_Clone_int.told a0) fun t1 => .call (impl_Clamp.told a2 (0 : Int) (List.length a1 : Int)) fun t2 => .need ((0 : Int) ≤ (0 : Int) ∧ (0 : Int) ≤ t2 ∧ t2 ≤ (List.length a1 : Int)) (.jump (.c3 t1 (List.take (Int.toNat t2) a1) (List.length (List.take (Int.toNat t2) a1) : Int) (0 : Int)))
def tree : X → Tr X A
 | .c3 x0 x1 x2 x3 =>
 .ite (decide (x3 < x2))
  (.need ((0 : Int) ≤ x3 ∧ x3 < (List.length x1 : Int)) (.call (impl_within.told ((rdS205 x1 x3).f0) (0 : Int) (wr ((List.length x0 : Int) - (1 : Int)))) fun t3 => .ite t3
   (.need ((0 : Int) ≤ (rdS205 x1 x3).f0 ∧ (rdS205 x1 x3).f0 < (List.length x0 : Int)) (.jump (.c3 (List.set x0 (Int.toNat ((rdS205 x1 x3).f0)) ((rdS205 x1 x3).f1)) x1 x2 (wr (x3 + (1 : Int))))))
   (.jump (.c3 x0 x1 x2 (wr (x3 + (1 : Int)))))))
  (.ret x0)
def f (a0 : List Int) (a1 : List S205) (a2 : Int) : Option A := (begin a0 a1 a2).run (lp tree)
def Q : Plan C := { PL with cuts := [(3, [7, 17, 18, 19])], ords := [], weak := [] }
theorem e : CutEq Pg C Q Tryz.f130 0 id st v o tree := fun J K x => by cases x <;> kernel_rfl
theorem b (a0 : List Int) (a1 : List S205) (a2 : Int) : BegEq Pg C Q Tryz.f130 0 id st v o (S a0 a1 a2) (begin a0 a1 a2) := fun J K => by kernel_rfl
def told (a0 : List Int) (a1 : List S205) (a2 : Int) : YtobfemcobakeoaaGreatEv.Told A := ⟨f a0 a1 a2, fun r => SoundCall Pg C 130 (S a0 a1 a2) 0 (v r) (o r), fun r h => soundCall_of_tree G mixed Q Tryz.func130 rfl (of_decide_eq_true (by kernel_rfl)) (by rfl) id st v o (fun _ => rfl) tree e (begin a0 a1 a2) (b a0 a1 a2) h⟩
end impl_ApplyWrites
/-! #### loop.example/g00983/impl.Recovered (58) -/
namespace impl_Recovered
def S (a0 : List Int) : List (PV U) := YtobfemcobakeoaaGreatEv.start C 11 [.sl 3 a0] []
abbrev X := Empty
def id : X → Nat := fun _ => 0
def st : X → List (PV U) := fun _ => []
def begin (a0 : List Int) : Tr X A :=
 .call (impl_RecoveryWrites.told a0) fun t1 => .call (impl_ApplyWrites.told a0 t1 (List.length t1 : Int)) fun t2 => .ret t2
def tree : X → Tr X A := fun _ => .fail
def f (a0 : List Int) : Option A := (begin a0).run (lp tree)
def Q : Plan C := { PL with cuts := [], ords := [], weak := [] }
theorem e : CutEq Pg C Q Tryz.f58 0 id st v o tree := fun J K x => by cases x
theorem b (a0 : List Int) : BegEq Pg C Q Tryz.f58 0 id st v o (S a0) (begin a0) := fun J K => by kernel_rfl
def told (a0 : List Int) : YtobfemcobakeoaaGreatEv.Told A := ⟨f a0, fun r => SoundCall Pg C 58 (S a0) 0 (v r) (o r), fun r h => soundCall_of_tree G mixed Q Tryz.func58 rfl (of_decide_eq_true (by kernel_rfl)) (by rfl) id st v o (fun _ => rfl) tree e (begin a0) (b a0) h⟩
end impl_Recovered
/-! #### loop.example/g00983/impl.MemVars (57) -/
namespace impl_MemVars
def S (a0 : List Int) : List (PV U) := YtobfemcobakeoaaGreatEv.start C 9 [.sl 3 a0] []
abbrev X := Empty
def id : X → Nat := fun _ => 0
def st : X → List (PV U) := fun _ => []
def begin (a0 : List Int) : Tr X A :=
 .ite (!decide ((List.length a0 : Int) = (49 : Int)))
  (.ret (([] : List Int)))
  (.need ((0 : Int) ≤ (0 : Int) ∧ (0 : Int) ≤ (8 : Int) ∧ (8 : Int) ≤ (List.length a0 : Int)) (.call (slices_Clone_int.told (List.take (Int.toNat (8 : Int)) a0)) fun t1 => .ret t1))
def tree : X → Tr X A := fun _ => .fail
def f (a0 : List Int) : Option A := (begin a0).run (lp tree)
def Q : Plan C := { PL with cuts := [], ords := [], weak := [] }
theorem e : CutEq Pg C Q Tryz.f57 0 id st v o tree := fun J K x => by cases x
theorem b (a0 : List Int) : BegEq Pg C Q Tryz.f57 0 id st v o (S a0) (begin a0) := fun J K => by kernel_rfl
def told (a0 : List Int) : YtobfemcobakeoaaGreatEv.Told A := ⟨f a0, fun r => SoundCall Pg C 57 (S a0) 0 (v r) (o r), fun r h => soundCall_of_tree G mixed Q Tryz.func57 rfl (of_decide_eq_true (by kernel_rfl)) (by rfl) id st v o (fun _ => rfl) tree e (begin a0) (b a0) h⟩
end impl_MemVars
/-! #### loop.example/g00983/impl.VarsOk (127) -/
namespace impl_VarsOk
def S (a0 : List Int) : List (PV U) := YtobfemcobakeoaaGreatEv.start C 10 [.sl 3 a0] []
abbrev X := Empty
def id : X → Nat := fun _ => 0
def st : X → List (PV U) := fun _ => []
def begin (a0 : List Int) : Tr X A :=
 .ite (decide ((List.length a0 : Int) = (8 : Int)))
  (.call (impl_areValues.told a0) fun t1 => .ret t1)
  (.ret false)
def tree : X → Tr X A := fun _ => .fail
def f (a0 : List Int) : Option A := (begin a0).run (lp tree)
def Q : Plan C := { PL with cuts := [], ords := [], weak := [] }
theorem e : CutEq Pg C Q Tryz.f127 0 id st v o tree := fun J K x => by cases x
theorem b (a0 : List Int) : BegEq Pg C Q Tryz.f127 0 id st v o (S a0) (begin a0) := fun J K => by kernel_rfl
def told (a0 : List Int) : YtobfemcobakeoaaGreatEv.Told A := ⟨f a0, fun r => SoundCall Pg C 127 (S a0) 0 (v r) (o r), fun r h => soundCall_of_tree G mixed Q Tryz.func127 rfl (of_decide_eq_true (by kernel_rfl)) (by rfl) id st v o (fun _ => rfl) tree e (begin a0) (b a0) h⟩
end impl_VarsOk
/-! #### loop.example/g00983/impl.operand (186) -/
namespace impl_operand
def S (a0 : List Int) (a1 : Int) : List (PV U) := YtobfemcobakeoaaGreatEv.start C 13 [.sl 3 a0, .int .i64 a1] []
abbrev X := Empty
def id : X → Nat := fun _ => 0
def st : X → List (PV U) := fun _ => []
def begin (a0 : List Int) (a1 : Int) : Tr X A :=
 .ite (decide (a1 < (0 : Int)))
  (.need ((0 : Int) ≤ (wr ((-1 : Int) - a1)) ∧ (wr ((-1 : Int) - a1)) < (List.length a0 : Int)) (.ret ((rdI a0 (wr ((-1 : Int) - a1))))))
  (.ret a1)
def tree : X → Tr X A := fun _ => .fail
def f (a0 : List Int) (a1 : Int) : Option A := (begin a0 a1).run (lp tree)
def Q : Plan C := { PL with cuts := [], ords := [], weak := [] }
theorem e : CutEq Pg C Q Tryz.f186 0 id st v o tree := fun J K x => by cases x
theorem b (a0 : List Int) (a1 : Int) : BegEq Pg C Q Tryz.f186 0 id st v o (S a0 a1) (begin a0 a1) := fun J K => by kernel_rfl
def told (a0 : List Int) (a1 : Int) : YtobfemcobakeoaaGreatEv.Told A := ⟨f a0 a1, fun r => SoundCall Pg C 186 (S a0 a1) 0 (v r) (o r), fun r h => soundCall_of_tree G mixed Q Tryz.func186 rfl (of_decide_eq_true (by kernel_rfl)) (by rfl) id st v o (fun _ => rfl) tree e (begin a0 a1) (b a0 a1) h⟩
end impl_operand
/-! #### loop.example/g00983/impl.Saturate (220) -/
namespace impl_Saturate
def S (a0 : Int) : List (PV U) := YtobfemcobakeoaaGreatEv.start C 5 [.int .i64 a0] []
abbrev X := Empty
def id : X → Nat := fun _ => 0
def st : X → List (PV U) := fun _ => []
def begin (a0 : Int) : Tr X A :=
 .call (impl_Clamp.told a0 (-1000000 : Int) (1000000 : Int)) fun t1 => .ret t1
def tree : X → Tr X A := fun _ => .fail
def f (a0 : Int) : Option A := (begin a0).run (lp tree)
def Q : Plan C := { PL with cuts := [], ords := [], weak := [] }
theorem e : CutEq Pg C Q Tryz.f220 0 id st v o tree := fun J K x => by cases x
theorem b (a0 : Int) : BegEq Pg C Q Tryz.f220 0 id st v o (S a0) (begin a0) := fun J K => by kernel_rfl
def told (a0 : Int) : YtobfemcobakeoaaGreatEv.Told A := ⟨f a0, fun r => SoundCall Pg C 220 (S a0) 0 (v r) (o r), fun r h => soundCall_of_tree G mixed Q Tryz.func220 rfl (of_decide_eq_true (by kernel_rfl)) (by rfl) id st v o (fun _ => rfl) tree e (begin a0) (b a0) h⟩
end impl_Saturate
/-! #### loop.example/g00983/impl.AddValues (187) -/
namespace impl_AddValues
def S (a0 a1 : Int) : List (PV U) := YtobfemcobakeoaaGreatEv.start C 11 [.int .i64 a0, .int .i64 a1] []
abbrev X := Empty
def id : X → Nat := fun _ => 0
def st : X → List (PV U) := fun _ => []
def begin (a0 a1 : Int) : Tr X A :=
 .call (impl_Saturate.told a0) fun t1 => .call (impl_Saturate.told a1) fun t2 => .call (impl_Saturate.told (wr (t1 + t2))) fun t3 => .ret t3
def tree : X → Tr X A := fun _ => .fail
def f (a0 a1 : Int) : Option A := (begin a0 a1).run (lp tree)
def Q : Plan C := { PL with cuts := [], ords := [], weak := [] }
theorem e : CutEq Pg C Q Tryz.f187 0 id st v o tree := fun J K x => by cases x
theorem b (a0 a1 : Int) : BegEq Pg C Q Tryz.f187 0 id st v o (S a0 a1) (begin a0 a1) := fun J K => by kernel_rfl
def told (a0 a1 : Int) : YtobfemcobakeoaaGreatEv.Told A := ⟨f a0 a1, fun r => SoundCall Pg C 187 (S a0 a1) 0 (v r) (o r), fun r h => soundCall_of_tree G mixed Q Tryz.func187 rfl (of_decide_eq_true (by kernel_rfl)) (by rfl) id st v o (fun _ => rfl) tree e (begin a0 a1) (b a0 a1) h⟩
end impl_AddValues
/-! #### loop.example/g00983/impl.SubValues (188) -/
namespace impl_SubValues
def S (a0 a1 : Int) : List (PV U) := YtobfemcobakeoaaGreatEv.start C 11 [.int .i64 a0, .int .i64 a1] []
abbrev X := Empty
def id : X → Nat := fun _ => 0
def st : X → List (PV U) := fun _ => []
def begin (a0 a1 : Int) : Tr X A :=
 .call (impl_Saturate.told a0) fun t1 => .call (impl_Saturate.told a1) fun t2 => .call (impl_Saturate.told (wr (t1 - t2))) fun t3 => .ret t3
def tree : X → Tr X A := fun _ => .fail
def f (a0 a1 : Int) : Option A := (begin a0 a1).run (lp tree)
def Q : Plan C := { PL with cuts := [], ords := [], weak := [] }
theorem e : CutEq Pg C Q Tryz.f188 0 id st v o tree := fun J K x => by cases x
theorem b (a0 a1 : Int) : BegEq Pg C Q Tryz.f188 0 id st v o (S a0 a1) (begin a0 a1) := fun J K => by kernel_rfl
def told (a0 a1 : Int) : YtobfemcobakeoaaGreatEv.Told A := ⟨f a0 a1, fun r => SoundCall Pg C 188 (S a0 a1) 0 (v r) (o r), fun r h => soundCall_of_tree G mixed Q Tryz.func188 rfl (of_decide_eq_true (by kernel_rfl)) (by rfl) id st v o (fun _ => rfl) tree e (begin a0 a1) (b a0 a1) h⟩
end impl_SubValues
/-! #### loop.example/g00983/impl.MulValues (189) -/
namespace impl_MulValues
def S (a0 a1 : Int) : List (PV U) := YtobfemcobakeoaaGreatEv.start C 11 [.int .i64 a0, .int .i64 a1] []
abbrev X := Empty
def id : X → Nat := fun _ => 0
def st : X → List (PV U) := fun _ => []
def begin (a0 a1 : Int) : Tr X A :=
 .call (impl_Saturate.told a0) fun t1 => .call (impl_Saturate.told a1) fun t2 => .call (impl_Saturate.told (wr (t1 * t2))) fun t3 => .ret t3
def tree : X → Tr X A := fun _ => .fail
def f (a0 a1 : Int) : Option A := (begin a0 a1).run (lp tree)
def Q : Plan C := { PL with cuts := [], ords := [], weak := [] }
theorem e : CutEq Pg C Q Tryz.f189 0 id st v o tree := fun J K x => by cases x
theorem b (a0 a1 : Int) : BegEq Pg C Q Tryz.f189 0 id st v o (S a0 a1) (begin a0 a1) := fun J K => by kernel_rfl
def told (a0 a1 : Int) : YtobfemcobakeoaaGreatEv.Told A := ⟨f a0 a1, fun r => SoundCall Pg C 189 (S a0 a1) 0 (v r) (o r), fun r h => soundCall_of_tree G mixed Q Tryz.func189 rfl (of_decide_eq_true (by kernel_rfl)) (by rfl) id st v o (fun _ => rfl) tree e (begin a0 a1) (b a0 a1) h⟩
end impl_MulValues
/-! #### loop.example/g00983/impl.bit (190) -/
namespace impl_bit
def S (a0 : Bool) : List (PV U) := YtobfemcobakeoaaGreatEv.start C 4 [.bool a0] []
abbrev X := Empty
def id : X → Nat := fun _ => 0
def st : X → List (PV U) := fun _ => []
def begin (a0 : Bool) : Tr X A :=
 .ite a0
  (.ret ((1 : Int)))
  (.ret ((0 : Int)))
def tree : X → Tr X A := fun _ => .fail
def f (a0 : Bool) : Option A := (begin a0).run (lp tree)
def Q : Plan C := { PL with cuts := [], ords := [], weak := [] }
theorem e : CutEq Pg C Q Tryz.f190 0 id st v o tree := fun J K x => by cases x
theorem b (a0 : Bool) : BegEq Pg C Q Tryz.f190 0 id st v o (S a0) (begin a0) := fun J K => by kernel_rfl
def told (a0 : Bool) : YtobfemcobakeoaaGreatEv.Told A := ⟨f a0, fun r => SoundCall Pg C 190 (S a0) 0 (v r) (o r), fun r h => soundCall_of_tree G mixed Q Tryz.func190 rfl (of_decide_eq_true (by kernel_rfl)) (by rfl) id st v o (fun _ => rfl) tree e (begin a0) (b a0) h⟩
end impl_bit
/-! #### loop.example/g00983/impl.EvalExpr (128) -/
namespace impl_EvalExpr
def S (a0 : List Int) (a1 a2 a3 : Int) : List (PV U) := YtobfemcobakeoaaGreatEv.start C 60 [.sl 3 a0, .agg [.int .i64 a1, .int .i64 a2, .int .i64 a3]] []
abbrev X := Empty
def id : X → Nat := fun _ => 0
def st : X → List (PV U) := fun _ => []
def begin (a0 : List Int) (a1 a2 a3 : Int) : Tr X A :=
 .call (impl_VarsOk.told a0) fun t1 => .ite (!t1)
  (.ret ((0 : Int)))
  (.call (impl_ExprOk.told a1 a2 a3) fun t2 => .ite (!t2)
   (.ret ((0 : Int)))
   (.last (.call (impl_operand.told a0 a2) fun t3 => .last (.call (impl_operand.told a0 a3) fun t4 => .ite (decide (a1 = (1 : Int)))
    (.call (impl_AddValues.told t3 t4) fun t5 => .ret t5)
    (.ite (decide (a1 = (2 : Int)))
     (.call (impl_SubValues.told t3 t4) fun t6 => .ret t6)
     (.ite (decide (a1 = (3 : Int)))
      (.call (impl_MulValues.told t3 t4) fun t7 => .ret t7)
      (.ite (decide (a1 = (4 : Int)))
       (.ret ((if t4 < t3 then t4 else t3)))
       (.ite (decide (a1 = (5 : Int)))
        (.ret ((if t4 > t3 then t4 else t3)))
        (.ite (decide (a1 = (6 : Int)))
         (.call (impl_bit.told (decide (t3 < t4))) fun t8 => .ret t8)
         (.call (impl_bit.told (decide (t3 = t4))) fun t9 => .ret t9))))))))))
def tree : X → Tr X A := fun _ => .fail
def f (a0 : List Int) (a1 a2 a3 : Int) : Option A := (begin a0 a1 a2 a3).run (lp tree)
def Q : Plan C := { PL with cuts := [], ords := [(3, [], (.take 0 [] (.take 1 [] (.take 4 [] (.take 5 [] (.take 2 [0, 1, 4, 5, 6] (.take 6 [0, 1, 2, 3, 4, 5] (.alt 3 (.alt 7 (.take 8 [] (.take 9 [] .done)) .nil) .nil))))))))], weak := [] }
theorem e : CutEq Pg C Q Tryz.f128 0 id st v o tree := fun J K x => by cases x
theorem b (a0 : List Int) (a1 a2 a3 : Int) : BegEq Pg C Q Tryz.f128 0 id st v o (S a0 a1 a2 a3) (begin a0 a1 a2 a3) := fun J K => by kernel_rfl
def told (a0 : List Int) (a1 a2 a3 : Int) : YtobfemcobakeoaaGreatEv.Told A := ⟨f a0 a1 a2 a3, fun r => SoundCall Pg C 128 (S a0 a1 a2 a3) 0 (v r) (o r), fun r h => soundCall_of_tree G mixed Q Tryz.func128 rfl (of_decide_eq_true (by kernel_rfl)) (by rfl) id st v o (fun _ => rfl) tree e (begin a0 a1 a2 a3) (b a0 a1 a2 a3) h⟩
end impl_EvalExpr
/-! #### loop.example/g00983/impl.Migrate (56) -/
namespace impl_Migrate
def S (a0 : List Int) (a1 : List S153) : List (PV U) := YtobfemcobakeoaaGreatEv.start C 33 [.sl 3 a0, .agg [.sl 154 a1]] []
inductive X where
 | c5 (x0 x1 : List Int) (x2 : List S153) (x3 x4 : Int)
def id : X → Nat
 | .c5 .. => 5
def st : X → List (PV U)
 | .c5 x0 x1 x2 x3 x4 => stOf 33 [(0, .sl 3 x0), (6, .own true 3 x1), (19, .sl 154 x2), (20, .int .i64 x3), (21, .int .i64 x4)]
def begin (a0 : List Int) (a1 : List S153) : Tr X A :=
 .call (impl_VarsOk.told a0) fun t1 => .ite (!t1)
  (.ret (([] : List Int), false))
  (.call (impl_RulesOk.told a1) fun t2 => .ite (!t2)
   (.ret (([] : List Int), false))
   (.jump (.c5 a0 ([] : List Int) a1 (List.length a1 : Int) (0 : Int))))
def tree : X → Tr X A
 | .c5 x0 x1 x2 x3 x4 =>
 .ite (decide (x4 < x3))
  (.need ((0 : Int) ≤ x4 ∧ x4 < (List.length x2 : Int)) (.call (impl_EvalExpr.told x0 ((rdS153 x2 x4).f0) ((rdS153 x2 x4).f1) ((rdS153 x2 x4).f2)) fun t3 => .need (((List.length x1 : Int) + (List.length ([t3]) : Int)) * (8 : Nat) ≤ room) (.jump (.c5 x0 (x1 ++ [t3]) x2 x3 (wr (x4 + (1 : Int)))))))
  (.ret (x1, true))
def f (a0 : List Int) (a1 : List S153) : Option A := (begin a0 a1).run (lp tree)
def Q : Plan C := { PL with cuts := [(5, [0, 6, 19, 20, 21])], ords := [], weak := [] }
theorem e : CutEq Pg C Q Tryz.f56 0 id st v o tree := fun J K x => by cases x <;> kernel_rfl
theorem b (a0 : List Int) (a1 : List S153) : BegEq Pg C Q Tryz.f56 0 id st v o (S a0 a1) (begin a0 a1) := fun J K => by kernel_rfl
def told (a0 : List Int) (a1 : List S153) : YtobfemcobakeoaaGreatEv.Told A := ⟨f a0 a1, fun r => SoundCall Pg C 56 (S a0 a1) 0 (v r) (o r), fun r h => soundCall_of_tree G mixed Q Tryz.func56 rfl (of_decide_eq_true (by kernel_rfl)) (by rfl) id st v o (fun _ => rfl) tree e (begin a0 a1) (b a0 a1) h⟩
end impl_Migrate
/-! #### loop.example/g00983/impl.MigrateMem (18) -/
namespace impl_MigrateMem
def S (a0 : List S166) (a1 : List Int) (a2 : List S153) : List (PV U) := YtobfemcobakeoaaGreatEv.start C 48 [.agg [.sl 167 a0], .sl 3 a1, .agg [.sl 154 a2]] []
abbrev X := Empty
def id : X → Nat := fun _ => 0
def st : X → List (PV U) := fun _ => []
def begin (a0 : List S166) (a1 : List Int) (a2 : List S153) : Tr X A :=
 .call (impl_MemOk.told a0 a1) fun t1 => .ite (!t1)
  (.ret (([] : List Int), false))
  (.call (impl_RulesOk.told a2) fun t2 => .ite (!t2)
   (.ret (([] : List Int), false))
   (.call (impl_Recovered.told a1) fun t3 => .last (.call (impl_MemVars.told t3) fun t4 => .last (.call (impl_Migrate.told t4 a2) fun t5 => .need ((0 : Int) < (List.length t3 : Int) ∧ (0 : Int) < (List.length t5.1 : Int)) (.val ((if (List.length t5.1 : Int) < (List.length t3 : Int) then (List.length t5.1 : Int) else (List.length t3 : Int)) : Int) fun v6 => .need ((0 : Int) ≤ (8 : Int) ∧ (8 : Int) < (List.length (List.take (List.length t3) t5.1 ++ List.drop (List.length t5.1) t3) : Int)) (.call (impl_UnpackControl.told (rdI (List.take (List.length t3) t5.1 ++ List.drop (List.length t5.1) t3) (8 : Int))) fun t7 => .call (impl_PackControl.told (0 : Int) (0 : Int) t7.2.2) fun t8 => .need ((0 : Int) ≤ (8 : Int) ∧ (8 : Int) < (List.length (List.take (List.length t3) t5.1 ++ List.drop (List.length t5.1) t3) : Int)) (.val ((List.set (List.take (List.length t3) t5.1 ++ List.drop (List.length t5.1) t3) (Int.toNat (8 : Int)) t8) : List Int) fun v9 => .ret (v9, true))))))))
def tree : X → Tr X A := fun _ => .fail
def f (a0 : List S166) (a1 : List Int) (a2 : List S153) : Option A := (begin a0 a1 a2).run (lp tree)
def Q : Plan C := { PL with cuts := [], ords := [(4, [], (.take 0 [] (.take 2 [0, 1] (.alt 1 (.alt 3 (.take 4 [] (.take 5 [] (.take 6 [] (.take 7 [] (.take 8 [] .done))))) .nil) .nil))))], weak := [] }
theorem e : CutEq Pg C Q Tryz.f18 0 id st v o tree := fun J K x => by cases x
theorem b (a0 : List S166) (a1 : List Int) (a2 : List S153) : BegEq Pg C Q Tryz.f18 0 id st v o (S a0 a1 a2) (begin a0 a1 a2) := fun J K => by kernel_rfl
def told (a0 : List S166) (a1 : List Int) (a2 : List S153) : YtobfemcobakeoaaGreatEv.Told A := ⟨f a0 a1 a2, fun r => SoundCall Pg C 18 (S a0 a1 a2) 0 (v r) (o r), fun r h => soundCall_of_tree G mixed Q Tryz.func18 rfl (of_decide_eq_true (by kernel_rfl)) (by rfl) id st v o (fun _ => rfl) tree e (begin a0 a1 a2) (b a0 a1 a2) h⟩
end impl_MigrateMem
/-! #### loop.example/g00983/laws.eqIntS (19) -/
namespace laws_eqIntS
def S (a0 a1 : List Int) : List (PV U) := YtobfemcobakeoaaGreatEv.start C 26 [.sl 3 a0, .sl 3 a1] []
inductive X where
 | c4 (x0 x1 : List Int) (x2 : Int)
def id : X → Nat
 | .c4 .. => 4
def st : X → List (PV U)
 | .c4 x0 x1 x2 => stOf 26 [(0, .sl 3 x0), (1, .sl 3 x1), (5, .int .i64 x2)]
def begin (a0 a1 : List Int) : Tr X A :=
 .ite (!decide ((List.length a0 : Int) = (List.length a1 : Int)))
  (.ret false)
  (.jump (.c4 a0 a1 (0 : Int)))
def tree : X → Tr X A
 | .c4 x0 x1 x2 =>
 .ite (decide (x2 < (List.length x0 : Int)))
  (.need ((0 : Int) ≤ x2 ∧ x2 < (List.length x0 : Int)) (.need ((0 : Int) ≤ x2 ∧ x2 < (List.length x1 : Int)) (.ite (!decide ((rdI x0 x2) = (rdI x1 x2)))
   (.ret false)
   (.jump (.c4 x0 x1 (wr (x2 + (1 : Int))))))))
  (.ret true)
def f (a0 a1 : List Int) : Option A := (begin a0 a1).run (lp tree)
def Q : Plan C := { PL with cuts := [(4, [0, 1, 5])], ords := [(6, [], (.take 0 [] (.take 1 [] (.take 2 [] (.take 4 [] (.take 5 [] (.take 6 [] (.take 3 [0, 1, 2, 4, 5, 6, 7] (.take 7 [0, 1, 2, 3, 4, 5, 6] (.take 8 [] .done))))))))))], weak := [] }
theorem e : CutEq Pg C Q Tryz.f19 0 id st v o tree := fun J K x => by cases x <;> kernel_rfl
theorem b (a0 a1 : List Int) : BegEq Pg C Q Tryz.f19 0 id st v o (S a0 a1) (begin a0 a1) := fun J K => by kernel_rfl
def told (a0 a1 : List Int) : YtobfemcobakeoaaGreatEv.Told A := ⟨f a0 a1, fun r => SoundCall Pg C 19 (S a0 a1) 0 (v r) (o r), fun r h => soundCall_of_tree G mixed Q Tryz.func19 rfl (of_decide_eq_true (by kernel_rfl)) (by rfl) id st v o (fun _ => rfl) tree e (begin a0 a1) (b a0 a1) h⟩
end laws_eqIntS
/-! #### loop.example/g00983/laws.eqExpr (152) -/
namespace laws_eqExpr
def S (a0 a1 a2 a3 a4 a5 : Int) : List (PV U) := YtobfemcobakeoaaGreatEv.start C 20 [.agg [.int .i64 a0, .int .i64 a1, .int .i64 a2], .agg [.int .i64 a3, .int .i64 a4, .int .i64 a5]] []
abbrev X := Empty
def id : X → Nat := fun _ => 0
def st : X → List (PV U) := fun _ => []
def begin (a0 a1 a2 a3 a4 a5 : Int) : Tr X A :=
 .ite (!decide (a0 = a3))
  (.ret false)
  (.ite (!decide (a1 = a4))
   (.ret false)
   (.ite (!decide (a2 = a5))
    (.ret false)
    (.ret true)))
def tree : X → Tr X A := fun _ => .fail
def f (a0 a1 a2 a3 a4 a5 : Int) : Option A := (begin a0 a1 a2 a3 a4 a5).run (lp tree)
def Q : Plan C := { PL with cuts := [], ords := [], weak := [] }
theorem e : CutEq Pg C Q Tryz.f152 0 id st v o tree := fun J K x => by cases x
theorem b (a0 a1 a2 a3 a4 a5 : Int) : BegEq Pg C Q Tryz.f152 0 id st v o (S a0 a1 a2 a3 a4 a5) (begin a0 a1 a2 a3 a4 a5) := fun J K => by kernel_rfl
def told (a0 a1 a2 a3 a4 a5 : Int) : YtobfemcobakeoaaGreatEv.Told A := ⟨f a0 a1 a2 a3 a4 a5, fun r => SoundCall Pg C 152 (S a0 a1 a2 a3 a4 a5) 0 (v r) (o r), fun r h => soundCall_of_tree G mixed Q Tryz.func152 rfl (of_decide_eq_true (by kernel_rfl)) (by rfl) id st v o (fun _ => rfl) tree e (begin a0 a1 a2 a3 a4 a5) (b a0 a1 a2 a3 a4 a5) h⟩
end laws_eqExpr
/-! #### loop.example/g00983/laws.eqStmt (228) -/
namespace laws_eqStmt
def S (a0 a1 a2 a3 a4 a5 a6 a7 a8 a9 a10 a11 : Int) : List (PV U) := YtobfemcobakeoaaGreatEv.start C 26 [.agg [.int .i64 a0, .int .i64 a1, .int .i64 a2, .int .i64 a3, .int .i64 a4, .int .i64 a5], .agg [.int .i64 a6, .int .i64 a7, .int .i64 a8, .int .i64 a9, .int .i64 a10, .int .i64 a11]] []
abbrev X := Empty
def id : X → Nat := fun _ => 0
def st : X → List (PV U) := fun _ => []
def begin (a0 a1 a2 a3 a4 a5 a6 a7 a8 a9 a10 a11 : Int) : Tr X A :=
 .ite (!decide (a0 = a6))
  (.ret false)
  (.ite (!decide (a1 = a7))
   (.ret false)
   (.ite (!decide (a2 = a8))
    (.ret false)
    (.call (laws_eqExpr.told a3 a4 a5 a9 a10 a11) fun t1 => .ite (!t1)
     (.ret false)
     (.ret true))))
def tree : X → Tr X A := fun _ => .fail
def f (a0 a1 a2 a3 a4 a5 a6 a7 a8 a9 a10 a11 : Int) : Option A := (begin a0 a1 a2 a3 a4 a5 a6 a7 a8 a9 a10 a11).run (lp tree)
def Q : Plan C := { PL with cuts := [], ords := [], weak := [] }
theorem e : CutEq Pg C Q Tryz.f228 0 id st v o tree := fun J K x => by cases x
theorem b (a0 a1 a2 a3 a4 a5 a6 a7 a8 a9 a10 a11 : Int) : BegEq Pg C Q Tryz.f228 0 id st v o (S a0 a1 a2 a3 a4 a5 a6 a7 a8 a9 a10 a11) (begin a0 a1 a2 a3 a4 a5 a6 a7 a8 a9 a10 a11) := fun J K => by kernel_rfl
def told (a0 a1 a2 a3 a4 a5 a6 a7 a8 a9 a10 a11 : Int) : YtobfemcobakeoaaGreatEv.Told A := ⟨f a0 a1 a2 a3 a4 a5 a6 a7 a8 a9 a10 a11, fun r => SoundCall Pg C 228 (S a0 a1 a2 a3 a4 a5 a6 a7 a8 a9 a10 a11) 0 (v r) (o r), fun r h => soundCall_of_tree G mixed Q Tryz.func228 rfl (of_decide_eq_true (by kernel_rfl)) (by rfl) id st v o (fun _ => rfl) tree e (begin a0 a1 a2 a3 a4 a5 a6 a7 a8 a9 a10 a11) (b a0 a1 a2 a3 a4 a5 a6 a7 a8 a9 a10 a11) h⟩
end laws_eqStmt
/-! #### loop.example/g00983/laws.eqStmtS (206) -/
namespace laws_eqStmtS
def S (a0 a1 : List S210) : List (PV U) := YtobfemcobakeoaaGreatEv.start C 27 [.sl 211 a0, .sl 211 a1] []
inductive X where
 | c4 (x0 x1 : List S210) (x2 : Int)
def id : X → Nat
 | .c4 .. => 4
def st : X → List (PV U)
 | .c4 x0 x1 x2 => stOf 27 [(0, .sl 211 x0), (1, .sl 211 x1), (5, .int .i64 x2)]
def begin (a0 a1 : List S210) : Tr X A :=
 .ite (!decide ((List.length a0 : Int) = (List.length a1 : Int)))
  (.ret false)
  (.jump (.c4 a0 a1 (0 : Int)))
def tree : X → Tr X A
 | .c4 x0 x1 x2 =>
 .ite (decide (x2 < (List.length x0 : Int)))
  (.need ((0 : Int) ≤ x2 ∧ x2 < (List.length x0 : Int)) (.need ((0 : Int) ≤ x2 ∧ x2 < (List.length x1 : Int)) (.last (.call (laws_eqStmt.told ((rdS210 x0 x2).f0) ((rdS210 x0 x2).f1) ((rdS210 x0 x2).f2) ((rdS210 x0 x2).f3.f0) ((rdS210 x0 x2).f3.f1) ((rdS210 x0 x2).f3.f2) ((rdS210 x1 x2).f0) ((rdS210 x1 x2).f1) ((rdS210 x1 x2).f2) ((rdS210 x1 x2).f3.f0) ((rdS210 x1 x2).f3.f1) ((rdS210 x1 x2).f3.f2)) fun t1 => .ite (!t1)
   (.ret false)
   (.jump (.c4 x0 x1 (wr (x2 + (1 : Int)))))))))
  (.ret true)
def f (a0 a1 : List S210) : Option A := (begin a0 a1).run (lp tree)
def Q : Plan C := { PL with cuts := [(4, [0, 1, 5])], ords := [(6, [], (.take 0 [] (.take 1 [] (.take 2 [] (.take 4 [] (.take 5 [] (.take 6 [] (.take 3 [0, 1, 2, 4, 5, 6, 7] (.take 7 [0, 1, 2, 3, 4, 5, 6] (.alt 8 (.take 9 [] .done) .nil))))))))))], weak := [] }
theorem e : CutEq Pg C Q Tryz.f206 0 id st v o tree := fun J K x => by cases x <;> kernel_rfl
theorem b (a0 a1 : List S210) : BegEq Pg C Q Tryz.f206 0 id st v o (S a0 a1) (begin a0 a1) := fun J K => by kernel_rfl
def told (a0 a1 : List S210) : YtobfemcobakeoaaGreatEv.Told A := ⟨f a0 a1, fun r => SoundCall Pg C 206 (S a0 a1) 0 (v r) (o r), fun r h => soundCall_of_tree G mixed Q Tryz.func206 rfl (of_decide_eq_true (by kernel_rfl)) (by rfl) id st v o (fun _ => rfl) tree e (begin a0 a1) (b a0 a1) h⟩
end laws_eqStmtS
/-! #### loop.example/g00983/laws.eqTask (151) -/
namespace laws_eqTask
def S (a0 : List S210) (a1 a2 a3 : Int) (a4 : List S210) (a5 a6 a7 : Int) : List (PV U) := YtobfemcobakeoaaGreatEv.start C 17 [.agg [.sl 211 a0, .int .i64 a1, .int .i64 a2, .int .i64 a3], .agg [.sl 211 a4, .int .i64 a5, .int .i64 a6, .int .i64 a7]] []
abbrev X := Empty
def id : X → Nat := fun _ => 0
def st : X → List (PV U) := fun _ => []
def begin (a0 : List S210) (a1 a2 a3 : Int) (a4 : List S210) (a5 a6 a7 : Int) : Tr X A :=
 .call (laws_eqStmtS.told a0 a4) fun t1 => .ite (!t1)
  (.ret false)
  (.call (laws_eqExpr.told a1 a2 a3 a5 a6 a7) fun t2 => .ite (!t2)
   (.ret false)
   (.ret true))
def tree : X → Tr X A := fun _ => .fail
def f (a0 : List S210) (a1 a2 a3 : Int) (a4 : List S210) (a5 a6 a7 : Int) : Option A := (begin a0 a1 a2 a3 a4 a5 a6 a7).run (lp tree)
def Q : Plan C := { PL with cuts := [], ords := [], weak := [] }
theorem e : CutEq Pg C Q Tryz.f151 0 id st v o tree := fun J K x => by cases x
theorem b (a0 : List S210) (a1 a2 a3 : Int) (a4 : List S210) (a5 a6 a7 : Int) : BegEq Pg C Q Tryz.f151 0 id st v o (S a0 a1 a2 a3 a4 a5 a6 a7) (begin a0 a1 a2 a3 a4 a5 a6 a7) := fun J K => by kernel_rfl
def told (a0 : List S210) (a1 a2 a3 : Int) (a4 : List S210) (a5 a6 a7 : Int) : YtobfemcobakeoaaGreatEv.Told A := ⟨f a0 a1 a2 a3 a4 a5 a6 a7, fun r => SoundCall Pg C 151 (S a0 a1 a2 a3 a4 a5 a6 a7) 0 (v r) (o r), fun r h => soundCall_of_tree G mixed Q Tryz.func151 rfl (of_decide_eq_true (by kernel_rfl)) (by rfl) id st v o (fun _ => rfl) tree e (begin a0 a1 a2 a3 a4 a5 a6 a7) (b a0 a1 a2 a3 a4 a5 a6 a7) h⟩
end laws_eqTask
/-! #### loop.example/g00983/laws.eqTaskS (79) -/
namespace laws_eqTaskS
def S (a0 a1 : List S166) : List (PV U) := YtobfemcobakeoaaGreatEv.start C 27 [.sl 167 a0, .sl 167 a1] []
inductive X where
 | c4 (x0 x1 : List S166) (x2 : Int)
def id : X → Nat
 | .c4 .. => 4
def st : X → List (PV U)
 | .c4 x0 x1 x2 => stOf 27 [(0, .sl 167 x0), (1, .sl 167 x1), (5, .int .i64 x2)]
def begin (a0 a1 : List S166) : Tr X A :=
 .ite (!decide ((List.length a0 : Int) = (List.length a1 : Int)))
  (.ret false)
  (.jump (.c4 a0 a1 (0 : Int)))
def tree : X → Tr X A
 | .c4 x0 x1 x2 =>
 .ite (decide (x2 < (List.length x0 : Int)))
  (.need ((0 : Int) ≤ x2 ∧ x2 < (List.length x0 : Int)) (.need ((0 : Int) ≤ x2 ∧ x2 < (List.length x1 : Int)) (.last (.call (laws_eqTask.told ((rdS166 x0 x2).f0) ((rdS166 x0 x2).f1.f0) ((rdS166 x0 x2).f1.f1) ((rdS166 x0 x2).f1.f2) ((rdS166 x1 x2).f0) ((rdS166 x1 x2).f1.f0) ((rdS166 x1 x2).f1.f1) ((rdS166 x1 x2).f1.f2)) fun t1 => .ite (!t1)
   (.ret false)
   (.jump (.c4 x0 x1 (wr (x2 + (1 : Int)))))))))
  (.ret true)
def f (a0 a1 : List S166) : Option A := (begin a0 a1).run (lp tree)
def Q : Plan C := { PL with cuts := [(4, [0, 1, 5])], ords := [(6, [], (.take 0 [] (.take 1 [] (.take 2 [] (.take 4 [] (.take 5 [] (.take 6 [] (.take 3 [0, 1, 2, 4, 5, 6, 7] (.take 7 [0, 1, 2, 3, 4, 5, 6] (.alt 8 (.take 9 [] .done) .nil))))))))))], weak := [] }
theorem e : CutEq Pg C Q Tryz.f79 0 id st v o tree := fun J K x => by cases x <;> kernel_rfl
theorem b (a0 a1 : List S166) : BegEq Pg C Q Tryz.f79 0 id st v o (S a0 a1) (begin a0 a1) := fun J K => by kernel_rfl
def told (a0 a1 : List S166) : YtobfemcobakeoaaGreatEv.Told A := ⟨f a0 a1, fun r => SoundCall Pg C 79 (S a0 a1) 0 (v r) (o r), fun r h => soundCall_of_tree G mixed Q Tryz.func79 rfl (of_decide_eq_true (by kernel_rfl)) (by rfl) id st v o (fun _ => rfl) tree e (begin a0 a1) (b a0 a1) h⟩
end laws_eqTaskS
/-! #### loop.example/g00983/laws.eqProgram (20) -/
namespace laws_eqProgram
def S (a0 a1 : List S166) : List (PV U) := YtobfemcobakeoaaGreatEv.start C 11 [.agg [.sl 167 a0], .agg [.sl 167 a1]] []
abbrev X := Empty
def id : X → Nat := fun _ => 0
def st : X → List (PV U) := fun _ => []
def begin (a0 a1 : List S166) : Tr X A :=
 .call (laws_eqTaskS.told a0 a1) fun t1 => .ite (!t1)
  (.ret false)
  (.ret true)
def tree : X → Tr X A := fun _ => .fail
def f (a0 a1 : List S166) : Option A := (begin a0 a1).run (lp tree)
def Q : Plan C := { PL with cuts := [], ords := [], weak := [] }
theorem e : CutEq Pg C Q Tryz.f20 0 id st v o tree := fun J K x => by cases x
theorem b (a0 a1 : List S166) : BegEq Pg C Q Tryz.f20 0 id st v o (S a0 a1) (begin a0 a1) := fun J K => by kernel_rfl
def told (a0 a1 : List S166) : YtobfemcobakeoaaGreatEv.Told A := ⟨f a0 a1, fun r => SoundCall Pg C 20 (S a0 a1) 0 (v r) (o r), fun r h => soundCall_of_tree G mixed Q Tryz.func20 rfl (of_decide_eq_true (by kernel_rfl)) (by rfl) id st v o (fun _ => rfl) tree e (begin a0 a1) (b a0 a1) h⟩
end laws_eqProgram
/-! #### loop.example/g00983/laws.eqExprS (80) -/
namespace laws_eqExprS
def S (a0 a1 : List S153) : List (PV U) := YtobfemcobakeoaaGreatEv.start C 27 [.sl 154 a0, .sl 154 a1] []
inductive X where
 | c4 (x0 x1 : List S153) (x2 : Int)
def id : X → Nat
 | .c4 .. => 4
def st : X → List (PV U)
 | .c4 x0 x1 x2 => stOf 27 [(0, .sl 154 x0), (1, .sl 154 x1), (5, .int .i64 x2)]
def begin (a0 a1 : List S153) : Tr X A :=
 .ite (!decide ((List.length a0 : Int) = (List.length a1 : Int)))
  (.ret false)
  (.jump (.c4 a0 a1 (0 : Int)))
def tree : X → Tr X A
 | .c4 x0 x1 x2 =>
 .ite (decide (x2 < (List.length x0 : Int)))
  (.need ((0 : Int) ≤ x2 ∧ x2 < (List.length x0 : Int)) (.need ((0 : Int) ≤ x2 ∧ x2 < (List.length x1 : Int)) (.last (.call (laws_eqExpr.told ((rdS153 x0 x2).f0) ((rdS153 x0 x2).f1) ((rdS153 x0 x2).f2) ((rdS153 x1 x2).f0) ((rdS153 x1 x2).f1) ((rdS153 x1 x2).f2)) fun t1 => .ite (!t1)
   (.ret false)
   (.jump (.c4 x0 x1 (wr (x2 + (1 : Int)))))))))
  (.ret true)
def f (a0 a1 : List S153) : Option A := (begin a0 a1).run (lp tree)
def Q : Plan C := { PL with cuts := [(4, [0, 1, 5])], ords := [(6, [], (.take 0 [] (.take 1 [] (.take 2 [] (.take 4 [] (.take 5 [] (.take 6 [] (.take 3 [0, 1, 2, 4, 5, 6, 7] (.take 7 [0, 1, 2, 3, 4, 5, 6] (.alt 8 (.take 9 [] .done) .nil))))))))))], weak := [] }
theorem e : CutEq Pg C Q Tryz.f80 0 id st v o tree := fun J K x => by cases x <;> kernel_rfl
theorem b (a0 a1 : List S153) : BegEq Pg C Q Tryz.f80 0 id st v o (S a0 a1) (begin a0 a1) := fun J K => by kernel_rfl
def told (a0 a1 : List S153) : YtobfemcobakeoaaGreatEv.Told A := ⟨f a0 a1, fun r => SoundCall Pg C 80 (S a0 a1) 0 (v r) (o r), fun r h => soundCall_of_tree G mixed Q Tryz.func80 rfl (of_decide_eq_true (by kernel_rfl)) (by rfl) id st v o (fun _ => rfl) tree e (begin a0 a1) (b a0 a1) h⟩
end laws_eqExprS
/-! #### loop.example/g00983/laws.eqRules (21) -/
namespace laws_eqRules
def S (a0 a1 : List S153) : List (PV U) := YtobfemcobakeoaaGreatEv.start C 11 [.agg [.sl 154 a0], .agg [.sl 154 a1]] []
abbrev X := Empty
def id : X → Nat := fun _ => 0
def st : X → List (PV U) := fun _ => []
def begin (a0 a1 : List S153) : Tr X A :=
 .call (laws_eqExprS.told a0 a1) fun t1 => .ite (!t1)
  (.ret false)
  (.ret true)
def tree : X → Tr X A := fun _ => .fail
def f (a0 a1 : List S153) : Option A := (begin a0 a1).run (lp tree)
def Q : Plan C := { PL with cuts := [], ords := [], weak := [] }
theorem e : CutEq Pg C Q Tryz.f21 0 id st v o tree := fun J K x => by cases x
theorem b (a0 a1 : List S153) : BegEq Pg C Q Tryz.f21 0 id st v o (S a0 a1) (begin a0 a1) := fun J K => by kernel_rfl
def told (a0 a1 : List S153) : YtobfemcobakeoaaGreatEv.Told A := ⟨f a0 a1, fun r => SoundCall Pg C 21 (S a0 a1) 0 (v r) (o r), fun r h => soundCall_of_tree G mixed Q Tryz.func21 rfl (of_decide_eq_true (by kernel_rfl)) (by rfl) id st v o (fun _ => rfl) tree e (begin a0 a1) (b a0 a1) h⟩
end laws_eqRules
/-! #### loop.example/g00983/laws.markStmtS (153) -/
namespace laws_markStmtS
def S (a0 : Int) (a1 : List S210) : List (PV U) := YtobfemcobakeoaaGreatEv.start C 58 [.ali (58, []), .int .i64 a0] [.own true 211 a1]
inductive X where
 | c2 (x0 x1 : Int) (x2 : List S210)
def id : X → Nat
 | .c2 .. => 2
def st : X → List (PV U)
 | .c2 x0 x1 x2 => stOf 59 [(0, .ali (58, [])), (1, .int .i64 x0), (5, .int .i64 x1), (58, .own true 211 x2)]
def begin (a0 : Int) (a1 : List S210) : Tr X A :=
 .jump (.c2 a0 (0 : Int) a1)
def tree : X → Tr X A
 | .c2 x0 x1 x2 =>
 .ite (decide (x1 < (List.length x2 : Int)))
  (.need ((0 : Int) ≤ x1 ∧ x1 < (List.length x2 : Int)) (.val ((List.set x2 (Int.toNat x1) (⟨x0, (rdS210 x2 x1).f1, (rdS210 x2 x1).f2, (⟨(rdS210 x2 x1).f3.f0, (rdS210 x2 x1).f3.f1, (rdS210 x2 x1).f3.f2⟩ : S153)⟩ : S210)) : List S210) fun v1 => .need ((0 : Int) ≤ x1 ∧ x1 < (List.length v1 : Int)) (.val ((List.set v1 (Int.toNat x1) (⟨(rdS210 v1 x1).f0, (wr (x0 + (1 : Int))), (rdS210 v1 x1).f2, (⟨(rdS210 v1 x1).f3.f0, (rdS210 v1 x1).f3.f1, (rdS210 v1 x1).f3.f2⟩ : S153)⟩ : S210)) : List S210) fun v2 => .need ((0 : Int) ≤ x1 ∧ x1 < (List.length v2 : Int)) (.val ((List.set v2 (Int.toNat x1) (⟨(rdS210 v2 x1).f0, (rdS210 v2 x1).f1, (wr ((wr (x0 + (1 : Int))) + (1 : Int))), (⟨(rdS210 v2 x1).f3.f0, (rdS210 v2 x1).f3.f1, (rdS210 v2 x1).f3.f2⟩ : S153)⟩ : S210)) : List S210) fun v3 => .need ((0 : Int) ≤ x1 ∧ x1 < (List.length v3 : Int)) (.val ((List.set v3 (Int.toNat x1) (⟨(rdS210 v3 x1).f0, (rdS210 v3 x1).f1, (rdS210 v3 x1).f2, (⟨(wr ((wr ((wr (x0 + (1 : Int))) + (1 : Int))) + (1 : Int))), (rdS210 v3 x1).f3.f1, (rdS210 v3 x1).f3.f2⟩ : S153)⟩ : S210)) : List S210) fun v4 => .need ((0 : Int) ≤ x1 ∧ x1 < (List.length v4 : Int)) (.val ((List.set v4 (Int.toNat x1) (⟨(rdS210 v4 x1).f0, (rdS210 v4 x1).f1, (rdS210 v4 x1).f2, (⟨(rdS210 v4 x1).f3.f0, (wr ((wr ((wr ((wr (x0 + (1 : Int))) + (1 : Int))) + (1 : Int))) + (1 : Int))), (rdS210 v4 x1).f3.f2⟩ : S153)⟩ : S210)) : List S210) fun v5 => .val ((wr ((wr ((wr ((wr ((wr (x0 + (1 : Int))) + (1 : Int))) + (1 : Int))) + (1 : Int))) + (1 : Int))) : Int) fun v6 => .need ((0 : Int) ≤ x1 ∧ x1 < (List.length v5 : Int)) (.val ((List.set v5 (Int.toNat x1) (⟨(rdS210 v5 x1).f0, (rdS210 v5 x1).f1, (rdS210 v5 x1).f2, (⟨(rdS210 v5 x1).f3.f0, (rdS210 v5 x1).f3.f1, v6⟩ : S153)⟩ : S210)) : List S210) fun v7 => .jump (.c2 (wr (v6 + (1 : Int))) (wr (x1 + (1 : Int))) v7))))))))
  (.ret (x0, x2))
def f (a0 : Int) (a1 : List S210) : Option A := (begin a0 a1).run (lp tree)
def Q : Plan C := { PL with cuts := [(2, [0, 1, 5, 58])], ords := [], weak := [] }
theorem e : CutEq Pg C Q Tryz.f153 1 id st v o tree := fun J K x => by cases x <;> kernel_rfl
theorem b (a0 : Int) (a1 : List S210) : BegEq Pg C Q Tryz.f153 1 id st v o (S a0 a1) (begin a0 a1) := fun J K => by kernel_rfl
def told (a0 : Int) (a1 : List S210) : YtobfemcobakeoaaGreatEv.Told A := ⟨f a0 a1, fun r => SoundCall Pg C 153 (S a0 a1) 1 (v r) (o r), fun r h => soundCall_of_tree G mixed Q Tryz.func153 rfl (of_decide_eq_true (by kernel_rfl)) (by rfl) id st v o (fun _ => rfl) tree e (begin a0 a1) (b a0 a1) h⟩
end laws_markStmtS
/-! #### loop.example/g00983/laws.markTaskS (81) -/
namespace laws_markTaskS
def S (a0 : Int) (a1 : List S166) : List (PV U) := YtobfemcobakeoaaGreatEv.start C 44 [.ali (44, []), .int .i64 a0] [.own true 167 a1]
inductive X where
 | c2 (x0 x1 : Int) (x2 : List S166)
def id : X → Nat
 | .c2 .. => 2
def st : X → List (PV U)
 | .c2 x0 x1 x2 => stOf 45 [(0, .ali (44, [])), (1, .int .i64 x0), (5, .int .i64 x1), (44, .own true 167 x2)]
def begin (a0 : Int) (a1 : List S166) : Tr X A :=
 .jump (.c2 a0 (0 : Int) a1)
def tree : X → Tr X A
 | .c2 x0 x1 x2 =>
 .ite (decide (x1 < (List.length x2 : Int)))
  (.need ((0 : Int) ≤ x1 ∧ x1 < (List.length x2 : Int)) (.call (laws_markStmtS.told x0 ((rdS166 x2 x1).f0)) fun t1 => .need ((0 : Int) ≤ x1 ∧ x1 < (List.length (List.set x2 (Int.toNat x1) (⟨t1.2, (⟨(rdS166 x2 x1).f1.f0, (rdS166 x2 x1).f1.f1, (rdS166 x2 x1).f1.f2⟩ : S153)⟩ : S166)) : Int)) (.val ((List.set (List.set x2 (Int.toNat x1) (⟨t1.2, (⟨(rdS166 x2 x1).f1.f0, (rdS166 x2 x1).f1.f1, (rdS166 x2 x1).f1.f2⟩ : S153)⟩ : S166)) (Int.toNat x1) (⟨(rdS166 (List.set x2 (Int.toNat x1) (⟨t1.2, (⟨(rdS166 x2 x1).f1.f0, (rdS166 x2 x1).f1.f1, (rdS166 x2 x1).f1.f2⟩ : S153)⟩ : S166)) x1).f0, (⟨t1.1, (rdS166 (List.set x2 (Int.toNat x1) (⟨t1.2, (⟨(rdS166 x2 x1).f1.f0, (rdS166 x2 x1).f1.f1, (rdS166 x2 x1).f1.f2⟩ : S153)⟩ : S166)) x1).f1.f1, (rdS166 (List.set x2 (Int.toNat x1) (⟨t1.2, (⟨(rdS166 x2 x1).f1.f0, (rdS166 x2 x1).f1.f1, (rdS166 x2 x1).f1.f2⟩ : S153)⟩ : S166)) x1).f1.f2⟩ : S153)⟩ : S166)) : List S166) fun v2 => .need ((0 : Int) ≤ x1 ∧ x1 < (List.length v2 : Int)) (.val ((List.set v2 (Int.toNat x1) (⟨(rdS166 v2 x1).f0, (⟨(rdS166 v2 x1).f1.f0, (wr (t1.1 + (1 : Int))), (rdS166 v2 x1).f1.f2⟩ : S153)⟩ : S166)) : List S166) fun v3 => .need ((0 : Int) ≤ x1 ∧ x1 < (List.length v3 : Int)) (.val ((List.set v3 (Int.toNat x1) (⟨(rdS166 v3 x1).f0, (⟨(rdS166 v3 x1).f1.f0, (rdS166 v3 x1).f1.f1, (wr ((wr (t1.1 + (1 : Int))) + (1 : Int)))⟩ : S153)⟩ : S166)) : List S166) fun v4 => .jump (.c2 (wr ((wr ((wr (t1.1 + (1 : Int))) + (1 : Int))) + (1 : Int))) (wr (x1 + (1 : Int))) v4))))))
  (.ret (x0, x2))
def f (a0 : Int) (a1 : List S166) : Option A := (begin a0 a1).run (lp tree)
def Q : Plan C := { PL with cuts := [(2, [0, 1, 5, 44])], ords := [], weak := [] }
theorem e : CutEq Pg C Q Tryz.f81 1 id st v o tree := fun J K x => by cases x <;> kernel_rfl
theorem b (a0 : Int) (a1 : List S166) : BegEq Pg C Q Tryz.f81 1 id st v o (S a0 a1) (begin a0 a1) := fun J K => by kernel_rfl
def told (a0 : Int) (a1 : List S166) : YtobfemcobakeoaaGreatEv.Told A := ⟨f a0 a1, fun r => SoundCall Pg C 81 (S a0 a1) 1 (v r) (o r), fun r h => soundCall_of_tree G mixed Q Tryz.func81 rfl (of_decide_eq_true (by kernel_rfl)) (by rfl) id st v o (fun _ => rfl) tree e (begin a0 a1) (b a0 a1) h⟩
end laws_markTaskS
/-! #### loop.example/g00983/laws.markProgram (22) -/
namespace laws_markProgram
def S (a0 : Int) (a1 : List S166) : List (PV U) := YtobfemcobakeoaaGreatEv.start C 10 [.agg [.ali (10, [])], .int .i64 a0] [.own true 167 a1]
abbrev X := Empty
def id : X → Nat := fun _ => 0
def st : X → List (PV U) := fun _ => []
def begin (a0 : Int) (a1 : List S166) : Tr X A :=
 .call (laws_markTaskS.told a0 a1) fun t1 => .ret (t1.1, t1.2)
def tree : X → Tr X A := fun _ => .fail
def f (a0 : Int) (a1 : List S166) : Option A := (begin a0 a1).run (lp tree)
def Q : Plan C := { PL with cuts := [], ords := [], weak := [] }
theorem e : CutEq Pg C Q Tryz.f22 1 id st v o tree := fun J K x => by cases x
theorem b (a0 : Int) (a1 : List S166) : BegEq Pg C Q Tryz.f22 1 id st v o (S a0 a1) (begin a0 a1) := fun J K => by kernel_rfl
def told (a0 : Int) (a1 : List S166) : YtobfemcobakeoaaGreatEv.Told A := ⟨f a0 a1, fun r => SoundCall Pg C 22 (S a0 a1) 1 (v r) (o r), fun r h => soundCall_of_tree G mixed Q Tryz.func22 rfl (of_decide_eq_true (by kernel_rfl)) (by rfl) id st v o (fun _ => rfl) tree e (begin a0 a1) (b a0 a1) h⟩
end laws_markProgram
/-! #### loop.example/g00983/laws.markIntS (23) -/
namespace laws_markIntS
def S (a0 : Int) (a1 : List Int) : List (PV U) := YtobfemcobakeoaaGreatEv.start C 19 [.ali (19, []), .int .i64 a0] [.own true 3 a1]
inductive X where
 | c2 (x0 x1 : Int) (x2 : List Int)
def id : X → Nat
 | .c2 .. => 2
def st : X → List (PV U)
 | .c2 x0 x1 x2 => stOf 20 [(0, .ali (19, [])), (1, .int .i64 x0), (5, .int .i64 x1), (19, .own true 3 x2)]
def begin (a0 : Int) (a1 : List Int) : Tr X A :=
 .jump (.c2 a0 (0 : Int) a1)
def tree : X → Tr X A
 | .c2 x0 x1 x2 =>
 .ite (decide (x1 < (List.length x2 : Int)))
  (.need ((0 : Int) ≤ x1 ∧ x1 < (List.length x2 : Int)) (.jump (.c2 (wr (x0 + (1 : Int))) (wr (x1 + (1 : Int))) (List.set x2 (Int.toNat x1) x0))))
  (.ret (x0, x2))
def f (a0 : Int) (a1 : List Int) : Option A := (begin a0 a1).run (lp tree)
def Q : Plan C := { PL with cuts := [(2, [0, 1, 5, 19])], ords := [], weak := [] }
theorem e : CutEq Pg C Q Tryz.f23 1 id st v o tree := fun J K x => by cases x <;> kernel_rfl
theorem b (a0 : Int) (a1 : List Int) : BegEq Pg C Q Tryz.f23 1 id st v o (S a0 a1) (begin a0 a1) := fun J K => by kernel_rfl
def told (a0 : Int) (a1 : List Int) : YtobfemcobakeoaaGreatEv.Told A := ⟨f a0 a1, fun r => SoundCall Pg C 23 (S a0 a1) 1 (v r) (o r), fun r h => soundCall_of_tree G mixed Q Tryz.func23 rfl (of_decide_eq_true (by kernel_rfl)) (by rfl) id st v o (fun _ => rfl) tree e (begin a0 a1) (b a0 a1) h⟩
end laws_markIntS
/-! #### loop.example/g00983/laws.markExprS (82) -/
namespace laws_markExprS
def S (a0 : Int) (a1 : List S153) : List (PV U) := YtobfemcobakeoaaGreatEv.start C 34 [.ali (34, []), .int .i64 a0] [.own true 154 a1]
inductive X where
 | c2 (x0 x1 : Int) (x2 : List S153)
def id : X → Nat
 | .c2 .. => 2
def st : X → List (PV U)
 | .c2 x0 x1 x2 => stOf 35 [(0, .ali (34, [])), (1, .int .i64 x0), (5, .int .i64 x1), (34, .own true 154 x2)]
def begin (a0 : Int) (a1 : List S153) : Tr X A :=
 .jump (.c2 a0 (0 : Int) a1)
def tree : X → Tr X A
 | .c2 x0 x1 x2 =>
 .ite (decide (x1 < (List.length x2 : Int)))
  (.need ((0 : Int) ≤ x1 ∧ x1 < (List.length x2 : Int)) (.need ((0 : Int) ≤ x1 ∧ x1 < (List.length (List.set x2 (Int.toNat x1) (⟨x0, (rdS153 x2 x1).f1, (rdS153 x2 x1).f2⟩ : S153)) : Int)) (.val ((List.set (List.set x2 (Int.toNat x1) (⟨x0, (rdS153 x2 x1).f1, (rdS153 x2 x1).f2⟩ : S153)) (Int.toNat x1) (⟨(rdS153 (List.set x2 (Int.toNat x1) (⟨x0, (rdS153 x2 x1).f1, (rdS153 x2 x1).f2⟩ : S153)) x1).f0, (wr (x0 + (1 : Int))), (rdS153 (List.set x2 (Int.toNat x1) (⟨x0, (rdS153 x2 x1).f1, (rdS153 x2 x1).f2⟩ : S153)) x1).f2⟩ : S153)) : List S153) fun v1 => .need ((0 : Int) ≤ x1 ∧ x1 < (List.length v1 : Int)) (.val ((List.set v1 (Int.toNat x1) (⟨(rdS153 v1 x1).f0, (rdS153 v1 x1).f1, (wr ((wr (x0 + (1 : Int))) + (1 : Int)))⟩ : S153)) : List S153) fun v2 => .jump (.c2 (wr ((wr ((wr (x0 + (1 : Int))) + (1 : Int))) + (1 : Int))) (wr (x1 + (1 : Int))) v2)))))
  (.ret (x0, x2))
def f (a0 : Int) (a1 : List S153) : Option A := (begin a0 a1).run (lp tree)
def Q : Plan C := { PL with cuts := [(2, [0, 1, 5, 34])], ords := [], weak := [] }
theorem e : CutEq Pg C Q Tryz.f82 1 id st v o tree := fun J K x => by cases x <;> kernel_rfl
theorem b (a0 : Int) (a1 : List S153) : BegEq Pg C Q Tryz.f82 1 id st v o (S a0 a1) (begin a0 a1) := fun J K => by kernel_rfl
def told (a0 : Int) (a1 : List S153) : YtobfemcobakeoaaGreatEv.Told A := ⟨f a0 a1, fun r => SoundCall Pg C 82 (S a0 a1) 1 (v r) (o r), fun r h => soundCall_of_tree G mixed Q Tryz.func82 rfl (of_decide_eq_true (by kernel_rfl)) (by rfl) id st v o (fun _ => rfl) tree e (begin a0 a1) (b a0 a1) h⟩
end laws_markExprS
/-! #### loop.example/g00983/laws.markRules (24) -/
namespace laws_markRules
def S (a0 : Int) (a1 : List S153) : List (PV U) := YtobfemcobakeoaaGreatEv.start C 10 [.agg [.ali (10, [])], .int .i64 a0] [.own true 154 a1]
abbrev X := Empty
def id : X → Nat := fun _ => 0
def st : X → List (PV U) := fun _ => []
def begin (a0 : Int) (a1 : List S153) : Tr X A :=
 .call (laws_markExprS.told a0 a1) fun t1 => .ret (t1.1, t1.2)
def tree : X → Tr X A := fun _ => .fail
def f (a0 : Int) (a1 : List S153) : Option A := (begin a0 a1).run (lp tree)
def Q : Plan C := { PL with cuts := [], ords := [], weak := [] }
theorem e : CutEq Pg C Q Tryz.f24 1 id st v o tree := fun J K x => by cases x
theorem b (a0 : Int) (a1 : List S153) : BegEq Pg C Q Tryz.f24 1 id st v o (S a0 a1) (begin a0 a1) := fun J K => by kernel_rfl
def told (a0 : Int) (a1 : List S153) : YtobfemcobakeoaaGreatEv.Told A := ⟨f a0 a1, fun r => SoundCall Pg C 24 (S a0 a1) 1 (v r) (o r), fun r h => soundCall_of_tree G mixed Q Tryz.func24 rfl (of_decide_eq_true (by kernel_rfl)) (by rfl) id st v o (fun _ => rfl) tree e (begin a0 a1) (b a0 a1) h⟩
end laws_markRules
/-! #### loop.example/g00983/laws.heldIntS (25) -/
namespace laws_heldIntS
def S (a0 : List Int) (a1 : Int) : List (PV U) := YtobfemcobakeoaaGreatEv.start C 21 [.sl 3 a0, .int .i64 a1] []
inductive X where
 | c2 (x0 : List Int) (x1 x2 : Int)
def id : X → Nat
 | .c2 .. => 2
def st : X → List (PV U)
 | .c2 x0 x1 x2 => stOf 21 [(0, .sl 3 x0), (1, .int .i64 x1), (5, .int .i64 x2)]
def begin (a0 : List Int) (a1 : Int) : Tr X A :=
 .jump (.c2 a0 a1 (0 : Int))
def tree : X → Tr X A
 | .c2 x0 x1 x2 =>
 .ite (decide (x2 < (List.length x0 : Int)))
  (.need ((0 : Int) ≤ x2 ∧ x2 < (List.length x0 : Int)) (.ite (!decide ((rdI x0 x2) = x1))
   (.ret ((-1 : Int)))
   (.jump (.c2 x0 (wr (x1 + (1 : Int))) (wr (x2 + (1 : Int)))))))
  (.ret x1)
def f (a0 : List Int) (a1 : Int) : Option A := (begin a0 a1).run (lp tree)
def Q : Plan C := { PL with cuts := [(2, [0, 1, 5])], ords := [], weak := [] }
theorem e : CutEq Pg C Q Tryz.f25 0 id st v o tree := fun J K x => by cases x <;> kernel_rfl
theorem b (a0 : List Int) (a1 : Int) : BegEq Pg C Q Tryz.f25 0 id st v o (S a0 a1) (begin a0 a1) := fun J K => by kernel_rfl
def told (a0 : List Int) (a1 : Int) : YtobfemcobakeoaaGreatEv.Told A := ⟨f a0 a1, fun r => SoundCall Pg C 25 (S a0 a1) 0 (v r) (o r), fun r h => soundCall_of_tree G mixed Q Tryz.func25 rfl (of_decide_eq_true (by kernel_rfl)) (by rfl) id st v o (fun _ => rfl) tree e (begin a0 a1) (b a0 a1) h⟩
end laws_heldIntS
/-! #### loop.example/g00983/laws.FnExactMigrateMem (3) -/
namespace laws_FnExactMigrateMem
def S (a0 : List S172) (a1 : List Int) (a2 : List S153) : List (PV U) := YtobfemcobakeoaaGreatEv.start C 140 [.agg [.sl 173 a0], .sl 3 a1, .agg [.sl 171 a2]] []
abbrev X := Empty
def id : X → Nat := fun _ => 0
def st : X → List (PV U) := fun _ => []
def begin (a0 : List S172) (a1 : List Int) (a2 : List S153) : Tr X A :=
 .ite (decide ((List.length a1 : Int) > (1048576 : Int)))
  (.ret true)
  (.call (laws_szProgram.told a0 (1048576 : Int)) fun t1 => .ite (decide (t1 < (0 : Int)))
   (.ret true)
   (.call (laws_szRules.told a2 t1) fun t2 => .ite (decide (t2 < (0 : Int)))
    (.ret true)
    (.last (.call (laws_toProgram.told a0) fun t3 => .last (.call (laws_toIntS.told a1) fun t4 => .last (.call (laws_toRules.told a2) fun t5 => .last (.call (spec_MigrateMem.told t3 t4 t5) fun t6 => .call (laws_toProgram.told a0) fun t7 => .call (laws_toIntS.told a1) fun t8 => .call (laws_toRules.told a2) fun t9 => .call (impl_MigrateMem.told t7 t8 t9) fun t10 => .call (laws_eqIntS.told t10.1 t6.1) fun t11 => .ite (!t11)
     (.ret false)
     (.ite (t10.2 != t6.2)
      (.ret false)
      (.last (.call (laws_toProgram.told a0) fun t12 => .last (.call (laws_eqProgram.told t7 t12) fun t13 => .ite (!t13)
       (.ret false)
       (.call (laws_toIntS.told a1) fun t14 => .call (laws_eqIntS.told t8 t14) fun t15 => .ite (!t15)
        (.ret false)
        (.last (.call (laws_toRules.told a2) fun t16 => .last (.call (laws_eqRules.told t9 t16) fun t17 => .ite (!t17)
         (.ret false)
         (.call (laws_markProgram.told (1 : Int) t7) fun t18 => .call (laws_markIntS.told t18.1 t8) fun t19 => .call (laws_markRules.told t19.1 t9) fun t20 => .ite (decide (t20.1 < (0 : Int)))
          (.ret false)
          (.call (laws_eqIntS.told t10.1 t6.1) fun t21 => .ite (!t21)
           (.ret false)
           (.ite (t10.2 != t6.2)
            (.ret false)
            (.call (laws_markIntS.told (1 : Int) t10.1) fun t22 => .call (laws_heldIntS.told t22.2 (1 : Int)) fun t23 => .ite (decide (t23 < (0 : Int)))
             (.ret false)
             (.ite (!decide (t23 = t22.1))
              (.ret false)
              (.last (.call (laws_toProgram.told a0) fun t24 => .last (.call (laws_toIntS.told a1) fun t25 => .last (.call (laws_toRules.told a2) fun t26 => .last (.call (impl_MigrateMem.told t24 t25 t26) fun t27 => .call (laws_eqIntS.told t27.1 t6.1) fun t28 => .ite (!t28)
               (.ret false)
               (.ite (t27.2 != t6.2)
                (.ret false)
                (.call (laws_heldIntS.told t22.2 (1 : Int)) fun t29 => .ite (decide (t29 < (0 : Int)))
                 (.ret false)
                 (.ite (!decide (t29 = t22.1))
                  (.ret false)
                  (.ret true)))))))))))))))))))))))))))))
def tree : X → Tr X A := fun _ => .fail
def f (a0 : List S172) (a1 : List Int) (a2 : List S153) : Option A := (begin a0 a1 a2).run (lp tree)
def Q : Plan C := { PL with cuts := [], ords := [(10, [], (.take 2 [] (.take 0 [2, 4] (.take 4 [0, 1, 2, 3] (.alt 1 (.alt 3 (.alt 5 (.alt 6 (.take 7 [] (.take 8 [] (.take 9 [] (.take 10 [] (.take 11 [] .done))))) .nil) .nil) .nil) .nil))))), (17, [], (.take 0 [1, 2] (.take 1 [0] (.alt 2 (.alt 3 (.take 4 [] .done) .nil) .nil)))), (21, [], (.take 0 [1, 2] (.take 1 [0] (.alt 2 (.alt 3 (.take 4 [] .done) .nil) .nil)))), (37, [], (.take 2 [] (.take 0 [2, 4] (.take 4 [0, 1, 2, 3] (.alt 1 (.alt 3 (.alt 5 (.alt 6 (.take 7 [] (.take 8 [] (.take 9 [] (.take 10 [] (.take 11 [] .done))))) .nil) .nil) .nil) .nil)))))], weak := [] }
theorem e : CutEq Pg C Q Tryz.f3 0 id st v o tree := fun J K x => by cases x
theorem b (a0 : List S172) (a1 : List Int) (a2 : List S153) : BegEq Pg C Q Tryz.f3 0 id st v o (S a0 a1 a2) (begin a0 a1 a2) := fun J K => by kernel_rfl
def told (a0 : List S172) (a1 : List Int) (a2 : List S153) : YtobfemcobakeoaaGreatEv.Told A := ⟨f a0 a1 a2, fun r => SoundCall Pg C 3 (S a0 a1 a2) 0 (v r) (o r), fun r h => soundCall_of_tree G mixed Q Tryz.func3 rfl (of_decide_eq_true (by kernel_rfl)) (by rfl) id st v o (fun _ => rfl) tree e (begin a0 a1 a2) (b a0 a1 a2) h⟩
end laws_FnExactMigrateMem
end
end Go.Proofs.YtobfemcobakeoaaGreat.Ev
