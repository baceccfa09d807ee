/- Functions as trees, with their contracts. No conditions. -/
import Derived.Test.YtobfemcobakeoaaGreatUEvH
namespace Go.Proofs.YtobfemcobakeoaaGreat.Ev
open Go.Proofs.YtobfemcobakeoaaGreatEv Go.RowKit
set_option linter.unusedVariables false
set_option maxRecDepth 100000
noncomputable section
/-! #### loop.example/g00983/laws.szStmtS (195) -/
namespace laws_szStmtS
def S (a0 : List S239) (a1 : Int) : List (PV U) := YtobfemcobakeoaaGreatEv.start C 12 [.sl 240 a0, .int .i64 a1] []
abbrev X := Empty
def id : X → Nat := fun _ => 0
def st : X → List (PV U) := fun _ => []
def begin (a0 : List S239) (a1 : Int) : Tr X A :=
 .ite (decide ((wr (a1 - (List.length a0 : Int))) < (0 : Int)))
  (.ret ((-1 : Int)))
  (.ret ((wr (a1 - (List.length a0 : Int)))))
def tree : X → Tr X A := fun _ => .fail
def f (a0 : List S239) (a1 : Int) : Option A := (begin a0 a1).run (lp tree)
def Q : Plan C := { PL with cuts := [], ords := [], weak := [] }
theorem e : CutEq Pg C Q Tryz.f195 0 id st v o tree := fun J K x => by cases x
theorem b (a0 : List S239) (a1 : Int) : BegEq Pg C Q Tryz.f195 0 id st v o (S a0 a1) (begin a0 a1) := fun J K => by kernel_rfl
def told (a0 : List S239) (a1 : Int) : YtobfemcobakeoaaGreatEv.Told A := ⟨f a0 a1, fun r => SoundCall Pg C 195 (S a0 a1) 0 (v r) (o r), fun r h => soundCall_of_tree G mixed Q Tryz.func195 rfl (of_decide_eq_true (by kernel_rfl)) (by rfl) id st v o (fun _ => rfl) tree e (begin a0 a1) (b a0 a1) h⟩
end laws_szStmtS
/-! #### loop.example/g00983/laws.szTask (136) -/
namespace laws_szTask
def S (a0 : List S239) (a1 a2 a3 a4 : Int) : List (PV U) := YtobfemcobakeoaaGreatEv.start C 12 [.agg [.sl 240 a0, .int .i64 a1, .int .i64 a2, .int .i64 a3], .int .i64 a4] []
abbrev X := Empty
def id : X → Nat := fun _ => 0
def st : X → List (PV U) := fun _ => []
def begin (a0 : List S239) (a1 a2 a3 a4 : Int) : Tr X A :=
 .call (laws_szStmtS.told a0 a4) fun t1 => .ite (decide (t1 < (0 : Int)))
  (.ret ((-1 : Int)))
  (.ret t1)
def tree : X → Tr X A := fun _ => .fail
def f (a0 : List S239) (a1 a2 a3 a4 : Int) : Option A := (begin a0 a1 a2 a3 a4).run (lp tree)
def Q : Plan C := { PL with cuts := [], ords := [], weak := [] }
theorem e : CutEq Pg C Q Tryz.f136 0 id st v o tree := fun J K x => by cases x
theorem b (a0 : List S239) (a1 a2 a3 a4 : Int) : BegEq Pg C Q Tryz.f136 0 id st v o (S a0 a1 a2 a3 a4) (begin a0 a1 a2 a3 a4) := fun J K => by kernel_rfl
def told (a0 : List S239) (a1 a2 a3 a4 : Int) : YtobfemcobakeoaaGreatEv.Told A := ⟨f a0 a1 a2 a3 a4, fun r => SoundCall Pg C 136 (S a0 a1 a2 a3 a4) 0 (v r) (o r), fun r h => soundCall_of_tree G mixed Q Tryz.func136 rfl (of_decide_eq_true (by kernel_rfl)) (by rfl) id st v o (fun _ => rfl) tree e (begin a0 a1 a2 a3 a4) (b a0 a1 a2 a3 a4) h⟩
end laws_szTask
/-! #### loop.example/g00983/laws.szTaskS (65) -/
namespace laws_szTaskS
def S (a0 : List S172) (a1 : Int) : List (PV U) := YtobfemcobakeoaaGreatEv.start C 27 [.sl 173 a0, .int .i64 a1] []
inductive X where
 | c5 (x0 : List S172) (x1 x2 : Int)
def id : X → Nat
 | .c5 .. => 5
def st : X → List (PV U)
 | .c5 x0 x1 x2 => stOf 27 [(0, .sl 173 x0), (1, .int .i64 x1), (5, .int .i64 x2)]
def begin (a0 : List S172) (a1 : Int) : Tr X A :=
 .ite (decide ((wr (a1 - (List.length a0 : Int))) < (0 : Int)))
  (.ret ((-1 : Int)))
  (.jump (.c5 a0 (wr (a1 - (List.length a0 : Int))) (0 : Int)))
def tree : X → Tr X A
 | .c5 x0 x1 x2 =>
 .ite (decide (x2 < (List.length x0 : Int)))
  (.need ((0 : Int) ≤ x2 ∧ x2 < (List.length x0 : Int)) (.call (laws_szTask.told ((rdS172 x0 x2).f0) ((rdS172 x0 x2).f1.f0) ((rdS172 x0 x2).f1.f1) ((rdS172 x0 x2).f1.f2) x1) fun t1 => .ite (decide (t1 < (0 : Int)))
   (.ret ((-1 : Int)))
   (.jump (.c5 x0 t1 (wr (x2 + (1 : Int)))))))
  (.ret x1)
def f (a0 : List S172) (a1 : Int) : Option A := (begin a0 a1).run (lp tree)
def Q : Plan C := { PL with cuts := [(5, [0, 1, 5])], ords := [], weak := [] }
theorem e : CutEq Pg C Q Tryz.f65 0 id st v o tree := fun J K x => by cases x <;> kernel_rfl
theorem b (a0 : List S172) (a1 : Int) : BegEq Pg C Q Tryz.f65 0 id st v o (S a0 a1) (begin a0 a1) := fun J K => by kernel_rfl
def told (a0 : List S172) (a1 : Int) : YtobfemcobakeoaaGreatEv.Told A := ⟨f a0 a1, fun r => SoundCall Pg C 65 (S a0 a1) 0 (v r) (o r), fun r h => soundCall_of_tree G mixed Q Tryz.func65 rfl (of_decide_eq_true (by kernel_rfl)) (by rfl) id st v o (fun _ => rfl) tree e (begin a0 a1) (b a0 a1) h⟩
end laws_szTaskS
/-! #### loop.example/g00983/laws.szProgram (12) -/
namespace laws_szProgram
def S (a0 : List S172) (a1 : Int) : List (PV U) := YtobfemcobakeoaaGreatEv.start C 12 [.agg [.sl 173 a0], .int .i64 a1] []
abbrev X := Empty
def id : X → Nat := fun _ => 0
def st : X → List (PV U) := fun _ => []
def begin (a0 : List S172) (a1 : Int) : Tr X A :=
 .call (laws_szTaskS.told a0 a1) fun t1 => .ite (decide (t1 < (0 : Int)))
  (.ret ((-1 : Int)))
  (.ret t1)
def tree : X → Tr X A := fun _ => .fail
def f (a0 : List S172) (a1 : Int) : Option A := (begin a0 a1).run (lp tree)
def Q : Plan C := { PL with cuts := [], ords := [], weak := [] }
theorem e : CutEq Pg C Q Tryz.f12 0 id st v o tree := fun J K x => by cases x
theorem b (a0 : List S172) (a1 : Int) : BegEq Pg C Q Tryz.f12 0 id st v o (S a0 a1) (begin a0 a1) := fun J K => by kernel_rfl
def told (a0 : List S172) (a1 : Int) : YtobfemcobakeoaaGreatEv.Told A := ⟨f a0 a1, fun r => SoundCall Pg C 12 (S a0 a1) 0 (v r) (o r), fun r h => soundCall_of_tree G mixed Q Tryz.func12 rfl (of_decide_eq_true (by kernel_rfl)) (by rfl) id st v o (fun _ => rfl) tree e (begin a0 a1) (b a0 a1) h⟩
end laws_szProgram
/-! #### loop.example/g00983/laws.szIntS (83) -/
namespace laws_szIntS
def S (a0 : List Int) (a1 : Int) : List (PV U) := YtobfemcobakeoaaGreatEv.start C 12 [.sl 3 a0, .int .i64 a1] []
abbrev X := Empty
def id : X → Nat := fun _ => 0
def st : X → List (PV U) := fun _ => []
def begin (a0 : List Int) (a1 : Int) : Tr X A :=
 .ite (decide ((wr (a1 - (List.length a0 : Int))) < (0 : Int)))
  (.ret ((-1 : Int)))
  (.ret ((wr (a1 - (List.length a0 : Int)))))
def tree : X → Tr X A := fun _ => .fail
def f (a0 : List Int) (a1 : Int) : Option A := (begin a0 a1).run (lp tree)
def Q : Plan C := { PL with cuts := [], ords := [], weak := [] }
theorem e : CutEq Pg C Q Tryz.f83 0 id st v o tree := fun J K x => by cases x
theorem b (a0 : List Int) (a1 : Int) : BegEq Pg C Q Tryz.f83 0 id st v o (S a0 a1) (begin a0 a1) := fun J K => by kernel_rfl
def told (a0 : List Int) (a1 : Int) : YtobfemcobakeoaaGreatEv.Told A := ⟨f a0 a1, fun r => SoundCall Pg C 83 (S a0 a1) 0 (v r) (o r), fun r h => soundCall_of_tree G mixed Q Tryz.func83 rfl (of_decide_eq_true (by kernel_rfl)) (by rfl) id st v o (fun _ => rfl) tree e (begin a0 a1) (b a0 a1) h⟩
end laws_szIntS
/-! #### loop.example/g00983/laws.szGateway (154) -/
namespace laws_szGateway
def S (a0 : List Int) (a1 : Int) : List (PV U) := YtobfemcobakeoaaGreatEv.start C 12 [.agg [.sl 3 a0], .int .i64 a1] []
abbrev X := Empty
def id : X → Nat := fun _ => 0
def st : X → List (PV U) := fun _ => []
def begin (a0 : List Int) (a1 : Int) : Tr X A :=
 .call (laws_szIntS.told a0 a1) fun t1 => .ite (decide (t1 < (0 : Int)))
  (.ret ((-1 : Int)))
  (.ret t1)
def tree : X → Tr X A := fun _ => .fail
def f (a0 : List Int) (a1 : Int) : Option A := (begin a0 a1).run (lp tree)
def Q : Plan C := { PL with cuts := [], ords := [], weak := [] }
theorem e : CutEq Pg C Q Tryz.f154 0 id st v o tree := fun J K x => by cases x
theorem b (a0 : List Int) (a1 : Int) : BegEq Pg C Q Tryz.f154 0 id st v o (S a0 a1) (begin a0 a1) := fun J K => by kernel_rfl
def told (a0 : List Int) (a1 : Int) : YtobfemcobakeoaaGreatEv.Told A := ⟨f a0 a1, fun r => SoundCall Pg C 154 (S a0 a1) 0 (v r) (o r), fun r h => soundCall_of_tree G mixed Q Tryz.func154 rfl (of_decide_eq_true (by kernel_rfl)) (by rfl) id st v o (fun _ => rfl) tree e (begin a0 a1) (b a0 a1) h⟩
end laws_szGateway
/-! #### loop.example/g00983/laws.szLink (84) -/
namespace laws_szLink
def S (a0 : Int) (a1 : List Int) (a2 : Int) : List (PV U) := YtobfemcobakeoaaGreatEv.start C 12 [.agg [.int .i64 a0, .sl 3 a1], .int .i64 a2] []
abbrev X := Empty
def id : X → Nat := fun _ => 0
def st : X → List (PV U) := fun _ => []
def begin (a0 : Int) (a1 : List Int) (a2 : Int) : Tr X A :=
 .call (laws_szGateway.told a1 a2) fun t1 => .ite (decide (t1 < (0 : Int)))
  (.ret ((-1 : Int)))
  (.ret t1)
def tree : X → Tr X A := fun _ => .fail
def f (a0 : Int) (a1 : List Int) (a2 : Int) : Option A := (begin a0 a1 a2).run (lp tree)
def Q : Plan C := { PL with cuts := [], ords := [], weak := [] }
theorem e : CutEq Pg C Q Tryz.f84 0 id st v o tree := fun J K x => by cases x
theorem b (a0 : Int) (a1 : List Int) (a2 : Int) : BegEq Pg C Q Tryz.f84 0 id st v o (S a0 a1 a2) (begin a0 a1 a2) := fun J K => by kernel_rfl
def told (a0 : Int) (a1 : List Int) (a2 : Int) : YtobfemcobakeoaaGreatEv.Told A := ⟨f a0 a1 a2, fun r => SoundCall Pg C 84 (S a0 a1 a2) 0 (v r) (o r), fun r h => soundCall_of_tree G mixed Q Tryz.func84 rfl (of_decide_eq_true (by kernel_rfl)) (by rfl) id st v o (fun _ => rfl) tree e (begin a0 a1 a2) (b a0 a1 a2) h⟩
end laws_szLink
/-! #### loop.example/g00983/laws.szNode (26) -/
namespace laws_szNode
def S (a0 : List S172) (a1 a2 : List Int) (a3 a4 a5 a6 a7 a8 a9 a10 : Int) (a11 : List Int) (a12 a13 : Int) : List (PV U) := YtobfemcobakeoaaGreatEv.start C 30 [.agg [.sl 173 a0, .sl 3 a1, .sl 3 a2, .int .i64 a3, .int .i64 a4, .int .i64 a5, .int .i64 a6, .int .i64 a7, .int .i64 a8, .int .i64 a9, .int .i64 a10, .sl 3 a11, .int .i64 a12], .int .i64 a13] []
abbrev X := Empty
def id : X → Nat := fun _ => 0
def st : X → List (PV U) := fun _ => []
def begin (a0 : List S172) (a1 a2 : List Int) (a3 a4 a5 a6 a7 a8 a9 a10 : Int) (a11 : List Int) (a12 a13 : Int) : Tr X A :=
 .call (laws_szProgram.told a0 a13) fun t1 => .ite (decide (t1 < (0 : Int)))
  (.ret ((-1 : Int)))
  (.call (laws_szIntS.told a1 t1) fun t2 => .ite (decide (t2 < (0 : Int)))
   (.ret ((-1 : Int)))
   (.call (laws_szIntS.told a2 t2) fun t3 => .ite (decide (t3 < (0 : Int)))
    (.ret ((-1 : Int)))
    (.call (laws_szLink.told a10 a11 t3) fun t4 => .ite (decide (t4 < (0 : Int)))
     (.ret ((-1 : Int)))
     (.ret t4))))
def tree : X → Tr X A := fun _ => .fail
def f (a0 : List S172) (a1 a2 : List Int) (a3 a4 a5 a6 a7 a8 a9 a10 : Int) (a11 : List Int) (a12 a13 : Int) : Option A := (begin a0 a1 a2 a3 a4 a5 a6 a7 a8 a9 a10 a11 a12 a13).run (lp tree)
def Q : Plan C := { PL with cuts := [], ords := [], weak := [] }
theorem e : CutEq Pg C Q Tryz.f26 0 id st v o tree := fun J K x => by cases x
theorem b (a0 : List S172) (a1 a2 : List Int) (a3 a4 a5 a6 a7 a8 a9 a10 : Int) (a11 : List Int) (a12 a13 : Int) : BegEq Pg C Q Tryz.f26 0 id st v o (S a0 a1 a2 a3 a4 a5 a6 a7 a8 a9 a10 a11 a12 a13) (begin a0 a1 a2 a3 a4 a5 a6 a7 a8 a9 a10 a11 a12 a13) := fun J K => by kernel_rfl
def told (a0 : List S172) (a1 a2 : List Int) (a3 a4 a5 a6 a7 a8 a9 a10 : Int) (a11 : List Int) (a12 a13 : Int) : YtobfemcobakeoaaGreatEv.Told A := ⟨f a0 a1 a2 a3 a4 a5 a6 a7 a8 a9 a10 a11 a12 a13, fun r => SoundCall Pg C 26 (S a0 a1 a2 a3 a4 a5 a6 a7 a8 a9 a10 a11 a12 a13) 0 (v r) (o r), fun r h => soundCall_of_tree G mixed Q Tryz.func26 rfl (of_decide_eq_true (by kernel_rfl)) (by rfl) id st v o (fun _ => rfl) tree e (begin a0 a1 a2 a3 a4 a5 a6 a7 a8 a9 a10 a11 a12 a13) (b a0 a1 a2 a3 a4 a5 a6 a7 a8 a9 a10 a11 a12 a13) h⟩
end laws_szNode
/-! #### loop.example/g00983/laws.toExpr (147) -/
namespace laws_toExpr
def S (a0 a1 a2 : Int) : List (PV U) := YtobfemcobakeoaaGreatEv.start C 14 [.agg [.int .i64 a0, .int .i64 a1, .int .i64 a2]] []
abbrev X := Empty
def id : X → Nat := fun _ => 0
def st : X → List (PV U) := fun _ => []
def begin (a0 a1 a2 : Int) : Tr X A :=
 .ret (a0, a1, a2)
def tree : X → Tr X A := fun _ => .fail
def f (a0 a1 a2 : Int) : Option A := (begin a0 a1 a2).run (lp tree)
def Q : Plan C := { PL with cuts := [], ords := [], weak := [] }
theorem e : CutEq Pg C Q Tryz.f147 0 id st v o tree := fun J K x => by cases x
theorem b (a0 a1 a2 : Int) : BegEq Pg C Q Tryz.f147 0 id st v o (S a0 a1 a2) (begin a0 a1 a2) := fun J K => by kernel_rfl
def told (a0 a1 a2 : Int) : YtobfemcobakeoaaGreatEv.Told A := ⟨f a0 a1 a2, fun r => SoundCall Pg C 147 (S a0 a1 a2) 0 (v r) (o r), fun r h => soundCall_of_tree G mixed Q Tryz.func147 rfl (of_decide_eq_true (by kernel_rfl)) (by rfl) id st v o (fun _ => rfl) tree e (begin a0 a1 a2) (b a0 a1 a2) h⟩
end laws_toExpr
/-! #### loop.example/g00983/laws.toStmt (227) -/
namespace laws_toStmt
def S (a0 a1 a2 a3 a4 a5 : Int) : List (PV U) := YtobfemcobakeoaaGreatEv.start C 18 [.agg [.int .i64 a0, .int .i64 a1, .int .i64 a2, .int .i64 a3, .int .i64 a4, .int .i64 a5]] []
abbrev X := Empty
def id : X → Nat := fun _ => 0
def st : X → List (PV U) := fun _ => []
def begin (a0 a1 a2 a3 a4 a5 : Int) : Tr X A :=
 .call (laws_toExpr.told a3 a4 a5) fun t1 => .ret (a0, a1, a2, t1.1, t1.2.1, t1.2.2)
def tree : X → Tr X A := fun _ => .fail
def f (a0 a1 a2 a3 a4 a5 : Int) : Option A := (begin a0 a1 a2 a3 a4 a5).run (lp tree)
def Q : Plan C := { PL with cuts := [], ords := [], weak := [] }
theorem e : CutEq Pg C Q Tryz.f227 0 id st v o tree := fun J K x => by cases x
theorem b (a0 a1 a2 a3 a4 a5 : Int) : BegEq Pg C Q Tryz.f227 0 id st v o (S a0 a1 a2 a3 a4 a5) (begin a0 a1 a2 a3 a4 a5) := fun J K => by kernel_rfl
def told (a0 a1 a2 a3 a4 a5 : Int) : YtobfemcobakeoaaGreatEv.Told A := ⟨f a0 a1 a2 a3 a4 a5, fun r => SoundCall Pg C 227 (S a0 a1 a2 a3 a4 a5) 0 (v r) (o r), fun r h => soundCall_of_tree G mixed Q Tryz.func227 rfl (of_decide_eq_true (by kernel_rfl)) (by rfl) id st v o (fun _ => rfl) tree e (begin a0 a1 a2 a3 a4 a5) (b a0 a1 a2 a3 a4 a5) h⟩
end laws_toStmt
/-! #### loop.example/g00983/laws.toStmtS (203) -/
namespace laws_toStmtS
def S (a0 : List S239) : List (PV U) := YtobfemcobakeoaaGreatEv.start C 23 [.sl 240 a0] []
inductive X where
 | c3 (x0 : List S239) (x1 : List S210) (x2 : Int)
def id : X → Nat
 | .c3 .. => 3
def st : X → List (PV U)
 | .c3 x0 x1 x2 => stOf 23 [(0, .sl 240 x0), (3, .own true 211 x1), (4, .int .i64 x2)]
def begin (a0 : List S239) : Tr X A :=
 .need ((0 : Int) ≤ (List.length a0 : Int) ∧ (List.length a0 : Int) ≤ (List.length a0 : Int) ∧ (List.length a0 : Int) * (48 : Nat) ≤ room) (.jump (.c3 a0 (List.replicate (Int.toNat (List.length a0 : Int)) z210) (0 : Int)))
def tree : X → Tr X A
 | .c3 x0 x1 x2 =>
 .ite (decide (x2 < (List.length x0 : Int)))
  (.need ((0 : Int) ≤ x2 ∧ x2 < (List.length x0 : Int)) (.call (laws_toStmt.told ((rdS239 x0 x2).f0) ((rdS239 x0 x2).f1) ((rdS239 x0 x2).f2) ((rdS239 x0 x2).f3.f0) ((rdS239 x0 x2).f3.f1) ((rdS239 x0 x2).f3.f2)) fun t1 => .need ((0 : Int) ≤ x2 ∧ x2 < (List.length x1 : Int)) (.val ((List.set x1 (Int.toNat x2) (⟨t1.1, t1.2.1, t1.2.2.1, (⟨t1.2.2.2.1, t1.2.2.2.2.1, t1.2.2.2.2.2⟩ : S153)⟩ : S210)) : List S210) fun v2 => .jump (.c3 x0 v2 (wr (x2 + (1 : Int)))))))
  (.ret x1)
def f (a0 : List S239) : Option A := (begin a0).run (lp tree)
def Q : Plan C := { PL with cuts := [(3, [0, 3, 4])], ords := [], weak := [] }
theorem e : CutEq Pg C Q Tryz.f203 0 id st v o tree := fun J K x => by cases x <;> kernel_rfl
theorem b (a0 : List S239) : BegEq Pg C Q Tryz.f203 0 id st v o (S a0) (begin a0) := fun J K => by kernel_rfl
def told (a0 : List S239) : YtobfemcobakeoaaGreatEv.Told A := ⟨f a0, fun r => SoundCall Pg C 203 (S a0) 0 (v r) (o r), fun r h => soundCall_of_tree G mixed Q Tryz.func203 rfl (of_decide_eq_true (by kernel_rfl)) (by rfl) id st v o (fun _ => rfl) tree e (begin a0) (b a0) h⟩
end laws_toStmtS
/-! #### loop.example/g00983/laws.toTask (146) -/
namespace laws_toTask
def S (a0 : List S239) (a1 a2 a3 : Int) : List (PV U) := YtobfemcobakeoaaGreatEv.start C 13 [.agg [.sl 240 a0, .int .i64 a1, .int .i64 a2, .int .i64 a3]] []
abbrev X := Empty
def id : X → Nat := fun _ => 0
def st : X → List (PV U) := fun _ => []
def begin (a0 : List S239) (a1 a2 a3 : Int) : Tr X A :=
 .call (laws_toStmtS.told a0) fun t1 => .call (laws_toExpr.told a1 a2 a3) fun t2 => .ret (t1, t2.1, t2.2.1, t2.2.2)
def tree : X → Tr X A := fun _ => .fail
def f (a0 : List S239) (a1 a2 a3 : Int) : Option A := (begin a0 a1 a2 a3).run (lp tree)
def Q : Plan C := { PL with cuts := [], ords := [], weak := [] }
theorem e : CutEq Pg C Q Tryz.f146 0 id st v o tree := fun J K x => by cases x
theorem b (a0 : List S239) (a1 a2 a3 : Int) : BegEq Pg C Q Tryz.f146 0 id st v o (S a0 a1 a2 a3) (begin a0 a1 a2 a3) := fun J K => by kernel_rfl
def told (a0 : List S239) (a1 a2 a3 : Int) : YtobfemcobakeoaaGreatEv.Told A := ⟨f a0 a1 a2 a3, fun r => SoundCall Pg C 146 (S a0 a1 a2 a3) 0 (v r) (o r), fun r h => soundCall_of_tree G mixed Q Tryz.func146 rfl (of_decide_eq_true (by kernel_rfl)) (by rfl) id st v o (fun _ => rfl) tree e (begin a0 a1 a2 a3) (b a0 a1 a2 a3) h⟩
end laws_toTask
/-! #### loop.example/g00983/laws.toTaskS (74) -/
namespace laws_toTaskS
def S (a0 : List S172) : List (PV U) := YtobfemcobakeoaaGreatEv.start C 23 [.sl 173 a0] []
inductive X where
 | c3 (x0 : List S172) (x1 : List S166) (x2 : Int)
def id : X → Nat
 | .c3 .. => 3
def st : X → List (PV U)
 | .c3 x0 x1 x2 => stOf 23 [(0, .sl 173 x0), (3, .own true 167 x1), (4, .int .i64 x2)]
def begin (a0 : List S172) : Tr X A :=
 .need ((0 : Int) ≤ (List.length a0 : Int) ∧ (List.length a0 : Int) ≤ (List.length a0 : Int) ∧ (List.length a0 : Int) * (48 : Nat) ≤ room) (.jump (.c3 a0 (List.replicate (Int.toNat (List.length a0 : Int)) z166) (0 : Int)))
def tree : X → Tr X A
 | .c3 x0 x1 x2 =>
 .ite (decide (x2 < (List.length x0 : Int)))
  (.need ((0 : Int) ≤ x2 ∧ x2 < (List.length x0 : Int)) (.call (laws_toTask.told ((rdS172 x0 x2).f0) ((rdS172 x0 x2).f1.f0) ((rdS172 x0 x2).f1.f1) ((rdS172 x0 x2).f1.f2)) fun t1 => .need ((0 : Int) ≤ x2 ∧ x2 < (List.length x1 : Int)) (.jump (.c3 x0 (List.set x1 (Int.toNat x2) (⟨t1.1, (⟨t1.2.1, t1.2.2.1, t1.2.2.2⟩ : S153)⟩ : S166)) (wr (x2 + (1 : Int)))))))
  (.ret x1)
def f (a0 : List S172) : Option A := (begin a0).run (lp tree)
def Q : Plan C := { PL with cuts := [(3, [0, 3, 4])], ords := [], weak := [] }
theorem e : CutEq Pg C Q Tryz.f74 0 id st v o tree := fun J K x => by cases x <;> kernel_rfl
theorem b (a0 : List S172) : BegEq Pg C Q Tryz.f74 0 id st v o (S a0) (begin a0) := fun J K => by kernel_rfl
def told (a0 : List S172) : YtobfemcobakeoaaGreatEv.Told A := ⟨f a0, fun r => SoundCall Pg C 74 (S a0) 0 (v r) (o r), fun r h => soundCall_of_tree G mixed Q Tryz.func74 rfl (of_decide_eq_true (by kernel_rfl)) (by rfl) id st v o (fun _ => rfl) tree e (begin a0) (b a0) h⟩
end laws_toTaskS
/-! #### loop.example/g00983/laws.toProgram (15) -/
namespace laws_toProgram
def S (a0 : List S172) : List (PV U) := YtobfemcobakeoaaGreatEv.start C 9 [.agg [.sl 173 a0]] []
abbrev X := Empty
def id : X → Nat := fun _ => 0
def st : X → List (PV U) := fun _ => []
def begin (a0 : List S172) : Tr X A :=
 .call (laws_toTaskS.told a0) fun t1 => .ret t1
def tree : X → Tr X A := fun _ => .fail
def f (a0 : List S172) : Option A := (begin a0).run (lp tree)
def Q : Plan C := { PL with cuts := [], ords := [], weak := [] }
theorem e : CutEq Pg C Q Tryz.f15 0 id st v o tree := fun J K x => by cases x
theorem b (a0 : List S172) : BegEq Pg C Q Tryz.f15 0 id st v o (S a0) (begin a0) := fun J K => by kernel_rfl
def told (a0 : List S172) : YtobfemcobakeoaaGreatEv.Told A := ⟨f a0, fun r => SoundCall Pg C 15 (S a0) 0 (v r) (o r), fun r h => soundCall_of_tree G mixed Q Tryz.func15 rfl (of_decide_eq_true (by kernel_rfl)) (by rfl) id st v o (fun _ => rfl) tree e (begin a0) (b a0) h⟩
end laws_toProgram
/-! #### loop.example/g00983/laws.toIntS (16) -/
namespace laws_toIntS
def S (a0 : List Int) : List (PV U) := YtobfemcobakeoaaGreatEv.start C 22 [.sl 3 a0] []
inductive X where
 | c3 (x0 x1 : List Int) (x2 : Int)
def id : X → Nat
 | .c3 .. => 3
def st : X → List (PV U)
 | .c3 x0 x1 x2 => stOf 22 [(0, .sl 3 x0), (3, .own true 3 x1), (4, .int .i64 x2)]
def begin (a0 : List Int) : Tr X A :=
 .need ((0 : Int) ≤ (List.length a0 : Int) ∧ (List.length a0 : Int) ≤ (List.length a0 : Int) ∧ (List.length a0 : Int) * (8 : Nat) ≤ room) (.jump (.c3 a0 (List.replicate (Int.toNat (List.length a0 : Int)) (0 : Int)) (0 : Int)))
def tree : X → Tr X A
 | .c3 x0 x1 x2 =>
 .ite (decide (x2 < (List.length x0 : Int)))
  (.need ((0 : Int) ≤ x2 ∧ x2 < (List.length x0 : Int)) (.need ((0 : Int) ≤ x2 ∧ x2 < (List.length x1 : Int)) (.jump (.c3 x0 (List.set x1 (Int.toNat x2) (rdI x0 x2)) (wr (x2 + (1 : Int)))))))
  (.ret x1)
def f (a0 : List Int) : Option A := (begin a0).run (lp tree)
def Q : Plan C := { PL with cuts := [(3, [0, 3, 4])], ords := [], weak := [] }
theorem e : CutEq Pg C Q Tryz.f16 0 id st v o tree := fun J K x => by cases x <;> kernel_rfl
theorem b (a0 : List Int) : BegEq Pg C Q Tryz.f16 0 id st v o (S a0) (begin a0) := fun J K => by kernel_rfl
def told (a0 : List Int) : YtobfemcobakeoaaGreatEv.Told A := ⟨f a0, fun r => SoundCall Pg C 16 (S a0) 0 (v r) (o r), fun r h => soundCall_of_tree G mixed Q Tryz.func16 rfl (of_decide_eq_true (by kernel_rfl)) (by rfl) id st v o (fun _ => rfl) tree e (begin a0) (b a0) h⟩
end laws_toIntS
/-! #### loop.example/g00983/laws.toStore (88) -/
namespace laws_toStore
def S (a0 a1 a2 a3 : Int) : List (PV U) := YtobfemcobakeoaaGreatEv.start C 17 [.agg [.int .i64 a0, .int .i64 a1, .int .i64 a2, .int .i64 a3]] []
abbrev X := Empty
def id : X → Nat := fun _ => 0
def st : X → List (PV U) := fun _ => []
def begin (a0 a1 a2 a3 : Int) : Tr X A :=
 .ret (a0, a1, a2, a3)
def tree : X → Tr X A := fun _ => .fail
def f (a0 a1 a2 a3 : Int) : Option A := (begin a0 a1 a2 a3).run (lp tree)
def Q : Plan C := { PL with cuts := [], ords := [], weak := [] }
theorem e : CutEq Pg C Q Tryz.f88 0 id st v o tree := fun J K x => by cases x
theorem b (a0 a1 a2 a3 : Int) : BegEq Pg C Q Tryz.f88 0 id st v o (S a0 a1 a2 a3) (begin a0 a1 a2 a3) := fun J K => by kernel_rfl
def told (a0 a1 a2 a3 : Int) : YtobfemcobakeoaaGreatEv.Told A := ⟨f a0 a1 a2 a3, fun r => SoundCall Pg C 88 (S a0 a1 a2 a3) 0 (v r) (o r), fun r h => soundCall_of_tree G mixed Q Tryz.func88 rfl (of_decide_eq_true (by kernel_rfl)) (by rfl) id st v o (fun _ => rfl) tree e (begin a0 a1 a2 a3) (b a0 a1 a2 a3) h⟩
end laws_toStore
/-! #### loop.example/g00983/laws.toSpan (89) -/
namespace laws_toSpan
def S (a0 a1 : Int) : List (PV U) := YtobfemcobakeoaaGreatEv.start C 11 [.agg [.int .i64 a0, .int .i64 a1]] []
abbrev X := Empty
def id : X → Nat := fun _ => 0
def st : X → List (PV U) := fun _ => []
def begin (a0 a1 : Int) : Tr X A :=
 .ret (a0, a1)
def tree : X → Tr X A := fun _ => .fail
def f (a0 a1 : Int) : Option A := (begin a0 a1).run (lp tree)
def Q : Plan C := { PL with cuts := [], ords := [], weak := [] }
theorem e : CutEq Pg C Q Tryz.f89 0 id st v o tree := fun J K x => by cases x
theorem b (a0 a1 : Int) : BegEq Pg C Q Tryz.f89 0 id st v o (S a0 a1) (begin a0 a1) := fun J K => by kernel_rfl
def told (a0 a1 : Int) : YtobfemcobakeoaaGreatEv.Told A := ⟨f a0 a1, fun r => SoundCall Pg C 89 (S a0 a1) 0 (v r) (o r), fun r h => soundCall_of_tree G mixed Q Tryz.func89 rfl (of_decide_eq_true (by kernel_rfl)) (by rfl) id st v o (fun _ => rfl) tree e (begin a0 a1) (b a0 a1) h⟩
end laws_toSpan
/-! #### loop.example/g00983/laws.toGateway (162) -/
namespace laws_toGateway
def S (a0 : List Int) : List (PV U) := YtobfemcobakeoaaGreatEv.start C 9 [.agg [.sl 3 a0]] []
abbrev X := Empty
def id : X → Nat := fun _ => 0
def st : X → List (PV U) := fun _ => []
def begin (a0 : List Int) : Tr X A :=
 .call (laws_toIntS.told a0) fun t1 => .ret t1
def tree : X → Tr X A := fun _ => .fail
def f (a0 : List Int) : Option A := (begin a0).run (lp tree)
def Q : Plan C := { PL with cuts := [], ords := [], weak := [] }
theorem e : CutEq Pg C Q Tryz.f162 0 id st v o tree := fun J K x => by cases x
theorem b (a0 : List Int) : BegEq Pg C Q Tryz.f162 0 id st v o (S a0) (begin a0) := fun J K => by kernel_rfl
def told (a0 : List Int) : YtobfemcobakeoaaGreatEv.Told A := ⟨f a0, fun r => SoundCall Pg C 162 (S a0) 0 (v r) (o r), fun r h => soundCall_of_tree G mixed Q Tryz.func162 rfl (of_decide_eq_true (by kernel_rfl)) (by rfl) id st v o (fun _ => rfl) tree e (begin a0) (b a0) h⟩
end laws_toGateway
/-! #### loop.example/g00983/laws.toLink (90) -/
namespace laws_toLink
def S (a0 : Int) (a1 : List Int) : List (PV U) := YtobfemcobakeoaaGreatEv.start C 12 [.agg [.int .i64 a0, .sl 3 a1]] []
abbrev X := Empty
def id : X → Nat := fun _ => 0
def st : X → List (PV U) := fun _ => []
def begin (a0 : Int) (a1 : List Int) : Tr X A :=
 .call (laws_toGateway.told a1) fun t1 => .ret (a0, t1)
def tree : X → Tr X A := fun _ => .fail
def f (a0 : Int) (a1 : List Int) : Option A := (begin a0 a1).run (lp tree)
def Q : Plan C := { PL with cuts := [], ords := [], weak := [] }
theorem e : CutEq Pg C Q Tryz.f90 0 id st v o tree := fun J K x => by cases x
theorem b (a0 : Int) (a1 : List Int) : BegEq Pg C Q Tryz.f90 0 id st v o (S a0 a1) (begin a0 a1) := fun J K => by kernel_rfl
def told (a0 : Int) (a1 : List Int) : YtobfemcobakeoaaGreatEv.Told A := ⟨f a0 a1, fun r => SoundCall Pg C 90 (S a0 a1) 0 (v r) (o r), fun r h => soundCall_of_tree G mixed Q Tryz.func90 rfl (of_decide_eq_true (by kernel_rfl)) (by rfl) id st v o (fun _ => rfl) tree e (begin a0 a1) (b a0 a1) h⟩
end laws_toLink
/-! #### loop.example/g00983/laws.toNode (28) -/
namespace laws_toNode
def S (a0 : List S172) (a1 a2 : List Int) (a3 a4 a5 a6 a7 a8 a9 a10 : Int) (a11 : List Int) (a12 : Int) : List (PV U) := YtobfemcobakeoaaGreatEv.start C 35 [.agg [.sl 173 a0, .sl 3 a1, .sl 3 a2, .int .i64 a3, .int .i64 a4, .int .i64 a5, .int .i64 a6, .int .i64 a7, .int .i64 a8, .int .i64 a9, .int .i64 a10, .sl 3 a11, .int .i64 a12]] []
abbrev X := Empty
def id : X → Nat := fun _ => 0
def st : X → List (PV U) := fun _ => []
def begin (a0 : List S172) (a1 a2 : List Int) (a3 a4 a5 a6 a7 a8 a9 a10 : Int) (a11 : List Int) (a12 : Int) : Tr X A :=
 .call (laws_toProgram.told a0) fun t1 => .call (laws_toIntS.told a1) fun t2 => .call (laws_toIntS.told a2) fun t3 => .call (laws_toStore.told a4 a5 a6 a7) fun t4 => .call (laws_toSpan.told a8 a9) fun t5 => .call (laws_toLink.told a10 a11) fun t6 => .ret (t1, t2, t3, a3, t4.1, t4.2.1, t4.2.2.1, t4.2.2.2, t5.1, t5.2, t6.1, t6.2, a12)
def tree : X → Tr X A := fun _ => .fail
def f (a0 : List S172) (a1 a2 : List Int) (a3 a4 a5 a6 a7 a8 a9 a10 : Int) (a11 : List Int) (a12 : Int) : Option A := (begin a0 a1 a2 a3 a4 a5 a6 a7 a8 a9 a10 a11 a12).run (lp tree)
def Q : Plan C := { PL with cuts := [], ords := [], weak := [] }
theorem e : CutEq Pg C Q Tryz.f28 0 id st v o tree := fun J K x => by cases x
theorem b (a0 : List S172) (a1 a2 : List Int) (a3 a4 a5 a6 a7 a8 a9 a10 : Int) (a11 : List Int) (a12 : Int) : BegEq Pg C Q Tryz.f28 0 id st v o (S a0 a1 a2 a3 a4 a5 a6 a7 a8 a9 a10 a11 a12) (begin a0 a1 a2 a3 a4 a5 a6 a7 a8 a9 a10 a11 a12) := fun J K => by kernel_rfl
def told (a0 : List S172) (a1 a2 : List Int) (a3 a4 a5 a6 a7 a8 a9 a10 : Int) (a11 : List Int) (a12 : Int) : YtobfemcobakeoaaGreatEv.Told A := ⟨f a0 a1 a2 a3 a4 a5 a6 a7 a8 a9 a10 a11 a12, fun r => SoundCall Pg C 28 (S a0 a1 a2 a3 a4 a5 a6 a7 a8 a9 a10 a11 a12) 0 (v r) (o r), fun r h => soundCall_of_tree G mixed Q Tryz.func28 rfl (of_decide_eq_true (by kernel_rfl)) (by rfl) id st v o (fun _ => rfl) tree e (begin a0 a1 a2 a3 a4 a5 a6 a7 a8 a9 a10 a11 a12) (b a0 a1 a2 a3 a4 a5 a6 a7 a8 a9 a10 a11 a12) h⟩
end laws_toNode
/-! #### loop.example/g00983/laws.toBoolS (29) -/
namespace laws_toBoolS
def S (a0 : List Bool) : List (PV U) := YtobfemcobakeoaaGreatEv.start C 22 [.sl 4 a0] []
inductive X where
 | c3 (x0 x1 : List Bool) (x2 : Int)
def id : X → Nat
 | .c3 .. => 3
def st : X → List (PV U)
 | .c3 x0 x1 x2 => stOf 22 [(0, .sl 4 x0), (3, .own true 4 x1), (4, .int .i64 x2)]
def begin (a0 : List Bool) : Tr X A :=
 .need ((0 : Int) ≤ (List.length a0 : Int) ∧ (List.length a0 : Int) ≤ (List.length a0 : Int) ∧ (List.length a0 : Int) * (1 : Nat) ≤ room) (.jump (.c3 a0 (List.replicate (Int.toNat (List.length a0 : Int)) false) (0 : Int)))
def tree : X → Tr X A
 | .c3 x0 x1 x2 =>
 .ite (decide (x2 < (List.length x0 : Int)))
  (.need ((0 : Int) ≤ x2 ∧ x2 < (List.length x0 : Int)) (.need ((0 : Int) ≤ x2 ∧ x2 < (List.length x1 : Int)) (.jump (.c3 x0 (List.set x1 (Int.toNat x2) (rdB x0 x2)) (wr (x2 + (1 : Int)))))))
  (.ret x1)
def f (a0 : List Bool) : Option A := (begin a0).run (lp tree)
def Q : Plan C := { PL with cuts := [(3, [0, 3, 4])], ords := [], weak := [] }
theorem e : CutEq Pg C Q Tryz.f29 0 id st v o tree := fun J K x => by cases x <;> kernel_rfl
theorem b (a0 : List Bool) : BegEq Pg C Q Tryz.f29 0 id st v o (S a0) (begin a0) := fun J K => by kernel_rfl
def told (a0 : List Bool) : YtobfemcobakeoaaGreatEv.Told A := ⟨f a0, fun r => SoundCall Pg C 29 (S a0) 0 (v r) (o r), fun r h => soundCall_of_tree G mixed Q Tryz.func29 rfl (of_decide_eq_true (by kernel_rfl)) (by rfl) id st v o (fun _ => rfl) tree e (begin a0) (b a0) h⟩
end laws_toBoolS
/-! #### loop.example/g00983/spec.l06Copy (155) -/
namespace spec_l06Copy
def S (a0 : List S166) : List (PV U) := YtobfemcobakeoaaGreatEv.start C 34 [.agg [.sl 167 a0]] []
inductive X where
 | c3 (x0 x1 x2 : List S166) (x3 : Int)
 | c4 (x0 x1 x2 : List S166) (x3 : Int)
def id : X → Nat
 | .c3 .. => 3
 | .c4 .. => 4
def st : X → List (PV U)
 | .c3 x0 x1 x2 x3 => stOf 34 [(1, .box [.sl 167 x0]), (2, .box [.own true 167 x1]), (3, .box [.own true 167 x2]), (4, .int .i64 x3)]
 | .c4 x0 x1 x2 x3 => stOf 34 [(1, .box [.sl 167 x0]), (2, .box [.own true 167 x1]), (3, .box [.own true 167 x2]), (4, .int .i64 x3)]
def begin (a0 : List S166) : Tr X A :=
 .jump (.c3 a0 ([] : List S166) ([] : List S166) (0 : Int))
def tree : X → Tr X A
 | .c3 x0 x1 x2 x3 =>
 .ite (decide (x3 < (List.length x0 : Int)))
  (.need ((0 : Int) ≤ x3 ∧ x3 < (List.length x0 : Int)) (.both (.both (.both (.need (((List.length ([] : List S210) : Int) + (List.length ((rdS166 x0 x3).f0) : Int)) * (48 : Nat) ≤ room) (.need ((0 : Int) ≤ x3 ∧ x3 < (List.length x0 : Int)) (.last (.last (.val ([(⟨(([] : List S210) ++ (rdS166 x0 x3).f0), (⟨(rdS166 x0 x3).f1.f0, (rdS166 x0 x3).f1.f1, (rdS166 x0 x3).f1.f2⟩ : S153)⟩ : S166)] : List S166) fun v1 => .last (.need (((List.length x2 : Int) + (List.length v1 : Int)) * (48 : Nat) ≤ room) (.last (.jump (.c4 x0 x1 (x2 ++ v1) x3)))))))))
     (.last (.need ((0 : Int) ≤ x3 ∧ x3 < (List.length x0 : Int)) (.both (.need (((List.length ([] : List S210) : Int) + (List.length ((rdS166 x0 x3).f0) : Int)) * (48 : Nat) ≤ room) (.last (.last (.val ([(⟨(([] : List S210) ++ (rdS166 x0 x3).f0), (⟨(rdS166 x0 x3).f1.f0, (rdS166 x0 x3).f1.f1, (rdS166 x0 x3).f1.f2⟩ : S153)⟩ : S166)] : List S166) fun v2 => .last (.need (((List.length x2 : Int) + (List.length v2 : Int)) * (48 : Nat) ≤ room) (.last (.jump (.c4 x0 x1 (x2 ++ v2) x3))))))))
      (.last (.last (.need (((List.length ([] : List S210) : Int) + (List.length ((rdS166 x0 x3).f0) : Int)) * (48 : Nat) ≤ room) (.last (.last (.val ([(⟨(([] : List S210) ++ (rdS166 x0 x3).f0), (⟨(rdS166 x0 x3).f1.f0, (rdS166 x0 x3).f1.f1, (rdS166 x0 x3).f1.f2⟩ : S153)⟩ : S166)] : List S166) fun v3 => .last (.need (((List.length x2 : Int) + (List.length v3 : Int)) * (48 : Nat) ≤ room) (.last (.jump (.c4 x0 x1 (x2 ++ v3) x3))))))))))))))
    (.last (.need ((0 : Int) ≤ x3 ∧ x3 < (List.length x0 : Int)) (.both (.both (.need (((List.length ([] : List S210) : Int) + (List.length ((rdS166 x0 x3).f0) : Int)) * (48 : Nat) ≤ room) (.last (.last (.val ([(⟨(([] : List S210) ++ (rdS166 x0 x3).f0), (⟨(rdS166 x0 x3).f1.f0, (rdS166 x0 x3).f1.f1, (rdS166 x0 x3).f1.f2⟩ : S153)⟩ : S166)] : List S166) fun v4 => .last (.need (((List.length x2 : Int) + (List.length v4 : Int)) * (48 : Nat) ≤ room) (.last (.jump (.c4 x0 x1 (x2 ++ v4) x3))))))))
      (.last (.last (.need (((List.length ([] : List S210) : Int) + (List.length ((rdS166 x0 x3).f0) : Int)) * (48 : Nat) ≤ room) (.last (.last (.val ([(⟨(([] : List S210) ++ (rdS166 x0 x3).f0), (⟨(rdS166 x0 x3).f1.f0, (rdS166 x0 x3).f1.f1, (rdS166 x0 x3).f1.f2⟩ : S153)⟩ : S166)] : List S166) fun v5 => .last (.need (((List.length x2 : Int) + (List.length v5 : Int)) * (48 : Nat) ≤ room) (.last (.jump (.c4 x0 x1 (x2 ++ v5) x3)))))))))))
     (.last (.last (.last (.need (((List.length ([] : List S210) : Int) + (List.length ((rdS166 x0 x3).f0) : Int)) * (48 : Nat) ≤ room) (.last (.last (.val ([(⟨(([] : List S210) ++ (rdS166 x0 x3).f0), (⟨(rdS166 x0 x3).f1.f0, (rdS166 x0 x3).f1.f1, (rdS166 x0 x3).f1.f2⟩ : S153)⟩ : S166)] : List S166) fun v6 => .last (.need (((List.length x2 : Int) + (List.length v6 : Int)) * (48 : Nat) ≤ room) (.last (.jump (.c4 x0 x1 (x2 ++ v6) x3)))))))))))))))
   (.both (.both (.both (.need (((List.length ([] : List S210) : Int) + (List.length ((rdS166 x0 x3).f0) : Int)) * (48 : Nat) ≤ room) (.need ((0 : Int) ≤ x3 ∧ x3 < (List.length x0 : Int)) (.last (.last (.val ([(⟨(([] : List S210) ++ (rdS166 x0 x3).f0), (⟨(rdS166 x0 x3).f1.f0, (rdS166 x0 x3).f1.f1, (rdS166 x0 x3).f1.f2⟩ : S153)⟩ : S166)] : List S166) fun v7 => .last (.need (((List.length x2 : Int) + (List.length v7 : Int)) * (48 : Nat) ≤ room) (.last (.jump (.c4 x0 x1 (x2 ++ v7) x3)))))))))
      (.last (.need ((0 : Int) ≤ x3 ∧ x3 < (List.length x0 : Int)) (.both (.need (((List.length ([] : List S210) : Int) + (List.length ((rdS166 x0 x3).f0) : Int)) * (48 : Nat) ≤ room) (.last (.last (.val ([(⟨(([] : List S210) ++ (rdS166 x0 x3).f0), (⟨(rdS166 x0 x3).f1.f0, (rdS166 x0 x3).f1.f1, (rdS166 x0 x3).f1.f2⟩ : S153)⟩ : S166)] : List S166) fun v8 => .last (.need (((List.length x2 : Int) + (List.length v8 : Int)) * (48 : Nat) ≤ room) (.last (.jump (.c4 x0 x1 (x2 ++ v8) x3))))))))
       (.last (.last (.need (((List.length ([] : List S210) : Int) + (List.length ((rdS166 x0 x3).f0) : Int)) * (48 : Nat) ≤ room) (.last (.last (.val ([(⟨(([] : List S210) ++ (rdS166 x0 x3).f0), (⟨(rdS166 x0 x3).f1.f0, (rdS166 x0 x3).f1.f1, (rdS166 x0 x3).f1.f2⟩ : S153)⟩ : S166)] : List S166) fun v9 => .last (.need (((List.length x2 : Int) + (List.length v9 : Int)) * (48 : Nat) ≤ room) (.last (.jump (.c4 x0 x1 (x2 ++ v9) x3))))))))))))))
     (.both (.need (((List.length ([] : List S210) : Int) + (List.length ((rdS166 x0 x3).f0) : Int)) * (48 : Nat) ≤ room) (.need ((0 : Int) ≤ x3 ∧ x3 < (List.length x0 : Int)) (.both (.last (.last (.val ([(⟨(([] : List S210) ++ (rdS166 x0 x3).f0), (⟨(rdS166 x0 x3).f1.f0, (rdS166 x0 x3).f1.f1, (rdS166 x0 x3).f1.f2⟩ : S153)⟩ : S166)] : List S166) fun v10 => .last (.need (((List.length x2 : Int) + (List.length v10 : Int)) * (48 : Nat) ≤ room) (.last (.jump (.c4 x0 x1 (x2 ++ v10) x3)))))))
       (.last (.both (.last (.val ([(⟨(([] : List S210) ++ (rdS166 x0 x3).f0), (⟨(rdS166 x0 x3).f1.f0, (rdS166 x0 x3).f1.f1, (rdS166 x0 x3).f1.f2⟩ : S153)⟩ : S166)] : List S166) fun v11 => .last (.need (((List.length x2 : Int) + (List.length v11 : Int)) * (48 : Nat) ≤ room) (.last (.jump (.c4 x0 x1 (x2 ++ v11) x3))))))
        (.last (.val ([(⟨(([] : List S210) ++ (rdS166 x0 x3).f0), (⟨(rdS166 x0 x3).f1.f0, (rdS166 x0 x3).f1.f1, (rdS166 x0 x3).f1.f2⟩ : S153)⟩ : S166)] : List S166) fun v12 => .last (.need (((List.length x2 : Int) + (List.length v12 : Int)) * (48 : Nat) ≤ room) (.last (.jump (.c4 x0 x1 (x2 ++ v12) x3)))))))))))
      (.last (.need ((0 : Int) ≤ x3 ∧ x3 < (List.length x0 : Int)) (.both (.both (.need (((List.length ([] : List S210) : Int) + (List.length ((rdS166 x0 x3).f0) : Int)) * (48 : Nat) ≤ room) (.last (.last (.val ([(⟨(([] : List S210) ++ (rdS166 x0 x3).f0), (⟨(rdS166 x0 x3).f1.f0, (rdS166 x0 x3).f1.f1, (rdS166 x0 x3).f1.f2⟩ : S153)⟩ : S166)] : List S166) fun v13 => .last (.need (((List.length x2 : Int) + (List.length v13 : Int)) * (48 : Nat) ≤ room) (.last (.jump (.c4 x0 x1 (x2 ++ v13) x3))))))))
        (.last (.last (.need (((List.length ([] : List S210) : Int) + (List.length ((rdS166 x0 x3).f0) : Int)) * (48 : Nat) ≤ room) (.last (.last (.val ([(⟨(([] : List S210) ++ (rdS166 x0 x3).f0), (⟨(rdS166 x0 x3).f1.f0, (rdS166 x0 x3).f1.f1, (rdS166 x0 x3).f1.f2⟩ : S153)⟩ : S166)] : List S166) fun v14 => .last (.need (((List.length x2 : Int) + (List.length v14 : Int)) * (48 : Nat) ≤ room) (.last (.jump (.c4 x0 x1 (x2 ++ v14) x3)))))))))))
       (.both (.need (((List.length ([] : List S210) : Int) + (List.length ((rdS166 x0 x3).f0) : Int)) * (48 : Nat) ≤ room) (.both (.last (.last (.val ([(⟨(([] : List S210) ++ (rdS166 x0 x3).f0), (⟨(rdS166 x0 x3).f1.f0, (rdS166 x0 x3).f1.f1, (rdS166 x0 x3).f1.f2⟩ : S153)⟩ : S166)] : List S166) fun v15 => .last (.need (((List.length x2 : Int) + (List.length v15 : Int)) * (48 : Nat) ≤ room) (.last (.jump (.c4 x0 x1 (x2 ++ v15) x3)))))))
         (.last (.both (.last (.val ([(⟨(([] : List S210) ++ (rdS166 x0 x3).f0), (⟨(rdS166 x0 x3).f1.f0, (rdS166 x0 x3).f1.f1, (rdS166 x0 x3).f1.f2⟩ : S153)⟩ : S166)] : List S166) fun v16 => .last (.need (((List.length x2 : Int) + (List.length v16 : Int)) * (48 : Nat) ≤ room) (.last (.jump (.c4 x0 x1 (x2 ++ v16) x3))))))
          (.last (.val ([(⟨(([] : List S210) ++ (rdS166 x0 x3).f0), (⟨(rdS166 x0 x3).f1.f0, (rdS166 x0 x3).f1.f1, (rdS166 x0 x3).f1.f2⟩ : S153)⟩ : S166)] : List S166) fun v17 => .last (.need (((List.length x2 : Int) + (List.length v17 : Int)) * (48 : Nat) ≤ room) (.last (.jump (.c4 x0 x1 (x2 ++ v17) x3))))))))))
        (.last (.both (.last (.need (((List.length ([] : List S210) : Int) + (List.length ((rdS166 x0 x3).f0) : Int)) * (48 : Nat) ≤ room) (.last (.last (.val ([(⟨(([] : List S210) ++ (rdS166 x0 x3).f0), (⟨(rdS166 x0 x3).f1.f0, (rdS166 x0 x3).f1.f1, (rdS166 x0 x3).f1.f2⟩ : S153)⟩ : S166)] : List S166) fun v18 => .last (.need (((List.length x2 : Int) + (List.length v18 : Int)) * (48 : Nat) ≤ room) (.last (.jump (.c4 x0 x1 (x2 ++ v18) x3)))))))))
         (.last (.need (((List.length ([] : List S210) : Int) + (List.length ((rdS166 x0 x3).f0) : Int)) * (48 : Nat) ≤ room) (.both (.last (.last (.val ([(⟨(([] : List S210) ++ (rdS166 x0 x3).f0), (⟨(rdS166 x0 x3).f1.f0, (rdS166 x0 x3).f1.f1, (rdS166 x0 x3).f1.f2⟩ : S153)⟩ : S166)] : List S166) fun v19 => .last (.need (((List.length x2 : Int) + (List.length v19 : Int)) * (48 : Nat) ≤ room) (.last (.jump (.c4 x0 x1 (x2 ++ v19) x3)))))))
          (.last (.both (.last (.val ([(⟨(([] : List S210) ++ (rdS166 x0 x3).f0), (⟨(rdS166 x0 x3).f1.f0, (rdS166 x0 x3).f1.f1, (rdS166 x0 x3).f1.f2⟩ : S153)⟩ : S166)] : List S166) fun v20 => .last (.need (((List.length x2 : Int) + (List.length v20 : Int)) * (48 : Nat) ≤ room) (.last (.jump (.c4 x0 x1 (x2 ++ v20) x3))))))
           (.last (.val ([(⟨(([] : List S210) ++ (rdS166 x0 x3).f0), (⟨(rdS166 x0 x3).f1.f0, (rdS166 x0 x3).f1.f1, (rdS166 x0 x3).f1.f2⟩ : S153)⟩ : S166)] : List S166) fun v21 => .last (.need (((List.length x2 : Int) + (List.length v21 : Int)) * (48 : Nat) ≤ room) (.last (.jump (.c4 x0 x1 (x2 ++ v21) x3)))))))))))))))))))
    (.last (.need ((0 : Int) ≤ x3 ∧ x3 < (List.length x0 : Int)) (.both (.both (.both (.need (((List.length ([] : List S210) : Int) + (List.length ((rdS166 x0 x3).f0) : Int)) * (48 : Nat) ≤ room) (.last (.last (.val ([(⟨(([] : List S210) ++ (rdS166 x0 x3).f0), (⟨(rdS166 x0 x3).f1.f0, (rdS166 x0 x3).f1.f1, (rdS166 x0 x3).f1.f2⟩ : S153)⟩ : S166)] : List S166) fun v22 => .last (.need (((List.length x2 : Int) + (List.length v22 : Int)) * (48 : Nat) ≤ room) (.last (.jump (.c4 x0 x1 (x2 ++ v22) x3))))))))
       (.last (.last (.need (((List.length ([] : List S210) : Int) + (List.length ((rdS166 x0 x3).f0) : Int)) * (48 : Nat) ≤ room) (.last (.last (.val ([(⟨(([] : List S210) ++ (rdS166 x0 x3).f0), (⟨(rdS166 x0 x3).f1.f0, (rdS166 x0 x3).f1.f1, (rdS166 x0 x3).f1.f2⟩ : S153)⟩ : S166)] : List S166) fun v23 => .last (.need (((List.length x2 : Int) + (List.length v23 : Int)) * (48 : Nat) ≤ room) (.last (.jump (.c4 x0 x1 (x2 ++ v23) x3)))))))))))
      (.last (.last (.last (.need (((List.length ([] : List S210) : Int) + (List.length ((rdS166 x0 x3).f0) : Int)) * (48 : Nat) ≤ room) (.last (.last (.val ([(⟨(([] : List S210) ++ (rdS166 x0 x3).f0), (⟨(rdS166 x0 x3).f1.f0, (rdS166 x0 x3).f1.f1, (rdS166 x0 x3).f1.f2⟩ : S153)⟩ : S166)] : List S166) fun v24 => .last (.need (((List.length x2 : Int) + (List.length v24 : Int)) * (48 : Nat) ≤ room) (.last (.jump (.c4 x0 x1 (x2 ++ v24) x3))))))))))))
     (.both (.both (.both (.need (((List.length ([] : List S210) : Int) + (List.length ((rdS166 x0 x3).f0) : Int)) * (48 : Nat) ≤ room) (.last (.last (.val ([(⟨(([] : List S210) ++ (rdS166 x0 x3).f0), (⟨(rdS166 x0 x3).f1.f0, (rdS166 x0 x3).f1.f1, (rdS166 x0 x3).f1.f2⟩ : S153)⟩ : S166)] : List S166) fun v25 => .last (.need (((List.length x2 : Int) + (List.length v25 : Int)) * (48 : Nat) ≤ room) (.last (.jump (.c4 x0 x1 (x2 ++ v25) x3))))))))
        (.last (.last (.need (((List.length ([] : List S210) : Int) + (List.length ((rdS166 x0 x3).f0) : Int)) * (48 : Nat) ≤ room) (.last (.last (.val ([(⟨(([] : List S210) ++ (rdS166 x0 x3).f0), (⟨(rdS166 x0 x3).f1.f0, (rdS166 x0 x3).f1.f1, (rdS166 x0 x3).f1.f2⟩ : S153)⟩ : S166)] : List S166) fun v26 => .last (.need (((List.length x2 : Int) + (List.length v26 : Int)) * (48 : Nat) ≤ room) (.last (.jump (.c4 x0 x1 (x2 ++ v26) x3)))))))))))
       (.both (.need (((List.length ([] : List S210) : Int) + (List.length ((rdS166 x0 x3).f0) : Int)) * (48 : Nat) ≤ room) (.both (.last (.last (.val ([(⟨(([] : List S210) ++ (rdS166 x0 x3).f0), (⟨(rdS166 x0 x3).f1.f0, (rdS166 x0 x3).f1.f1, (rdS166 x0 x3).f1.f2⟩ : S153)⟩ : S166)] : List S166) fun v27 => .last (.need (((List.length x2 : Int) + (List.length v27 : Int)) * (48 : Nat) ≤ room) (.last (.jump (.c4 x0 x1 (x2 ++ v27) x3)))))))
         (.last (.both (.last (.val ([(⟨(([] : List S210) ++ (rdS166 x0 x3).f0), (⟨(rdS166 x0 x3).f1.f0, (rdS166 x0 x3).f1.f1, (rdS166 x0 x3).f1.f2⟩ : S153)⟩ : S166)] : List S166) fun v28 => .last (.need (((List.length x2 : Int) + (List.length v28 : Int)) * (48 : Nat) ≤ room) (.last (.jump (.c4 x0 x1 (x2 ++ v28) x3))))))
          (.last (.val ([(⟨(([] : List S210) ++ (rdS166 x0 x3).f0), (⟨(rdS166 x0 x3).f1.f0, (rdS166 x0 x3).f1.f1, (rdS166 x0 x3).f1.f2⟩ : S153)⟩ : S166)] : List S166) fun v29 => .last (.need (((List.length x2 : Int) + (List.length v29 : Int)) * (48 : Nat) ≤ room) (.last (.jump (.c4 x0 x1 (x2 ++ v29) x3))))))))))
        (.last (.both (.last (.need (((List.length ([] : List S210) : Int) + (List.length ((rdS166 x0 x3).f0) : Int)) * (48 : Nat) ≤ room) (.last (.last (.val ([(⟨(([] : List S210) ++ (rdS166 x0 x3).f0), (⟨(rdS166 x0 x3).f1.f0, (rdS166 x0 x3).f1.f1, (rdS166 x0 x3).f1.f2⟩ : S153)⟩ : S166)] : List S166) fun v30 => .last (.need (((List.length x2 : Int) + (List.length v30 : Int)) * (48 : Nat) ≤ room) (.last (.jump (.c4 x0 x1 (x2 ++ v30) x3)))))))))
         (.last (.need (((List.length ([] : List S210) : Int) + (List.length ((rdS166 x0 x3).f0) : Int)) * (48 : Nat) ≤ room) (.both (.last (.last (.val ([(⟨(([] : List S210) ++ (rdS166 x0 x3).f0), (⟨(rdS166 x0 x3).f1.f0, (rdS166 x0 x3).f1.f1, (rdS166 x0 x3).f1.f2⟩ : S153)⟩ : S166)] : List S166) fun v31 => .last (.need (((List.length x2 : Int) + (List.length v31 : Int)) * (48 : Nat) ≤ room) (.last (.jump (.c4 x0 x1 (x2 ++ v31) x3)))))))
          (.last (.both (.last (.val ([(⟨(([] : List S210) ++ (rdS166 x0 x3).f0), (⟨(rdS166 x0 x3).f1.f0, (rdS166 x0 x3).f1.f1, (rdS166 x0 x3).f1.f2⟩ : S153)⟩ : S166)] : List S166) fun v32 => .last (.need (((List.length x2 : Int) + (List.length v32 : Int)) * (48 : Nat) ≤ room) (.last (.jump (.c4 x0 x1 (x2 ++ v32) x3))))))
           (.last (.val ([(⟨(([] : List S210) ++ (rdS166 x0 x3).f0), (⟨(rdS166 x0 x3).f1.f0, (rdS166 x0 x3).f1.f1, (rdS166 x0 x3).f1.f2⟩ : S153)⟩ : S166)] : List S166) fun v33 => .last (.need (((List.length x2 : Int) + (List.length v33 : Int)) * (48 : Nat) ≤ room) (.last (.jump (.c4 x0 x1 (x2 ++ v33) x3)))))))))))))))
      (.last (.both (.last (.last (.need (((List.length ([] : List S210) : Int) + (List.length ((rdS166 x0 x3).f0) : Int)) * (48 : Nat) ≤ room) (.last (.last (.val ([(⟨(([] : List S210) ++ (rdS166 x0 x3).f0), (⟨(rdS166 x0 x3).f1.f0, (rdS166 x0 x3).f1.f1, (rdS166 x0 x3).f1.f2⟩ : S153)⟩ : S166)] : List S166) fun v34 => .last (.need (((List.length x2 : Int) + (List.length v34 : Int)) * (48 : Nat) ≤ room) (.last (.jump (.c4 x0 x1 (x2 ++ v34) x3))))))))))
       (.last (.both (.last (.need (((List.length ([] : List S210) : Int) + (List.length ((rdS166 x0 x3).f0) : Int)) * (48 : Nat) ≤ room) (.last (.last (.val ([(⟨(([] : List S210) ++ (rdS166 x0 x3).f0), (⟨(rdS166 x0 x3).f1.f0, (rdS166 x0 x3).f1.f1, (rdS166 x0 x3).f1.f2⟩ : S153)⟩ : S166)] : List S166) fun v35 => .last (.need (((List.length x2 : Int) + (List.length v35 : Int)) * (48 : Nat) ≤ room) (.last (.jump (.c4 x0 x1 (x2 ++ v35) x3)))))))))
        (.last (.need (((List.length ([] : List S210) : Int) + (List.length ((rdS166 x0 x3).f0) : Int)) * (48 : Nat) ≤ room) (.both (.last (.last (.val ([(⟨(([] : List S210) ++ (rdS166 x0 x3).f0), (⟨(rdS166 x0 x3).f1.f0, (rdS166 x0 x3).f1.f1, (rdS166 x0 x3).f1.f2⟩ : S153)⟩ : S166)] : List S166) fun v36 => .last (.need (((List.length x2 : Int) + (List.length v36 : Int)) * (48 : Nat) ≤ room) (.last (.jump (.c4 x0 x1 (x2 ++ v36) x3)))))))
         (.last (.both (.last (.val ([(⟨(([] : List S210) ++ (rdS166 x0 x3).f0), (⟨(rdS166 x0 x3).f1.f0, (rdS166 x0 x3).f1.f1, (rdS166 x0 x3).f1.f2⟩ : S153)⟩ : S166)] : List S166) fun v37 => .last (.need (((List.length x2 : Int) + (List.length v37 : Int)) * (48 : Nat) ≤ room) (.last (.jump (.c4 x0 x1 (x2 ++ v37) x3))))))
          (.last (.val ([(⟨(([] : List S210) ++ (rdS166 x0 x3).f0), (⟨(rdS166 x0 x3).f1.f0, (rdS166 x0 x3).f1.f1, (rdS166 x0 x3).f1.f2⟩ : S153)⟩ : S166)] : List S166) fun v38 => .last (.need (((List.length x2 : Int) + (List.length v38 : Int)) * (48 : Nat) ≤ room) (.last (.jump (.c4 x0 x1 (x2 ++ v38) x3))))))))))))))))))))))
  (.ret x2)
 | .c4 x0 x1 x2 x3 =>
 .jump (.c3 x0 x1 x2 (wr (x3 + (1 : Int))))
def f (a0 : List S166) : Option A := (begin a0).run (lp tree)
def Q : Plan C := { PL with cuts := [(3, [1, 2, 3, 4]), (4, [1, 2, 3, 4])], ords := [(5, [9, 16, 17, 18, 20], (.take 0 [] (.take 3 [] (.take 5 [] (.take 10 [] (.take 12 [] (.take 4 [0, 1, 2, 3, 5, 10, 11, 12, 13, 14, 15] (.take 6 [] (.take 7 [] (.take 8 [0, 1, 2, 3, 4, 5, 6, 7, 10, 11, 12, 13, 14, 15] (.alt 1 (.alt 2 (.alt 9 (.take 11 [0, 1, 2, 3, 4, 5, 6, 7, 8, 9, 10, 12] (.take 13 [] (.take 14 [] (.take 15 [0, 1, 2, 3, 4, 5, 6, 7, 8, 9, 10, 11, 12, 13, 14] (.alt 16 (.alt 17 (.alt 18 (.take 19 [] (.alt 20 .done .nil)) .nil) .nil) .nil))))) (.alt 11 (.take 13 [] (.take 14 [] (.alt 9 (.take 15 [0, 1, 2, 3, 4, 5, 6, 7, 8, 9, 10, 11, 12, 13, 14] (.alt 16 (.alt 17 (.alt 18 (.take 19 [] (.alt 20 .done .nil)) .nil) .nil) .nil)) (.alt 15 (.alt 9 (.alt 16 (.alt 17 (.alt 18 (.take 19 [] (.alt 20 .done .nil)) .nil) .nil) .nil) .nil) .nil)))) .nil)) (.alt 11 (.take 13 [] (.take 14 [] (.alt 2 (.alt 9 (.take 15 [0, 1, 2, 3, 4, 5, 6, 7, 8, 9, 10, 11, 12, 13, 14] (.alt 16 (.alt 17 (.alt 18 (.take 19 [] (.alt 20 .done .nil)) .nil) .nil) .nil)) (.alt 15 (.alt 9 (.alt 16 (.alt 17 (.alt 18 (.take 19 [] (.alt 20 .done .nil)) .nil) .nil) .nil) .nil) .nil)) (.alt 15 (.alt 2 (.alt 9 (.alt 16 (.alt 17 (.alt 18 (.take 19 [] (.alt 20 .done .nil)) .nil) .nil) .nil) .nil) .nil) .nil)))) .nil)) (.alt 2 (.alt 1 (.alt 9 (.take 11 [0, 1, 2, 3, 4, 5, 6, 7, 8, 9, 10, 12] (.take 13 [] (.take 14 [] (.take 15 [0, 1, 2, 3, 4, 5, 6, 7, 8, 9, 10, 11, 12, 13, 14] (.alt 16 (.alt 17 (.alt 18 (.take 19 [] (.alt 20 .done .nil)) .nil) .nil) .nil))))) (.alt 11 (.take 13 [] (.take 14 [] (.alt 9 (.take 15 [0, 1, 2, 3, 4, 5, 6, 7, 8, 9, 10, 11, 12, 13, 14] (.alt 16 (.alt 17 (.alt 18 (.take 19 [] (.alt 20 .done .nil)) .nil) .nil) .nil)) (.alt 15 (.alt 9 (.alt 16 (.alt 17 (.alt 18 (.take 19 [] (.alt 20 .done .nil)) .nil) .nil) .nil) .nil) .nil)))) .nil)) (.alt 9 (.take 11 [0, 1, 2, 3, 4, 5, 6, 7, 8, 9, 10, 12] (.take 13 [] (.take 14 [] (.take 15 [0, 1, 2, 3, 4, 5, 6, 7, 8, 9, 10, 11, 12, 13, 14] (.alt 1 (.alt 16 (.alt 17 (.alt 18 (.take 19 [] (.alt 20 .done .nil)) .nil) .nil) .nil) (.alt 16 (.alt 1 (.alt 17 (.alt 18 (.take 19 [] (.alt 20 .done .nil)) .nil) .nil) (.alt 17 (.take 1 [0, 2, 3, 4, 5, 6, 7, 8, 9, 10, 11, 12, 13, 14, 15, 16, 17] (.alt 18 (.take 19 [] (.alt 20 .done .nil)) .nil)) .nil)) .nil)))))) (.alt 11 (.take 13 [] (.take 14 [] (.alt 1 (.alt 9 (.take 15 [0, 1, 2, 3, 4, 5, 6, 7, 8, 9, 10, 11, 12, 13, 14] (.alt 16 (.alt 17 (.alt 18 (.take 19 [] (.alt 20 .done .nil)) .nil) .nil) .nil)) (.alt 15 (.alt 9 (.alt 16 (.alt 17 (.alt 18 (.take 19 [] (.alt 20 .done .nil)) .nil) .nil) .nil) .nil) .nil)) (.alt 9 (.take 15 [0, 1, 2, 3, 4, 5, 6, 7, 8, 9, 10, 11, 12, 13, 14] (.alt 1 (.alt 16 (.alt 17 (.alt 18 (.take 19 [] (.alt 20 .done .nil)) .nil) .nil) .nil) (.alt 16 (.alt 1 (.alt 17 (.alt 18 (.take 19 [] (.alt 20 .done .nil)) .nil) .nil) (.alt 17 (.take 1 [0, 2, 3, 4, 5, 6, 7, 8, 9, 10, 11, 12, 13, 14, 15, 16, 17] (.alt 18 (.take 19 [] (.alt 20 .done .nil)) .nil)) .nil)) .nil))) (.alt 15 (.alt 1 (.alt 9 (.alt 16 (.alt 17 (.alt 18 (.take 19 [] (.alt 20 .done .nil)) .nil) .nil) .nil) .nil) (.alt 9 (.alt 1 (.alt 16 (.alt 17 (.alt 18 (.take 19 [] (.alt 20 .done .nil)) .nil) .nil) .nil) (.alt 16 (.alt 1 (.alt 17 (.alt 18 (.take 19 [] (.alt 20 .done .nil)) .nil) .nil) (.alt 17 (.take 1 [0, 2, 3, 4, 5, 6, 7, 8, 9, 10, 11, 12, 13, 14, 15, 16, 17] (.alt 18 (.take 19 [] (.alt 20 .done .nil)) .nil)) .nil)) .nil)) .nil)) .nil))))) .nil))) (.alt 11 (.take 13 [] (.take 14 [] (.alt 1 (.alt 2 (.alt 9 (.take 15 [0, 1, 2, 3, 4, 5, 6, 7, 8, 9, 10, 11, 12, 13, 14] (.alt 16 (.alt 17 (.alt 18 (.take 19 [] (.alt 20 .done .nil)) .nil) .nil) .nil)) (.alt 15 (.alt 9 (.alt 16 (.alt 17 (.alt 18 (.take 19 [] (.alt 20 .done .nil)) .nil) .nil) .nil) .nil) .nil)) (.alt 15 (.alt 2 (.alt 9 (.alt 16 (.alt 17 (.alt 18 (.take 19 [] (.alt 20 .done .nil)) .nil) .nil) .nil) .nil) .nil) .nil)) (.alt 2 (.alt 1 (.alt 9 (.take 15 [0, 1, 2, 3, 4, 5, 6, 7, 8, 9, 10, 11, 12, 13, 14] (.alt 16 (.alt 17 (.alt 18 (.take 19 [] (.alt 20 .done .nil)) .nil) .nil) .nil)) (.alt 15 (.alt 9 (.alt 16 (.alt 17 (.alt 18 (.take 19 [] (.alt 20 .done .nil)) .nil) .nil) .nil) .nil) .nil)) (.alt 9 (.take 15 [0, 1, 2, 3, 4, 5, 6, 7, 8, 9, 10, 11, 12, 13, 14] (.alt 1 (.alt 16 (.alt 17 (.alt 18 (.take 19 [] (.alt 20 .done .nil)) .nil) .nil) .nil) (.alt 16 (.alt 1 (.alt 17 (.alt 18 (.take 19 [] (.alt 20 .done .nil)) .nil) .nil) (.alt 17 (.take 1 [0, 2, 3, 4, 5, 6, 7, 8, 9, 10, 11, 12, 13, 14, 15, 16, 17] (.alt 18 (.take 19 [] (.alt 20 .done .nil)) .nil)) .nil)) .nil))) (.alt 15 (.alt 1 (.alt 9 (.alt 16 (.alt 17 (.alt 18 (.take 19 [] (.alt 20 .done .nil)) .nil) .nil) .nil) .nil) (.alt 9 (.alt 1 (.alt 16 (.alt 17 (.alt 18 (.take 19 [] (.alt 20 .done .nil)) .nil) .nil) .nil) (.alt 16 (.alt 1 (.alt 17 (.alt 18 (.take 19 [] (.alt 20 .done .nil)) .nil) .nil) (.alt 17 (.take 1 [0, 2, 3, 4, 5, 6, 7, 8, 9, 10, 11, 12, 13, 14, 15, 16, 17] (.alt 18 (.take 19 [] (.alt 20 .done .nil)) .nil)) .nil)) .nil)) .nil)) .nil))) (.alt 15 (.alt 1 (.alt 2 (.alt 9 (.alt 16 (.alt 17 (.alt 18 (.take 19 [] (.alt 20 .done .nil)) .nil) .nil) .nil) .nil) .nil) (.alt 2 (.alt 1 (.alt 9 (.alt 16 (.alt 17 (.alt 18 (.take 19 [] (.alt 20 .done .nil)) .nil) .nil) .nil) .nil) (.alt 9 (.alt 1 (.alt 16 (.alt 17 (.alt 18 (.take 19 [] (.alt 20 .done .nil)) .nil) .nil) .nil) (.alt 16 (.alt 1 (.alt 17 (.alt 18 (.take 19 [] (.alt 20 .done .nil)) .nil) .nil) (.alt 17 (.take 1 [0, 2, 3, 4, 5, 6, 7, 8, 9, 10, 11, 12, 13, 14, 15, 16, 17] (.alt 18 (.take 19 [] (.alt 20 .done .nil)) .nil)) .nil)) .nil)) .nil)) .nil)) .nil))))) .nil)))))))))))))], weak := [] }
theorem e : CutEq Pg C Q Tryz.f155 0 id st v o tree := fun J K x => by cases x <;> kernel_rfl
theorem b (a0 : List S166) : BegEq Pg C Q Tryz.f155 0 id st v o (S a0) (begin a0) := fun J K => by kernel_rfl
def told (a0 : List S166) : YtobfemcobakeoaaGreatEv.Told A := ⟨f a0, fun r => SoundCall Pg C 155 (S a0) 0 (v r) (o r), fun r h => soundCall_of_tree G mixed Q Tryz.func155 rfl (of_decide_eq_true (by kernel_rfl)) (by rfl) id st v o (fun _ => rfl) tree e (begin a0) (b a0) h⟩
end spec_l06Copy
/-! #### loop.example/g00983/spec.l32Copy (156) -/
namespace spec_l32Copy
def S (a0 : Int) (a1 : List Int) : List (PV U) := YtobfemcobakeoaaGreatEv.start C 12 [.agg [.int .i64 a0, .sl 3 a1]] []
abbrev X := Empty
def id : X → Nat := fun _ => 0
def st : X → List (PV U) := fun _ => []
def begin (a0 : Int) (a1 : List Int) : Tr X A :=
 .both (.last (.last (.need (((List.length ([] : List Int) : Int) + (List.length a1 : Int)) * (8 : Nat) ≤ room) (.last (.last (.last (.ret (a0, (([] : List Int) ++ a1)))))))))
  (.last (.both (.last (.need (((List.length ([] : List Int) : Int) + (List.length a1 : Int)) * (8 : Nat) ≤ room) (.last (.last (.last (.ret (a0, (([] : List Int) ++ a1))))))))
   (.last (.need (((List.length ([] : List Int) : Int) + (List.length a1 : Int)) * (8 : Nat) ≤ room) (.both (.last (.last (.last (.ret (a0, (([] : List Int) ++ a1))))))
    (.last (.last (.last (.ret (a0, (([] : List Int) ++ a1)))))))))))
def tree : X → Tr X A := fun _ => .fail
def f (a0 : Int) (a1 : List Int) : Option A := (begin a0 a1).run (lp tree)
def Q : Plan C := { PL with cuts := [], ords := [(1, [6, 7, 8, 9], (.take 0 [] (.take 3 [] (.take 4 [] (.take 5 [0, 1, 2, 3, 4] (.alt 1 (.alt 2 (.alt 6 (.alt 7 (.alt 8 (.alt 9 .done .nil) .nil) .nil) .nil) .nil) (.alt 2 (.alt 1 (.alt 6 (.alt 7 (.alt 8 (.alt 9 .done .nil) .nil) .nil) .nil) (.alt 6 (.alt 1 (.alt 7 (.alt 8 (.alt 9 .done .nil) .nil) .nil) (.alt 7 (.take 1 [0, 2, 3, 4, 5, 6, 7] (.alt 8 (.alt 9 .done .nil) .nil)) .nil)) .nil)) .nil)))))))], weak := [] }
theorem e : CutEq Pg C Q Tryz.f156 0 id st v o tree := fun J K x => by cases x
theorem b (a0 : Int) (a1 : List Int) : BegEq Pg C Q Tryz.f156 0 id st v o (S a0 a1) (begin a0 a1) := fun J K => by kernel_rfl
def told (a0 : Int) (a1 : List Int) : YtobfemcobakeoaaGreatEv.Told A := ⟨f a0 a1, fun r => SoundCall Pg C 156 (S a0 a1) 0 (v r) (o r), fun r h => soundCall_of_tree G mixed Q Tryz.func156 rfl (of_decide_eq_true (by kernel_rfl)) (by rfl) id st v o (fun _ => rfl) tree e (begin a0 a1) (b a0 a1) h⟩
end spec_l32Copy
/-! #### loop.example/g00983/spec.l37Copy (85) -/
namespace spec_l37Copy
def S (a0 : List S166) (a1 a2 : List Int) (a3 a4 a5 a6 a7 a8 a9 a10 : Int) (a11 : List Int) (a12 : Int) : List (PV U) := YtobfemcobakeoaaGreatEv.start C 22 [.agg [.sl 167 a0, .sl 3 a1, .sl 3 a2, .int .i64 a3, .int .i64 a4, .int .i64 a5, .int .i64 a6, .int .i64 a7, .int .i64 a8, .int .i64 a9, .int .i64 a10, .sl 3 a11, .int .i64 a12]] []
abbrev X := Empty
def id : X → Nat := fun _ => 0
def st : X → List (PV U) := fun _ => []
def begin (a0 : List S166) (a1 a2 : List Int) (a3 a4 a5 a6 a7 a8 a9 a10 : Int) (a11 : List Int) (a12 : Int) : Tr X A :=
 .call (spec_l06Copy.told a0) fun t1 => .need (((List.length ([] : List Int) : Int) + (List.length a1 : Int)) * (8 : Nat) ≤ room) (.need (((List.length ([] : List Int) : Int) + (List.length a2 : Int)) * (8 : Nat) ≤ room) (.call (spec_l32Copy.told a10 a11) fun t2 => .ret (t1, (([] : List Int) ++ a1), (([] : List Int) ++ a2), a3, a4, a5, a6, a7, a8, a9, t2.1, t2.2, a12)))
def tree : X → Tr X A := fun _ => .fail
def f (a0 : List S166) (a1 a2 : List Int) (a3 a4 a5 a6 a7 a8 a9 a10 : Int) (a11 : List Int) (a12 : Int) : Option A := (begin a0 a1 a2 a3 a4 a5 a6 a7 a8 a9 a10 a11 a12).run (lp tree)
def Q : Plan C := { PL with cuts := [], ords := [], weak := [] }
theorem e : CutEq Pg C Q Tryz.f85 0 id st v o tree := fun J K x => by cases x
theorem b (a0 : List S166) (a1 a2 : List Int) (a3 a4 a5 a6 a7 a8 a9 a10 : Int) (a11 : List Int) (a12 : Int) : BegEq Pg C Q Tryz.f85 0 id st v o (S a0 a1 a2 a3 a4 a5 a6 a7 a8 a9 a10 a11 a12) (begin a0 a1 a2 a3 a4 a5 a6 a7 a8 a9 a10 a11 a12) := fun J K => by kernel_rfl
def told (a0 : List S166) (a1 a2 : List Int) (a3 a4 a5 a6 a7 a8 a9 a10 : Int) (a11 : List Int) (a12 : Int) : YtobfemcobakeoaaGreatEv.Told A := ⟨f a0 a1 a2 a3 a4 a5 a6 a7 a8 a9 a10 a11 a12, fun r => SoundCall Pg C 85 (S a0 a1 a2 a3 a4 a5 a6 a7 a8 a9 a10 a11 a12) 0 (v r) (o r), fun r h => soundCall_of_tree G mixed Q Tryz.func85 rfl (of_decide_eq_true (by kernel_rfl)) (by rfl) id st v o (fun _ => rfl) tree e (begin a0 a1 a2 a3 a4 a5 a6 a7 a8 a9 a10 a11 a12) (b a0 a1 a2 a3 a4 a5 a6 a7 a8 a9 a10 a11 a12) h⟩
end spec_l37Copy
/-! #### loop.example/g00983/spec.l04Plain (244) -/
namespace spec_l04Plain
def S (a0 a1 a2 a3 a4 a5 : Int) : List (PV U) := YtobfemcobakeoaaGreatEv.start C 37 [.agg [.int .i64 a0, .int .i64 a1, .int .i64 a2, .int .i64 a3, .int .i64 a4, .int .i64 a5]] []
inductive X where
 | c14 (x0 x1 x2 x3 x4 x5 x6 x7 x8 x9 x10 x11 : Int)
def id : X → Nat
 | .c14 .. => 14
def st : X → List (PV U)
 | .c14 x0 x1 x2 x3 x4 x5 x6 x7 x8 x9 x10 x11 => stOf 37 [(2, .box [.int .i64 x0, .int .i64 x1, .int .i64 x2, .int .i64 x3, .int .i64 x4, .int .i64 x5]), (3, .box [.int .i64 x6, .int .i64 x7, .int .i64 x8, .int .i64 x9, .int .i64 x10, .int .i64 x11])]
def begin (a0 a1 a2 a3 a4 a5 : Int) : Tr X A :=
 .ite (decide (a0 = (1 : Int)))
  (.jump (.c14 (0 : Int) (0 : Int) (0 : Int) (0 : Int) (0 : Int) (0 : Int) a0 a1 (0 : Int) a3 a4 a5))
  (.ite (decide (a0 = (2 : Int)))
   (.jump (.c14 (0 : Int) (0 : Int) (0 : Int) (0 : Int) (0 : Int) (0 : Int) a0 a1 a2 (0 : Int) (0 : Int) (0 : Int)))
   (.ite (decide (a0 = (3 : Int)))
    (.ite (decide (a0 = (3 : Int)))
     (.jump (.c14 (0 : Int) (0 : Int) (0 : Int) (0 : Int) (0 : Int) (0 : Int) a0 (0 : Int) (0 : Int) a3 a4 a5))
     (.ite (decide (a0 = (5 : Int)))
      (.jump (.c14 (0 : Int) (0 : Int) (0 : Int) (0 : Int) (0 : Int) (0 : Int) a0 (0 : Int) a2 (0 : Int) (0 : Int) (0 : Int)))
      (.jump (.c14 (0 : Int) (0 : Int) (0 : Int) (0 : Int) (0 : Int) (0 : Int) a0 (0 : Int) (0 : Int) (0 : Int) (0 : Int) (0 : Int)))))
    (.ite (decide (a0 = (4 : Int)))
     (.jump (.c14 (0 : Int) (0 : Int) (0 : Int) (0 : Int) (0 : Int) (0 : Int) a0 (0 : Int) (0 : Int) a3 a4 a5))
     (.ite (decide (a0 = (5 : Int)))
      (.jump (.c14 (0 : Int) (0 : Int) (0 : Int) (0 : Int) (0 : Int) (0 : Int) a0 (0 : Int) a2 (0 : Int) (0 : Int) (0 : Int)))
      (.jump (.c14 (0 : Int) (0 : Int) (0 : Int) (0 : Int) (0 : Int) (0 : Int) a0 (0 : Int) (0 : Int) (0 : Int) (0 : Int) (0 : Int)))))))
def tree : X → Tr X A
 | .c14 x0 x1 x2 x3 x4 x5 x6 x7 x8 x9 x10 x11 =>
 .ret (x6, x7, x8, x9, x10, x11)
def f (a0 a1 a2 a3 a4 a5 : Int) : Option A := (begin a0 a1 a2 a3 a4 a5).run (lp tree)
def Q : Plan C := { PL with cuts := [(14, [2, 3])], ords := [], weak := [] }
theorem e : CutEq Pg C Q Tryz.f244 0 id st v o tree := fun J K x => by cases x <;> kernel_rfl
theorem b (a0 a1 a2 a3 a4 a5 : Int) : BegEq Pg C Q Tryz.f244 0 id st v o (S a0 a1 a2 a3 a4 a5) (begin a0 a1 a2 a3 a4 a5) := fun J K => by kernel_rfl
def told (a0 a1 a2 a3 a4 a5 : Int) : YtobfemcobakeoaaGreatEv.Told A := ⟨f a0 a1 a2 a3 a4 a5, fun r => SoundCall Pg C 244 (S a0 a1 a2 a3 a4 a5) 0 (v r) (o r), fun r h => soundCall_of_tree G mixed Q Tryz.func244 rfl (of_decide_eq_true (by kernel_rfl)) (by rfl) id st v o (fun _ => rfl) tree e (begin a0 a1 a2 a3 a4 a5) (b a0 a1 a2 a3 a4 a5) h⟩
end spec_l04Plain
/-! #### loop.example/g00983/spec.l01In (139) -/
namespace spec_l01In
def S (a0 a1 a2 : Int) : List (PV U) := YtobfemcobakeoaaGreatEv.start C 15 [.int .i64 a0, .int .i64 a1, .int .i64 a2] []
abbrev X := Empty
def id : X → Nat := fun _ => 0
def st : X → List (PV U) := fun _ => []
def begin (a0 a1 a2 : Int) : Tr X A :=
 .ite (decide (a0 ≥ a1))
  (.ret ((decide (a0 ≤ a2))))
  (.ret false)
def tree : X → Tr X A := fun _ => .fail
def f (a0 a1 a2 : Int) : Option A := (begin a0 a1 a2).run (lp tree)
def Q : Plan C := { PL with cuts := [], ords := [], weak := [] }
theorem e : CutEq Pg C Q Tryz.f139 0 id st v o tree := fun J K x => by cases x
theorem b (a0 a1 a2 : Int) : BegEq Pg C Q Tryz.f139 0 id st v o (S a0 a1 a2) (begin a0 a1 a2) := fun J K => by kernel_rfl
def told (a0 a1 a2 : Int) : YtobfemcobakeoaaGreatEv.Told A := ⟨f a0 a1 a2, fun r => SoundCall Pg C 139 (S a0 a1 a2) 0 (v r) (o r), fun r h => soundCall_of_tree G mixed Q Tryz.func139 rfl (of_decide_eq_true (by kernel_rfl)) (by rfl) id st v o (fun _ => rfl) tree e (begin a0 a1 a2) (b a0 a1 a2) h⟩
end spec_l01In
/-! #### loop.example/g00983/spec.OperandOk (197) -/
namespace spec_OperandOk
def S (a0 : Int) : List (PV U) := YtobfemcobakeoaaGreatEv.start C 5 [.int .i64 a0] []
abbrev X := Empty
def id : X → Nat := fun _ => 0
def st : X → List (PV U) := fun _ => []
def begin (a0 : Int) : Tr X A :=
 .call (spec_l01In.told a0 (-8 : Int) (999 : Int)) fun t1 => .ret t1
def tree : X → Tr X A := fun _ => .fail
def f (a0 : Int) : Option A := (begin a0).run (lp tree)
def Q : Plan C := { PL with cuts := [], ords := [], weak := [] }
theorem e : CutEq Pg C Q Tryz.f197 0 id st v o tree := fun J K x => by cases x
theorem b (a0 : Int) : BegEq Pg C Q Tryz.f197 0 id st v o (S a0) (begin a0) := fun J K => by kernel_rfl
def told (a0 : Int) : YtobfemcobakeoaaGreatEv.Told A := ⟨f a0, fun r => SoundCall Pg C 197 (S a0) 0 (v r) (o r), fun r h => soundCall_of_tree G mixed Q Tryz.func197 rfl (of_decide_eq_true (by kernel_rfl)) (by rfl) id st v o (fun _ => rfl) tree e (begin a0) (b a0) h⟩
end spec_OperandOk
/-! #### loop.example/g00983/spec.ExprOk (141) -/
namespace spec_ExprOk
def S (a0 a1 a2 : Int) : List (PV U) := YtobfemcobakeoaaGreatEv.start C 16 [.agg [.int .i64 a0, .int .i64 a1, .int .i64 a2]] []
abbrev X := Empty
def id : X → Nat := fun _ => 0
def st : X → List (PV U) := fun _ => []
def begin (a0 a1 a2 : Int) : Tr X A :=
 .call (spec_l01In.told a0 (1 : Int) (7 : Int)) fun t1 => .ite t1
  (.call (spec_OperandOk.told a1) fun t2 => .ite t2
   (.call (spec_OperandOk.told a2) fun t3 => .ret t3)
   (.ret false))
  (.ret false)
def tree : X → Tr X A := fun _ => .fail
def f (a0 a1 a2 : Int) : Option A := (begin a0 a1 a2).run (lp tree)
def Q : Plan C := { PL with cuts := [], ords := [], weak := [] }
theorem e : CutEq Pg C Q Tryz.f141 0 id st v o tree := fun J K x => by cases x
theorem b (a0 a1 a2 : Int) : BegEq Pg C Q Tryz.f141 0 id st v o (S a0 a1 a2) (begin a0 a1 a2) := fun J K => by kernel_rfl
def told (a0 a1 a2 : Int) : YtobfemcobakeoaaGreatEv.Told A := ⟨f a0 a1 a2, fun r => SoundCall Pg C 141 (S a0 a1 a2) 0 (v r) (o r), fun r h => soundCall_of_tree G mixed Q Tryz.func141 rfl (of_decide_eq_true (by kernel_rfl)) (by rfl) id st v o (fun _ => rfl) tree e (begin a0 a1 a2) (b a0 a1 a2) h⟩
end spec_ExprOk
/-! #### loop.example/g00983/spec.StmtOk (225) -/
namespace spec_StmtOk
def S (a0 a1 a2 a3 a4 a5 : Int) : List (PV U) := YtobfemcobakeoaaGreatEv.start C 43 [.agg [.int .i64 a0, .int .i64 a1, .int .i64 a2, .int .i64 a3, .int .i64 a4, .int .i64 a5]] []
abbrev X := Empty
def id : X → Nat := fun _ => 0
def st : X → List (PV U) := fun _ => []
def begin (a0 a1 a2 a3 a4 a5 : Int) : Tr X A :=
 .last (.call (spec_l04Plain.told a0 a1 a2 a3 a4 a5) fun t1 => .last (.val ((!(decide (a0 = t1.1) && (decide (a1 = t1.2.1) && (decide (a2 = t1.2.2.1) && (decide (a3 = t1.2.2.2.1) && (decide (a4 = t1.2.2.2.2.1) && (decide (a5 = t1.2.2.2.2.2) && true))))))) : Bool) fun v2 => .ite v2
  (.ret false)
  (.ite (decide (a0 = (1 : Int)))
   (.call (spec_l01In.told a1 (0 : Int) (7 : Int)) fun t3 => .ite t3
    (.call (spec_ExprOk.told a3 a4 a5) fun t4 => .ret t4)
    (.ret false))
   (.ite (decide (a0 = (2 : Int)))
    (.call (spec_l01In.told a1 (0 : Int) (7 : Int)) fun t5 => .ite t5
     (.call (spec_l01In.told a2 (0 : Int) (3 : Int)) fun t6 => .ret t6)
     (.ret false))
    (.ite (decide (a0 = (3 : Int)))
     (.ite (decide (a0 = (3 : Int)))
      (.call (spec_ExprOk.told a3 a4 a5) fun t7 => .ret t7)
      (.ite (decide (a0 = (5 : Int)))
       (.call (spec_l01In.told a2 (1 : Int) (5 : Int)) fun t8 => .ret t8)
       (.ret ((decide (a0 = (6 : Int)))))))
     (.ite (decide (a0 = (4 : Int)))
      (.call (spec_ExprOk.told a3 a4 a5) fun t9 => .ret t9)
      (.ite (decide (a0 = (5 : Int)))
       (.call (spec_l01In.told a2 (1 : Int) (5 : Int)) fun t10 => .ret t10)
       (.ret ((decide (a0 = (6 : Int))))))))))))
def tree : X → Tr X A := fun _ => .fail
def f (a0 a1 a2 a3 a4 a5 : Int) : Option A := (begin a0 a1 a2 a3 a4 a5).run (lp tree)
def Q : Plan C := { PL with cuts := [], ords := [(1, [], (.take 0 [1, 2] (.take 1 [0] (.alt 2 (.alt 3 .done .nil) .nil))))], weak := [] }
theorem e : CutEq Pg C Q Tryz.f225 0 id st v o tree := fun J K x => by cases x
theorem b (a0 a1 a2 a3 a4 a5 : Int) : BegEq Pg C Q Tryz.f225 0 id st v o (S a0 a1 a2 a3 a4 a5) (begin a0 a1 a2 a3 a4 a5) := fun J K => by kernel_rfl
def told (a0 a1 a2 a3 a4 a5 : Int) : YtobfemcobakeoaaGreatEv.Told A := ⟨f a0 a1 a2 a3 a4 a5, fun r => SoundCall Pg C 225 (S a0 a1 a2 a3 a4 a5) 0 (v r) (o r), fun r h => soundCall_of_tree G mixed Q Tryz.func225 rfl (of_decide_eq_true (by kernel_rfl)) (by rfl) id st v o (fun _ => rfl) tree e (begin a0 a1 a2 a3 a4 a5) (b a0 a1 a2 a3 a4 a5) h⟩
end spec_StmtOk
/-! #### loop.example/g00983/spec.BlockOk (196) -/
namespace spec_BlockOk
def S (a0 : List S210) : List (PV U) := YtobfemcobakeoaaGreatEv.start C 41 [.sl 211 a0] []
inductive X where
 | c3 (x0 : List S210) (x1 x2 : Int)
def id : X → Nat
 | .c3 .. => 3
def st : X → List (PV U)
 | .c3 x0 x1 x2 => stOf 41 [(0, .sl 211 x0), (3, .int .i64 x1), (4, .int .i64 x2)]
def begin (a0 : List S210) : Tr X A :=
 .jump (.c3 a0 (0 : Int) (0 : Int))
def tree : X → Tr X A
 | .c3 x0 x1 x2 =>
 .ite (decide (x2 < (List.length x0 : Int)))
  (.need ((0 : Int) ≤ x2 ∧ x2 < (List.length x0 : Int)) (.call (spec_StmtOk.told ((rdS210 x0 x2).f0) ((rdS210 x0 x2).f1) ((rdS210 x0 x2).f2) ((rdS210 x0 x2).f3.f0) ((rdS210 x0 x2).f3.f1) ((rdS210 x0 x2).f3.f2)) fun t1 => .ite (!t1)
   (.ret false)
   (.need ((0 : Int) ≤ x2 ∧ x2 < (List.length x0 : Int)) (.ite (decide ((rdS210 x0 x2).f0 = (4 : Int)))
    (.ite (decide ((rdS210 x0 x2).f0 = (4 : Int)))
     (.call (spec_l01In.told (wr (x1 + (1 : Int))) (0 : Int) (3 : Int)) fun t2 => .ite (!t2)
      (.ret false)
      (.jump (.c3 x0 (wr (x1 + (1 : Int))) (wr (x2 + (1 : Int))))))
     (.ite (decide ((rdS210 x0 x2).f0 = (6 : Int)))
      (.call (spec_l01In.told (wr (x1 - (1 : Int))) (0 : Int) (3 : Int)) fun t3 => .ite (!t3)
       (.ret false)
       (.jump (.c3 x0 (wr (x1 - (1 : Int))) (wr (x2 + (1 : Int))))))
      (.call (spec_l01In.told x1 (0 : Int) (3 : Int)) fun t4 => .ite (!t4)
       (.ret false)
       (.jump (.c3 x0 x1 (wr (x2 + (1 : Int))))))))
    (.ite (decide ((rdS210 x0 x2).f0 = (5 : Int)))
     (.call (spec_l01In.told (wr (x1 + (1 : Int))) (0 : Int) (3 : Int)) fun t5 => .ite (!t5)
      (.ret false)
      (.jump (.c3 x0 (wr (x1 + (1 : Int))) (wr (x2 + (1 : Int))))))
     (.ite (decide ((rdS210 x0 x2).f0 = (6 : Int)))
      (.call (spec_l01In.told (wr (x1 - (1 : Int))) (0 : Int) (3 : Int)) fun t6 => .ite (!t6)
       (.ret false)
       (.jump (.c3 x0 (wr (x1 - (1 : Int))) (wr (x2 + (1 : Int))))))
      (.call (spec_l01In.told x1 (0 : Int) (3 : Int)) fun t7 => .ite (!t7)
       (.ret false)
       (.jump (.c3 x0 x1 (wr (x2 + (1 : Int))))))))))))
  (.ite (decide (x1 = (0 : Int)))
   (.ret ((decide ((List.length x0 : Int) ≤ (24 : Int)))))
   (.ret false))
def f (a0 : List S210) : Option A := (begin a0).run (lp tree)
def Q : Plan C := { PL with cuts := [(3, [0, 3, 4, 37, 38, 39])], ords := [], weak := [] }
theorem e : CutEq Pg C Q Tryz.f196 0 id st v o tree := fun J K x => by cases x <;> kernel_rfl
theorem b (a0 : List S210) : BegEq Pg C Q Tryz.f196 0 id st v o (S a0) (begin a0) := fun J K => by kernel_rfl
def told (a0 : List S210) : YtobfemcobakeoaaGreatEv.Told A := ⟨f a0, fun r => SoundCall Pg C 196 (S a0) 0 (v r) (o r), fun r h => soundCall_of_tree G mixed Q Tryz.func196 rfl (of_decide_eq_true (by kernel_rfl)) (by rfl) id st v o (fun _ => rfl) tree e (begin a0) (b a0) h⟩
end spec_BlockOk
/-! #### loop.example/g00983/spec.ProgramOk (137) -/
namespace spec_ProgramOk
def S (a0 : List S166) : List (PV U) := YtobfemcobakeoaaGreatEv.start C 33 [.agg [.sl 167 a0]] []
inductive X where
 | c2 (x0 : List S166) (x1 : Int)
def id : X → Nat
 | .c2 .. => 2
def st : X → List (PV U)
 | .c2 x0 x1 => stOf 33 [(1, .box [.sl 167 x0]), (3, .int .i64 x1)]
def begin (a0 : List S166) : Tr X A :=
 .jump (.c2 a0 (0 : Int))
def tree : X → Tr X A
 | .c2 x0 x1 =>
 .ite (decide (x1 < (List.length x0 : Int)))
  (.need ((0 : Int) ≤ x1 ∧ x1 < (List.length x0 : Int)) (.call (spec_BlockOk.told ((rdS166 x0 x1).f0)) fun t1 => .ite (!t1)
   (.ret false)
   (.need ((0 : Int) ≤ x1 ∧ x1 < (List.length x0 : Int)) (.call (spec_ExprOk.told ((rdS166 x0 x1).f1.f0) ((rdS166 x0 x1).f1.f1) ((rdS166 x0 x1).f1.f2)) fun t2 => .ite (!t2)
    (.ret false)
    (.jump (.c2 x0 (wr (x1 + (1 : Int)))))))))
  (.call (spec_l01In.told (List.length x0 : Int) (1 : Int) (6 : Int)) fun t3 => .ret t3)
def f (a0 : List S166) : Option A := (begin a0).run (lp tree)
def Q : Plan C := { PL with cuts := [(2, [1, 3])], ords := [], weak := [] }
theorem e : CutEq Pg C Q Tryz.f137 0 id st v o tree := fun J K x => by cases x <;> kernel_rfl
theorem b (a0 : List S166) : BegEq Pg C Q Tryz.f137 0 id st v o (S a0) (begin a0) := fun J K => by kernel_rfl
def told (a0 : List S166) : YtobfemcobakeoaaGreatEv.Told A := ⟨f a0, fun r => SoundCall Pg C 137 (S a0) 0 (v r) (o r), fun r h => soundCall_of_tree G mixed Q Tryz.func137 rfl (of_decide_eq_true (by kernel_rfl)) (by rfl) id st v o (fun _ => rfl) tree e (begin a0) (b a0) h⟩
end spec_ProgramOk
/-! #### loop.example/g00983/spec.PackControl (73) -/
namespace spec_PackControl
def S (a0 a1 a2 : Int) : List (PV U) := YtobfemcobakeoaaGreatEv.start C 27 [.int .i64 a0, .int .i64 a1, .int .i64 a2] []
abbrev X := Empty
def id : X → Nat := fun _ => 0
def st : X → List (PV U) := fun _ => []
def begin (a0 a1 a2 : Int) : Tr X A :=
 .call (spec_l01In.told a0 (0 : Int) (5 : Int)) fun t1 => .ite (!t1)
  (.ret ((-1 : Int)))
  (.call (spec_l01In.told a1 (0 : Int) (8 : Int)) fun t2 => .ite (!t2)
   (.ret ((-1 : Int)))
   (.call (spec_l01In.told a2 (0 : Int) (24 : Int)) fun t3 => .ite (!t3)
    (.ret ((-1 : Int)))
    (.ret ((wr (a0 + (wr ((8 : Int) * (wr (a1 + (wr ((16 : Int) * a2))))))))))))
def tree : X → Tr X A := fun _ => .fail
def f (a0 a1 a2 : Int) : Option A := (begin a0 a1 a2).run (lp tree)
def Q : Plan C := { PL with cuts := [], ords := [], weak := [] }
theorem e : CutEq Pg C Q Tryz.f73 0 id st v o tree := fun J K x => by cases x
theorem b (a0 a1 a2 : Int) : BegEq Pg C Q Tryz.f73 0 id st v o (S a0 a1 a2) (begin a0 a1 a2) := fun J K => by kernel_rfl
def told (a0 a1 a2 : Int) : YtobfemcobakeoaaGreatEv.Told A := ⟨f a0 a1 a2, fun r => SoundCall Pg C 73 (S a0 a1 a2) 0 (v r) (o r), fun r h => soundCall_of_tree G mixed Q Tryz.func73 rfl (of_decide_eq_true (by kernel_rfl)) (by rfl) id st v o (fun _ => rfl) tree e (begin a0 a1 a2) (b a0 a1 a2) h⟩
end spec_PackControl
/-! #### loop.example/g00983/spec.UnpackControl (72) -/
namespace spec_UnpackControl
def S (a0 : Int) : List (PV U) := YtobfemcobakeoaaGreatEv.start C 30 [.int .i64 a0] []
abbrev X := Empty
def id : X → Nat := fun _ => 0
def st : X → List (PV U) := fun _ => []
def begin (a0 : Int) : Tr X A :=
 .ite (decide (a0 < (0 : Int)))
  (.ret ((-1 : Int), (-1 : Int), (-1 : Int)))
  (.ite (decide (a0 > (100000 : Int)))
   (.ret ((-1 : Int), (-1 : Int), (-1 : Int)))
   (.need ((8 : Int) ≠ 0) (.need ((8 : Int) ≠ 0) (.need ((16 : Int) ≠ 0) (.need ((128 : Int) ≠ 0) (.call (spec_PackControl.told (Int.tmod a0 (8 : Int)) (Int.tmod (wr (Int.tdiv a0 (8 : Int))) (16 : Int)) (wr (Int.tdiv a0 (128 : Int)))) fun t1 => .ite (!decide (t1 = a0))
    (.ret ((-1 : Int), (-1 : Int), (-1 : Int)))
    (.ret ((Int.tmod a0 (8 : Int)), (Int.tmod (wr (Int.tdiv a0 (8 : Int))) (16 : Int)), (wr (Int.tdiv a0 (128 : Int)))))))))))
def tree : X → Tr X A := fun _ => .fail
def f (a0 : Int) : Option A := (begin a0).run (lp tree)
def Q : Plan C := { PL with cuts := [], ords := [], weak := [] }
theorem e : CutEq Pg C Q Tryz.f72 0 id st v o tree := fun J K x => by cases x
theorem b (a0 : Int) : BegEq Pg C Q Tryz.f72 0 id st v o (S a0) (begin a0) := fun J K => by kernel_rfl
def told (a0 : Int) : YtobfemcobakeoaaGreatEv.Told A := ⟨f a0, fun r => SoundCall Pg C 72 (S a0) 0 (v r) (o r), fun r h => soundCall_of_tree G mixed Q Tryz.func72 rfl (of_decide_eq_true (by kernel_rfl)) (by rfl) id st v o (fun _ => rfl) tree e (begin a0) (b a0) h⟩
end spec_UnpackControl
/-! #### loop.example/g00983/spec.IsValue (140) -/
namespace spec_IsValue
def S (a0 : Int) : List (PV U) := YtobfemcobakeoaaGreatEv.start C 5 [.int .i64 a0] []
abbrev X := Empty
def id : X → Nat := fun _ => 0
def st : X → List (PV U) := fun _ => []
def begin (a0 : Int) : Tr X A :=
 .call (spec_l01In.told a0 (-1000000 : Int) (1000000 : Int)) fun t1 => .ret t1
def tree : X → Tr X A := fun _ => .fail
def f (a0 : Int) : Option A := (begin a0).run (lp tree)
def Q : Plan C := { PL with cuts := [], ords := [], weak := [] }
theorem e : CutEq Pg C Q Tryz.f140 0 id st v o tree := fun J K x => by cases x
theorem b (a0 : Int) : BegEq Pg C Q Tryz.f140 0 id st v o (S a0) (begin a0) := fun J K => by kernel_rfl
def told (a0 : Int) : YtobfemcobakeoaaGreatEv.Told A := ⟨f a0, fun r => SoundCall Pg C 140 (S a0) 0 (v r) (o r), fun r h => soundCall_of_tree G mixed Q Tryz.func140 rfl (of_decide_eq_true (by kernel_rfl)) (by rfl) id st v o (fun _ => rfl) tree e (begin a0) (b a0) h⟩
end spec_IsValue
/-! #### loop.example/g00983/spec.l09Values (138) -/
namespace spec_l09Values
def S (a0 : List Int) : List (PV U) := YtobfemcobakeoaaGreatEv.start C 16 [.sl 3 a0] []
inductive X where
 | c2 (x0 : List Int) (x1 : Int)
def id : X → Nat
 | .c2 .. => 2
def st : X → List (PV U)
 | .c2 x0 x1 => stOf 16 [(0, .sl 3 x0), (3, .int .i64 x1)]
def begin (a0 : List Int) : Tr X A :=
 .jump (.c2 a0 (0 : Int))
def tree : X → Tr X A
 | .c2 x0 x1 =>
 .ite (decide (x1 < (List.length x0 : Int)))
  (.need ((0 : Int) ≤ x1 ∧ x1 < (List.length x0 : Int)) (.call (spec_IsValue.told (rdI x0 x1)) fun t1 => .ite (!t1)
   (.ret false)
   (.jump (.c2 x0 (wr (x1 + (1 : Int)))))))
  (.ret true)
def f (a0 : List Int) : Option A := (begin a0).run (lp tree)
def Q : Plan C := { PL with cuts := [(2, [0, 3])], ords := [], weak := [] }
theorem e : CutEq Pg C Q Tryz.f138 0 id st v o tree := fun J K x => by cases x <;> kernel_rfl
theorem b (a0 : List Int) : BegEq Pg C Q Tryz.f138 0 id st v o (S a0) (begin a0) := fun J K => by kernel_rfl
def told (a0 : List Int) : YtobfemcobakeoaaGreatEv.Told A := ⟨f a0, fun r => SoundCall Pg C 138 (S a0) 0 (v r) (o r), fun r h => soundCall_of_tree G mixed Q Tryz.func138 rfl (of_decide_eq_true (by kernel_rfl)) (by rfl) id st v o (fun _ => rfl) tree e (begin a0) (b a0) h⟩
end spec_l09Values
/-! #### loop.example/g00983/spec.MemOk (67) -/
namespace spec_MemOk
def S (a0 : List S166) (a1 : List Int) : List (PV U) := YtobfemcobakeoaaGreatEv.start C 72 [.agg [.sl 167 a0], .sl 3 a1] []
inductive X where
 | c7 (x0 : List Int) (x1 x2 : Int)
def id : X → Nat
 | .c7 .. => 7
def st : X → List (PV U)
 | .c7 x0 x1 x2 => stOf 72 [(1, .sl 3 x0), (6, .int .i64 x1), (8, .int .i64 x2)]
def begin (a0 : List S166) (a1 : List Int) : Tr X A :=
 .call (spec_ProgramOk.told a0) fun t1 => .ite (!t1)
  (.ret false)
  (.ite (!decide ((List.length a1 : Int) = (49 : Int)))
   (.ret false)
   (.need ((0 : Int) ≤ (8 : Int) ∧ (8 : Int) < (List.length a1 : Int)) (.call (spec_UnpackControl.told (rdI a1 (8 : Int))) fun t2 => .ite (decide (t2.1 < (0 : Int)))
    (.ret false)
    (.ite (decide (t2.1 ≥ (List.length a0 : Int)))
     (.ret false)
     (.need ((0 : Int) ≤ (0 : Int) ∧ (0 : Int) ≤ (8 : Int) ∧ (8 : Int) ≤ (List.length a1 : Int)) (.call (spec_l09Values.told (List.take (Int.toNat (8 : Int)) a1)) fun t3 => .ite (!t3)
      (.ret false)
      (.need ((0 : Int) ≤ (25 : Int) ∧ (25 : Int) ≤ (wr ((25 : Int) + t2.2.2)) ∧ (wr ((25 : Int) + t2.2.2)) ≤ (List.length a1 : Int)) (.call (spec_l09Values.told (List.drop (Int.toNat (25 : Int)) (List.take (Int.toNat (wr ((25 : Int) + t2.2.2))) a1))) fun t4 => .ite (!t4)
       (.ret false)
       (.jump (.c7 a1 t2.2.1 (0 : Int)))))))))))
def tree : X → Tr X A
 | .c7 x0 x1 x2 =>
 .ite (decide (x2 < x1))
  (.need ((0 : Int) ≤ (wr ((9 : Int) + (wr ((2 : Int) * x2)))) ∧ (wr ((9 : Int) + (wr ((2 : Int) * x2)))) < (List.length x0 : Int)) (.call (spec_l01In.told (rdI x0 (wr ((9 : Int) + (wr ((2 : Int) * x2))))) (0 : Int) (7 : Int)) fun t5 => .ite (!t5)
   (.ret false)
   (.need ((0 : Int) ≤ (wr ((wr ((9 : Int) + (wr ((2 : Int) * x2)))) + (1 : Int))) ∧ (wr ((wr ((9 : Int) + (wr ((2 : Int) * x2)))) + (1 : Int))) < (List.length x0 : Int)) (.call (spec_IsValue.told (rdI x0 (wr ((wr ((9 : Int) + (wr ((2 : Int) * x2)))) + (1 : Int))))) fun t6 => .ite (!t6)
    (.ret false)
    (.jump (.c7 x0 x1 (wr (x2 + (1 : Int)))))))))
  (.ret true)
def f (a0 : List S166) (a1 : List Int) : Option A := (begin a0 a1).run (lp tree)
def Q : Plan C := { PL with cuts := [(7, [1, 6, 8])], ords := [], weak := [] }
theorem e : CutEq Pg C Q Tryz.f67 0 id st v o tree := fun J K x => by cases x <;> kernel_rfl
theorem b (a0 : List S166) (a1 : List Int) : BegEq Pg C Q Tryz.f67 0 id st v o (S a0 a1) (begin a0 a1) := fun J K => by kernel_rfl
def told (a0 : List S166) (a1 : List Int) : YtobfemcobakeoaaGreatEv.Told A := ⟨f a0 a1, fun r => SoundCall Pg C 67 (S a0 a1) 0 (v r) (o r), fun r h => soundCall_of_tree G mixed Q Tryz.func67 rfl (of_decide_eq_true (by kernel_rfl)) (by rfl) id st v o (fun _ => rfl) tree e (begin a0 a1) (b a0 a1) h⟩
end spec_MemOk
/-! #### loop.example/g00983/spec.StoreOk (157) -/
namespace spec_StoreOk
def S (a0 a1 a2 a3 : Int) : List (PV U) := YtobfemcobakeoaaGreatEv.start C 25 [.agg [.int .i64 a0, .int .i64 a1, .int .i64 a2, .int .i64 a3]] []
abbrev X := Empty
def id : X → Nat := fun _ => 0
def st : X → List (PV U) := fun _ => []
def begin (a0 a1 a2 a3 : Int) : Tr X A :=
 .call (spec_l01In.told a1 (1 : Int) (5000 : Int)) fun t1 => .ite t1
  (.call (spec_l01In.told a0 (0 : Int) a1) fun t2 => .ite t2
   (.call (spec_l01In.told a2 (1 : Int) a1) fun t3 => .ite t3
    (.call (spec_l01In.told a3 (0 : Int) (100 : Int)) fun t4 => .ret t4)
    (.ret false))
   (.ret false))
  (.ret false)
def tree : X → Tr X A := fun _ => .fail
def f (a0 a1 a2 a3 : Int) : Option A := (begin a0 a1 a2 a3).run (lp tree)
def Q : Plan C := { PL with cuts := [], ords := [], weak := [] }
theorem e : CutEq Pg C Q Tryz.f157 0 id st v o tree := fun J K x => by cases x
theorem b (a0 a1 a2 a3 : Int) : BegEq Pg C Q Tryz.f157 0 id st v o (S a0 a1 a2 a3) (begin a0 a1 a2 a3) := fun J K => by kernel_rfl
def told (a0 a1 a2 a3 : Int) : YtobfemcobakeoaaGreatEv.Told A := ⟨f a0 a1 a2 a3, fun r => SoundCall Pg C 157 (S a0 a1 a2 a3) 0 (v r) (o r), fun r h => soundCall_of_tree G mixed Q Tryz.func157 rfl (of_decide_eq_true (by kernel_rfl)) (by rfl) id st v o (fun _ => rfl) tree e (begin a0 a1 a2 a3) (b a0 a1 a2 a3) h⟩
end spec_StoreOk
/-! #### loop.example/g00983/spec.SpanOk (158) -/
namespace spec_SpanOk
def S (a0 a1 : Int) : List (PV U) := YtobfemcobakeoaaGreatEv.start C 18 [.agg [.int .i64 a0, .int .i64 a1]] []
abbrev X := Empty
def id : X → Nat := fun _ => 0
def st : X → List (PV U) := fun _ => []
def begin (a0 a1 : Int) : Tr X A :=
 .ite (decide (a0 ≥ (0 : Int)))
  (.ite (decide (a0 ≤ a1))
   (.ret ((decide (a1 ≤ (1000000 : Int)))))
   (.ret false))
  (.ret false)
def tree : X → Tr X A := fun _ => .fail
def f (a0 a1 : Int) : Option A := (begin a0 a1).run (lp tree)
def Q : Plan C := { PL with cuts := [], ords := [], weak := [] }
theorem e : CutEq Pg C Q Tryz.f158 0 id st v o tree := fun J K x => by cases x
theorem b (a0 a1 : Int) : BegEq Pg C Q Tryz.f158 0 id st v o (S a0 a1) (begin a0 a1) := fun J K => by kernel_rfl
def told (a0 a1 : Int) : YtobfemcobakeoaaGreatEv.Told A := ⟨f a0 a1, fun r => SoundCall Pg C 158 (S a0 a1) 0 (v r) (o r), fun r h => soundCall_of_tree G mixed Q Tryz.func158 rfl (of_decide_eq_true (by kernel_rfl)) (by rfl) id st v o (fun _ => rfl) tree e (begin a0 a1) (b a0 a1) h⟩
end spec_SpanOk
/-! #### loop.example/g00983/spec.MemSent (208) -/
namespace spec_MemSent
def S (a0 : List Int) : List (PV U) := YtobfemcobakeoaaGreatEv.start C 27 [.sl 3 a0] []
abbrev X := Empty
def id : X → Nat := fun _ => 0
def st : X → List (PV U) := fun _ => []
def begin (a0 : List Int) : Tr X A :=
 .ite (!decide ((List.length a0 : Int) = (49 : Int)))
  (.ret (([] : List Int)))
  (.need ((0 : Int) ≤ (8 : Int) ∧ (8 : Int) < (List.length a0 : Int)) (.call (spec_UnpackControl.told (rdI a0 (8 : Int))) fun t1 => .ite (decide (t1.2.2 < (0 : Int)))
   (.ret (([] : List Int)))
   (.need ((0 : Int) ≤ (25 : Int) ∧ (25 : Int) ≤ (wr ((25 : Int) + t1.2.2)) ∧ (wr ((25 : Int) + t1.2.2)) ≤ (List.length a0 : Int)) (.need (((List.length ([] : List Int) : Int) + (List.length (List.drop (Int.toNat (25 : Int)) (List.take (Int.toNat (wr ((25 : Int) + t1.2.2))) a0)) : Int)) * (8 : Nat) ≤ room) (.val ((([] : List Int) ++ (List.drop (Int.toNat (25 : Int)) (List.take (Int.toNat (wr ((25 : Int) + t1.2.2))) a0))) : List Int) fun v2 => .ret v2)))))
def tree : X → Tr X A := fun _ => .fail
def f (a0 : List Int) : Option A := (begin a0).run (lp tree)
def Q : Plan C := { PL with cuts := [], ords := [], weak := [] }
theorem e : CutEq Pg C Q Tryz.f208 0 id st v o tree := fun J K x => by cases x
theorem b (a0 : List Int) : BegEq Pg C Q Tryz.f208 0 id st v o (S a0) (begin a0) := fun J K => by kernel_rfl
def told (a0 : List Int) : YtobfemcobakeoaaGreatEv.Told A := ⟨f a0, fun r => SoundCall Pg C 208 (S a0) 0 (v r) (o r), fun r h => soundCall_of_tree G mixed Q Tryz.func208 rfl (of_decide_eq_true (by kernel_rfl)) (by rfl) id st v o (fun _ => rfl) tree e (begin a0) (b a0) h⟩
end spec_MemSent
/-! #### loop.example/g00983/spec.IsPrefixOf (207) -/
namespace spec_IsPrefixOf
def S (a0 a1 : List Int) : List (PV U) := YtobfemcobakeoaaGreatEv.start C 27 [.sl 3 a0, .sl 3 a1] []
inductive X where
 | c2 (x0 x1 : List Int) (x2 : Int)
def id : X → Nat
 | .c2 .. => 2
def st : X → List (PV U)
 | .c2 x0 x1 x2 => stOf 27 [(0, .sl 3 x0), (1, .sl 3 x1), (5, .int .i64 x2)]
def begin (a0 a1 : List Int) : Tr X A :=
 .jump (.c2 a0 a1 (0 : Int))
def tree : X → Tr X A
 | .c2 x0 x1 x2 =>
 .ite (decide (x2 < (List.length x0 : Int)))
  (.ite (decide (x2 ≥ (List.length x1 : Int)))
   (.ret false)
   (.need ((0 : Int) ≤ x2 ∧ x2 < (List.length x0 : Int)) (.need ((0 : Int) ≤ x2 ∧ x2 < (List.length x1 : Int)) (.ite (!decide ((rdI x0 x2) = (rdI x1 x2)))
    (.ret false)
    (.jump (.c2 x0 x1 (wr (x2 + (1 : Int)))))))))
  (.ret true)
def f (a0 a1 : List Int) : Option A := (begin a0 a1).run (lp tree)
def Q : Plan C := { PL with cuts := [(2, [0, 1, 5])], ords := [(4, [], (.take 0 [] (.take 1 [] (.take 2 [] (.take 3 [] (.take 4 [] (.take 5 [] (.take 6 [] (.take 7 [] (.take 9 [] (.take 10 [] (.take 11 [] (.take 8 [0, 1, 2, 3, 4, 5, 6, 7, 9, 10, 11, 12] (.take 12 [0, 1, 2, 3, 4, 5, 6, 7, 8, 9, 10, 11] (.take 13 [] (.take 14 [] .done))))))))))))))))], weak := [] }
theorem e : CutEq Pg C Q Tryz.f207 0 id st v o tree := fun J K x => by cases x <;> kernel_rfl
theorem b (a0 a1 : List Int) : BegEq Pg C Q Tryz.f207 0 id st v o (S a0 a1) (begin a0 a1) := fun J K => by kernel_rfl
def told (a0 a1 : List Int) : YtobfemcobakeoaaGreatEv.Told A := ⟨f a0 a1, fun r => SoundCall Pg C 207 (S a0 a1) 0 (v r) (o r), fun r h => soundCall_of_tree G mixed Q Tryz.func207 rfl (of_decide_eq_true (by kernel_rfl)) (by rfl) id st v o (fun _ => rfl) tree e (begin a0 a1) (b a0 a1) h⟩
end spec_IsPrefixOf
/-! #### loop.example/g00983/spec.LinkOk (159) -/
namespace spec_LinkOk
def S (a0 : List Int) (a1 : Int) (a2 : List Int) : List (PV U) := YtobfemcobakeoaaGreatEv.start C 20 [.sl 3 a0, .agg [.int .i64 a1, .sl 3 a2]] []
abbrev X := Empty
def id : X → Nat := fun _ => 0
def st : X → List (PV U) := fun _ => []
def begin (a0 : List Int) (a1 : Int) (a2 : List Int) : Tr X A :=
 .last (.call (spec_l01In.told a1 (0 : Int) (List.length a2 : Int)) fun t1 => .ite t1
  (.last (.call (spec_MemSent.told a0) fun t2 => .last (.call (spec_IsPrefixOf.told a2 t2) fun t3 => .ret t3)))
  (.last (.last (.ret false))))
def tree : X → Tr X A := fun _ => .fail
def f (a0 : List Int) (a1 : Int) (a2 : List Int) : Option A := (begin a0 a1 a2).run (lp tree)
def Q : Plan C := { PL with cuts := [], ords := [(1, [], (.take 0 [] (.take 2 [] (.take 3 [] (.take 1 [0, 2, 3, 4, 5] (.take 4 [0, 1, 2, 3] (.take 5 [] (.alt 6 (.take 7 [] (.take 8 [] (.take 9 [] (.take 11 [] (.take 10 [0, 1, 2, 3, 4, 5, 6, 7, 8, 9, 11, 12] (.alt 12 (.alt 13 (.take 14 [] (.take 15 [] .done)) .nil) .nil)))))) .nil))))))))], weak := [] }
theorem e : CutEq Pg C Q Tryz.f159 0 id st v o tree := fun J K x => by cases x
theorem b (a0 : List Int) (a1 : Int) (a2 : List Int) : BegEq Pg C Q Tryz.f159 0 id st v o (S a0 a1 a2) (begin a0 a1 a2) := fun J K => by kernel_rfl
def told (a0 : List Int) (a1 : Int) (a2 : List Int) : YtobfemcobakeoaaGreatEv.Told A := ⟨f a0 a1 a2, fun r => SoundCall Pg C 159 (S a0 a1 a2) 0 (v r) (o r), fun r h => soundCall_of_tree G mixed Q Tryz.func159 rfl (of_decide_eq_true (by kernel_rfl)) (by rfl) id st v o (fun _ => rfl) tree e (begin a0 a1 a2) (b a0 a1 a2) h⟩
end spec_LinkOk
/-! #### loop.example/g00983/spec.NodeOk (86) -/
namespace spec_NodeOk
def S (a0 : List S166) (a1 a2 : List Int) (a3 a4 a5 a6 a7 a8 a9 a10 : Int) (a11 : List Int) (a12 : Int) : List (PV U) := YtobfemcobakeoaaGreatEv.start C 40 [.agg [.sl 167 a0, .sl 3 a1, .sl 3 a2, .int .i64 a3, .int .i64 a4, .int .i64 a5, .int .i64 a6, .int .i64 a7, .int .i64 a8, .int .i64 a9, .int .i64 a10, .sl 3 a11, .int .i64 a12]] []
abbrev X := Empty
def id : X → Nat := fun _ => 0
def st : X → List (PV U) := fun _ => []
def begin (a0 : List S166) (a1 a2 : List Int) (a3 a4 a5 a6 a7 a8 a9 a10 : Int) (a11 : List Int) (a12 : Int) : Tr X A :=
 .call (spec_MemOk.told a0 a1) fun t1 => .ite t1
  (.call (spec_StoreOk.told a4 a5 a6 a7) fun t2 => .ite t2
   (.call (spec_l09Values.told a2) fun t3 => .ite t3
    (.call (spec_l01In.told a3 (0 : Int) (400000 : Int)) fun t4 => .ite t4
     (.call (spec_SpanOk.told a8 a9) fun t5 => .ite t5
      (.call (spec_LinkOk.told a1 a10 a11) fun t6 => .ite t6
       (.call (spec_l01In.told a12 (0 : Int) (100000 : Int)) fun t7 => .ret t7)
       (.ret false))
      (.ret false))
     (.ret false))
    (.ret false))
   (.ret false))
  (.ret false)
def tree : X → Tr X A := fun _ => .fail
def f (a0 : List S166) (a1 a2 : List Int) (a3 a4 a5 a6 a7 a8 a9 a10 : Int) (a11 : List Int) (a12 : Int) : Option A := (begin a0 a1 a2 a3 a4 a5 a6 a7 a8 a9 a10 a11 a12).run (lp tree)
def Q : Plan C := { PL with cuts := [], ords := [], weak := [] }
theorem e : CutEq Pg C Q Tryz.f86 0 id st v o tree := fun J K x => by cases x
theorem b (a0 : List S166) (a1 a2 : List Int) (a3 a4 a5 a6 a7 a8 a9 a10 : Int) (a11 : List Int) (a12 : Int) : BegEq Pg C Q Tryz.f86 0 id st v o (S a0 a1 a2 a3 a4 a5 a6 a7 a8 a9 a10 a11 a12) (begin a0 a1 a2 a3 a4 a5 a6 a7 a8 a9 a10 a11 a12) := fun J K => by kernel_rfl
def told (a0 : List S166) (a1 a2 : List Int) (a3 a4 a5 a6 a7 a8 a9 a10 : Int) (a11 : List Int) (a12 : Int) : YtobfemcobakeoaaGreatEv.Told A := ⟨f a0 a1 a2 a3 a4 a5 a6 a7 a8 a9 a10 a11 a12, fun r => SoundCall Pg C 86 (S a0 a1 a2 a3 a4 a5 a6 a7 a8 a9 a10 a11 a12) 0 (v r) (o r), fun r h => soundCall_of_tree G mixed Q Tryz.func86 rfl (of_decide_eq_true (by kernel_rfl)) (by rfl) id st v o (fun _ => rfl) tree e (begin a0 a1 a2 a3 a4 a5 a6 a7 a8 a9 a10 a11 a12) (b a0 a1 a2 a3 a4 a5 a6 a7 a8 a9 a10 a11 a12) h⟩
end spec_NodeOk
/-! #### loop.example/g00983/spec.PacketsOf (161) -/
namespace spec_PacketsOf
def S (a0 : List Int) (a1 : Int) : List (PV U) := YtobfemcobakeoaaGreatEv.start C 34 [.sl 3 a0, .int .i64 a1] []
inductive X where
 | c6 (x0 : List S217) (x1 : List Int) (x2 : Int)
def id : X → Nat
 | .c6 .. => 6
def st : X → List (PV U)
 | .c6 x0 x1 x2 => stOf 34 [(5, .own true 218 x0), (6, .own true 3 x1), (7, .int .i64 x2)]
def begin (a0 : List Int) (a1 : Int) : Tr X A :=
 .call (spec_MemSent.told a0) fun t1 => .call (spec_l01In.told a1 (0 : Int) (List.length t1 : Int)) fun t2 => .ite (!t2)
  (.ret (([] : List S217)))
  (.jump (.c6 ([] : List S217) t1 a1))
def tree : X → Tr X A
 | .c6 x0 x1 x2 =>
 .ite (decide (x2 < (List.length x1 : Int)))
  (.need ((0 : Int) ≤ x2 ∧ x2 < (List.length x1 : Int)) (.need (((List.length x0 : Int) + (List.length ([(⟨x2, (rdI x1 x2)⟩ : S217)]) : Int)) * (16 : Nat) ≤ room) (.jump (.c6 (x0 ++ [(⟨x2, (rdI x1 x2)⟩ : S217)]) x1 (wr (x2 + (1 : Int)))))))
  (.ret x0)
def f (a0 : List Int) (a1 : Int) : Option A := (begin a0 a1).run (lp tree)
def Q : Plan C := { PL with cuts := [(6, [5, 6, 7])], ords := [], weak := [] }
theorem e : CutEq Pg C Q Tryz.f161 0 id st v o tree := fun J K x => by cases x <;> kernel_rfl
theorem b (a0 : List Int) (a1 : Int) : BegEq Pg C Q Tryz.f161 0 id st v o (S a0 a1) (begin a0 a1) := fun J K => by kernel_rfl
def told (a0 : List Int) (a1 : Int) : YtobfemcobakeoaaGreatEv.Told A := ⟨f a0 a1, fun r => SoundCall Pg C 161 (S a0 a1) 0 (v r) (o r), fun r h => soundCall_of_tree G mixed Q Tryz.func161 rfl (of_decide_eq_true (by kernel_rfl)) (by rfl) id st v o (fun _ => rfl) tree e (begin a0 a1) (b a0 a1) h⟩
end spec_PacketsOf
/-! #### loop.example/g00983/spec.l31Take (209) -/
namespace spec_l31Take
def S (a0 : List Int) (a1 a2 : Int) : List (PV U) := YtobfemcobakeoaaGreatEv.start C 21 [.own true 3 a0, .agg [.int .i64 a1, .int .i64 a2]] []
abbrev X := Empty
def id : X → Nat := fun _ => 0
def st : X → List (PV U) := fun _ => []
def begin (a0 : List Int) (a1 a2 : Int) : Tr X A :=
 .ite (decide (a1 = (List.length a0 : Int)))
  (.ite (decide ((List.length a0 : Int) < (255 : Int)))
   (.need (((List.length a0 : Int) + (List.length ([a2]) : Int)) * (8 : Nat) ≤ room) (.ret ((a0 ++ [a2]))))
   (.ret a0))
  (.ret a0)
def tree : X → Tr X A := fun _ => .fail
def f (a0 : List Int) (a1 a2 : Int) : Option A := (begin a0 a1 a2).run (lp tree)
def Q : Plan C := { PL with cuts := [], ords := [], weak := [] }
theorem e : CutEq Pg C Q Tryz.f209 0 id st v o tree := fun J K x => by cases x
theorem b (a0 : List Int) (a1 a2 : Int) : BegEq Pg C Q Tryz.f209 0 id st v o (S a0 a1 a2) (begin a0 a1 a2) := fun J K => by kernel_rfl
def told (a0 : List Int) (a1 a2 : Int) : YtobfemcobakeoaaGreatEv.Told A := ⟨f a0 a1 a2, fun r => SoundCall Pg C 209 (S a0 a1 a2) 0 (v r) (o r), fun r h => soundCall_of_tree G mixed Q Tryz.func209 rfl (of_decide_eq_true (by kernel_rfl)) (by rfl) id st v o (fun _ => rfl) tree e (begin a0 a1 a2) (b a0 a1 a2) h⟩
end spec_l31Take
/-! #### loop.example/g00983/spec.ReceiveAll (160) -/
namespace spec_ReceiveAll
def S (a0 : List Int) (a1 : List S217) (a2 : List Bool) : List (PV U) := YtobfemcobakeoaaGreatEv.start C 40 [.agg [.sl 3 a0], .sl 218 a1, .sl 4 a2] []
inductive X where
 | c3 (x0 : List S217) (x1 : List Bool) (x2 x3 : List Int) (x4 : Int)
def id : X → Nat
 | .c3 .. => 3
def st : X → List (PV U)
 | .c3 x0 x1 x2 x3 x4 => stOf 40 [(1, .sl 218 x0), (2, .sl 4 x1), (6, .box [.own true 3 x2]), (8, .own true 3 x3), (9, .int .i64 x4)]
def begin (a0 : List Int) (a1 : List S217) (a2 : List Bool) : Tr X A :=
 .need (((List.length ([] : List Int) : Int) + (List.length a0 : Int)) * (8 : Nat) ≤ room) (.jump (.c3 a1 a2 ([] : List Int) (([] : List Int) ++ a0) (0 : Int)))
def tree : X → Tr X A
 | .c3 x0 x1 x2 x3 x4 =>
 .ite (decide (x4 < (List.length x0 : Int)))
  (.ite (decide (x4 < (List.length x1 : Int)))
   (.need ((0 : Int) ≤ x4 ∧ x4 < (List.length x1 : Int)) (.ite (rdB x1 x4)
    (.need ((0 : Int) ≤ x4 ∧ x4 < (List.length x0 : Int)) (.call (spec_l31Take.told x3 ((rdS217 x0 x4).f0) ((rdS217 x0 x4).f1)) fun t1 => .jump (.c3 x0 x1 x2 t1 (wr (x4 + (1 : Int))))))
    (.jump (.c3 x0 x1 x2 x3 (wr (x4 + (1 : Int)))))))
   (.ret (x3, (List.length x3 : Int))))
  (.ret (x3, (List.length x3 : Int)))
def f (a0 : List Int) (a1 : List S217) (a2 : List Bool) : Option A := (begin a0 a1 a2).run (lp tree)
def Q : Plan C := { PL with cuts := [(3, [1, 2, 6, 8, 9])], ords := [], weak := [] }
theorem e : CutEq Pg C Q Tryz.f160 0 id st v o tree := fun J K x => by cases x <;> kernel_rfl
theorem b (a0 : List Int) (a1 : List S217) (a2 : List Bool) : BegEq Pg C Q Tryz.f160 0 id st v o (S a0 a1 a2) (begin a0 a1 a2) := fun J K => by kernel_rfl
def told (a0 : List Int) (a1 : List S217) (a2 : List Bool) : YtobfemcobakeoaaGreatEv.Told A := ⟨f a0 a1 a2, fun r => SoundCall Pg C 160 (S a0 a1 a2) 0 (v r) (o r), fun r h => soundCall_of_tree G mixed Q Tryz.func160 rfl (of_decide_eq_true (by kernel_rfl)) (by rfl) id st v o (fun _ => rfl) tree e (begin a0 a1 a2) (b a0 a1 a2) h⟩
end spec_ReceiveAll
/-! #### loop.example/g00983/spec.SendRound (87) -/
namespace spec_SendRound
def S (a0 : List Int) (a1 : Int) (a2 : List Int) (a3 : List Bool) (a4 : Bool) : List (PV U) := YtobfemcobakeoaaGreatEv.start C 37 [.sl 3 a0, .agg [.int .i64 a1, .sl 3 a2], .sl 4 a3, .bool a4] []
abbrev X := Empty
def id : X → Nat := fun _ => 0
def st : X → List (PV U) := fun _ => []
def begin (a0 : List Int) (a1 : Int) (a2 : List Int) (a3 : List Bool) (a4 : Bool) : Tr X A :=
 .call (spec_l32Copy.told a1 a2) fun t1 => .call (spec_LinkOk.told a0 a1 a2) fun t2 => .ite (!t2)
  (.ret (t1.1, t1.2, false))
  (.both (.call (spec_PacketsOf.told a0 a1) fun t3 => .both (.call (spec_ReceiveAll.told t1.2 t3 a3) fun t4 => .last (.last (.ite a4
     (.ret (t4.2, t4.1, true))
     (.ret (t1.1, t4.1, true)))))
    (.last (.last (.call (spec_ReceiveAll.told t1.2 t3 a3) fun t5 => .last (.ite a4
     (.ret (t5.2, t5.1, true))
     (.ret (t1.1, t5.1, true)))))))
   (.last (.last (.call (spec_PacketsOf.told a0 a1) fun t6 => .last (.call (spec_ReceiveAll.told t1.2 t6 a3) fun t7 => .last (.ite a4
    (.ret (t7.2, t7.1, true))
    (.ret (t1.1, t7.1, true))))))))
def tree : X → Tr X A := fun _ => .fail
def f (a0 : List Int) (a1 : Int) (a2 : List Int) (a3 : List Bool) (a4 : Bool) : Option A := (begin a0 a1 a2 a3 a4).run (lp tree)
def Q : Plan C := { PL with cuts := [], ords := [(4, [12], (.take 0 [] (.take 2 [] (.take 3 [] (.take 6 [] (.take 1 [0, 2, 3, 4, 5, 6, 11] (.take 4 [0, 1, 2, 3, 6, 11] (.alt 5 (.alt 7 (.take 8 [] (.take 9 [] (.take 10 [] (.alt 11 (.alt 12 (.take 13 [] .done) .nil) .nil)))) (.alt 11 (.alt 7 (.take 8 [] (.take 9 [] (.take 10 [] (.alt 12 (.take 13 [] .done) .nil)))) .nil) .nil)) (.alt 11 (.alt 5 (.alt 7 (.take 8 [] (.take 9 [] (.take 10 [] (.alt 12 (.take 13 [] .done) .nil)))) .nil) .nil) .nil)))))))))], weak := [] }
theorem e : CutEq Pg C Q Tryz.f87 0 id st v o tree := fun J K x => by cases x
theorem b (a0 : List Int) (a1 : Int) (a2 : List Int) (a3 : List Bool) (a4 : Bool) : BegEq Pg C Q Tryz.f87 0 id st v o (S a0 a1 a2 a3 a4) (begin a0 a1 a2 a3 a4) := fun J K => by kernel_rfl
def told (a0 : List Int) (a1 : Int) (a2 : List Int) (a3 : List Bool) (a4 : Bool) : YtobfemcobakeoaaGreatEv.Told A := ⟨f a0 a1 a2 a3 a4, fun r => SoundCall Pg C 87 (S a0 a1 a2 a3 a4) 0 (v r) (o r), fun r h => soundCall_of_tree G mixed Q Tryz.func87 rfl (of_decide_eq_true (by kernel_rfl)) (by rfl) id st v o (fun _ => rfl) tree e (begin a0 a1 a2 a3 a4) (b a0 a1 a2 a3 a4) h⟩
end spec_SendRound
/-! #### loop.example/g00983/spec.Uplink (27) -/
namespace spec_Uplink
def S (a0 : List S166) (a1 a2 : List Int) (a3 a4 a5 a6 a7 a8 a9 a10 : Int) (a11 : List Int) (a12 : Int) (a13 : List Bool) (a14 : Bool) : List (PV U) := YtobfemcobakeoaaGreatEv.start C 27 [.agg [.sl 167 a0, .sl 3 a1, .sl 3 a2, .int .i64 a3, .int .i64 a4, .int .i64 a5, .int .i64 a6, .int .i64 a7, .int .i64 a8, .int .i64 a9, .int .i64 a10, .sl 3 a11, .int .i64 a12], .sl 4 a13, .bool a14] []
abbrev X := Empty
def id : X → Nat := fun _ => 0
def st : X → List (PV U) := fun _ => []
def begin (a0 : List S166) (a1 a2 : List Int) (a3 a4 a5 a6 a7 a8 a9 a10 : Int) (a11 : List Int) (a12 : Int) (a13 : List Bool) (a14 : Bool) : Tr X A :=
 .call (spec_l37Copy.told a0 a1 a2 a3 a4 a5 a6 a7 a8 a9 a10 a11 a12) fun t1 => .call (spec_NodeOk.told a0 a1 a2 a3 a4 a5 a6 a7 a8 a9 a10 a11 a12) fun t2 => .ite (!t2)
  (.ret (t1.1, t1.2.1, t1.2.2.1, t1.2.2.2.1, t1.2.2.2.2.1, t1.2.2.2.2.2.1, t1.2.2.2.2.2.2.1, t1.2.2.2.2.2.2.2.1, t1.2.2.2.2.2.2.2.2.1, t1.2.2.2.2.2.2.2.2.2.1, t1.2.2.2.2.2.2.2.2.2.2.1, t1.2.2.2.2.2.2.2.2.2.2.2.1, t1.2.2.2.2.2.2.2.2.2.2.2.2, false))
  (.call (spec_SendRound.told a1 a10 a11 a13 a14) fun t3 => .ret (t1.1, t1.2.1, t1.2.2.1, t1.2.2.2.1, t1.2.2.2.2.1, t1.2.2.2.2.2.1, t1.2.2.2.2.2.2.1, t1.2.2.2.2.2.2.2.1, t1.2.2.2.2.2.2.2.2.1, t1.2.2.2.2.2.2.2.2.2.1, t3.1, t3.2.1, t1.2.2.2.2.2.2.2.2.2.2.2.2, true))
def tree : X → Tr X A := fun _ => .fail
def f (a0 : List S166) (a1 a2 : List Int) (a3 a4 a5 a6 a7 a8 a9 a10 : Int) (a11 : List Int) (a12 : Int) (a13 : List Bool) (a14 : Bool) : Option A := (begin a0 a1 a2 a3 a4 a5 a6 a7 a8 a9 a10 a11 a12 a13 a14).run (lp tree)
def Q : Plan C := { PL with cuts := [], ords := [], weak := [] }
theorem e : CutEq Pg C Q Tryz.f27 0 id st v o tree := fun J K x => by cases x
theorem b (a0 : List S166) (a1 a2 : List Int) (a3 a4 a5 a6 a7 a8 a9 a10 : Int) (a11 : List Int) (a12 : Int) (a13 : List Bool) (a14 : Bool) : BegEq Pg C Q Tryz.f27 0 id st v o (S a0 a1 a2 a3 a4 a5 a6 a7 a8 a9 a10 a11 a12 a13 a14) (begin a0 a1 a2 a3 a4 a5 a6 a7 a8 a9 a10 a11 a12 a13 a14) := fun J K => by kernel_rfl
def told (a0 : List S166) (a1 a2 : List Int) (a3 a4 a5 a6 a7 a8 a9 a10 : Int) (a11 : List Int) (a12 : Int) (a13 : List Bool) (a14 : Bool) : YtobfemcobakeoaaGreatEv.Told A := ⟨f a0 a1 a2 a3 a4 a5 a6 a7 a8 a9 a10 a11 a12 a13 a14, fun r => SoundCall Pg C 27 (S a0 a1 a2 a3 a4 a5 a6 a7 a8 a9 a10 a11 a12 a13 a14) 0 (v r) (o r), fun r h => soundCall_of_tree G mixed Q Tryz.func27 rfl (of_decide_eq_true (by kernel_rfl)) (by rfl) id st v o (fun _ => rfl) tree e (begin a0 a1 a2 a3 a4 a5 a6 a7 a8 a9 a10 a11 a12 a13 a14) (b a0 a1 a2 a3 a4 a5 a6 a7 a8 a9 a10 a11 a12 a13 a14) h⟩
end spec_Uplink
/-! #### slices.Clone[[]loop.example/g00983/impl.Stmt,loop.example/g00983/impl.Stmt] (219) -/
namespace slices_Clone_impl_Stmt
def S (a0 : List S210) : List (PV U) := YtobfemcobakeoaaGreatEv.start C 8 [.sl 211 a0] []
abbrev X := Empty
def id : X → Nat := fun _ => 0
def st : X → List (PV U) := fun _ => []
def begin (a0 : List S210) : Tr X A :=
 .nilq a0
  (.ret (([] : List S210)))
  (.need (((List.length ([] : List S210) : Int) + (List.length a0 : Int)) * (48 : Nat) ≤ room) (.ret ((([] : List S210) ++ a0))))
def tree : X → Tr X A := fun _ => .fail
def f (a0 : List S210) : Option A := (begin a0).run (lp tree)
def Q : Plan C := { PL with cuts := [], ords := [], weak := [] }
theorem e : CutEq Pg C Q Tryz.f219 0 id st v o tree := fun J K x => by cases x
theorem b (a0 : List S210) : BegEq Pg C Q Tryz.f219 0 id st v o (S a0) (begin a0) := fun J K => by kernel_rfl
def told (a0 : List S210) : YtobfemcobakeoaaGreatEv.Told A := ⟨f a0, fun r => SoundCall Pg C 219 (S a0) 0 (v r) (o r), fun r h => soundCall_of_tree G mixed Q Tryz.func219 rfl (of_decide_eq_true (by kernel_rfl)) (by rfl) id st v o (fun _ => rfl) tree e (begin a0) (b a0) h⟩
end slices_Clone_impl_Stmt
/-! #### loop.example/g00983/impl.copyTask (181) -/
namespace impl_copyTask
def S (a0 : List S210) (a1 a2 a3 : Int) : List (PV U) := YtobfemcobakeoaaGreatEv.start C 8 [.agg [.sl 211 a0, .int .i64 a1, .int .i64 a2, .int .i64 a3]] []
abbrev X := Empty
def id : X → Nat := fun _ => 0
def st : X → List (PV U) := fun _ => []
def begin (a0 : List S210) (a1 a2 a3 : Int) : Tr X A :=
 .call (slices_Clone_impl_Stmt.told a0) fun t1 => .ret (t1, a1, a2, a3)
def tree : X → Tr X A := fun _ => .fail
def f (a0 : List S210) (a1 a2 a3 : Int) : Option A := (begin a0 a1 a2 a3).run (lp tree)
def Q : Plan C := { PL with cuts := [], ords := [], weak := [] }
theorem e : CutEq Pg C Q Tryz.f181 0 id st v o tree := fun J K x => by cases x
theorem b (a0 : List S210) (a1 a2 a3 : Int) : BegEq Pg C Q Tryz.f181 0 id st v o (S a0 a1 a2 a3) (begin a0 a1 a2 a3) := fun J K => by kernel_rfl
def told (a0 : List S210) (a1 a2 a3 : Int) : YtobfemcobakeoaaGreatEv.Told A := ⟨f a0 a1 a2 a3, fun r => SoundCall Pg C 181 (S a0 a1 a2 a3) 0 (v r) (o r), fun r h => soundCall_of_tree G mixed Q Tryz.func181 rfl (of_decide_eq_true (by kernel_rfl)) (by rfl) id st v o (fun _ => rfl) tree e (begin a0 a1 a2 a3) (b a0 a1 a2 a3) h⟩
end impl_copyTask
/-! #### loop.example/g00983/impl.copyProgram (117) -/
namespace impl_copyProgram
def S (a0 : List S166) : List (PV U) := YtobfemcobakeoaaGreatEv.start C 23 [.agg [.sl 167 a0]] []
inductive X where
 | c3 (x0 x1 x2 : List S166) (x3 x4 : Int)
def id : X → Nat
 | .c3 .. => 3
def st : X → List (PV U)
 | .c3 x0 x1 x2 x3 x4 => stOf 23 [(2, .box [.own true 167 x0]), (3, .box [.own true 167 x1]), (8, .sl 167 x2), (9, .int .i64 x3), (10, .int .i64 x4)]
def begin (a0 : List S166) : Tr X A :=
 .jump (.c3 ([] : List S166) ([] : List S166) a0 (List.length a0 : Int) (0 : Int))
def tree : X → Tr X A
 | .c3 x0 x1 x2 x3 x4 =>
 .ite (decide (x4 < x3))
  (.need ((0 : Int) ≤ x4 ∧ x4 < (List.length x2 : Int)) (.both (.last (.call (impl_copyTask.told ((rdS166 x2 x4).f0) ((rdS166 x2 x4).f1.f0) ((rdS166 x2 x4).f1.f1) ((rdS166 x2 x4).f1.f2)) fun t1 => .last (.last (.need (((List.length x1 : Int) + (List.length ([(⟨t1.1, (⟨t1.2.1, t1.2.2.1, t1.2.2.2⟩ : S153)⟩ : S166)]) : Int)) * (48 : Nat) ≤ room) (.last (.jump (.c3 x0 (x1 ++ [(⟨t1.1, (⟨t1.2.1, t1.2.2.1, t1.2.2.2⟩ : S153)⟩ : S166)]) x2 x3 (wr (x4 + (1 : Int))))))))))
   (.last (.call (impl_copyTask.told ((rdS166 x2 x4).f0) ((rdS166 x2 x4).f1.f0) ((rdS166 x2 x4).f1.f1) ((rdS166 x2 x4).f1.f2)) fun t2 => .both (.last (.last (.need (((List.length x1 : Int) + (List.length ([(⟨t2.1, (⟨t2.2.1, t2.2.2.1, t2.2.2.2⟩ : S153)⟩ : S166)]) : Int)) * (48 : Nat) ≤ room) (.last (.jump (.c3 x0 (x1 ++ [(⟨t2.1, (⟨t2.2.1, t2.2.2.1, t2.2.2.2⟩ : S153)⟩ : S166)]) x2 x3 (wr (x4 + (1 : Int)))))))))
    (.last (.last (.need (((List.length x1 : Int) + (List.length ([(⟨t2.1, (⟨t2.2.1, t2.2.2.1, t2.2.2.2⟩ : S153)⟩ : S166)]) : Int)) * (48 : Nat) ≤ room) (.last (.jump (.c3 x0 (x1 ++ [(⟨t2.1, (⟨t2.2.1, t2.2.2.1, t2.2.2.2⟩ : S153)⟩ : S166)]) x2 x3 (wr (x4 + (1 : Int)))))))))))))
  (.ret x1)
def f (a0 : List S166) : Option A := (begin a0).run (lp tree)
def Q : Plan C := { PL with cuts := [(3, [2, 3, 8, 9, 10])], ords := [(5, [4, 5, 7], (.take 0 [] (.take 2 [0, 1] (.alt 1 (.alt 3 (.alt 4 (.alt 5 (.take 6 [] (.alt 7 .done .nil)) .nil) .nil) .nil) (.alt 3 (.alt 1 (.alt 4 (.alt 5 (.take 6 [] (.alt 7 .done .nil)) .nil) .nil) (.alt 4 (.take 1 [0, 2, 3, 4] (.alt 5 (.take 6 [] (.alt 7 .done .nil)) .nil)) .nil)) .nil)))))], weak := [] }
theorem e : CutEq Pg C Q Tryz.f117 0 id st v o tree := fun J K x => by cases x <;> kernel_rfl
theorem b (a0 : List S166) : BegEq Pg C Q Tryz.f117 0 id st v o (S a0) (begin a0) := fun J K => by kernel_rfl
def told (a0 : List S166) : YtobfemcobakeoaaGreatEv.Told A := ⟨f a0, fun r => SoundCall Pg C 117 (S a0) 0 (v r) (o r), fun r h => soundCall_of_tree G mixed Q Tryz.func117 rfl (of_decide_eq_true (by kernel_rfl)) (by rfl) id st v o (fun _ => rfl) tree e (begin a0) (b a0) h⟩
end impl_copyProgram
/-! #### slices.Clone[[]int,int] (112) -/
namespace slices_Clone_int
def S (a0 : List Int) : List (PV U) := YtobfemcobakeoaaGreatEv.start C 8 [.sl 3 a0] []
abbrev X := Empty
def id : X → Nat := fun _ => 0
def st : X → List (PV U) := fun _ => []
def begin (a0 : List Int) : Tr X A :=
 .nilq a0
  (.ret (([] : List Int)))
  (.need (((List.length ([] : List Int) : Int) + (List.length a0 : Int)) * (8 : Nat) ≤ room) (.ret ((([] : List Int) ++ a0))))
def tree : X → Tr X A := fun _ => .fail
def f (a0 : List Int) : Option A := (begin a0).run (lp tree)
def Q : Plan C := { PL with cuts := [], ords := [], weak := [] }
theorem e : CutEq Pg C Q Tryz.f112 0 id st v o tree := fun J K x => by cases x
theorem b (a0 : List Int) : BegEq Pg C Q Tryz.f112 0 id st v o (S a0) (begin a0) := fun J K => by kernel_rfl
def told (a0 : List Int) : YtobfemcobakeoaaGreatEv.Told A := ⟨f a0, fun r => SoundCall Pg C 112 (S a0) 0 (v r) (o r), fun r h => soundCall_of_tree G mixed Q Tryz.func112 rfl (of_decide_eq_true (by kernel_rfl)) (by rfl) id st v o (fun _ => rfl) tree e (begin a0) (b a0) h⟩
end slices_Clone_int
/-! #### loop.example/g00983/impl.copyLink (163) -/
namespace impl_copyLink
def S (a0 : Int) (a1 : List Int) : List (PV U) := YtobfemcobakeoaaGreatEv.start C 11 [.agg [.int .i64 a0, .sl 3 a1]] []
abbrev X := Empty
def id : X → Nat := fun _ => 0
def st : X → List (PV U) := fun _ => []
def begin (a0 : Int) (a1 : List Int) : Tr X A :=
 .both (.last (.call (slices_Clone_int.told a1) fun t1 => .last (.last (.last (.ret (a0, t1))))))
  (.last (.call (slices_Clone_int.told a1) fun t2 => .both (.last (.last (.last (.ret (a0, t2)))))
   (.last (.last (.last (.ret (a0, t2)))))))
def tree : X → Tr X A := fun _ => .fail
def f (a0 : Int) (a1 : List Int) : Option A := (begin a0 a1).run (lp tree)
def Q : Plan C := { PL with cuts := [], ords := [(1, [6, 7, 8], (.take 0 [] (.take 2 [] (.take 3 [] (.take 4 [0, 1, 2, 3] (.alt 1 (.alt 5 (.alt 6 (.alt 7 (.alt 8 .done .nil) .nil) .nil) .nil) (.alt 5 (.alt 1 (.alt 6 (.alt 7 (.alt 8 .done .nil) .nil) .nil) (.alt 6 (.take 1 [0, 2, 3, 4, 5, 6] (.alt 7 (.alt 8 .done .nil) .nil)) .nil)) .nil)))))))], weak := [] }
theorem e : CutEq Pg C Q Tryz.f163 0 id st v o tree := fun J K x => by cases x
theorem b (a0 : Int) (a1 : List Int) : BegEq Pg C Q Tryz.f163 0 id st v o (S a0 a1) (begin a0 a1) := fun J K => by kernel_rfl
def told (a0 : Int) (a1 : List Int) : YtobfemcobakeoaaGreatEv.Told A := ⟨f a0 a1, fun r => SoundCall Pg C 163 (S a0 a1) 0 (v r) (o r), fun r h => soundCall_of_tree G mixed Q Tryz.func163 rfl (of_decide_eq_true (by kernel_rfl)) (by rfl) id st v o (fun _ => rfl) tree e (begin a0 a1) (b a0 a1) h⟩
end impl_copyLink
/-! #### loop.example/g00983/impl.copyNode (91) -/
namespace impl_copyNode
def S (a0 : List S166) (a1 a2 : List Int) (a3 a4 a5 a6 a7 a8 a9 a10 : Int) (a11 : List Int) (a12 : Int) : List (PV U) := YtobfemcobakeoaaGreatEv.start C 20 [.agg [.sl 167 a0, .sl 3 a1, .sl 3 a2, .int .i64 a3, .int .i64 a4, .int .i64 a5, .int .i64 a6, .int .i64 a7, .int .i64 a8, .int .i64 a9, .int .i64 a10, .sl 3 a11, .int .i64 a12]] []
abbrev X := Empty
def id : X → Nat := fun _ => 0
def st : X → List (PV U) := fun _ => []
def begin (a0 : List S166) (a1 a2 : List Int) (a3 a4 a5 a6 a7 a8 a9 a10 : Int) (a11 : List Int) (a12 : Int) : Tr X A :=
 .last (.call (impl_copyProgram.told a0) fun t1 => .last (.call (slices_Clone_int.told a1) fun t2 => .last (.call (slices_Clone_int.told a2) fun t3 => .last (.call (impl_copyLink.told a10 a11) fun t4 => .last (.last (.last (.last (.ret (t1, t2, t3, a3, a4, a5, a6, a7, a8, a9, t4.1, t4.2, a12)))))))))
def tree : X → Tr X A := fun _ => .fail
def f (a0 : List S166) (a1 a2 : List Int) (a3 a4 a5 a6 a7 a8 a9 a10 : Int) (a11 : List Int) (a12 : Int) : Option A := (begin a0 a1 a2 a3 a4 a5 a6 a7 a8 a9 a10 a11 a12).run (lp tree)
def Q : Plan C := { PL with cuts := [], ords := [(1, [13, 15, 17, 19], (.take 0 [] (.take 3 [] (.take 6 [] (.take 9 [] (.take 1 [0, 3, 4, 6, 7, 9, 10] (.take 4 [0, 1, 2, 3, 6, 7, 9, 10] (.take 7 [0, 1, 2, 3, 4, 5, 6, 9, 10] (.take 10 [0, 1, 2, 3, 4, 5, 6, 7, 8, 9] (.alt 2 (.take 12 [] (.alt 5 (.alt 8 (.alt 11 (.alt 13 (.take 14 [] (.alt 15 (.take 16 [] (.alt 17 (.take 18 [] (.alt 19 .done .nil)) .nil)) .nil)) .nil) .nil) .nil) .nil)) .nil))))))))))], weak := [] }
theorem e : CutEq Pg C Q Tryz.f91 0 id st v o tree := fun J K x => by cases x
theorem b (a0 : List S166) (a1 a2 : List Int) (a3 a4 a5 a6 a7 a8 a9 a10 : Int) (a11 : List Int) (a12 : Int) : BegEq Pg C Q Tryz.f91 0 id st v o (S a0 a1 a2 a3 a4 a5 a6 a7 a8 a9 a10 a11 a12) (begin a0 a1 a2 a3 a4 a5 a6 a7 a8 a9 a10 a11 a12) := fun J K => by kernel_rfl
def told (a0 : List S166) (a1 a2 : List Int) (a3 a4 a5 a6 a7 a8 a9 a10 : Int) (a11 : List Int) (a12 : Int) : YtobfemcobakeoaaGreatEv.Told A := ⟨f a0 a1 a2 a3 a4 a5 a6 a7 a8 a9 a10 a11 a12, fun r => SoundCall Pg C 91 (S a0 a1 a2 a3 a4 a5 a6 a7 a8 a9 a10 a11 a12) 0 (v r) (o r), fun r h => soundCall_of_tree G mixed Q Tryz.func91 rfl (of_decide_eq_true (by kernel_rfl)) (by rfl) id st v o (fun _ => rfl) tree e (begin a0 a1 a2 a3 a4 a5 a6 a7 a8 a9 a10 a11 a12) (b a0 a1 a2 a3 a4 a5 a6 a7 a8 a9 a10 a11 a12) h⟩
end impl_copyNode
/-! #### loop.example/g00983/impl.within (105) -/
namespace impl_within
def S (a0 a1 a2 : Int) : List (PV U) := YtobfemcobakeoaaGreatEv.start C 15 [.int .i64 a0, .int .i64 a1, .int .i64 a2] []
abbrev X := Empty
def id : X → Nat := fun _ => 0
def st : X → List (PV U) := fun _ => []
def begin (a0 a1 a2 : Int) : Tr X A :=
 .ite (decide (a0 ≥ a1))
  (.ret ((decide (a0 ≤ a2))))
  (.ret false)
def tree : X → Tr X A := fun _ => .fail
def f (a0 a1 a2 : Int) : Option A := (begin a0 a1 a2).run (lp tree)
def Q : Plan C := { PL with cuts := [], ords := [], weak := [] }
theorem e : CutEq Pg C Q Tryz.f105 0 id st v o tree := fun J K x => by cases x
theorem b (a0 a1 a2 : Int) : BegEq Pg C Q Tryz.f105 0 id st v o (S a0 a1 a2) (begin a0 a1 a2) := fun J K => by kernel_rfl
def told (a0 a1 a2 : Int) : YtobfemcobakeoaaGreatEv.Told A := ⟨f a0 a1 a2, fun r => SoundCall Pg C 105 (S a0 a1 a2) 0 (v r) (o r), fun r h => soundCall_of_tree G mixed Q Tryz.func105 rfl (of_decide_eq_true (by kernel_rfl)) (by rfl) id st v o (fun _ => rfl) tree e (begin a0 a1 a2) (b a0 a1 a2) h⟩
end impl_within
/-! #### loop.example/g00983/impl.hasVar (255) -/
namespace impl_hasVar
def S (a0 : Int) : List (PV U) := YtobfemcobakeoaaGreatEv.start C 9 [.int .i64 a0] []
abbrev X := Empty
def id : X → Nat := fun _ => 0
def st : X → List (PV U) := fun _ => []
def begin (a0 : Int) : Tr X A :=
 .ite (decide (a0 = (1 : Int)))
  (.ret true)
  (.ret ((decide (a0 = (2 : Int)))))
def tree : X → Tr X A := fun _ => .fail
def f (a0 : Int) : Option A := (begin a0).run (lp tree)
def Q : Plan C := { PL with cuts := [], ords := [], weak := [] }
theorem e : CutEq Pg C Q Tryz.f255 0 id st v o tree := fun J K x => by cases x
theorem b (a0 : Int) : BegEq Pg C Q Tryz.f255 0 id st v o (S a0) (begin a0) := fun J K => by kernel_rfl
def told (a0 : Int) : YtobfemcobakeoaaGreatEv.Told A := ⟨f a0, fun r => SoundCall Pg C 255 (S a0) 0 (v r) (o r), fun r h => soundCall_of_tree G mixed Q Tryz.func255 rfl (of_decide_eq_true (by kernel_rfl)) (by rfl) id st v o (fun _ => rfl) tree e (begin a0) (b a0) h⟩
end impl_hasVar
/-! #### loop.example/g00983/impl.isVar (109) -/
namespace impl_isVar
def S (a0 : Int) : List (PV U) := YtobfemcobakeoaaGreatEv.start C 5 [.int .i64 a0] []
abbrev X := Empty
def id : X → Nat := fun _ => 0
def st : X → List (PV U) := fun _ => []
def begin (a0 : Int) : Tr X A :=
 .call (impl_within.told a0 (0 : Int) (7 : Int)) fun t1 => .ret t1
def tree : X → Tr X A := fun _ => .fail
def f (a0 : Int) : Option A := (begin a0).run (lp tree)
def Q : Plan C := { PL with cuts := [], ords := [], weak := [] }
theorem e : CutEq Pg C Q Tryz.f109 0 id st v o tree := fun J K x => by cases x
theorem b (a0 : Int) : BegEq Pg C Q Tryz.f109 0 id st v o (S a0) (begin a0) := fun J K => by kernel_rfl
def told (a0 : Int) : YtobfemcobakeoaaGreatEv.Told A := ⟨f a0, fun r => SoundCall Pg C 109 (S a0) 0 (v r) (o r), fun r h => soundCall_of_tree G mixed Q Tryz.func109 rfl (of_decide_eq_true (by kernel_rfl)) (by rfl) id st v o (fun _ => rfl) tree e (begin a0) (b a0) h⟩
end impl_isVar
/-! #### loop.example/g00983/impl.hasExpr (256) -/
namespace impl_hasExpr
def S (a0 : Int) : List (PV U) := YtobfemcobakeoaaGreatEv.start C 13 [.int .i64 a0] []
abbrev X := Empty
def id : X → Nat := fun _ => 0
def st : X → List (PV U) := fun _ => []
def begin (a0 : Int) : Tr X A :=
 .ite (decide (a0 = (1 : Int)))
  (.ret true)
  (.ite (decide (a0 = (3 : Int)))
   (.ret true)
   (.ret ((decide (a0 = (4 : Int))))))
def tree : X → Tr X A := fun _ => .fail
def f (a0 : Int) : Option A := (begin a0).run (lp tree)
def Q : Plan C := { PL with cuts := [], ords := [], weak := [] }
theorem e : CutEq Pg C Q Tryz.f256 0 id st v o tree := fun J K x => by cases x
theorem b (a0 : Int) : BegEq Pg C Q Tryz.f256 0 id st v o (S a0) (begin a0) := fun J K => by kernel_rfl
def told (a0 : Int) : YtobfemcobakeoaaGreatEv.Told A := ⟨f a0, fun r => SoundCall Pg C 256 (S a0) 0 (v r) (o r), fun r h => soundCall_of_tree G mixed Q Tryz.func256 rfl (of_decide_eq_true (by kernel_rfl)) (by rfl) id st v o (fun _ => rfl) tree e (begin a0) (b a0) h⟩
end impl_hasExpr
/-! #### loop.example/g00983/impl.OperandOk (205) -/
namespace impl_OperandOk
def S (a0 : Int) : List (PV U) := YtobfemcobakeoaaGreatEv.start C 5 [.int .i64 a0] []
abbrev X := Empty
def id : X → Nat := fun _ => 0
def st : X → List (PV U) := fun _ => []
def begin (a0 : Int) : Tr X A :=
 .call (impl_within.told a0 (-8 : Int) (999 : Int)) fun t1 => .ret t1
def tree : X → Tr X A := fun _ => .fail
def f (a0 : Int) : Option A := (begin a0).run (lp tree)
def Q : Plan C := { PL with cuts := [], ords := [], weak := [] }
theorem e : CutEq Pg C Q Tryz.f205 0 id st v o tree := fun J K x => by cases x
theorem b (a0 : Int) : BegEq Pg C Q Tryz.f205 0 id st v o (S a0) (begin a0) := fun J K => by kernel_rfl
def told (a0 : Int) : YtobfemcobakeoaaGreatEv.Told A := ⟨f a0, fun r => SoundCall Pg C 205 (S a0) 0 (v r) (o r), fun r h => soundCall_of_tree G mixed Q Tryz.func205 rfl (of_decide_eq_true (by kernel_rfl)) (by rfl) id st v o (fun _ => rfl) tree e (begin a0) (b a0) h⟩
end impl_OperandOk
/-! #### loop.example/g00983/impl.ExprOk (150) -/
namespace impl_ExprOk
def S (a0 a1 a2 : Int) : List (PV U) := YtobfemcobakeoaaGreatEv.start C 16 [.agg [.int .i64 a0, .int .i64 a1, .int .i64 a2]] []
abbrev X := Empty
def id : X → Nat := fun _ => 0
def st : X → List (PV U) := fun _ => []
def begin (a0 a1 a2 : Int) : Tr X A :=
 .call (impl_within.told a0 (1 : Int) (7 : Int)) fun t1 => .ite t1
  (.call (impl_OperandOk.told a1) fun t2 => .ite t2
   (.call (impl_OperandOk.told a2) fun t3 => .ret t3)
   (.ret false))
  (.ret false)
def tree : X → Tr X A := fun _ => .fail
def f (a0 a1 a2 : Int) : Option A := (begin a0 a1 a2).run (lp tree)
def Q : Plan C := { PL with cuts := [], ords := [], weak := [] }
theorem e : CutEq Pg C Q Tryz.f150 0 id st v o tree := fun J K x => by cases x
theorem b (a0 a1 a2 : Int) : BegEq Pg C Q Tryz.f150 0 id st v o (S a0 a1 a2) (begin a0 a1 a2) := fun J K => by kernel_rfl
def told (a0 a1 a2 : Int) : YtobfemcobakeoaaGreatEv.Told A := ⟨f a0 a1 a2, fun r => SoundCall Pg C 150 (S a0 a1 a2) 0 (v r) (o r), fun r h => soundCall_of_tree G mixed Q Tryz.func150 rfl (of_decide_eq_true (by kernel_rfl)) (by rfl) id st v o (fun _ => rfl) tree e (begin a0 a1 a2) (b a0 a1 a2) h⟩
end impl_ExprOk
/-! #### loop.example/g00983/impl.isSensor (253) -/
namespace impl_isSensor
def S (a0 : Int) : List (PV U) := YtobfemcobakeoaaGreatEv.start C 5 [.int .i64 a0] []
abbrev X := Empty
def id : X → Nat := fun _ => 0
def st : X → List (PV U) := fun _ => []
def begin (a0 : Int) : Tr X A :=
 .call (impl_within.told a0 (0 : Int) (3 : Int)) fun t1 => .ret t1
def tree : X → Tr X A := fun _ => .fail
def f (a0 : Int) : Option A := (begin a0).run (lp tree)
def Q : Plan C := { PL with cuts := [], ords := [], weak := [] }
theorem e : CutEq Pg C Q Tryz.f253 0 id st v o tree := fun J K x => by cases x
theorem b (a0 : Int) : BegEq Pg C Q Tryz.f253 0 id st v o (S a0) (begin a0) := fun J K => by kernel_rfl
def told (a0 : Int) : YtobfemcobakeoaaGreatEv.Told A := ⟨f a0, fun r => SoundCall Pg C 253 (S a0) 0 (v r) (o r), fun r h => soundCall_of_tree G mixed Q Tryz.func253 rfl (of_decide_eq_true (by kernel_rfl)) (by rfl) id st v o (fun _ => rfl) tree e (begin a0) (b a0) h⟩
end impl_isSensor
/-! #### loop.example/g00983/impl.StmtOk (241) -/
namespace impl_StmtOk
def S (a0 a1 a2 a3 a4 a5 : Int) : List (PV U) := YtobfemcobakeoaaGreatEv.start C 65 [.agg [.int .i64 a0, .int .i64 a1, .int .i64 a2, .int .i64 a3, .int .i64 a4, .int .i64 a5]] []
inductive X where
 | c3 (x0 x1 x2 x3 x4 x5 : Int)
 | c5 (x0 x1 x2 x3 x4 x5 : Int)
def id : X → Nat
 | .c3 .. => 3
 | .c5 .. => 5
def st : X → List (PV U)
 | .c3 x0 x1 x2 x3 x4 x5 => stOf 65 [(1, .box [.int .i64 x0, .int .i64 x1, .int .i64 x2, .int .i64 x3, .int .i64 x4, .int .i64 x5])]
 | .c5 x0 x1 x2 x3 x4 x5 => stOf 65 [(1, .box [.int .i64 x0, .int .i64 x1, .int .i64 x2, .int .i64 x3, .int .i64 x4, .int .i64 x5])]
def begin (a0 a1 a2 a3 a4 a5 : Int) : Tr X A :=
 .call (impl_within.told a0 (1 : Int) (6 : Int)) fun t1 => .ite (!t1)
  (.ret false)
  (.call (impl_hasVar.told a0) fun t2 => .ite t2
   (.call (impl_isVar.told a1) fun t3 => .ite (!t3)
    (.ret false)
    (.call (impl_hasVar.told a0) fun t4 => .ite (!t4)
     (.ite (!decide (a1 = (0 : Int)))
      (.ret false)
      (.jump (.c3 a0 a1 a2 a3 a4 a5)))
     (.jump (.c3 a0 a1 a2 a3 a4 a5))))
   (.call (impl_hasVar.told a0) fun t5 => .ite (!t5)
    (.ite (!decide (a1 = (0 : Int)))
     (.ret false)
     (.jump (.c3 a0 a1 a2 a3 a4 a5)))
    (.jump (.c3 a0 a1 a2 a3 a4 a5))))
def tree : X → Tr X A
 | .c3 x0 x1 x2 x3 x4 x5 =>
 .call (impl_hasExpr.told x0) fun t6 => .ite t6
  (.call (impl_ExprOk.told x3 x4 x5) fun t7 => .ite (!t7)
   (.ret false)
   (.call (impl_hasExpr.told x0) fun t8 => .ite (!t8)
    (.val ((!(decide (x3 = (0 : Int)) && (decide (x4 = (0 : Int)) && (decide (x5 = (0 : Int)) && true)))) : Bool) fun v9 => .ite v9
     (.ret false)
     (.jump (.c5 x0 x1 x2 x3 x4 x5)))
    (.jump (.c5 x0 x1 x2 x3 x4 x5))))
  (.call (impl_hasExpr.told x0) fun t10 => .ite (!t10)
   (.val ((!(decide (x3 = (0 : Int)) && (decide (x4 = (0 : Int)) && (decide (x5 = (0 : Int)) && true)))) : Bool) fun v11 => .ite v11
    (.ret false)
    (.jump (.c5 x0 x1 x2 x3 x4 x5)))
   (.jump (.c5 x0 x1 x2 x3 x4 x5)))
 | .c5 x0 x1 x2 x3 x4 x5 =>
 .ite (decide (x0 = (2 : Int)))
  (.call (impl_isSensor.told x2) fun t12 => .ret t12)
  (.ite (decide (x0 = (5 : Int)))
   (.call (impl_within.told x2 (1 : Int) (5 : Int)) fun t13 => .ret t13)
   (.ret ((decide (x2 = (0 : Int))))))
def f (a0 a1 a2 a3 a4 a5 : Int) : Option A := (begin a0 a1 a2 a3 a4 a5).run (lp tree)
def Q : Plan C := { PL with cuts := [(3, [1, 33, 34, 35, 36, 39, 40, 41, 42, 43, 44, 45, 46, 47, 48]), (5, [1])], ords := [], weak := [] }
theorem e : CutEq Pg C Q Tryz.f241 0 id st v o tree := fun J K x => by cases x <;> kernel_rfl
theorem b (a0 a1 a2 a3 a4 a5 : Int) : BegEq Pg C Q Tryz.f241 0 id st v o (S a0 a1 a2 a3 a4 a5) (begin a0 a1 a2 a3 a4 a5) := fun J K => by kernel_rfl
def told (a0 a1 a2 a3 a4 a5 : Int) : YtobfemcobakeoaaGreatEv.Told A := ⟨f a0 a1 a2 a3 a4 a5, fun r => SoundCall Pg C 241 (S a0 a1 a2 a3 a4 a5) 0 (v r) (o r), fun r h => soundCall_of_tree G mixed Q Tryz.func241 rfl (of_decide_eq_true (by kernel_rfl)) (by rfl) id st v o (fun _ => rfl) tree e (begin a0 a1 a2 a3 a4 a5) (b a0 a1 a2 a3 a4 a5) h⟩
end impl_StmtOk
/-! #### loop.example/g00983/impl.isOpening (242) -/
namespace impl_isOpening
def S (a0 : Int) : List (PV U) := YtobfemcobakeoaaGreatEv.start C 9 [.int .i64 a0] []
abbrev X := Empty
def id : X → Nat := fun _ => 0
def st : X → List (PV U) := fun _ => []
def begin (a0 : Int) : Tr X A :=
 .ite (decide (a0 = (4 : Int)))
  (.ret true)
  (.ret ((decide (a0 = (5 : Int)))))
def tree : X → Tr X A := fun _ => .fail
def f (a0 : Int) : Option A := (begin a0).run (lp tree)
def Q : Plan C := { PL with cuts := [], ords := [], weak := [] }
theorem e : CutEq Pg C Q Tryz.f242 0 id st v o tree := fun J K x => by cases x
theorem b (a0 : Int) : BegEq Pg C Q Tryz.f242 0 id st v o (S a0) (begin a0) := fun J K => by kernel_rfl
def told (a0 : Int) : YtobfemcobakeoaaGreatEv.Told A := ⟨f a0, fun r => SoundCall Pg C 242 (S a0) 0 (v r) (o r), fun r h => soundCall_of_tree G mixed Q Tryz.func242 rfl (of_decide_eq_true (by kernel_rfl)) (by rfl) id st v o (fun _ => rfl) tree e (begin a0) (b a0) h⟩
end impl_isOpening
/-! #### loop.example/g00983/impl.BlockOk (218) -/
namespace impl_BlockOk
def S (a0 : List S210) : List (PV U) := YtobfemcobakeoaaGreatEv.start C 39 [.sl 211 a0] []
inductive X where
 | c3 (x0 : List S210) (x1 : Int) (x2 : List S210) (x3 x4 : Int)
 | c12
def id : X → Nat
 | .c3 .. => 3
 | .c12 .. => 12
def st : X → List (PV U)
 | .c3 x0 x1 x2 x3 x4 => stOf 39 [(0, .sl 211 x0), (3, .int .i64 x1), (6, .sl 211 x2), (7, .int .i64 x3), (8, .int .i64 x4)]
 | .c12 => stOf 39 []
def begin (a0 : List S210) : Tr X A :=
 .jump (.c3 a0 (0 : Int) a0 (List.length a0 : Int) (0 : Int))
def tree : X → Tr X A
 | .c3 x0 x1 x2 x3 x4 =>
 .ite (decide (x4 < x3))
  (.need ((0 : Int) ≤ x4 ∧ x4 < (List.length x2 : Int)) (.call (impl_StmtOk.told ((rdS210 x2 x4).f0) ((rdS210 x2 x4).f1) ((rdS210 x2 x4).f2) ((rdS210 x2 x4).f3.f0) ((rdS210 x2 x4).f3.f1) ((rdS210 x2 x4).f3.f2)) fun t1 => .ite (!t1)
   (.ret false)
   (.call (impl_isOpening.told ((rdS210 x2 x4).f0)) fun t2 => .ite t2
    (.ite (decide ((rdS210 x2 x4).f0 = (6 : Int)))
     (.ite (decide ((wr ((wr (x1 + (1 : Int))) - (1 : Int))) < (0 : Int)))
      (.jump (.c12))
      (.ite (decide ((wr ((wr (x1 + (1 : Int))) - (1 : Int))) > (3 : Int)))
       (.jump (.c12))
       (.jump (.c3 x0 (wr ((wr (x1 + (1 : Int))) - (1 : Int))) x2 x3 (wr (x4 + (1 : Int)))))))
     (.ite (decide ((wr (x1 + (1 : Int))) < (0 : Int)))
      (.jump (.c12))
      (.ite (decide ((wr (x1 + (1 : Int))) > (3 : Int)))
       (.jump (.c12))
       (.jump (.c3 x0 (wr (x1 + (1 : Int))) x2 x3 (wr (x4 + (1 : Int))))))))
    (.ite (decide ((rdS210 x2 x4).f0 = (6 : Int)))
     (.ite (decide ((wr (x1 - (1 : Int))) < (0 : Int)))
      (.jump (.c12))
      (.ite (decide ((wr (x1 - (1 : Int))) > (3 : Int)))
       (.jump (.c12))
       (.jump (.c3 x0 (wr (x1 - (1 : Int))) x2 x3 (wr (x4 + (1 : Int)))))))
     (.ite (decide (x1 < (0 : Int)))
      (.jump (.c12))
      (.ite (decide (x1 > (3 : Int)))
       (.jump (.c12))
       (.jump (.c3 x0 x1 x2 x3 (wr (x4 + (1 : Int)))))))))))
  (.ite (decide (x1 = (0 : Int)))
   (.ret ((decide ((List.length x0 : Int) ≤ (24 : Int)))))
   (.ret false))
 | .c12 =>
 .ret false
def f (a0 : List S210) : Option A := (begin a0).run (lp tree)
def Q : Plan C := { PL with cuts := [(3, [0, 3, 6, 7, 8, 35, 36, 37]), (12, [])], ords := [], weak := [] }
theorem e : CutEq Pg C Q Tryz.f218 0 id st v o tree := fun J K x => by cases x <;> kernel_rfl
theorem b (a0 : List S210) : BegEq Pg C Q Tryz.f218 0 id st v o (S a0) (begin a0) := fun J K => by kernel_rfl
def told (a0 : List S210) : YtobfemcobakeoaaGreatEv.Told A := ⟨f a0, fun r => SoundCall Pg C 218 (S a0) 0 (v r) (o r), fun r h => soundCall_of_tree G mixed Q Tryz.func218 rfl (of_decide_eq_true (by kernel_rfl)) (by rfl) id st v o (fun _ => rfl) tree e (begin a0) (b a0) h⟩
end impl_BlockOk
/-! #### loop.example/g00983/impl.taskOk (178) -/
namespace impl_taskOk
def S (a0 : List S210) (a1 a2 a3 : Int) : List (PV U) := YtobfemcobakeoaaGreatEv.start C 11 [.agg [.sl 211 a0, .int .i64 a1, .int .i64 a2, .int .i64 a3]] []
abbrev X := Empty
def id : X → Nat := fun _ => 0
def st : X → List (PV U) := fun _ => []
def begin (a0 : List S210) (a1 a2 a3 : Int) : Tr X A :=
 .call (impl_BlockOk.told a0) fun t1 => .ite t1
  (.call (impl_ExprOk.told a1 a2 a3) fun t2 => .ret t2)
  (.ret false)
def tree : X → Tr X A := fun _ => .fail
def f (a0 : List S210) (a1 a2 a3 : Int) : Option A := (begin a0 a1 a2 a3).run (lp tree)
def Q : Plan C := { PL with cuts := [], ords := [], weak := [] }
theorem e : CutEq Pg C Q Tryz.f178 0 id st v o tree := fun J K x => by cases x
theorem b (a0 : List S210) (a1 a2 a3 : Int) : BegEq Pg C Q Tryz.f178 0 id st v o (S a0 a1 a2 a3) (begin a0 a1 a2 a3) := fun J K => by kernel_rfl
def told (a0 : List S210) (a1 a2 a3 : Int) : YtobfemcobakeoaaGreatEv.Told A := ⟨f a0 a1 a2 a3, fun r => SoundCall Pg C 178 (S a0 a1 a2 a3) 0 (v r) (o r), fun r h => soundCall_of_tree G mixed Q Tryz.func178 rfl (of_decide_eq_true (by kernel_rfl)) (by rfl) id st v o (fun _ => rfl) tree e (begin a0 a1 a2 a3) (b a0 a1 a2 a3) h⟩
end impl_taskOk
/-! #### loop.example/g00983/impl.ProgramOk$1 (177) -/
namespace impl_ProgramOk_1
def S (a0 : List S210) (a1 a2 a3 : Int) : List (PV U) := YtobfemcobakeoaaGreatEv.start C 6 [.agg [.sl 211 a0, .int .i64 a1, .int .i64 a2, .int .i64 a3]] []
abbrev X := Empty
def id : X → Nat := fun _ => 0
def st : X → List (PV U) := fun _ => []
def begin (a0 : List S210) (a1 a2 a3 : Int) : Tr X A :=
 .call (impl_taskOk.told a0 a1 a2 a3) fun t1 => .ret ((!t1))
def tree : X → Tr X A := fun _ => .fail
def f (a0 : List S210) (a1 a2 a3 : Int) : Option A := (begin a0 a1 a2 a3).run (lp tree)
def Q : Plan C := { PL with cuts := [], ords := [], weak := [] }
theorem e : CutEq Pg C Q Tryz.f177 0 id st v o tree := fun J K x => by cases x
theorem b (a0 : List S210) (a1 a2 a3 : Int) : BegEq Pg C Q Tryz.f177 0 id st v o (S a0 a1 a2 a3) (begin a0 a1 a2 a3) := fun J K => by kernel_rfl
def told (a0 : List S210) (a1 a2 a3 : Int) : YtobfemcobakeoaaGreatEv.Told A := ⟨f a0 a1 a2 a3, fun r => SoundCall Pg C 177 (S a0 a1 a2 a3) 0 (v r) (o r), fun r h => soundCall_of_tree G mixed Q Tryz.func177 rfl (of_decide_eq_true (by kernel_rfl)) (by rfl) id st v o (fun _ => rfl) tree e (begin a0 a1 a2 a3) (b a0 a1 a2 a3) h⟩
end impl_ProgramOk_1
/-! #### slices.IndexFunc[[]loop.example/g00983/impl.Task,loop.example/g00983/impl.Task] (217) -/
namespace slices_IndexFunc_impl_Task_ProgramOk_1
def S (a0 : List S166) : List (PV U) := YtobfemcobakeoaaGreatEv.start C 19 [.sl 167 a0, .fn 177 []] []
inductive X where
 | c2 (x0 : List S166) (x1 x2 : Int)
def id : X → Nat
 | .c2 .. => 2
def st : X → List (PV U)
 | .c2 x0 x1 x2 => stOf 19 [(0, .sl 167 x0), (1, .fn 177 []), (7, .int .i64 x1), (8, .int .i64 x2)]
def begin (a0 : List S166) : Tr X A :=
 .jump (.c2 a0 (List.length a0 : Int) (0 : Int))
def tree : X → Tr X A
 | .c2 x0 x1 x2 =>
 .ite (decide (x2 < x1))
  (.need ((0 : Int) ≤ x2 ∧ x2 < (List.length x0 : Int)) (.call (impl_ProgramOk_1.told ((rdS166 x0 x2).f0) ((rdS166 x0 x2).f1.f0) ((rdS166 x0 x2).f1.f1) ((rdS166 x0 x2).f1.f2)) fun t1 => .ite t1
   (.ret x2)
   (.jump (.c2 x0 x1 (wr (x2 + (1 : Int)))))))
  (.ret ((-1 : Int)))
def f (a0 : List S166) : Option A := (begin a0).run (lp tree)
def Q : Plan C := { PL with cuts := [(2, [0, 1, 7, 8])], ords := [], weak := [] }
theorem e : CutEq Pg C Q Tryz.f217 0 id st v o tree := fun J K x => by cases x <;> kernel_rfl
theorem b (a0 : List S166) : BegEq Pg C Q Tryz.f217 0 id st v o (S a0) (begin a0) := fun J K => by kernel_rfl
def told (a0 : List S166) : YtobfemcobakeoaaGreatEv.Told A := ⟨f a0, fun r => SoundCall Pg C 217 (S a0) 0 (v r) (o r), fun r h => soundCall_of_tree G mixed Q Tryz.func217 rfl (of_decide_eq_true (by kernel_rfl)) (by rfl) id st v o (fun _ => rfl) tree e (begin a0) (b a0) h⟩
end slices_IndexFunc_impl_Task_ProgramOk_1
/-! #### slices.ContainsFunc[[]loop.example/g00983/impl.Task,loop.example/g00983/impl.Task] (176) -/
namespace slices_ContainsFunc_impl_Task_ProgramOk_1
def S (a0 : List S166) : List (PV U) := YtobfemcobakeoaaGreatEv.start C 9 [.sl 167 a0, .fn 177 []] []
abbrev X := Empty
def id : X → Nat := fun _ => 0
def st : X → List (PV U) := fun _ => []
def begin (a0 : List S166) : Tr X A :=
 .call (slices_IndexFunc_impl_Task_ProgramOk_1.told a0) fun t1 => .ret ((decide (t1 ≥ (0 : Int))))
def tree : X → Tr X A := fun _ => .fail
def f (a0 : List S166) : Option A := (begin a0).run (lp tree)
def Q : Plan C := { PL with cuts := [], ords := [], weak := [] }
theorem e : CutEq Pg C Q Tryz.f176 0 id st v o tree := fun J K x => by cases x
theorem b (a0 : List S166) : BegEq Pg C Q Tryz.f176 0 id st v o (S a0) (begin a0) := fun J K => by kernel_rfl
def told (a0 : List S166) : YtobfemcobakeoaaGreatEv.Told A := ⟨f a0, fun r => SoundCall Pg C 176 (S a0) 0 (v r) (o r), fun r h => soundCall_of_tree G mixed Q Tryz.func176 rfl (of_decide_eq_true (by kernel_rfl)) (by rfl) id st v o (fun _ => rfl) tree e (begin a0) (b a0) h⟩
end slices_ContainsFunc_impl_Task_ProgramOk_1
/-! #### loop.example/g00983/impl.ProgramOk (107) -/
namespace impl_ProgramOk
def S (a0 : List S166) : List (PV U) := YtobfemcobakeoaaGreatEv.start C 13 [.agg [.sl 167 a0]] []
abbrev X := Empty
def id : X → Nat := fun _ => 0
def st : X → List (PV U) := fun _ => []
def begin (a0 : List S166) : Tr X A :=
 .call (impl_within.told (List.length a0 : Int) (1 : Int) (6 : Int)) fun t1 => .ite t1
  (.call (slices_ContainsFunc_impl_Task_ProgramOk_1.told a0) fun t2 => .ret ((!t2)))
  (.ret false)
def tree : X → Tr X A := fun _ => .fail
def f (a0 : List S166) : Option A := (begin a0).run (lp tree)
def Q : Plan C := { PL with cuts := [], ords := [], weak := [] }
theorem e : CutEq Pg C Q Tryz.f107 0 id st v o tree := fun J K x => by cases x
theorem b (a0 : List S166) : BegEq Pg C Q Tryz.f107 0 id st v o (S a0) (begin a0) := fun J K => by kernel_rfl
def told (a0 : List S166) : YtobfemcobakeoaaGreatEv.Told A := ⟨f a0, fun r => SoundCall Pg C 107 (S a0) 0 (v r) (o r), fun r h => soundCall_of_tree G mixed Q Tryz.func107 rfl (of_decide_eq_true (by kernel_rfl)) (by rfl) id st v o (fun _ => rfl) tree e (begin a0) (b a0) h⟩
end impl_ProgramOk
/-! #### loop.example/g00983/impl.IsValue (110) -/
namespace impl_IsValue
def S (a0 : Int) : List (PV U) := YtobfemcobakeoaaGreatEv.start C 5 [.int .i64 a0] []
abbrev X := Empty
def id : X → Nat := fun _ => 0
def st : X → List (PV U) := fun _ => []
def begin (a0 : Int) : Tr X A :=
 .call (impl_within.told a0 (-1000000 : Int) (1000000 : Int)) fun t1 => .ret t1
def tree : X → Tr X A := fun _ => .fail
def f (a0 : Int) : Option A := (begin a0).run (lp tree)
def Q : Plan C := { PL with cuts := [], ords := [], weak := [] }
theorem e : CutEq Pg C Q Tryz.f110 0 id st v o tree := fun J K x => by cases x
theorem b (a0 : Int) : BegEq Pg C Q Tryz.f110 0 id st v o (S a0) (begin a0) := fun J K => by kernel_rfl
def told (a0 : Int) : YtobfemcobakeoaaGreatEv.Told A := ⟨f a0, fun r => SoundCall Pg C 110 (S a0) 0 (v r) (o r), fun r h => soundCall_of_tree G mixed Q Tryz.func110 rfl (of_decide_eq_true (by kernel_rfl)) (by rfl) id st v o (fun _ => rfl) tree e (begin a0) (b a0) h⟩
end impl_IsValue
/-! #### loop.example/g00983/impl.areValues$1 (179) -/
namespace impl_areValues_1
def S (a0 : Int) : List (PV U) := YtobfemcobakeoaaGreatEv.start C 6 [.int .i64 a0] []
abbrev X := Empty
def id : X → Nat := fun _ => 0
def st : X → List (PV U) := fun _ => []
def begin (a0 : Int) : Tr X A :=
 .call (impl_IsValue.told a0) fun t1 => .ret ((!t1))
def tree : X → Tr X A := fun _ => .fail
def f (a0 : Int) : Option A := (begin a0).run (lp tree)
def Q : Plan C := { PL with cuts := [], ords := [], weak := [] }
theorem e : CutEq Pg C Q Tryz.f179 0 id st v o tree := fun J K x => by cases x
theorem b (a0 : Int) : BegEq Pg C Q Tryz.f179 0 id st v o (S a0) (begin a0) := fun J K => by kernel_rfl
def told (a0 : Int) : YtobfemcobakeoaaGreatEv.Told A := ⟨f a0, fun r => SoundCall Pg C 179 (S a0) 0 (v r) (o r), fun r h => soundCall_of_tree G mixed Q Tryz.func179 rfl (of_decide_eq_true (by kernel_rfl)) (by rfl) id st v o (fun _ => rfl) tree e (begin a0) (b a0) h⟩
end impl_areValues_1
/-! #### slices.IndexFunc[[]int,int] (184) -/
namespace slices_IndexFunc_int_areValues_1
def S (a0 : List Int) : List (PV U) := YtobfemcobakeoaaGreatEv.start C 19 [.sl 3 a0, .fn 179 []] []
inductive X where
 | c2 (x0 : List Int) (x1 x2 : Int)
def id : X → Nat
 | .c2 .. => 2
def st : X → List (PV U)
 | .c2 x0 x1 x2 => stOf 19 [(0, .sl 3 x0), (1, .fn 179 []), (7, .int .i64 x1), (8, .int .i64 x2)]
def begin (a0 : List Int) : Tr X A :=
 .jump (.c2 a0 (List.length a0 : Int) (0 : Int))
def tree : X → Tr X A
 | .c2 x0 x1 x2 =>
 .ite (decide (x2 < x1))
  (.need ((0 : Int) ≤ x2 ∧ x2 < (List.length x0 : Int)) (.call (impl_areValues_1.told (rdI x0 x2)) fun t1 => .ite t1
   (.ret x2)
   (.jump (.c2 x0 x1 (wr (x2 + (1 : Int)))))))
  (.ret ((-1 : Int)))
def f (a0 : List Int) : Option A := (begin a0).run (lp tree)
def Q : Plan C := { PL with cuts := [(2, [0, 1, 7, 8])], ords := [], weak := [] }
theorem e : CutEq Pg C Q Tryz.f184 0 id st v o tree := fun J K x => by cases x <;> kernel_rfl
theorem b (a0 : List Int) : BegEq Pg C Q Tryz.f184 0 id st v o (S a0) (begin a0) := fun J K => by kernel_rfl
def told (a0 : List Int) : YtobfemcobakeoaaGreatEv.Told A := ⟨f a0, fun r => SoundCall Pg C 184 (S a0) 0 (v r) (o r), fun r h => soundCall_of_tree G mixed Q Tryz.func184 rfl (of_decide_eq_true (by kernel_rfl)) (by rfl) id st v o (fun _ => rfl) tree e (begin a0) (b a0) h⟩
end slices_IndexFunc_int_areValues_1
/-! #### slices.ContainsFunc[[]int,int] (124) -/
namespace slices_ContainsFunc_int_areValues_1
def S (a0 : List Int) : List (PV U) := YtobfemcobakeoaaGreatEv.start C 9 [.sl 3 a0, .fn 179 []] []
abbrev X := Empty
def id : X → Nat := fun _ => 0
def st : X → List (PV U) := fun _ => []
def begin (a0 : List Int) : Tr X A :=
 .call (slices_IndexFunc_int_areValues_1.told a0) fun t1 => .ret ((decide (t1 ≥ (0 : Int))))
def tree : X → Tr X A := fun _ => .fail
def f (a0 : List Int) : Option A := (begin a0).run (lp tree)
def Q : Plan C := { PL with cuts := [], ords := [], weak := [] }
theorem e : CutEq Pg C Q Tryz.f124 0 id st v o tree := fun J K x => by cases x
theorem b (a0 : List Int) : BegEq Pg C Q Tryz.f124 0 id st v o (S a0) (begin a0) := fun J K => by kernel_rfl
def told (a0 : List Int) : YtobfemcobakeoaaGreatEv.Told A := ⟨f a0, fun r => SoundCall Pg C 124 (S a0) 0 (v r) (o r), fun r h => soundCall_of_tree G mixed Q Tryz.func124 rfl (of_decide_eq_true (by kernel_rfl)) (by rfl) id st v o (fun _ => rfl) tree e (begin a0) (b a0) h⟩
end slices_ContainsFunc_int_areValues_1
/-! #### loop.example/g00983/impl.areValues (108) -/
namespace impl_areValues
def S (a0 : List Int) : List (PV U) := YtobfemcobakeoaaGreatEv.start C 6 [.sl 3 a0] []
abbrev X := Empty
def id : X → Nat := fun _ => 0
def st : X → List (PV U) := fun _ => []
def begin (a0 : List Int) : Tr X A :=
 .call (slices_ContainsFunc_int_areValues_1.told a0) fun t1 => .ret ((!t1))
def tree : X → Tr X A := fun _ => .fail
def f (a0 : List Int) : Option A := (begin a0).run (lp tree)
def Q : Plan C := { PL with cuts := [], ords := [], weak := [] }
theorem e : CutEq Pg C Q Tryz.f108 0 id st v o tree := fun J K x => by cases x
theorem b (a0 : List Int) : BegEq Pg C Q Tryz.f108 0 id st v o (S a0) (begin a0) := fun J K => by kernel_rfl
def told (a0 : List Int) : YtobfemcobakeoaaGreatEv.Told A := ⟨f a0, fun r => SoundCall Pg C 108 (S a0) 0 (v r) (o r), fun r h => soundCall_of_tree G mixed Q Tryz.func108 rfl (of_decide_eq_true (by kernel_rfl)) (by rfl) id st v o (fun _ => rfl) tree e (begin a0) (b a0) h⟩
end impl_areValues
/-! #### loop.example/g00983/impl.PackControl (78) -/
namespace impl_PackControl
def S (a0 a1 a2 : Int) : List (PV U) := YtobfemcobakeoaaGreatEv.start C 27 [.int .i64 a0, .int .i64 a1, .int .i64 a2] []
abbrev X := Empty
def id : X → Nat := fun _ => 0
def st : X → List (PV U) := fun _ => []
def begin (a0 a1 a2 : Int) : Tr X A :=
 .call (impl_within.told a0 (0 : Int) (5 : Int)) fun t1 => .ite (!t1)
  (.ret ((-1 : Int)))
  (.call (impl_within.told a1 (0 : Int) (8 : Int)) fun t2 => .ite (!t2)
   (.ret ((-1 : Int)))
   (.call (impl_within.told a2 (0 : Int) (24 : Int)) fun t3 => .ite (!t3)
    (.ret ((-1 : Int)))
    (.ret ((wr (a0 + (wr ((8 : Int) * (wr (a1 + (wr ((16 : Int) * a2))))))))))))
def tree : X → Tr X A := fun _ => .fail
def f (a0 a1 a2 : Int) : Option A := (begin a0 a1 a2).run (lp tree)
def Q : Plan C := { PL with cuts := [], ords := [], weak := [] }
theorem e : CutEq Pg C Q Tryz.f78 0 id st v o tree := fun J K x => by cases x
theorem b (a0 a1 a2 : Int) : BegEq Pg C Q Tryz.f78 0 id st v o (S a0 a1 a2) (begin a0 a1 a2) := fun J K => by kernel_rfl
def told (a0 a1 a2 : Int) : YtobfemcobakeoaaGreatEv.Told A := ⟨f a0 a1 a2, fun r => SoundCall Pg C 78 (S a0 a1 a2) 0 (v r) (o r), fun r h => soundCall_of_tree G mixed Q Tryz.func78 rfl (of_decide_eq_true (by kernel_rfl)) (by rfl) id st v o (fun _ => rfl) tree e (begin a0 a1 a2) (b a0 a1 a2) h⟩
end impl_PackControl
/-! #### loop.example/g00983/impl.UnpackControl (77) -/
namespace impl_UnpackControl
def S (a0 : Int) : List (PV U) := YtobfemcobakeoaaGreatEv.start C 28 [.int .i64 a0] []
abbrev X := Empty
def id : X → Nat := fun _ => 0
def st : X → List (PV U) := fun _ => []
def begin (a0 : Int) : Tr X A :=
 .need ((8 : Int) ≠ 0) (.need ((8 : Int) ≠ 0) (.need ((16 : Int) ≠ 0) (.need ((128 : Int) ≠ 0) (.ite (decide (a0 < (0 : Int)))
  (.ret ((-1 : Int), (-1 : Int), (-1 : Int)))
  (.call (impl_PackControl.told (Int.tmod a0 (8 : Int)) (Int.tmod (wr (Int.tdiv a0 (8 : Int))) (16 : Int)) (wr (Int.tdiv a0 (128 : Int)))) fun t1 => .ite (!decide (t1 = a0))
   (.ret ((-1 : Int), (-1 : Int), (-1 : Int)))
   (.ret ((Int.tmod a0 (8 : Int)), (Int.tmod (wr (Int.tdiv a0 (8 : Int))) (16 : Int)), (wr (Int.tdiv a0 (128 : Int))))))))))
def tree : X → Tr X A := fun _ => .fail
def f (a0 : Int) : Option A := (begin a0).run (lp tree)
def Q : Plan C := { PL with cuts := [], ords := [], weak := [] }
theorem e : CutEq Pg C Q Tryz.f77 0 id st v o tree := fun J K x => by cases x
theorem b (a0 : Int) : BegEq Pg C Q Tryz.f77 0 id st v o (S a0) (begin a0) := fun J K => by kernel_rfl
def told (a0 : Int) : YtobfemcobakeoaaGreatEv.Told A := ⟨f a0, fun r => SoundCall Pg C 77 (S a0) 0 (v r) (o r), fun r h => soundCall_of_tree G mixed Q Tryz.func77 rfl (of_decide_eq_true (by kernel_rfl)) (by rfl) id st v o (fun _ => rfl) tree e (begin a0) (b a0) h⟩
end impl_UnpackControl
/-! #### loop.example/g00983/impl.MemOk (41) -/
namespace impl_MemOk
def S (a0 : List S166) (a1 : List Int) : List (PV U) := YtobfemcobakeoaaGreatEv.start C 72 [.agg [.sl 167 a0], .sl 3 a1] []
inductive X where
 | c7 (x0 : List Int) (x1 x2 : Int)
def id : X → Nat
 | .c7 .. => 7
def st : X → List (PV U)
 | .c7 x0 x1 x2 => stOf 72 [(1, .sl 3 x0), (48, .int .i64 x1), (49, .int .i64 x2)]
def begin (a0 : List S166) (a1 : List Int) : Tr X A :=
 .call (impl_ProgramOk.told a0) fun t1 => .ite (!t1)
  (.ret false)
  (.ite (!decide ((List.length a1 : Int) = (49 : Int)))
   (.ret false)
   (.need ((0 : Int) ≤ (0 : Int) ∧ (0 : Int) ≤ (8 : Int) ∧ (8 : Int) ≤ (List.length a1 : Int)) (.call (impl_areValues.told (List.take (Int.toNat (8 : Int)) a1)) fun t2 => .ite (!t2)
    (.ret false)
    (.need ((0 : Int) ≤ (8 : Int) ∧ (8 : Int) < (List.length a1 : Int)) (.call (impl_UnpackControl.told (rdI a1 (8 : Int))) fun t3 => .ite (decide (t3.1 < (0 : Int)))
     (.ret false)
     (.ite (decide (t3.1 ≥ (List.length a0 : Int)))
      (.ret false)
      (.need ((0 : Int) ≤ (25 : Int) ∧ (25 : Int) ≤ (wr ((25 : Int) + t3.2.2)) ∧ (wr ((25 : Int) + t3.2.2)) ≤ (List.length a1 : Int)) (.call (impl_areValues.told (List.drop (Int.toNat (25 : Int)) (List.take (Int.toNat (wr ((25 : Int) + t3.2.2))) a1))) fun t4 => .ite (!t4)
       (.ret false)
       (.jump (.c7 a1 t3.2.1 (0 : Int)))))))))))
def tree : X → Tr X A
 | .c7 x0 x1 x2 =>
 .ite (decide (x2 < x1))
  (.need ((0 : Int) ≤ (wr ((9 : Int) + (wr ((2 : Int) * x2)))) ∧ (wr ((9 : Int) + (wr ((2 : Int) * x2)))) < (List.length x0 : Int)) (.call (impl_isVar.told (rdI x0 (wr ((9 : Int) + (wr ((2 : Int) * x2)))))) fun t5 => .ite (!t5)
   (.ret false)
   (.need ((0 : Int) ≤ (wr ((wr ((9 : Int) + (wr ((2 : Int) * x2)))) + (1 : Int))) ∧ (wr ((wr ((9 : Int) + (wr ((2 : Int) * x2)))) + (1 : Int))) < (List.length x0 : Int)) (.call (impl_IsValue.told (rdI x0 (wr ((wr ((9 : Int) + (wr ((2 : Int) * x2)))) + (1 : Int))))) fun t6 => .ite (!t6)
    (.ret false)
    (.jump (.c7 x0 x1 (wr (x2 + (1 : Int)))))))))
  (.ret true)
def f (a0 : List S166) (a1 : List Int) : Option A := (begin a0 a1).run (lp tree)
def Q : Plan C := { PL with cuts := [(7, [1, 48, 49])], ords := [], weak := [] }
theorem e : CutEq Pg C Q Tryz.f41 0 id st v o tree := fun J K x => by cases x <;> kernel_rfl
theorem b (a0 : List S166) (a1 : List Int) : BegEq Pg C Q Tryz.f41 0 id st v o (S a0 a1) (begin a0 a1) := fun J K => by kernel_rfl
def told (a0 : List S166) (a1 : List Int) : YtobfemcobakeoaaGreatEv.Told A := ⟨f a0 a1, fun r => SoundCall Pg C 41 (S a0 a1) 0 (v r) (o r), fun r h => soundCall_of_tree G mixed Q Tryz.func41 rfl (of_decide_eq_true (by kernel_rfl)) (by rfl) id st v o (fun _ => rfl) tree e (begin a0 a1) (b a0 a1) h⟩
end impl_MemOk
/-! #### loop.example/g00983/impl.StoreOk (116) -/
namespace impl_StoreOk
def S (a0 a1 a2 a3 : Int) : List (PV U) := YtobfemcobakeoaaGreatEv.start C 25 [.agg [.int .i64 a0, .int .i64 a1, .int .i64 a2, .int .i64 a3]] []
abbrev X := Empty
def id : X → Nat := fun _ => 0
def st : X → List (PV U) := fun _ => []
def begin (a0 a1 a2 a3 : Int) : Tr X A :=
 .call (impl_within.told a1 (1 : Int) (5000 : Int)) fun t1 => .ite t1
  (.call (impl_within.told a0 (0 : Int) a1) fun t2 => .ite t2
   (.call (impl_within.told a2 (1 : Int) a1) fun t3 => .ite t3
    (.call (impl_within.told a3 (0 : Int) (100 : Int)) fun t4 => .ret t4)
    (.ret false))
   (.ret false))
  (.ret false)
def tree : X → Tr X A := fun _ => .fail
def f (a0 a1 a2 a3 : Int) : Option A := (begin a0 a1 a2 a3).run (lp tree)
def Q : Plan C := { PL with cuts := [], ords := [], weak := [] }
theorem e : CutEq Pg C Q Tryz.f116 0 id st v o tree := fun J K x => by cases x
theorem b (a0 a1 a2 a3 : Int) : BegEq Pg C Q Tryz.f116 0 id st v o (S a0 a1 a2 a3) (begin a0 a1 a2 a3) := fun J K => by kernel_rfl
def told (a0 a1 a2 a3 : Int) : YtobfemcobakeoaaGreatEv.Told A := ⟨f a0 a1 a2 a3, fun r => SoundCall Pg C 116 (S a0 a1 a2 a3) 0 (v r) (o r), fun r h => soundCall_of_tree G mixed Q Tryz.func116 rfl (of_decide_eq_true (by kernel_rfl)) (by rfl) id st v o (fun _ => rfl) tree e (begin a0 a1 a2 a3) (b a0 a1 a2 a3) h⟩
end impl_StoreOk
/-! #### loop.example/g00983/impl.SpanOk (121) -/
namespace impl_SpanOk
def S (a0 a1 : Int) : List (PV U) := YtobfemcobakeoaaGreatEv.start C 18 [.agg [.int .i64 a0, .int .i64 a1]] []
abbrev X := Empty
def id : X → Nat := fun _ => 0
def st : X → List (PV U) := fun _ => []
def begin (a0 a1 : Int) : Tr X A :=
 .ite (decide (a0 ≥ (0 : Int)))
  (.ite (decide (a0 ≤ a1))
   (.ret ((decide (a1 ≤ (1000000 : Int)))))
   (.ret false))
  (.ret false)
def tree : X → Tr X A := fun _ => .fail
def f (a0 a1 : Int) : Option A := (begin a0 a1).run (lp tree)
def Q : Plan C := { PL with cuts := [], ords := [], weak := [] }
theorem e : CutEq Pg C Q Tryz.f121 0 id st v o tree := fun J K x => by cases x
theorem b (a0 a1 : Int) : BegEq Pg C Q Tryz.f121 0 id st v o (S a0 a1) (begin a0 a1) := fun J K => by kernel_rfl
def told (a0 a1 : Int) : YtobfemcobakeoaaGreatEv.Told A := ⟨f a0 a1, fun r => SoundCall Pg C 121 (S a0 a1) 0 (v r) (o r), fun r h => soundCall_of_tree G mixed Q Tryz.func121 rfl (of_decide_eq_true (by kernel_rfl)) (by rfl) id st v o (fun _ => rfl) tree e (begin a0 a1) (b a0 a1) h⟩
end impl_SpanOk
/-! #### loop.example/g00983/impl.MemSent (43) -/
namespace impl_MemSent
def S (a0 : List Int) : List (PV U) := YtobfemcobakeoaaGreatEv.start C 24 [.sl 3 a0] []
abbrev X := Empty
def id : X → Nat := fun _ => 0
def st : X → List (PV U) := fun _ => []
def begin (a0 : List Int) : Tr X A :=
 .ite (!decide ((List.length a0 : Int) = (49 : Int)))
  (.ret (([] : List Int)))
  (.need ((0 : Int) ≤ (8 : Int) ∧ (8 : Int) < (List.length a0 : Int)) (.call (impl_UnpackControl.told (rdI a0 (8 : Int))) fun t1 => .ite (decide (t1.2.2 < (0 : Int)))
   (.ret (([] : List Int)))
   (.need ((0 : Int) ≤ (25 : Int) ∧ (25 : Int) ≤ (wr ((25 : Int) + t1.2.2)) ∧ (wr ((25 : Int) + t1.2.2)) ≤ (List.length a0 : Int)) (.call (slices_Clone_int.told (List.drop (Int.toNat (25 : Int)) (List.take (Int.toNat (wr ((25 : Int) + t1.2.2))) a0))) fun t2 => .ret t2))))
def tree : X → Tr X A := fun _ => .fail
def f (a0 : List Int) : Option A := (begin a0).run (lp tree)
def Q : Plan C := { PL with cuts := [], ords := [], weak := [] }
theorem e : CutEq Pg C Q Tryz.f43 0 id st v o tree := fun J K x => by cases x
theorem b (a0 : List Int) : BegEq Pg C Q Tryz.f43 0 id st v o (S a0) (begin a0) := fun J K => by kernel_rfl
def told (a0 : List Int) : YtobfemcobakeoaaGreatEv.Told A := ⟨f a0, fun r => SoundCall Pg C 43 (S a0) 0 (v r) (o r), fun r h => soundCall_of_tree G mixed Q Tryz.func43 rfl (of_decide_eq_true (by kernel_rfl)) (by rfl) id st v o (fun _ => rfl) tree e (begin a0) (b a0) h⟩
end impl_MemSent
/-! #### slices.Equal[[]int,int] (111) -/
namespace slices_Equal_int
def S (a0 a1 : List Int) : List (PV U) := YtobfemcobakeoaaGreatEv.start C 26 [.sl 3 a0, .sl 3 a1] []
inductive X where
 | c4 (x0 x1 : List Int) (x2 x3 : Int)
def id : X → Nat
 | .c4 .. => 4
def st : X → List (PV U)
 | .c4 x0 x1 x2 x3 => stOf 26 [(0, .sl 3 x0), (1, .sl 3 x1), (12, .int .i64 x2), (13, .int .i64 x3)]
def begin (a0 a1 : List Int) : Tr X A :=
 .ite (!decide ((List.length a0 : Int) = (List.length a1 : Int)))
  (.ret false)
  (.jump (.c4 a0 a1 (List.length a0 : Int) (0 : Int)))
def tree : X → Tr X A
 | .c4 x0 x1 x2 x3 =>
 .ite (decide (x3 < x2))
  (.need ((0 : Int) ≤ x3 ∧ x3 < (List.length x0 : Int)) (.need ((0 : Int) ≤ x3 ∧ x3 < (List.length x1 : Int)) (.ite (!decide ((rdI x0 x3) = (rdI x1 x3)))
   (.ret false)
   (.jump (.c4 x0 x1 x2 (wr (x3 + (1 : Int))))))))
  (.ret true)
def f (a0 a1 : List Int) : Option A := (begin a0 a1).run (lp tree)
def Q : Plan C := { PL with cuts := [(4, [0, 1, 12, 13])], ords := [(6, [], (.take 0 [] (.take 1 [] (.take 2 [] (.take 4 [] (.take 5 [] (.take 6 [] (.take 3 [0, 1, 2, 4, 5, 6, 7] (.take 7 [0, 1, 2, 3, 4, 5, 6] (.take 8 [] .done))))))))))], weak := [] }
theorem e : CutEq Pg C Q Tryz.f111 0 id st v o tree := fun J K x => by cases x <;> kernel_rfl
theorem b (a0 a1 : List Int) : BegEq Pg C Q Tryz.f111 0 id st v o (S a0 a1) (begin a0 a1) := fun J K => by kernel_rfl
def told (a0 a1 : List Int) : YtobfemcobakeoaaGreatEv.Told A := ⟨f a0 a1, fun r => SoundCall Pg C 111 (S a0 a1) 0 (v r) (o r), fun r h => soundCall_of_tree G mixed Q Tryz.func111 rfl (of_decide_eq_true (by kernel_rfl)) (by rfl) id st v o (fun _ => rfl) tree e (begin a0 a1) (b a0 a1) h⟩
end slices_Equal_int
/-! #### loop.example/g00983/impl.IsPrefixOf (42) -/
namespace impl_IsPrefixOf
def S (a0 a1 : List Int) : List (PV U) := YtobfemcobakeoaaGreatEv.start C 18 [.sl 3 a0, .sl 3 a1] []
abbrev X := Empty
def id : X → Nat := fun _ => 0
def st : X → List (PV U) := fun _ => []
def begin (a0 a1 : List Int) : Tr X A :=
 .ite (decide ((List.length a0 : Int) ≤ (List.length a1 : Int)))
  (.need ((0 : Int) ≤ (0 : Int) ∧ (0 : Int) ≤ (List.length a0 : Int) ∧ (List.length a0 : Int) ≤ (List.length a1 : Int)) (.call (slices_Equal_int.told a0 (List.take (Int.toNat (List.length a0 : Int)) a1)) fun t1 => .ret t1))
  (.ret false)
def tree : X → Tr X A := fun _ => .fail
def f (a0 a1 : List Int) : Option A := (begin a0 a1).run (lp tree)
def Q : Plan C := { PL with cuts := [], ords := [], weak := [] }
theorem e : CutEq Pg C Q Tryz.f42 0 id st v o tree := fun J K x => by cases x
theorem b (a0 a1 : List Int) : BegEq Pg C Q Tryz.f42 0 id st v o (S a0 a1) (begin a0 a1) := fun J K => by kernel_rfl
def told (a0 a1 : List Int) : YtobfemcobakeoaaGreatEv.Told A := ⟨f a0 a1, fun r => SoundCall Pg C 42 (S a0 a1) 0 (v r) (o r), fun r h => soundCall_of_tree G mixed Q Tryz.func42 rfl (of_decide_eq_true (by kernel_rfl)) (by rfl) id st v o (fun _ => rfl) tree e (begin a0 a1) (b a0 a1) h⟩
end impl_IsPrefixOf
/-! #### loop.example/g00983/impl.LinkOk (122) -/
namespace impl_LinkOk
def S (a0 : List Int) (a1 : Int) (a2 : List Int) : List (PV U) := YtobfemcobakeoaaGreatEv.start C 20 [.sl 3 a0, .agg [.int .i64 a1, .sl 3 a2]] []
abbrev X := Empty
def id : X → Nat := fun _ => 0
def st : X → List (PV U) := fun _ => []
def begin (a0 : List Int) (a1 : Int) (a2 : List Int) : Tr X A :=
 .last (.call (impl_within.told a1 (0 : Int) (List.length a2 : Int)) fun t1 => .ite t1
  (.last (.call (impl_MemSent.told a0) fun t2 => .last (.call (impl_IsPrefixOf.told a2 t2) fun t3 => .ret t3)))
  (.last (.last (.ret false))))
def tree : X → Tr X A := fun _ => .fail
def f (a0 : List Int) (a1 : Int) (a2 : List Int) : Option A := (begin a0 a1 a2).run (lp tree)
def Q : Plan C := { PL with cuts := [], ords := [(1, [], (.take 0 [] (.take 2 [] (.take 3 [] (.take 1 [0, 2, 3, 4, 5] (.take 4 [0, 1, 2, 3] (.take 5 [] (.alt 6 (.take 7 [] (.take 8 [] (.take 9 [] (.take 11 [] (.take 10 [0, 1, 2, 3, 4, 5, 6, 7, 8, 9, 11, 12] (.alt 12 (.alt 13 (.take 14 [] (.take 15 [] .done)) .nil) .nil)))))) .nil))))))))], weak := [] }
theorem e : CutEq Pg C Q Tryz.f122 0 id st v o tree := fun J K x => by cases x
theorem b (a0 : List Int) (a1 : Int) (a2 : List Int) : BegEq Pg C Q Tryz.f122 0 id st v o (S a0 a1 a2) (begin a0 a1 a2) := fun J K => by kernel_rfl
def told (a0 : List Int) (a1 : Int) (a2 : List Int) : YtobfemcobakeoaaGreatEv.Told A := ⟨f a0 a1 a2, fun r => SoundCall Pg C 122 (S a0 a1 a2) 0 (v r) (o r), fun r h => soundCall_of_tree G mixed Q Tryz.func122 rfl (of_decide_eq_true (by kernel_rfl)) (by rfl) id st v o (fun _ => rfl) tree e (begin a0 a1 a2) (b a0 a1 a2) h⟩
end impl_LinkOk
/-! #### loop.example/g00983/impl.NodeOk (50) -/
namespace impl_NodeOk
def S (a0 : List S166) (a1 a2 : List Int) (a3 a4 a5 a6 a7 a8 a9 a10 : Int) (a11 : List Int) (a12 : Int) : List (PV U) := YtobfemcobakeoaaGreatEv.start C 40 [.agg [.sl 167 a0, .sl 3 a1, .sl 3 a2, .int .i64 a3, .int .i64 a4, .int .i64 a5, .int .i64 a6, .int .i64 a7, .int .i64 a8, .int .i64 a9, .int .i64 a10, .sl 3 a11, .int .i64 a12]] []
abbrev X := Empty
def id : X → Nat := fun _ => 0
def st : X → List (PV U) := fun _ => []
def begin (a0 : List S166) (a1 a2 : List Int) (a3 a4 a5 a6 a7 a8 a9 a10 : Int) (a11 : List Int) (a12 : Int) : Tr X A :=
 .call (impl_MemOk.told a0 a1) fun t1 => .ite t1
  (.call (impl_StoreOk.told a4 a5 a6 a7) fun t2 => .ite t2
   (.call (impl_areValues.told a2) fun t3 => .ite t3
    (.call (impl_within.told a3 (0 : Int) (400000 : Int)) fun t4 => .ite t4
     (.call (impl_SpanOk.told a8 a9) fun t5 => .ite t5
      (.call (impl_LinkOk.told a1 a10 a11) fun t6 => .ite t6
       (.call (impl_within.told a12 (0 : Int) (100000 : Int)) fun t7 => .ret t7)
       (.ret false))
      (.ret false))
     (.ret false))
    (.ret false))
   (.ret false))
  (.ret false)
def tree : X → Tr X A := fun _ => .fail
def f (a0 : List S166) (a1 a2 : List Int) (a3 a4 a5 a6 a7 a8 a9 a10 : Int) (a11 : List Int) (a12 : Int) : Option A := (begin a0 a1 a2 a3 a4 a5 a6 a7 a8 a9 a10 a11 a12).run (lp tree)
def Q : Plan C := { PL with cuts := [], ords := [], weak := [] }
theorem e : CutEq Pg C Q Tryz.f50 0 id st v o tree := fun J K x => by cases x
theorem b (a0 : List S166) (a1 a2 : List Int) (a3 a4 a5 a6 a7 a8 a9 a10 : Int) (a11 : List Int) (a12 : Int) : BegEq Pg C Q Tryz.f50 0 id st v o (S a0 a1 a2 a3 a4 a5 a6 a7 a8 a9 a10 a11 a12) (begin a0 a1 a2 a3 a4 a5 a6 a7 a8 a9 a10 a11 a12) := fun J K => by kernel_rfl
def told (a0 : List S166) (a1 a2 : List Int) (a3 a4 a5 a6 a7 a8 a9 a10 : Int) (a11 : List Int) (a12 : Int) : YtobfemcobakeoaaGreatEv.Told A := ⟨f a0 a1 a2 a3 a4 a5 a6 a7 a8 a9 a10 a11 a12, fun r => SoundCall Pg C 50 (S a0 a1 a2 a3 a4 a5 a6 a7 a8 a9 a10 a11 a12) 0 (v r) (o r), fun r h => soundCall_of_tree G mixed Q Tryz.func50 rfl (of_decide_eq_true (by kernel_rfl)) (by rfl) id st v o (fun _ => rfl) tree e (begin a0 a1 a2 a3 a4 a5 a6 a7 a8 a9 a10 a11 a12) (b a0 a1 a2 a3 a4 a5 a6 a7 a8 a9 a10 a11 a12) h⟩
end impl_NodeOk
/-! #### loop.example/g00983/impl.PacketsOf (165) -/
namespace impl_PacketsOf
def S (a0 : List Int) (a1 : Int) : List (PV U) := YtobfemcobakeoaaGreatEv.start C 33 [.sl 3 a0, .int .i64 a1] []
inductive X where
 | c6 (x0 : List Int) (x1 : List S217) (x2 : Int)
def id : X → Nat
 | .c6 .. => 6
def st : X → List (PV U)
 | .c6 x0 x1 x2 => stOf 33 [(5, .own true 3 x0), (6, .own true 218 x1), (7, .int .i64 x2)]
def begin (a0 : List Int) (a1 : Int) : Tr X A :=
 .call (impl_MemSent.told a0) fun t1 => .call (impl_within.told a1 (0 : Int) (List.length t1 : Int)) fun t2 => .ite (!t2)
  (.ret (([] : List S217)))
  (.jump (.c6 t1 ([] : List S217) a1))
def tree : X → Tr X A
 | .c6 x0 x1 x2 =>
 .ite (decide (x2 < (List.length x0 : Int)))
  (.need ((0 : Int) ≤ x2 ∧ x2 < (List.length x0 : Int)) (.need (((List.length x1 : Int) + (List.length ([(⟨x2, (rdI x0 x2)⟩ : S217)]) : Int)) * (16 : Nat) ≤ room) (.jump (.c6 x0 (x1 ++ [(⟨x2, (rdI x0 x2)⟩ : S217)]) (wr (x2 + (1 : Int)))))))
  (.ret x1)
def f (a0 : List Int) (a1 : Int) : Option A := (begin a0 a1).run (lp tree)
def Q : Plan C := { PL with cuts := [(6, [5, 6, 7])], ords := [], weak := [] }
theorem e : CutEq Pg C Q Tryz.f165 0 id st v o tree := fun J K x => by cases x <;> kernel_rfl
theorem b (a0 : List Int) (a1 : Int) : BegEq Pg C Q Tryz.f165 0 id st v o (S a0 a1) (begin a0 a1) := fun J K => by kernel_rfl
def told (a0 : List Int) (a1 : Int) : YtobfemcobakeoaaGreatEv.Told A := ⟨f a0 a1, fun r => SoundCall Pg C 165 (S a0 a1) 0 (v r) (o r), fun r h => soundCall_of_tree G mixed Q Tryz.func165 rfl (of_decide_eq_true (by kernel_rfl)) (by rfl) id st v o (fun _ => rfl) tree e (begin a0 a1) (b a0 a1) h⟩
end impl_PacketsOf
/-! #### loop.example/g00983/impl.Receive (210) -/
namespace impl_Receive
def S (a0 : List Int) (a1 a2 : Int) : List (PV U) := YtobfemcobakeoaaGreatEv.start C 34 [.agg [.sl 3 a0], .agg [.int .i64 a1, .int .i64 a2]] []
abbrev X := Empty
def id : X → Nat := fun _ => 0
def st : X → List (PV U) := fun _ => []
def begin (a0 : List Int) (a1 a2 : Int) : Tr X A :=
 .call (slices_Clone_int.told a0) fun t1 => .ite (decide (a1 = (List.length a0 : Int)))
  (.ite (decide ((List.length a0 : Int) < (255 : Int)))
   (.need (((List.length t1 : Int) + (List.length ([a2]) : Int)) * (8 : Nat) ≤ room) (.both (.last (.ret ((t1 ++ [a2]), (List.length (t1 ++ [a2]) : Int))))
    (.last (.ret ((t1 ++ [a2]), (List.length (t1 ++ [a2]) : Int))))))
   (.both (.last (.ret (t1, (List.length t1 : Int))))
    (.last (.ret (t1, (List.length t1 : Int))))))
  (.both (.last (.ret (t1, (List.length t1 : Int))))
   (.last (.ret (t1, (List.length t1 : Int)))))
def tree : X → Tr X A := fun _ => .fail
def f (a0 : List Int) (a1 a2 : Int) : Option A := (begin a0 a1 a2).run (lp tree)
def Q : Plan C := { PL with cuts := [], ords := [(4, [4], (.take 1 [] (.take 0 [1, 2, 3] (.alt 2 (.take 3 [] (.alt 4 (.take 5 [] .done) .nil)) (.alt 4 (.take 2 [0, 1, 4] (.take 3 [] (.take 5 [] .done))) .nil)))))], weak := [] }
theorem e : CutEq Pg C Q Tryz.f210 0 id st v o tree := fun J K x => by cases x
theorem b (a0 : List Int) (a1 a2 : Int) : BegEq Pg C Q Tryz.f210 0 id st v o (S a0 a1 a2) (begin a0 a1 a2) := fun J K => by kernel_rfl
def told (a0 : List Int) (a1 a2 : Int) : YtobfemcobakeoaaGreatEv.Told A := ⟨f a0 a1 a2, fun r => SoundCall Pg C 210 (S a0 a1 a2) 0 (v r) (o r), fun r h => soundCall_of_tree G mixed Q Tryz.func210 rfl (of_decide_eq_true (by kernel_rfl)) (by rfl) id st v o (fun _ => rfl) tree e (begin a0 a1 a2) (b a0 a1 a2) h⟩
end impl_Receive
/-! #### loop.example/g00983/impl.ReceiveAll (164) -/
namespace impl_ReceiveAll
def S (a0 : List Int) (a1 : List S217) (a2 : List Bool) : List (PV U) := YtobfemcobakeoaaGreatEv.start C 43 [.agg [.sl 3 a0], .sl 218 a1, .sl 4 a2] []
inductive X where
 | c3 (x0 : List Bool) (x1 x2 : List Int) (x3 : List S217) (x4 x5 : Int)
def id : X → Nat
 | .c3 .. => 3
def st : X → List (PV U)
 | .c3 x0 x1 x2 x3 x4 x5 => stOf 43 [(2, .sl 4 x0), (6, .box [.own true 3 x1]), (8, .box [.own true 3 x2]), (15, .sl 218 x3), (16, .int .i64 x4), (17, .int .i64 x5)]
def begin (a0 : List Int) (a1 : List S217) (a2 : List Bool) : Tr X A :=
 .call (slices_Clone_int.told a0) fun t1 => .jump (.c3 a2 ([] : List Int) t1 a1 (List.length a1 : Int) (0 : Int))
def tree : X → Tr X A
 | .c3 x0 x1 x2 x3 x4 x5 =>
 .ite (decide (x5 < x4))
  (.need ((0 : Int) ≤ x5 ∧ x5 < (List.length x3 : Int)) (.ite (decide (x5 < (List.length x0 : Int)))
   (.need ((0 : Int) ≤ x5 ∧ x5 < (List.length x0 : Int)) (.ite (rdB x0 x5)
    (.call (impl_Receive.told x2 ((rdS217 x3 x5).f0) ((rdS217 x3 x5).f1)) fun t2 => .jump (.c3 x0 x1 t2.1 x3 x4 (wr (x5 + (1 : Int)))))
    (.jump (.c3 x0 x1 x2 x3 x4 (wr (x5 + (1 : Int)))))))
   (.jump (.c3 x0 x1 x2 x3 x4 (wr (x5 + (1 : Int)))))))
  (.both (.last (.ret (x2, (List.length x2 : Int))))
   (.last (.ret (x2, (List.length x2 : Int)))))
def f (a0 : List Int) (a1 : List S217) (a2 : List Bool) : Option A := (begin a0 a1 a2).run (lp tree)
def Q : Plan C := { PL with cuts := [(3, [2, 6, 8, 15, 16, 17])], ords := [(8, [4], (.take 1 [] (.take 0 [1, 2, 3] (.alt 2 (.take 3 [] (.alt 4 (.take 5 [] .done) .nil)) (.alt 4 (.take 2 [0, 1, 4] (.take 3 [] (.take 5 [] .done))) .nil)))))], weak := [] }
theorem e : CutEq Pg C Q Tryz.f164 0 id st v o tree := fun J K x => by cases x <;> kernel_rfl
theorem b (a0 : List Int) (a1 : List S217) (a2 : List Bool) : BegEq Pg C Q Tryz.f164 0 id st v o (S a0 a1 a2) (begin a0 a1 a2) := fun J K => by kernel_rfl
def told (a0 : List Int) (a1 : List S217) (a2 : List Bool) : YtobfemcobakeoaaGreatEv.Told A := ⟨f a0 a1 a2, fun r => SoundCall Pg C 164 (S a0 a1 a2) 0 (v r) (o r), fun r h => soundCall_of_tree G mixed Q Tryz.func164 rfl (of_decide_eq_true (by kernel_rfl)) (by rfl) id st v o (fun _ => rfl) tree e (begin a0 a1 a2) (b a0 a1 a2) h⟩
end impl_ReceiveAll
/-! #### loop.example/g00983/impl.SendRound (92) -/
namespace impl_SendRound
def S (a0 : List Int) (a1 : Int) (a2 : List Int) (a3 : List Bool) (a4 : Bool) : List (PV U) := YtobfemcobakeoaaGreatEv.start C 37 [.sl 3 a0, .agg [.int .i64 a1, .sl 3 a2], .sl 4 a3, .bool a4] []
abbrev X := Empty
def id : X → Nat := fun _ => 0
def st : X → List (PV U) := fun _ => []
def begin (a0 : List Int) (a1 : Int) (a2 : List Int) (a3 : List Bool) (a4 : Bool) : Tr X A :=
 .call (impl_copyLink.told a1 a2) fun t1 => .call (impl_LinkOk.told a0 a1 a2) fun t2 => .ite (!t2)
  (.ret (t1.1, t1.2, false))
  (.both (.call (impl_PacketsOf.told a0 a1) fun t3 => .both (.call (impl_ReceiveAll.told a2 t3 a3) fun t4 => .last (.last (.ite a4
     (.ret (t4.2, t4.1, true))
     (.ret (t1.1, t4.1, true)))))
    (.last (.last (.call (impl_ReceiveAll.told a2 t3 a3) fun t5 => .last (.ite a4
     (.ret (t5.2, t5.1, true))
     (.ret (t1.1, t5.1, true)))))))
   (.last (.last (.call (impl_PacketsOf.told a0 a1) fun t6 => .last (.call (impl_ReceiveAll.told a2 t6 a3) fun t7 => .last (.ite a4
    (.ret (t7.2, t7.1, true))
    (.ret (t1.1, t7.1, true))))))))
def tree : X → Tr X A := fun _ => .fail
def f (a0 : List Int) (a1 : Int) (a2 : List Int) (a3 : List Bool) (a4 : Bool) : Option A := (begin a0 a1 a2 a3 a4).run (lp tree)
def Q : Plan C := { PL with cuts := [], ords := [(4, [12], (.take 0 [] (.take 2 [] (.take 3 [] (.take 6 [] (.take 1 [0, 2, 3, 4, 5, 6, 11] (.take 4 [0, 1, 2, 3, 6, 11] (.alt 5 (.alt 7 (.take 8 [] (.take 9 [] (.take 10 [] (.alt 11 (.alt 12 (.take 13 [] .done) .nil) .nil)))) (.alt 11 (.alt 7 (.take 8 [] (.take 9 [] (.take 10 [] (.alt 12 (.take 13 [] .done) .nil)))) .nil) .nil)) (.alt 11 (.alt 5 (.alt 7 (.take 8 [] (.take 9 [] (.take 10 [] (.alt 12 (.take 13 [] .done) .nil)))) .nil) .nil) .nil)))))))))], weak := [] }
theorem e : CutEq Pg C Q Tryz.f92 0 id st v o tree := fun J K x => by cases x
theorem b (a0 : List Int) (a1 : Int) (a2 : List Int) (a3 : List Bool) (a4 : Bool) : BegEq Pg C Q Tryz.f92 0 id st v o (S a0 a1 a2 a3 a4) (begin a0 a1 a2 a3 a4) := fun J K => by kernel_rfl
def told (a0 : List Int) (a1 : Int) (a2 : List Int) (a3 : List Bool) (a4 : Bool) : YtobfemcobakeoaaGreatEv.Told A := ⟨f a0 a1 a2 a3 a4, fun r => SoundCall Pg C 92 (S a0 a1 a2 a3 a4) 0 (v r) (o r), fun r h => soundCall_of_tree G mixed Q Tryz.func92 rfl (of_decide_eq_true (by kernel_rfl)) (by rfl) id st v o (fun _ => rfl) tree e (begin a0 a1 a2 a3 a4) (b a0 a1 a2 a3 a4) h⟩
end impl_SendRound
/-! #### loop.example/g00983/impl.Uplink (30) -/
namespace impl_Uplink
def S (a0 : List S166) (a1 a2 : List Int) (a3 a4 a5 a6 a7 a8 a9 a10 : Int) (a11 : List Int) (a12 : Int) (a13 : List Bool) (a14 : Bool) : List (PV U) := YtobfemcobakeoaaGreatEv.start C 27 [.agg [.sl 167 a0, .sl 3 a1, .sl 3 a2, .int .i64 a3, .int .i64 a4, .int .i64 a5, .int .i64 a6, .int .i64 a7, .int .i64 a8, .int .i64 a9, .int .i64 a10, .sl 3 a11, .int .i64 a12], .sl 4 a13, .bool a14] []
abbrev X := Empty
def id : X → Nat := fun _ => 0
def st : X → List (PV U) := fun _ => []
def begin (a0 : List S166) (a1 a2 : List Int) (a3 a4 a5 a6 a7 a8 a9 a10 : Int) (a11 : List Int) (a12 : Int) (a13 : List Bool) (a14 : Bool) : Tr X A :=
 .call (impl_copyNode.told a0 a1 a2 a3 a4 a5 a6 a7 a8 a9 a10 a11 a12) fun t1 => .call (impl_NodeOk.told a0 a1 a2 a3 a4 a5 a6 a7 a8 a9 a10 a11 a12) fun t2 => .ite (!t2)
  (.ret (t1.1, t1.2.1, t1.2.2.1, t1.2.2.2.1, t1.2.2.2.2.1, t1.2.2.2.2.2.1, t1.2.2.2.2.2.2.1, t1.2.2.2.2.2.2.2.1, t1.2.2.2.2.2.2.2.2.1, t1.2.2.2.2.2.2.2.2.2.1, t1.2.2.2.2.2.2.2.2.2.2.1, t1.2.2.2.2.2.2.2.2.2.2.2.1, t1.2.2.2.2.2.2.2.2.2.2.2.2, false))
  (.call (impl_SendRound.told a1 a10 a11 a13 a14) fun t3 => .ret (t1.1, t1.2.1, t1.2.2.1, t1.2.2.2.1, t1.2.2.2.2.1, t1.2.2.2.2.2.1, t1.2.2.2.2.2.2.1, t1.2.2.2.2.2.2.2.1, t1.2.2.2.2.2.2.2.2.1, t1.2.2.2.2.2.2.2.2.2.1, t3.1, t3.2.1, t1.2.2.2.2.2.2.2.2.2.2.2.2, true))
def tree : X → Tr X A := fun _ => .fail
def f (a0 : List S166) (a1 a2 : List Int) (a3 a4 a5 a6 a7 a8 a9 a10 : Int) (a11 : List Int) (a12 : Int) (a13 : List Bool) (a14 : Bool) : Option A := (begin a0 a1 a2 a3 a4 a5 a6 a7 a8 a9 a10 a11 a12 a13 a14).run (lp tree)
def Q : Plan C := { PL with cuts := [], ords := [], weak := [] }
theorem e : CutEq Pg C Q Tryz.f30 0 id st v o tree := fun J K x => by cases x
theorem b (a0 : List S166) (a1 a2 : List Int) (a3 a4 a5 a6 a7 a8 a9 a10 : Int) (a11 : List Int) (a12 : Int) (a13 : List Bool) (a14 : Bool) : BegEq Pg C Q Tryz.f30 0 id st v o (S a0 a1 a2 a3 a4 a5 a6 a7 a8 a9 a10 a11 a12 a13 a14) (begin a0 a1 a2 a3 a4 a5 a6 a7 a8 a9 a10 a11 a12 a13 a14) := fun J K => by kernel_rfl
def told (a0 : List S166) (a1 a2 : List Int) (a3 a4 a5 a6 a7 a8 a9 a10 : Int) (a11 : List Int) (a12 : Int) (a13 : List Bool) (a14 : Bool) : YtobfemcobakeoaaGreatEv.Told A := ⟨f a0 a1 a2 a3 a4 a5 a6 a7 a8 a9 a10 a11 a12 a13 a14, fun r => SoundCall Pg C 30 (S a0 a1 a2 a3 a4 a5 a6 a7 a8 a9 a10 a11 a12 a13 a14) 0 (v r) (o r), fun r h => soundCall_of_tree G mixed Q Tryz.func30 rfl (of_decide_eq_true (by kernel_rfl)) (by rfl) id st v o (fun _ => rfl) tree e (begin a0 a1 a2 a3 a4 a5 a6 a7 a8 a9 a10 a11 a12 a13 a14) (b a0 a1 a2 a3 a4 a5 a6 a7 a8 a9 a10 a11 a12 a13 a14) h⟩
end impl_Uplink
/-! #### loop.example/g00983/laws.eqExpr (152) -/
namespace laws_eqExpr
def S (a0 a1 a2 a3 a4 a5 : Int) : List (PV U) := YtobfemcobakeoaaGreatEv.start C 20 [.agg [.int .i64 a0, .int .i64 a1, .int .i64 a2], .agg [.int .i64 a3, .int .i64 a4, .int .i64 a5]] []
abbrev X := Empty
def id : X → Nat := fun _ => 0
def st : X → List (PV U) := fun _ => []
def begin (a0 a1 a2 a3 a4 a5 : Int) : Tr X A :=
 .ite (!decide (a0 = a3))
  (.ret false)
  (.ite (!decide (a1 = a4))
   (.ret false)
   (.ite (!decide (a2 = a5))
    (.ret false)
    (.ret true)))
def tree : X → Tr X A := fun _ => .fail
def f (a0 a1 a2 a3 a4 a5 : Int) : Option A := (begin a0 a1 a2 a3 a4 a5).run (lp tree)
def Q : Plan C := { PL with cuts := [], ords := [], weak := [] }
theorem e : CutEq Pg C Q Tryz.f152 0 id st v o tree := fun J K x => by cases x
theorem b (a0 a1 a2 a3 a4 a5 : Int) : BegEq Pg C Q Tryz.f152 0 id st v o (S a0 a1 a2 a3 a4 a5) (begin a0 a1 a2 a3 a4 a5) := fun J K => by kernel_rfl
def told (a0 a1 a2 a3 a4 a5 : Int) : YtobfemcobakeoaaGreatEv.Told A := ⟨f a0 a1 a2 a3 a4 a5, fun r => SoundCall Pg C 152 (S a0 a1 a2 a3 a4 a5) 0 (v r) (o r), fun r h => soundCall_of_tree G mixed Q Tryz.func152 rfl (of_decide_eq_true (by kernel_rfl)) (by rfl) id st v o (fun _ => rfl) tree e (begin a0 a1 a2 a3 a4 a5) (b a0 a1 a2 a3 a4 a5) h⟩
end laws_eqExpr
/-! #### loop.example/g00983/laws.eqStmt (228) -/
namespace laws_eqStmt
def S (a0 a1 a2 a3 a4 a5 a6 a7 a8 a9 a10 a11 : Int) : List (PV U) := YtobfemcobakeoaaGreatEv.start C 26 [.agg [.int .i64 a0, .int .i64 a1, .int .i64 a2, .int .i64 a3, .int .i64 a4, .int .i64 a5], .agg [.int .i64 a6, .int .i64 a7, .int .i64 a8, .int .i64 a9, .int .i64 a10, .int .i64 a11]] []
abbrev X := Empty
def id : X → Nat := fun _ => 0
def st : X → List (PV U) := fun _ => []
def begin (a0 a1 a2 a3 a4 a5 a6 a7 a8 a9 a10 a11 : Int) : Tr X A :=
 .ite (!decide (a0 = a6))
  (.ret false)
  (.ite (!decide (a1 = a7))
   (.ret false)
   (.ite (!decide (a2 = a8))
    (.ret false)
    (.call (laws_eqExpr.told a3 a4 a5 a9 a10 a11) fun t1 => .ite (!t1)
     (.ret false)
     (.ret true))))
def tree : X → Tr X A := fun _ => .fail
def f (a0 a1 a2 a3 a4 a5 a6 a7 a8 a9 a10 a11 : Int) : Option A := (begin a0 a1 a2 a3 a4 a5 a6 a7 a8 a9 a10 a11).run (lp tree)
def Q : Plan C := { PL with cuts := [], ords := [], weak := [] }
theorem e : CutEq Pg C Q Tryz.f228 0 id st v o tree := fun J K x => by cases x
theorem b (a0 a1 a2 a3 a4 a5 a6 a7 a8 a9 a10 a11 : Int) : BegEq Pg C Q Tryz.f228 0 id st v o (S a0 a1 a2 a3 a4 a5 a6 a7 a8 a9 a10 a11) (begin a0 a1 a2 a3 a4 a5 a6 a7 a8 a9 a10 a11) := fun J K => by kernel_rfl
def told (a0 a1 a2 a3 a4 a5 a6 a7 a8 a9 a10 a11 : Int) : YtobfemcobakeoaaGreatEv.Told A := ⟨f a0 a1 a2 a3 a4 a5 a6 a7 a8 a9 a10 a11, fun r => SoundCall Pg C 228 (S a0 a1 a2 a3 a4 a5 a6 a7 a8 a9 a10 a11) 0 (v r) (o r), fun r h => soundCall_of_tree G mixed Q Tryz.func228 rfl (of_decide_eq_true (by kernel_rfl)) (by rfl) id st v o (fun _ => rfl) tree e (begin a0 a1 a2 a3 a4 a5 a6 a7 a8 a9 a10 a11) (b a0 a1 a2 a3 a4 a5 a6 a7 a8 a9 a10 a11) h⟩
end laws_eqStmt
/-! #### loop.example/g00983/laws.eqStmtS (206) -/
namespace laws_eqStmtS
def S (a0 a1 : List S210) : List (PV U) := YtobfemcobakeoaaGreatEv.start C 27 [.sl 211 a0, .sl 211 a1] []
inductive X where
 | c4 (x0 x1 : List S210) (x2 : Int)
def id : X → Nat
 | .c4 .. => 4
def st : X → List (PV U)
 | .c4 x0 x1 x2 => stOf 27 [(0, .sl 211 x0), (1, .sl 211 x1), (5, .int .i64 x2)]
def begin (a0 a1 : List S210) : Tr X A :=
 .ite (!decide ((List.length a0 : Int) = (List.length a1 : Int)))
  (.ret false)
  (.jump (.c4 a0 a1 (0 : Int)))
def tree : X → Tr X A
 | .c4 x0 x1 x2 =>
 .ite (decide (x2 < (List.length x0 : Int)))
  (.need ((0 : Int) ≤ x2 ∧ x2 < (List.length x0 : Int)) (.need ((0 : Int) ≤ x2 ∧ x2 < (List.length x1 : Int)) (.last (.call (laws_eqStmt.told ((rdS210 x0 x2).f0) ((rdS210 x0 x2).f1) ((rdS210 x0 x2).f2) ((rdS210 x0 x2).f3.f0) ((rdS210 x0 x2).f3.f1) ((rdS210 x0 x2).f3.f2) ((rdS210 x1 x2).f0) ((rdS210 x1 x2).f1) ((rdS210 x1 x2).f2) ((rdS210 x1 x2).f3.f0) ((rdS210 x1 x2).f3.f1) ((rdS210 x1 x2).f3.f2)) fun t1 => .ite (!t1)
   (.ret false)
   (.jump (.c4 x0 x1 (wr (x2 + (1 : Int)))))))))
  (.ret true)
def f (a0 a1 : List S210) : Option A := (begin a0 a1).run (lp tree)
def Q : Plan C := { PL with cuts := [(4, [0, 1, 5])], ords := [(6, [], (.take 0 [] (.take 1 [] (.take 2 [] (.take 4 [] (.take 5 [] (.take 6 [] (.take 3 [0, 1, 2, 4, 5, 6, 7] (.take 7 [0, 1, 2, 3, 4, 5, 6] (.alt 8 (.take 9 [] .done) .nil))))))))))], weak := [] }
theorem e : CutEq Pg C Q Tryz.f206 0 id st v o tree := fun J K x => by cases x <;> kernel_rfl
theorem b (a0 a1 : List S210) : BegEq Pg C Q Tryz.f206 0 id st v o (S a0 a1) (begin a0 a1) := fun J K => by kernel_rfl
def told (a0 a1 : List S210) : YtobfemcobakeoaaGreatEv.Told A := ⟨f a0 a1, fun r => SoundCall Pg C 206 (S a0 a1) 0 (v r) (o r), fun r h => soundCall_of_tree G mixed Q Tryz.func206 rfl (of_decide_eq_true (by kernel_rfl)) (by rfl) id st v o (fun _ => rfl) tree e (begin a0 a1) (b a0 a1) h⟩
end laws_eqStmtS
/-! #### loop.example/g00983/laws.eqTask (151) -/
namespace laws_eqTask
def S (a0 : List S210) (a1 a2 a3 : Int) (a4 : List S210) (a5 a6 a7 : Int) : List (PV U) := YtobfemcobakeoaaGreatEv.start C 17 [.agg [.sl 211 a0, .int .i64 a1, .int .i64 a2, .int .i64 a3], .agg [.sl 211 a4, .int .i64 a5, .int .i64 a6, .int .i64 a7]] []
abbrev X := Empty
def id : X → Nat := fun _ => 0
def st : X → List (PV U) := fun _ => []
def begin (a0 : List S210) (a1 a2 a3 : Int) (a4 : List S210) (a5 a6 a7 : Int) : Tr X A :=
 .call (laws_eqStmtS.told a0 a4) fun t1 => .ite (!t1)
  (.ret false)
  (.call (laws_eqExpr.told a1 a2 a3 a5 a6 a7) fun t2 => .ite (!t2)
   (.ret false)
   (.ret true))
def tree : X → Tr X A := fun _ => .fail
def f (a0 : List S210) (a1 a2 a3 : Int) (a4 : List S210) (a5 a6 a7 : Int) : Option A := (begin a0 a1 a2 a3 a4 a5 a6 a7).run (lp tree)
def Q : Plan C := { PL with cuts := [], ords := [], weak := [] }
theorem e : CutEq Pg C Q Tryz.f151 0 id st v o tree := fun J K x => by cases x
theorem b (a0 : List S210) (a1 a2 a3 : Int) (a4 : List S210) (a5 a6 a7 : Int) : BegEq Pg C Q Tryz.f151 0 id st v o (S a0 a1 a2 a3 a4 a5 a6 a7) (begin a0 a1 a2 a3 a4 a5 a6 a7) := fun J K => by kernel_rfl
def told (a0 : List S210) (a1 a2 a3 : Int) (a4 : List S210) (a5 a6 a7 : Int) : YtobfemcobakeoaaGreatEv.Told A := ⟨f a0 a1 a2 a3 a4 a5 a6 a7, fun r => SoundCall Pg C 151 (S a0 a1 a2 a3 a4 a5 a6 a7) 0 (v r) (o r), fun r h => soundCall_of_tree G mixed Q Tryz.func151 rfl (of_decide_eq_true (by kernel_rfl)) (by rfl) id st v o (fun _ => rfl) tree e (begin a0 a1 a2 a3 a4 a5 a6 a7) (b a0 a1 a2 a3 a4 a5 a6 a7) h⟩
end laws_eqTask
/-! #### loop.example/g00983/laws.eqTaskS (79) -/
namespace laws_eqTaskS
def S (a0 a1 : List S166) : List (PV U) := YtobfemcobakeoaaGreatEv.start C 27 [.sl 167 a0, .sl 167 a1] []
inductive X where
 | c4 (x0 x1 : List S166) (x2 : Int)
def id : X → Nat
 | .c4 .. => 4
def st : X → List (PV U)
 | .c4 x0 x1 x2 => stOf 27 [(0, .sl 167 x0), (1, .sl 167 x1), (5, .int .i64 x2)]
def begin (a0 a1 : List S166) : Tr X A :=
 .ite (!decide ((List.length a0 : Int) = (List.length a1 : Int)))
  (.ret false)
  (.jump (.c4 a0 a1 (0 : Int)))
def tree : X → Tr X A
 | .c4 x0 x1 x2 =>
 .ite (decide (x2 < (List.length x0 : Int)))
  (.need ((0 : Int) ≤ x2 ∧ x2 < (List.length x0 : Int)) (.need ((0 : Int) ≤ x2 ∧ x2 < (List.length x1 : Int)) (.last (.call (laws_eqTask.told ((rdS166 x0 x2).f0) ((rdS166 x0 x2).f1.f0) ((rdS166 x0 x2).f1.f1) ((rdS166 x0 x2).f1.f2) ((rdS166 x1 x2).f0) ((rdS166 x1 x2).f1.f0) ((rdS166 x1 x2).f1.f1) ((rdS166 x1 x2).f1.f2)) fun t1 => .ite (!t1)
   (.ret false)
   (.jump (.c4 x0 x1 (wr (x2 + (1 : Int)))))))))
  (.ret true)
def f (a0 a1 : List S166) : Option A := (begin a0 a1).run (lp tree)
def Q : Plan C := { PL with cuts := [(4, [0, 1, 5])], ords := [(6, [], (.take 0 [] (.take 1 [] (.take 2 [] (.take 4 [] (.take 5 [] (.take 6 [] (.take 3 [0, 1, 2, 4, 5, 6, 7] (.take 7 [0, 1, 2, 3, 4, 5, 6] (.alt 8 (.take 9 [] .done) .nil))))))))))], weak := [] }
theorem e : CutEq Pg C Q Tryz.f79 0 id st v o tree := fun J K x => by cases x <;> kernel_rfl
theorem b (a0 a1 : List S166) : BegEq Pg C Q Tryz.f79 0 id st v o (S a0 a1) (begin a0 a1) := fun J K => by kernel_rfl
def told (a0 a1 : List S166) : YtobfemcobakeoaaGreatEv.Told A := ⟨f a0 a1, fun r => SoundCall Pg C 79 (S a0 a1) 0 (v r) (o r), fun r h => soundCall_of_tree G mixed Q Tryz.func79 rfl (of_decide_eq_true (by kernel_rfl)) (by rfl) id st v o (fun _ => rfl) tree e (begin a0 a1) (b a0 a1) h⟩
end laws_eqTaskS
/-! #### loop.example/g00983/laws.eqProgram (20) -/
namespace laws_eqProgram
def S (a0 a1 : List S166) : List (PV U) := YtobfemcobakeoaaGreatEv.start C 11 [.agg [.sl 167 a0], .agg [.sl 167 a1]] []
abbrev X := Empty
def id : X → Nat := fun _ => 0
def st : X → List (PV U) := fun _ => []
def begin (a0 a1 : List S166) : Tr X A :=
 .call (laws_eqTaskS.told a0 a1) fun t1 => .ite (!t1)
  (.ret false)
  (.ret true)
def tree : X → Tr X A := fun _ => .fail
def f (a0 a1 : List S166) : Option A := (begin a0 a1).run (lp tree)
def Q : Plan C := { PL with cuts := [], ords := [], weak := [] }
theorem e : CutEq Pg C Q Tryz.f20 0 id st v o tree := fun J K x => by cases x
theorem b (a0 a1 : List S166) : BegEq Pg C Q Tryz.f20 0 id st v o (S a0 a1) (begin a0 a1) := fun J K => by kernel_rfl
def told (a0 a1 : List S166) : YtobfemcobakeoaaGreatEv.Told A := ⟨f a0 a1, fun r => SoundCall Pg C 20 (S a0 a1) 0 (v r) (o r), fun r h => soundCall_of_tree G mixed Q Tryz.func20 rfl (of_decide_eq_true (by kernel_rfl)) (by rfl) id st v o (fun _ => rfl) tree e (begin a0 a1) (b a0 a1) h⟩
end laws_eqProgram
/-! #### loop.example/g00983/laws.eqIntS (19) -/
namespace laws_eqIntS
def S (a0 a1 : List Int) : List (PV U) := YtobfemcobakeoaaGreatEv.start C 26 [.sl 3 a0, .sl 3 a1] []
inductive X where
 | c4 (x0 x1 : List Int) (x2 : Int)
def id : X → Nat
 | .c4 .. => 4
def st : X → List (PV U)
 | .c4 x0 x1 x2 => stOf 26 [(0, .sl 3 x0), (1, .sl 3 x1), (5, .int .i64 x2)]
def begin (a0 a1 : List Int) : Tr X A :=
 .ite (!decide ((List.length a0 : Int) = (List.length a1 : Int)))
  (.ret false)
  (.jump (.c4 a0 a1 (0 : Int)))
def tree : X → Tr X A
 | .c4 x0 x1 x2 =>
 .ite (decide (x2 < (List.length x0 : Int)))
  (.need ((0 : Int) ≤ x2 ∧ x2 < (List.length x0 : Int)) (.need ((0 : Int) ≤ x2 ∧ x2 < (List.length x1 : Int)) (.ite (!decide ((rdI x0 x2) = (rdI x1 x2)))
   (.ret false)
   (.jump (.c4 x0 x1 (wr (x2 + (1 : Int))))))))
  (.ret true)
def f (a0 a1 : List Int) : Option A := (begin a0 a1).run (lp tree)
def Q : Plan C := { PL with cuts := [(4, [0, 1, 5])], ords := [(6, [], (.take 0 [] (.take 1 [] (.take 2 [] (.take 4 [] (.take 5 [] (.take 6 [] (.take 3 [0, 1, 2, 4, 5, 6, 7] (.take 7 [0, 1, 2, 3, 4, 5, 6] (.take 8 [] .done))))))))))], weak := [] }
theorem e : CutEq Pg C Q Tryz.f19 0 id st v o tree := fun J K x => by cases x <;> kernel_rfl
theorem b (a0 a1 : List Int) : BegEq Pg C Q Tryz.f19 0 id st v o (S a0 a1) (begin a0 a1) := fun J K => by kernel_rfl
def told (a0 a1 : List Int) : YtobfemcobakeoaaGreatEv.Told A := ⟨f a0 a1, fun r => SoundCall Pg C 19 (S a0 a1) 0 (v r) (o r), fun r h => soundCall_of_tree G mixed Q Tryz.func19 rfl (of_decide_eq_true (by kernel_rfl)) (by rfl) id st v o (fun _ => rfl) tree e (begin a0 a1) (b a0 a1) h⟩
end laws_eqIntS
/-! #### loop.example/g00983/laws.eqStore (93) -/
namespace laws_eqStore
def S (a0 a1 a2 a3 a4 a5 a6 a7 : Int) : List (PV U) := YtobfemcobakeoaaGreatEv.start C 25 [.agg [.int .i64 a0, .int .i64 a1, .int .i64 a2, .int .i64 a3], .agg [.int .i64 a4, .int .i64 a5, .int .i64 a6, .int .i64 a7]] []
abbrev X := Empty
def id : X → Nat := fun _ => 0
def st : X → List (PV U) := fun _ => []
def begin (a0 a1 a2 a3 a4 a5 a6 a7 : Int) : Tr X A :=
 .ite (!decide (a0 = a4))
  (.ret false)
  (.ite (!decide (a1 = a5))
   (.ret false)
   (.ite (!decide (a2 = a6))
    (.ret false)
    (.ite (!decide (a3 = a7))
     (.ret false)
     (.ret true))))
def tree : X → Tr X A := fun _ => .fail
def f (a0 a1 a2 a3 a4 a5 a6 a7 : Int) : Option A := (begin a0 a1 a2 a3 a4 a5 a6 a7).run (lp tree)
def Q : Plan C := { PL with cuts := [], ords := [], weak := [] }
theorem e : CutEq Pg C Q Tryz.f93 0 id st v o tree := fun J K x => by cases x
theorem b (a0 a1 a2 a3 a4 a5 a6 a7 : Int) : BegEq Pg C Q Tryz.f93 0 id st v o (S a0 a1 a2 a3 a4 a5 a6 a7) (begin a0 a1 a2 a3 a4 a5 a6 a7) := fun J K => by kernel_rfl
def told (a0 a1 a2 a3 a4 a5 a6 a7 : Int) : YtobfemcobakeoaaGreatEv.Told A := ⟨f a0 a1 a2 a3 a4 a5 a6 a7, fun r => SoundCall Pg C 93 (S a0 a1 a2 a3 a4 a5 a6 a7) 0 (v r) (o r), fun r h => soundCall_of_tree G mixed Q Tryz.func93 rfl (of_decide_eq_true (by kernel_rfl)) (by rfl) id st v o (fun _ => rfl) tree e (begin a0 a1 a2 a3 a4 a5 a6 a7) (b a0 a1 a2 a3 a4 a5 a6 a7) h⟩
end laws_eqStore
/-! #### loop.example/g00983/laws.eqSpan (94) -/
namespace laws_eqSpan
def S (a0 a1 a2 a3 : Int) : List (PV U) := YtobfemcobakeoaaGreatEv.start C 15 [.agg [.int .i64 a0, .int .i64 a1], .agg [.int .i64 a2, .int .i64 a3]] []
abbrev X := Empty
def id : X → Nat := fun _ => 0
def st : X → List (PV U) := fun _ => []
def begin (a0 a1 a2 a3 : Int) : Tr X A :=
 .ite (!decide (a0 = a2))
  (.ret false)
  (.ite (!decide (a1 = a3))
   (.ret false)
   (.ret true))
def tree : X → Tr X A := fun _ => .fail
def f (a0 a1 a2 a3 : Int) : Option A := (begin a0 a1 a2 a3).run (lp tree)
def Q : Plan C := { PL with cuts := [], ords := [], weak := [] }
theorem e : CutEq Pg C Q Tryz.f94 0 id st v o tree := fun J K x => by cases x
theorem b (a0 a1 a2 a3 : Int) : BegEq Pg C Q Tryz.f94 0 id st v o (S a0 a1 a2 a3) (begin a0 a1 a2 a3) := fun J K => by kernel_rfl
def told (a0 a1 a2 a3 : Int) : YtobfemcobakeoaaGreatEv.Told A := ⟨f a0 a1 a2 a3, fun r => SoundCall Pg C 94 (S a0 a1 a2 a3) 0 (v r) (o r), fun r h => soundCall_of_tree G mixed Q Tryz.func94 rfl (of_decide_eq_true (by kernel_rfl)) (by rfl) id st v o (fun _ => rfl) tree e (begin a0 a1 a2 a3) (b a0 a1 a2 a3) h⟩
end laws_eqSpan
/-! #### loop.example/g00983/laws.eqGateway (166) -/
namespace laws_eqGateway
def S (a0 a1 : List Int) : List (PV U) := YtobfemcobakeoaaGreatEv.start C 11 [.agg [.sl 3 a0], .agg [.sl 3 a1]] []
abbrev X := Empty
def id : X → Nat := fun _ => 0
def st : X → List (PV U) := fun _ => []
def begin (a0 a1 : List Int) : Tr X A :=
 .call (laws_eqIntS.told a0 a1) fun t1 => .ite (!t1)
  (.ret false)
  (.ret true)
def tree : X → Tr X A := fun _ => .fail
def f (a0 a1 : List Int) : Option A := (begin a0 a1).run (lp tree)
def Q : Plan C := { PL with cuts := [], ords := [], weak := [] }
theorem e : CutEq Pg C Q Tryz.f166 0 id st v o tree := fun J K x => by cases x
theorem b (a0 a1 : List Int) : BegEq Pg C Q Tryz.f166 0 id st v o (S a0 a1) (begin a0 a1) := fun J K => by kernel_rfl
def told (a0 a1 : List Int) : YtobfemcobakeoaaGreatEv.Told A := ⟨f a0 a1, fun r => SoundCall Pg C 166 (S a0 a1) 0 (v r) (o r), fun r h => soundCall_of_tree G mixed Q Tryz.func166 rfl (of_decide_eq_true (by kernel_rfl)) (by rfl) id st v o (fun _ => rfl) tree e (begin a0 a1) (b a0 a1) h⟩
end laws_eqGateway
/-! #### loop.example/g00983/laws.eqLink (95) -/
namespace laws_eqLink
def S (a0 : Int) (a1 : List Int) (a2 : Int) (a3 : List Int) : List (PV U) := YtobfemcobakeoaaGreatEv.start C 16 [.agg [.int .i64 a0, .sl 3 a1], .agg [.int .i64 a2, .sl 3 a3]] []
abbrev X := Empty
def id : X → Nat := fun _ => 0
def st : X → List (PV U) := fun _ => []
def begin (a0 : Int) (a1 : List Int) (a2 : Int) (a3 : List Int) : Tr X A :=
 .ite (!decide (a0 = a2))
  (.ret false)
  (.call (laws_eqGateway.told a1 a3) fun t1 => .ite (!t1)
   (.ret false)
   (.ret true))
def tree : X → Tr X A := fun _ => .fail
def f (a0 : Int) (a1 : List Int) (a2 : Int) (a3 : List Int) : Option A := (begin a0 a1 a2 a3).run (lp tree)
def Q : Plan C := { PL with cuts := [], ords := [], weak := [] }
theorem e : CutEq Pg C Q Tryz.f95 0 id st v o tree := fun J K x => by cases x
theorem b (a0 : Int) (a1 : List Int) (a2 : Int) (a3 : List Int) : BegEq Pg C Q Tryz.f95 0 id st v o (S a0 a1 a2 a3) (begin a0 a1 a2 a3) := fun J K => by kernel_rfl
def told (a0 : Int) (a1 : List Int) (a2 : Int) (a3 : List Int) : YtobfemcobakeoaaGreatEv.Told A := ⟨f a0 a1 a2 a3, fun r => SoundCall Pg C 95 (S a0 a1 a2 a3) 0 (v r) (o r), fun r h => soundCall_of_tree G mixed Q Tryz.func95 rfl (of_decide_eq_true (by kernel_rfl)) (by rfl) id st v o (fun _ => rfl) tree e (begin a0 a1 a2 a3) (b a0 a1 a2 a3) h⟩
end laws_eqLink
/-! #### loop.example/g00983/laws.eqNode (31) -/
namespace laws_eqNode
def S (a0 : List S166) (a1 a2 : List Int) (a3 a4 a5 a6 a7 a8 a9 a10 : Int) (a11 : List Int) (a12 : Int) (a13 : List S166) (a14 a15 : List Int) (a16 a17 a18 a19 a20 a21 a22 a23 : Int) (a24 : List Int) (a25 : Int) : List (PV U) := YtobfemcobakeoaaGreatEv.start C 51 [.agg [.sl 167 a0, .sl 3 a1, .sl 3 a2, .int .i64 a3, .int .i64 a4, .int .i64 a5, .int .i64 a6, .int .i64 a7, .int .i64 a8, .int .i64 a9, .int .i64 a10, .sl 3 a11, .int .i64 a12], .agg [.sl 167 a13, .sl 3 a14, .sl 3 a15, .int .i64 a16, .int .i64 a17, .int .i64 a18, .int .i64 a19, .int .i64 a20, .int .i64 a21, .int .i64 a22, .int .i64 a23, .sl 3 a24, .int .i64 a25]] []
abbrev X := Empty
def id : X → Nat := fun _ => 0
def st : X → List (PV U) := fun _ => []
def begin (a0 : List S166) (a1 a2 : List Int) (a3 a4 a5 a6 a7 a8 a9 a10 : Int) (a11 : List Int) (a12 : Int) (a13 : List S166) (a14 a15 : List Int) (a16 a17 a18 a19 a20 a21 a22 a23 : Int) (a24 : List Int) (a25 : Int) : Tr X A :=
 .call (laws_eqProgram.told a0 a13) fun t1 => .ite (!t1)
  (.ret false)
  (.call (laws_eqIntS.told a1 a14) fun t2 => .ite (!t2)
   (.ret false)
   (.call (laws_eqIntS.told a2 a15) fun t3 => .ite (!t3)
    (.ret false)
    (.ite (!decide (a3 = a16))
     (.ret false)
     (.call (laws_eqStore.told a4 a5 a6 a7 a17 a18 a19 a20) fun t4 => .ite (!t4)
      (.ret false)
      (.call (laws_eqSpan.told a8 a9 a21 a22) fun t5 => .ite (!t5)
       (.ret false)
       (.call (laws_eqLink.told a10 a11 a23 a24) fun t6 => .ite (!t6)
        (.ret false)
        (.ite (!decide (a12 = a25))
         (.ret false)
         (.ret true))))))))
def tree : X → Tr X A := fun _ => .fail
def f (a0 : List S166) (a1 a2 : List Int) (a3 a4 a5 a6 a7 a8 a9 a10 : Int) (a11 : List Int) (a12 : Int) (a13 : List S166) (a14 a15 : List Int) (a16 a17 a18 a19 a20 a21 a22 a23 : Int) (a24 : List Int) (a25 : Int) : Option A := (begin a0 a1 a2 a3 a4 a5 a6 a7 a8 a9 a10 a11 a12 a13 a14 a15 a16 a17 a18 a19 a20 a21 a22 a23 a24 a25).run (lp tree)
def Q : Plan C := { PL with cuts := [], ords := [], weak := [] }
theorem e : CutEq Pg C Q Tryz.f31 0 id st v o tree := fun J K x => by cases x
theorem b (a0 : List S166) (a1 a2 : List Int) (a3 a4 a5 a6 a7 a8 a9 a10 : Int) (a11 : List Int) (a12 : Int) (a13 : List S166) (a14 a15 : List Int) (a16 a17 a18 a19 a20 a21 a22 a23 : Int) (a24 : List Int) (a25 : Int) : BegEq Pg C Q Tryz.f31 0 id st v o (S a0 a1 a2 a3 a4 a5 a6 a7 a8 a9 a10 a11 a12 a13 a14 a15 a16 a17 a18 a19 a20 a21 a22 a23 a24 a25) (begin a0 a1 a2 a3 a4 a5 a6 a7 a8 a9 a10 a11 a12 a13 a14 a15 a16 a17 a18 a19 a20 a21 a22 a23 a24 a25) := fun J K => by kernel_rfl
def told (a0 : List S166) (a1 a2 : List Int) (a3 a4 a5 a6 a7 a8 a9 a10 : Int) (a11 : List Int) (a12 : Int) (a13 : List S166) (a14 a15 : List Int) (a16 a17 a18 a19 a20 a21 a22 a23 : Int) (a24 : List Int) (a25 : Int) : YtobfemcobakeoaaGreatEv.Told A := ⟨f a0 a1 a2 a3 a4 a5 a6 a7 a8 a9 a10 a11 a12 a13 a14 a15 a16 a17 a18 a19 a20 a21 a22 a23 a24 a25, fun r => SoundCall Pg C 31 (S a0 a1 a2 a3 a4 a5 a6 a7 a8 a9 a10 a11 a12 a13 a14 a15 a16 a17 a18 a19 a20 a21 a22 a23 a24 a25) 0 (v r) (o r), fun r h => soundCall_of_tree G mixed Q Tryz.func31 rfl (of_decide_eq_true (by kernel_rfl)) (by rfl) id st v o (fun _ => rfl) tree e (begin a0 a1 a2 a3 a4 a5 a6 a7 a8 a9 a10 a11 a12 a13 a14 a15 a16 a17 a18 a19 a20 a21 a22 a23 a24 a25) (b a0 a1 a2 a3 a4 a5 a6 a7 a8 a9 a10 a11 a12 a13 a14 a15 a16 a17 a18 a19 a20 a21 a22 a23 a24 a25) h⟩
end laws_eqNode
/-! #### loop.example/g00983/laws.eqBoolS (32) -/
namespace laws_eqBoolS
def S (a0 a1 : List Bool) : List (PV U) := YtobfemcobakeoaaGreatEv.start C 26 [.sl 4 a0, .sl 4 a1] []
inductive X where
 | c4 (x0 x1 : List Bool) (x2 : Int)
def id : X → Nat
 | .c4 .. => 4
def st : X → List (PV U)
 | .c4 x0 x1 x2 => stOf 26 [(0, .sl 4 x0), (1, .sl 4 x1), (5, .int .i64 x2)]
def begin (a0 a1 : List Bool) : Tr X A :=
 .ite (!decide ((List.length a0 : Int) = (List.length a1 : Int)))
  (.ret false)
  (.jump (.c4 a0 a1 (0 : Int)))
def tree : X → Tr X A
 | .c4 x0 x1 x2 =>
 .ite (decide (x2 < (List.length x0 : Int)))
  (.need ((0 : Int) ≤ x2 ∧ x2 < (List.length x0 : Int)) (.need ((0 : Int) ≤ x2 ∧ x2 < (List.length x1 : Int)) (.last (.ite ((rdB x0 x2) != (rdB x1 x2))
   (.ret false)
   (.jump (.c4 x0 x1 (wr (x2 + (1 : Int)))))))))
  (.ret true)
def f (a0 a1 : List Bool) : Option A := (begin a0 a1).run (lp tree)
def Q : Plan C := { PL with cuts := [(4, [0, 1, 5])], ords := [(6, [], (.take 0 [] (.take 1 [] (.take 2 [] (.take 4 [] (.take 5 [] (.take 6 [] (.take 3 [0, 1, 2, 4, 5, 6, 7] (.take 7 [0, 1, 2, 3, 4, 5, 6] (.alt 8 .done .nil))))))))))], weak := [] }
theorem e : CutEq Pg C Q Tryz.f32 0 id st v o tree := fun J K x => by cases x <;> kernel_rfl
theorem b (a0 a1 : List Bool) : BegEq Pg C Q Tryz.f32 0 id st v o (S a0 a1) (begin a0 a1) := fun J K => by kernel_rfl
def told (a0 a1 : List Bool) : YtobfemcobakeoaaGreatEv.Told A := ⟨f a0 a1, fun r => SoundCall Pg C 32 (S a0 a1) 0 (v r) (o r), fun r h => soundCall_of_tree G mixed Q Tryz.func32 rfl (of_decide_eq_true (by kernel_rfl)) (by rfl) id st v o (fun _ => rfl) tree e (begin a0 a1) (b a0 a1) h⟩
end laws_eqBoolS
/-! #### loop.example/g00983/laws.markStmtS (153) -/
namespace laws_markStmtS
def S (a0 : Int) (a1 : List S210) : List (PV U) := YtobfemcobakeoaaGreatEv.start C 58 [.ali (58, []), .int .i64 a0] [.own true 211 a1]
inductive X where
 | c2 (x0 x1 : Int) (x2 : List S210)
def id : X → Nat
 | .c2 .. => 2
def st : X → List (PV U)
 | .c2 x0 x1 x2 => stOf 59 [(0, .ali (58, [])), (1, .int .i64 x0), (5, .int .i64 x1), (58, .own true 211 x2)]
def begin (a0 : Int) (a1 : List S210) : Tr X A :=
 .jump (.c2 a0 (0 : Int) a1)
def tree : X → Tr X A
 | .c2 x0 x1 x2 =>
 .ite (decide (x1 < (List.length x2 : Int)))
  (.need ((0 : Int) ≤ x1 ∧ x1 < (List.length x2 : Int)) (.val ((List.set x2 (Int.toNat x1) (⟨x0, (rdS210 x2 x1).f1, (rdS210 x2 x1).f2, (⟨(rdS210 x2 x1).f3.f0, (rdS210 x2 x1).f3.f1, (rdS210 x2 x1).f3.f2⟩ : S153)⟩ : S210)) : List S210) fun v1 => .need ((0 : Int) ≤ x1 ∧ x1 < (List.length v1 : Int)) (.val ((List.set v1 (Int.toNat x1) (⟨(rdS210 v1 x1).f0, (wr (x0 + (1 : Int))), (rdS210 v1 x1).f2, (⟨(rdS210 v1 x1).f3.f0, (rdS210 v1 x1).f3.f1, (rdS210 v1 x1).f3.f2⟩ : S153)⟩ : S210)) : List S210) fun v2 => .need ((0 : Int) ≤ x1 ∧ x1 < (List.length v2 : Int)) (.val ((List.set v2 (Int.toNat x1) (⟨(rdS210 v2 x1).f0, (rdS210 v2 x1).f1, (wr ((wr (x0 + (1 : Int))) + (1 : Int))), (⟨(rdS210 v2 x1).f3.f0, (rdS210 v2 x1).f3.f1, (rdS210 v2 x1).f3.f2⟩ : S153)⟩ : S210)) : List S210) fun v3 => .need ((0 : Int) ≤ x1 ∧ x1 < (List.length v3 : Int)) (.val ((List.set v3 (Int.toNat x1) (⟨(rdS210 v3 x1).f0, (rdS210 v3 x1).f1, (rdS210 v3 x1).f2, (⟨(wr ((wr ((wr (x0 + (1 : Int))) + (1 : Int))) + (1 : Int))), (rdS210 v3 x1).f3.f1, (rdS210 v3 x1).f3.f2⟩ : S153)⟩ : S210)) : List S210) fun v4 => .need ((0 : Int) ≤ x1 ∧ x1 < (List.length v4 : Int)) (.val ((List.set v4 (Int.toNat x1) (⟨(rdS210 v4 x1).f0, (rdS210 v4 x1).f1, (rdS210 v4 x1).f2, (⟨(rdS210 v4 x1).f3.f0, (wr ((wr ((wr ((wr (x0 + (1 : Int))) + (1 : Int))) + (1 : Int))) + (1 : Int))), (rdS210 v4 x1).f3.f2⟩ : S153)⟩ : S210)) : List S210) fun v5 => .val ((wr ((wr ((wr ((wr ((wr (x0 + (1 : Int))) + (1 : Int))) + (1 : Int))) + (1 : Int))) + (1 : Int))) : Int) fun v6 => .need ((0 : Int) ≤ x1 ∧ x1 < (List.length v5 : Int)) (.val ((List.set v5 (Int.toNat x1) (⟨(rdS210 v5 x1).f0, (rdS210 v5 x1).f1, (rdS210 v5 x1).f2, (⟨(rdS210 v5 x1).f3.f0, (rdS210 v5 x1).f3.f1, v6⟩ : S153)⟩ : S210)) : List S210) fun v7 => .jump (.c2 (wr (v6 + (1 : Int))) (wr (x1 + (1 : Int))) v7))))))))
  (.ret (x0, x2))
def f (a0 : Int) (a1 : List S210) : Option A := (begin a0 a1).run (lp tree)
def Q : Plan C := { PL with cuts := [(2, [0, 1, 5, 58])], ords := [], weak := [] }
theorem e : CutEq Pg C Q Tryz.f153 1 id st v o tree := fun J K x => by cases x <;> kernel_rfl
theorem b (a0 : Int) (a1 : List S210) : BegEq Pg C Q Tryz.f153 1 id st v o (S a0 a1) (begin a0 a1) := fun J K => by kernel_rfl
def told (a0 : Int) (a1 : List S210) : YtobfemcobakeoaaGreatEv.Told A := ⟨f a0 a1, fun r => SoundCall Pg C 153 (S a0 a1) 1 (v r) (o r), fun r h => soundCall_of_tree G mixed Q Tryz.func153 rfl (of_decide_eq_true (by kernel_rfl)) (by rfl) id st v o (fun _ => rfl) tree e (begin a0 a1) (b a0 a1) h⟩
end laws_markStmtS
/-! #### loop.example/g00983/laws.markTaskS (81) -/
namespace laws_markTaskS
def S (a0 : Int) (a1 : List S166) : List (PV U) := YtobfemcobakeoaaGreatEv.start C 44 [.ali (44, []), .int .i64 a0] [.own true 167 a1]
inductive X where
 | c2 (x0 x1 : Int) (x2 : List S166)
def id : X → Nat
 | .c2 .. => 2
def st : X → List (PV U)
 | .c2 x0 x1 x2 => stOf 45 [(0, .ali (44, [])), (1, .int .i64 x0), (5, .int .i64 x1), (44, .own true 167 x2)]
def begin (a0 : Int) (a1 : List S166) : Tr X A :=
 .jump (.c2 a0 (0 : Int) a1)
def tree : X → Tr X A
 | .c2 x0 x1 x2 =>
 .ite (decide (x1 < (List.length x2 : Int)))
  (.need ((0 : Int) ≤ x1 ∧ x1 < (List.length x2 : Int)) (.call (laws_markStmtS.told x0 ((rdS166 x2 x1).f0)) fun t1 => .need ((0 : Int) ≤ x1 ∧ x1 < (List.length (List.set x2 (Int.toNat x1) (⟨t1.2, (⟨(rdS166 x2 x1).f1.f0, (rdS166 x2 x1).f1.f1, (rdS166 x2 x1).f1.f2⟩ : S153)⟩ : S166)) : Int)) (.val ((List.set (List.set x2 (Int.toNat x1) (⟨t1.2, (⟨(rdS166 x2 x1).f1.f0, (rdS166 x2 x1).f1.f1, (rdS166 x2 x1).f1.f2⟩ : S153)⟩ : S166)) (Int.toNat x1) (⟨(rdS166 (List.set x2 (Int.toNat x1) (⟨t1.2, (⟨(rdS166 x2 x1).f1.f0, (rdS166 x2 x1).f1.f1, (rdS166 x2 x1).f1.f2⟩ : S153)⟩ : S166)) x1).f0, (⟨t1.1, (rdS166 (List.set x2 (Int.toNat x1) (⟨t1.2, (⟨(rdS166 x2 x1).f1.f0, (rdS166 x2 x1).f1.f1, (rdS166 x2 x1).f1.f2⟩ : S153)⟩ : S166)) x1).f1.f1, (rdS166 (List.set x2 (Int.toNat x1) (⟨t1.2, (⟨(rdS166 x2 x1).f1.f0, (rdS166 x2 x1).f1.f1, (rdS166 x2 x1).f1.f2⟩ : S153)⟩ : S166)) x1).f1.f2⟩ : S153)⟩ : S166)) : List S166) fun v2 => .need ((0 : Int) ≤ x1 ∧ x1 < (List.length v2 : Int)) (.val ((List.set v2 (Int.toNat x1) (⟨(rdS166 v2 x1).f0, (⟨(rdS166 v2 x1).f1.f0, (wr (t1.1 + (1 : Int))), (rdS166 v2 x1).f1.f2⟩ : S153)⟩ : S166)) : List S166) fun v3 => .need ((0 : Int) ≤ x1 ∧ x1 < (List.length v3 : Int)) (.val ((List.set v3 (Int.toNat x1) (⟨(rdS166 v3 x1).f0, (⟨(rdS166 v3 x1).f1.f0, (rdS166 v3 x1).f1.f1, (wr ((wr (t1.1 + (1 : Int))) + (1 : Int)))⟩ : S153)⟩ : S166)) : List S166) fun v4 => .jump (.c2 (wr ((wr ((wr (t1.1 + (1 : Int))) + (1 : Int))) + (1 : Int))) (wr (x1 + (1 : Int))) v4))))))
  (.ret (x0, x2))
def f (a0 : Int) (a1 : List S166) : Option A := (begin a0 a1).run (lp tree)
def Q : Plan C := { PL with cuts := [(2, [0, 1, 5, 44])], ords := [], weak := [] }
theorem e : CutEq Pg C Q Tryz.f81 1 id st v o tree := fun J K x => by cases x <;> kernel_rfl
theorem b (a0 : Int) (a1 : List S166) : BegEq Pg C Q Tryz.f81 1 id st v o (S a0 a1) (begin a0 a1) := fun J K => by kernel_rfl
def told (a0 : Int) (a1 : List S166) : YtobfemcobakeoaaGreatEv.Told A := ⟨f a0 a1, fun r => SoundCall Pg C 81 (S a0 a1) 1 (v r) (o r), fun r h => soundCall_of_tree G mixed Q Tryz.func81 rfl (of_decide_eq_true (by kernel_rfl)) (by rfl) id st v o (fun _ => rfl) tree e (begin a0 a1) (b a0 a1) h⟩
end laws_markTaskS
/-! #### loop.example/g00983/laws.markProgram (22) -/
namespace laws_markProgram
def S (a0 : Int) (a1 : List S166) : List (PV U) := YtobfemcobakeoaaGreatEv.start C 10 [.agg [.ali (10, [])], .int .i64 a0] [.own true 167 a1]
abbrev X := Empty
def id : X → Nat := fun _ => 0
def st : X → List (PV U) := fun _ => []
def begin (a0 : Int) (a1 : List S166) : Tr X A :=
 .call (laws_markTaskS.told a0 a1) fun t1 => .ret (t1.1, t1.2)
def tree : X → Tr X A := fun _ => .fail
def f (a0 : Int) (a1 : List S166) : Option A := (begin a0 a1).run (lp tree)
def Q : Plan C := { PL with cuts := [], ords := [], weak := [] }
theorem e : CutEq Pg C Q Tryz.f22 1 id st v o tree := fun J K x => by cases x
theorem b (a0 : Int) (a1 : List S166) : BegEq Pg C Q Tryz.f22 1 id st v o (S a0 a1) (begin a0 a1) := fun J K => by kernel_rfl
def told (a0 : Int) (a1 : List S166) : YtobfemcobakeoaaGreatEv.Told A := ⟨f a0 a1, fun r => SoundCall Pg C 22 (S a0 a1) 1 (v r) (o r), fun r h => soundCall_of_tree G mixed Q Tryz.func22 rfl (of_decide_eq_true (by kernel_rfl)) (by rfl) id st v o (fun _ => rfl) tree e (begin a0 a1) (b a0 a1) h⟩
end laws_markProgram
/-! #### loop.example/g00983/laws.markIntS (23) -/
namespace laws_markIntS
def S (a0 : Int) (a1 : List Int) : List (PV U) := YtobfemcobakeoaaGreatEv.start C 19 [.ali (19, []), .int .i64 a0] [.own true 3 a1]
inductive X where
 | c2 (x0 x1 : Int) (x2 : List Int)
def id : X → Nat
 | .c2 .. => 2
def st : X → List (PV U)
 | .c2 x0 x1 x2 => stOf 20 [(0, .ali (19, [])), (1, .int .i64 x0), (5, .int .i64 x1), (19, .own true 3 x2)]
def begin (a0 : Int) (a1 : List Int) : Tr X A :=
 .jump (.c2 a0 (0 : Int) a1)
def tree : X → Tr X A
 | .c2 x0 x1 x2 =>
 .ite (decide (x1 < (List.length x2 : Int)))
  (.need ((0 : Int) ≤ x1 ∧ x1 < (List.length x2 : Int)) (.jump (.c2 (wr (x0 + (1 : Int))) (wr (x1 + (1 : Int))) (List.set x2 (Int.toNat x1) x0))))
  (.ret (x0, x2))
def f (a0 : Int) (a1 : List Int) : Option A := (begin a0 a1).run (lp tree)
def Q : Plan C := { PL with cuts := [(2, [0, 1, 5, 19])], ords := [], weak := [] }
theorem e : CutEq Pg C Q Tryz.f23 1 id st v o tree := fun J K x => by cases x <;> kernel_rfl
theorem b (a0 : Int) (a1 : List Int) : BegEq Pg C Q Tryz.f23 1 id st v o (S a0 a1) (begin a0 a1) := fun J K => by kernel_rfl
def told (a0 : Int) (a1 : List Int) : YtobfemcobakeoaaGreatEv.Told A := ⟨f a0 a1, fun r => SoundCall Pg C 23 (S a0 a1) 1 (v r) (o r), fun r h => soundCall_of_tree G mixed Q Tryz.func23 rfl (of_decide_eq_true (by kernel_rfl)) (by rfl) id st v o (fun _ => rfl) tree e (begin a0 a1) (b a0 a1) h⟩
end laws_markIntS
/-! #### loop.example/g00983/laws.markGateway (167) -/
namespace laws_markGateway
def S (a0 : Int) (a1 : List Int) : List (PV U) := YtobfemcobakeoaaGreatEv.start C 10 [.agg [.ali (10, [])], .int .i64 a0] [.own true 3 a1]
abbrev X := Empty
def id : X → Nat := fun _ => 0
def st : X → List (PV U) := fun _ => []
def begin (a0 : Int) (a1 : List Int) : Tr X A :=
 .call (laws_markIntS.told a0 a1) fun t1 => .ret (t1.1, t1.2)
def tree : X → Tr X A := fun _ => .fail
def f (a0 : Int) (a1 : List Int) : Option A := (begin a0 a1).run (lp tree)
def Q : Plan C := { PL with cuts := [], ords := [], weak := [] }
theorem e : CutEq Pg C Q Tryz.f167 1 id st v o tree := fun J K x => by cases x
theorem b (a0 : Int) (a1 : List Int) : BegEq Pg C Q Tryz.f167 1 id st v o (S a0 a1) (begin a0 a1) := fun J K => by kernel_rfl
def told (a0 : Int) (a1 : List Int) : YtobfemcobakeoaaGreatEv.Told A := ⟨f a0 a1, fun r => SoundCall Pg C 167 (S a0 a1) 1 (v r) (o r), fun r h => soundCall_of_tree G mixed Q Tryz.func167 rfl (of_decide_eq_true (by kernel_rfl)) (by rfl) id st v o (fun _ => rfl) tree e (begin a0 a1) (b a0 a1) h⟩
end laws_markGateway
/-! #### loop.example/g00983/laws.markLink (96) -/
namespace laws_markLink
def S (a0 a1 : Int) (a2 : List Int) : List (PV U) := YtobfemcobakeoaaGreatEv.start C 10 [.agg [.int .i64 a0, .ali (10, [])], .int .i64 a1] [.own true 3 a2]
abbrev X := Empty
def id : X → Nat := fun _ => 0
def st : X → List (PV U) := fun _ => []
def begin (a0 a1 : Int) (a2 : List Int) : Tr X A :=
 .call (laws_markGateway.told a1 a2) fun t1 => .ret (t1.1, t1.2)
def tree : X → Tr X A := fun _ => .fail
def f (a0 a1 : Int) (a2 : List Int) : Option A := (begin a0 a1 a2).run (lp tree)
def Q : Plan C := { PL with cuts := [], ords := [], weak := [] }
theorem e : CutEq Pg C Q Tryz.f96 1 id st v o tree := fun J K x => by cases x
theorem b (a0 a1 : Int) (a2 : List Int) : BegEq Pg C Q Tryz.f96 1 id st v o (S a0 a1 a2) (begin a0 a1 a2) := fun J K => by kernel_rfl
def told (a0 a1 : Int) (a2 : List Int) : YtobfemcobakeoaaGreatEv.Told A := ⟨f a0 a1 a2, fun r => SoundCall Pg C 96 (S a0 a1 a2) 1 (v r) (o r), fun r h => soundCall_of_tree G mixed Q Tryz.func96 rfl (of_decide_eq_true (by kernel_rfl)) (by rfl) id st v o (fun _ => rfl) tree e (begin a0 a1 a2) (b a0 a1 a2) h⟩
end laws_markLink
/-! #### loop.example/g00983/laws.markNode (33) -/
namespace laws_markNode
def S (a0 a1 a2 a3 a4 a5 a6 a7 a8 a9 : Int) (a10 : List S166) (a11 a12 a13 : List Int) : List (PV U) := YtobfemcobakeoaaGreatEv.start C 22 [.agg [.ali (22, []), .ali (23, []), .ali (24, []), .int .i64 a0, .int .i64 a1, .int .i64 a2, .int .i64 a3, .int .i64 a4, .int .i64 a5, .int .i64 a6, .int .i64 a7, .ali (25, []), .int .i64 a8], .int .i64 a9] [.own true 167 a10, .own true 3 a11, .own true 3 a12, .own true 3 a13]
abbrev X := Empty
def id : X → Nat := fun _ => 0
def st : X → List (PV U) := fun _ => []
def begin (a0 a1 a2 a3 a4 a5 a6 a7 a8 a9 : Int) (a10 : List S166) (a11 a12 a13 : List Int) : Tr X A :=
 .call (laws_markProgram.told a9 a10) fun t1 => .call (laws_markIntS.told t1.1 a11) fun t2 => .call (laws_markIntS.told t2.1 a12) fun t3 => .call (laws_markLink.told a7 t3.1 a13) fun t4 => .ret (t4.1, t1.2, t2.2, t3.2, t4.2)
def tree : X → Tr X A := fun _ => .fail
def f (a0 a1 a2 a3 a4 a5 a6 a7 a8 a9 : Int) (a10 : List S166) (a11 a12 a13 : List Int) : Option A := (begin a0 a1 a2 a3 a4 a5 a6 a7 a8 a9 a10 a11 a12 a13).run (lp tree)
def Q : Plan C := { PL with cuts := [], ords := [], weak := [] }
theorem e : CutEq Pg C Q Tryz.f33 4 id st v o tree := fun J K x => by cases x
theorem b (a0 a1 a2 a3 a4 a5 a6 a7 a8 a9 : Int) (a10 : List S166) (a11 a12 a13 : List Int) : BegEq Pg C Q Tryz.f33 4 id st v o (S a0 a1 a2 a3 a4 a5 a6 a7 a8 a9 a10 a11 a12 a13) (begin a0 a1 a2 a3 a4 a5 a6 a7 a8 a9 a10 a11 a12 a13) := fun J K => by kernel_rfl
def told (a0 a1 a2 a3 a4 a5 a6 a7 a8 a9 : Int) (a10 : List S166) (a11 a12 a13 : List Int) : YtobfemcobakeoaaGreatEv.Told A := ⟨f a0 a1 a2 a3 a4 a5 a6 a7 a8 a9 a10 a11 a12 a13, fun r => SoundCall Pg C 33 (S a0 a1 a2 a3 a4 a5 a6 a7 a8 a9 a10 a11 a12 a13) 4 (v r) (o r), fun r h => soundCall_of_tree G mixed Q Tryz.func33 rfl (of_decide_eq_true (by kernel_rfl)) (by rfl) id st v o (fun _ => rfl) tree e (begin a0 a1 a2 a3 a4 a5 a6 a7 a8 a9 a10 a11 a12 a13) (b a0 a1 a2 a3 a4 a5 a6 a7 a8 a9 a10 a11 a12 a13) h⟩
end laws_markNode
/-! #### loop.example/g00983/laws.markBoolS (34) -/
namespace laws_markBoolS
def S (a0 : Int) (a1 : List Bool) : List (PV U) := YtobfemcobakeoaaGreatEv.start C 21 [.ali (21, []), .int .i64 a0] [.own true 4 a1]
inductive X where
 | c2 (x0 x1 : Int) (x2 : List Bool)
def id : X → Nat
 | .c2 .. => 2
def st : X → List (PV U)
 | .c2 x0 x1 x2 => stOf 22 [(0, .ali (21, [])), (1, .int .i64 x0), (5, .int .i64 x1), (21, .own true 4 x2)]
def begin (a0 : Int) (a1 : List Bool) : Tr X A :=
 .jump (.c2 a0 (0 : Int) a1)
def tree : X → Tr X A
 | .c2 x0 x1 x2 =>
 .ite (decide (x1 < (List.length x2 : Int)))
  (.need ((3 : Int) ≠ 0) (.need ((0 : Int) ≤ x1 ∧ x1 < (List.length x2 : Int)) (.jump (.c2 (wr (x0 + (1 : Int))) (wr (x1 + (1 : Int))) (List.set x2 (Int.toNat x1) (decide ((Int.tmod x0 (3 : Int)) = (0 : Int))))))))
  (.ret (x0, x2))
def f (a0 : Int) (a1 : List Bool) : Option A := (begin a0 a1).run (lp tree)
def Q : Plan C := { PL with cuts := [(2, [0, 1, 5, 21])], ords := [], weak := [] }
theorem e : CutEq Pg C Q Tryz.f34 1 id st v o tree := fun J K x => by cases x <;> kernel_rfl
theorem b (a0 : Int) (a1 : List Bool) : BegEq Pg C Q Tryz.f34 1 id st v o (S a0 a1) (begin a0 a1) := fun J K => by kernel_rfl
def told (a0 : Int) (a1 : List Bool) : YtobfemcobakeoaaGreatEv.Told A := ⟨f a0 a1, fun r => SoundCall Pg C 34 (S a0 a1) 1 (v r) (o r), fun r h => soundCall_of_tree G mixed Q Tryz.func34 rfl (of_decide_eq_true (by kernel_rfl)) (by rfl) id st v o (fun _ => rfl) tree e (begin a0 a1) (b a0 a1) h⟩
end laws_markBoolS
/-! #### loop.example/g00983/laws.heldStmtS (211) -/
namespace laws_heldStmtS
def S (a0 : List S210) (a1 : Int) : List (PV U) := YtobfemcobakeoaaGreatEv.start C 70 [.sl 211 a0, .int .i64 a1] []
inductive X where
 | c2 (x0 : List S210) (x1 x2 : Int)
def id : X → Nat
 | .c2 .. => 2
def st : X → List (PV U)
 | .c2 x0 x1 x2 => stOf 70 [(0, .sl 211 x0), (1, .int .i64 x1), (5, .int .i64 x2)]
def begin (a0 : List S210) (a1 : Int) : Tr X A :=
 .jump (.c2 a0 a1 (0 : Int))
def tree : X → Tr X A
 | .c2 x0 x1 x2 =>
 .ite (decide (x2 < (List.length x0 : Int)))
  (.need ((0 : Int) ≤ x2 ∧ x2 < (List.length x0 : Int)) (.ite (!decide ((rdS210 x0 x2).f0 = x1))
   (.ret ((-1 : Int)))
   (.need ((0 : Int) ≤ x2 ∧ x2 < (List.length x0 : Int)) (.ite (!decide ((rdS210 x0 x2).f1 = (wr (x1 + (1 : Int)))))
    (.ret ((-1 : Int)))
    (.need ((0 : Int) ≤ x2 ∧ x2 < (List.length x0 : Int)) (.ite (!decide ((rdS210 x0 x2).f2 = (wr ((wr (x1 + (1 : Int))) + (1 : Int)))))
     (.ret ((-1 : Int)))
     (.need ((0 : Int) ≤ x2 ∧ x2 < (List.length x0 : Int)) (.val ((!decide ((rdS210 x0 x2).f3.f0 = (wr ((wr ((wr (x1 + (1 : Int))) + (1 : Int))) + (1 : Int))))) : Bool) fun v1 => .ite v1
      (.ret ((-1 : Int)))
      (.need ((0 : Int) ≤ x2 ∧ x2 < (List.length x0 : Int)) (.val ((!decide ((rdS210 x0 x2).f3.f1 = (wr ((wr ((wr ((wr (x1 + (1 : Int))) + (1 : Int))) + (1 : Int))) + (1 : Int))))) : Bool) fun v2 => .ite v2
       (.ret ((-1 : Int)))
       (.val ((wr ((wr ((wr ((wr ((wr (x1 + (1 : Int))) + (1 : Int))) + (1 : Int))) + (1 : Int))) + (1 : Int))) : Int) fun v3 => .need ((0 : Int) ≤ x2 ∧ x2 < (List.length x0 : Int)) (.ite (!decide ((rdS210 x0 x2).f3.f2 = v3))
        (.ret ((-1 : Int)))
        (.jump (.c2 x0 (wr (v3 + (1 : Int))) (wr (x2 + (1 : Int)))))))))))))))))
  (.ret x1)
def f (a0 : List S210) (a1 : Int) : Option A := (begin a0 a1).run (lp tree)
def Q : Plan C := { PL with cuts := [(2, [0, 1, 5])], ords := [], weak := [] }
theorem e : CutEq Pg C Q Tryz.f211 0 id st v o tree := fun J K x => by cases x <;> kernel_rfl
theorem b (a0 : List S210) (a1 : Int) : BegEq Pg C Q Tryz.f211 0 id st v o (S a0 a1) (begin a0 a1) := fun J K => by kernel_rfl
def told (a0 : List S210) (a1 : Int) : YtobfemcobakeoaaGreatEv.Told A := ⟨f a0 a1, fun r => SoundCall Pg C 211 (S a0 a1) 0 (v r) (o r), fun r h => soundCall_of_tree G mixed Q Tryz.func211 rfl (of_decide_eq_true (by kernel_rfl)) (by rfl) id st v o (fun _ => rfl) tree e (begin a0 a1) (b a0 a1) h⟩
end laws_heldStmtS
/-! #### loop.example/g00983/laws.heldTaskS (168) -/
namespace laws_heldTaskS
def S (a0 : List S166) (a1 : Int) : List (PV U) := YtobfemcobakeoaaGreatEv.start C 52 [.sl 167 a0, .int .i64 a1] []
inductive X where
 | c2 (x0 : List S166) (x1 x2 : Int)
def id : X → Nat
 | .c2 .. => 2
def st : X → List (PV U)
 | .c2 x0 x1 x2 => stOf 52 [(0, .sl 167 x0), (1, .int .i64 x1), (5, .int .i64 x2)]
def begin (a0 : List S166) (a1 : Int) : Tr X A :=
 .jump (.c2 a0 a1 (0 : Int))
def tree : X → Tr X A
 | .c2 x0 x1 x2 =>
 .ite (decide (x2 < (List.length x0 : Int)))
  (.need ((0 : Int) ≤ x2 ∧ x2 < (List.length x0 : Int)) (.call (laws_heldStmtS.told ((rdS166 x0 x2).f0) x1) fun t1 => .ite (decide (t1 < (0 : Int)))
   (.ret ((-1 : Int)))
   (.need ((0 : Int) ≤ x2 ∧ x2 < (List.length x0 : Int)) (.ite (!decide ((rdS166 x0 x2).f1.f0 = t1))
    (.ret ((-1 : Int)))
    (.need ((0 : Int) ≤ x2 ∧ x2 < (List.length x0 : Int)) (.ite (!decide ((rdS166 x0 x2).f1.f1 = (wr (t1 + (1 : Int)))))
     (.ret ((-1 : Int)))
     (.need ((0 : Int) ≤ x2 ∧ x2 < (List.length x0 : Int)) (.ite (!decide ((rdS166 x0 x2).f1.f2 = (wr ((wr (t1 + (1 : Int))) + (1 : Int)))))
      (.ret ((-1 : Int)))
      (.jump (.c2 x0 (wr ((wr ((wr (t1 + (1 : Int))) + (1 : Int))) + (1 : Int))) (wr (x2 + (1 : Int)))))))))))))
  (.ret x1)
def f (a0 : List S166) (a1 : Int) : Option A := (begin a0 a1).run (lp tree)
def Q : Plan C := { PL with cuts := [(2, [0, 1, 5])], ords := [], weak := [] }
theorem e : CutEq Pg C Q Tryz.f168 0 id st v o tree := fun J K x => by cases x <;> kernel_rfl
theorem b (a0 : List S166) (a1 : Int) : BegEq Pg C Q Tryz.f168 0 id st v o (S a0 a1) (begin a0 a1) := fun J K => by kernel_rfl
def told (a0 : List S166) (a1 : Int) : YtobfemcobakeoaaGreatEv.Told A := ⟨f a0 a1, fun r => SoundCall Pg C 168 (S a0 a1) 0 (v r) (o r), fun r h => soundCall_of_tree G mixed Q Tryz.func168 rfl (of_decide_eq_true (by kernel_rfl)) (by rfl) id st v o (fun _ => rfl) tree e (begin a0 a1) (b a0 a1) h⟩
end laws_heldTaskS
/-! #### loop.example/g00983/laws.heldProgram (97) -/
namespace laws_heldProgram
def S (a0 : List S166) (a1 : Int) : List (PV U) := YtobfemcobakeoaaGreatEv.start C 12 [.agg [.sl 167 a0], .int .i64 a1] []
abbrev X := Empty
def id : X → Nat := fun _ => 0
def st : X → List (PV U) := fun _ => []
def begin (a0 : List S166) (a1 : Int) : Tr X A :=
 .call (laws_heldTaskS.told a0 a1) fun t1 => .ite (decide (t1 < (0 : Int)))
  (.ret ((-1 : Int)))
  (.ret t1)
def tree : X → Tr X A := fun _ => .fail
def f (a0 : List S166) (a1 : Int) : Option A := (begin a0 a1).run (lp tree)
def Q : Plan C := { PL with cuts := [], ords := [], weak := [] }
theorem e : CutEq Pg C Q Tryz.f97 0 id st v o tree := fun J K x => by cases x
theorem b (a0 : List S166) (a1 : Int) : BegEq Pg C Q Tryz.f97 0 id st v o (S a0 a1) (begin a0 a1) := fun J K => by kernel_rfl
def told (a0 : List S166) (a1 : Int) : YtobfemcobakeoaaGreatEv.Told A := ⟨f a0 a1, fun r => SoundCall Pg C 97 (S a0 a1) 0 (v r) (o r), fun r h => soundCall_of_tree G mixed Q Tryz.func97 rfl (of_decide_eq_true (by kernel_rfl)) (by rfl) id st v o (fun _ => rfl) tree e (begin a0 a1) (b a0 a1) h⟩
end laws_heldProgram
/-! #### loop.example/g00983/laws.heldIntS (25) -/
namespace laws_heldIntS
def S (a0 : List Int) (a1 : Int) : List (PV U) := YtobfemcobakeoaaGreatEv.start C 21 [.sl 3 a0, .int .i64 a1] []
inductive X where
 | c2 (x0 : List Int) (x1 x2 : Int)
def id : X → Nat
 | .c2 .. => 2
def st : X → List (PV U)
 | .c2 x0 x1 x2 => stOf 21 [(0, .sl 3 x0), (1, .int .i64 x1), (5, .int .i64 x2)]
def begin (a0 : List Int) (a1 : Int) : Tr X A :=
 .jump (.c2 a0 a1 (0 : Int))
def tree : X → Tr X A
 | .c2 x0 x1 x2 =>
 .ite (decide (x2 < (List.length x0 : Int)))
  (.need ((0 : Int) ≤ x2 ∧ x2 < (List.length x0 : Int)) (.ite (!decide ((rdI x0 x2) = x1))
   (.ret ((-1 : Int)))
   (.jump (.c2 x0 (wr (x1 + (1 : Int))) (wr (x2 + (1 : Int)))))))
  (.ret x1)
def f (a0 : List Int) (a1 : Int) : Option A := (begin a0 a1).run (lp tree)
def Q : Plan C := { PL with cuts := [(2, [0, 1, 5])], ords := [], weak := [] }
theorem e : CutEq Pg C Q Tryz.f25 0 id st v o tree := fun J K x => by cases x <;> kernel_rfl
theorem b (a0 : List Int) (a1 : Int) : BegEq Pg C Q Tryz.f25 0 id st v o (S a0 a1) (begin a0 a1) := fun J K => by kernel_rfl
def told (a0 : List Int) (a1 : Int) : YtobfemcobakeoaaGreatEv.Told A := ⟨f a0 a1, fun r => SoundCall Pg C 25 (S a0 a1) 0 (v r) (o r), fun r h => soundCall_of_tree G mixed Q Tryz.func25 rfl (of_decide_eq_true (by kernel_rfl)) (by rfl) id st v o (fun _ => rfl) tree e (begin a0 a1) (b a0 a1) h⟩
end laws_heldIntS
/-! #### loop.example/g00983/laws.heldGateway (169) -/
namespace laws_heldGateway
def S (a0 : List Int) (a1 : Int) : List (PV U) := YtobfemcobakeoaaGreatEv.start C 12 [.agg [.sl 3 a0], .int .i64 a1] []
abbrev X := Empty
def id : X → Nat := fun _ => 0
def st : X → List (PV U) := fun _ => []
def begin (a0 : List Int) (a1 : Int) : Tr X A :=
 .call (laws_heldIntS.told a0 a1) fun t1 => .ite (decide (t1 < (0 : Int)))
  (.ret ((-1 : Int)))
  (.ret t1)
def tree : X → Tr X A := fun _ => .fail
def f (a0 : List Int) (a1 : Int) : Option A := (begin a0 a1).run (lp tree)
def Q : Plan C := { PL with cuts := [], ords := [], weak := [] }
theorem e : CutEq Pg C Q Tryz.f169 0 id st v o tree := fun J K x => by cases x
theorem b (a0 : List Int) (a1 : Int) : BegEq Pg C Q Tryz.f169 0 id st v o (S a0 a1) (begin a0 a1) := fun J K => by kernel_rfl
def told (a0 : List Int) (a1 : Int) : YtobfemcobakeoaaGreatEv.Told A := ⟨f a0 a1, fun r => SoundCall Pg C 169 (S a0 a1) 0 (v r) (o r), fun r h => soundCall_of_tree G mixed Q Tryz.func169 rfl (of_decide_eq_true (by kernel_rfl)) (by rfl) id st v o (fun _ => rfl) tree e (begin a0 a1) (b a0 a1) h⟩
end laws_heldGateway
/-! #### loop.example/g00983/laws.heldLink (98) -/
namespace laws_heldLink
def S (a0 : Int) (a1 : List Int) (a2 : Int) : List (PV U) := YtobfemcobakeoaaGreatEv.start C 12 [.agg [.int .i64 a0, .sl 3 a1], .int .i64 a2] []
abbrev X := Empty
def id : X → Nat := fun _ => 0
def st : X → List (PV U) := fun _ => []
def begin (a0 : Int) (a1 : List Int) (a2 : Int) : Tr X A :=
 .call (laws_heldGateway.told a1 a2) fun t1 => .ite (decide (t1 < (0 : Int)))
  (.ret ((-1 : Int)))
  (.ret t1)
def tree : X → Tr X A := fun _ => .fail
def f (a0 : Int) (a1 : List Int) (a2 : Int) : Option A := (begin a0 a1 a2).run (lp tree)
def Q : Plan C := { PL with cuts := [], ords := [], weak := [] }
theorem e : CutEq Pg C Q Tryz.f98 0 id st v o tree := fun J K x => by cases x
theorem b (a0 : Int) (a1 : List Int) (a2 : Int) : BegEq Pg C Q Tryz.f98 0 id st v o (S a0 a1 a2) (begin a0 a1 a2) := fun J K => by kernel_rfl
def told (a0 : Int) (a1 : List Int) (a2 : Int) : YtobfemcobakeoaaGreatEv.Told A := ⟨f a0 a1 a2, fun r => SoundCall Pg C 98 (S a0 a1 a2) 0 (v r) (o r), fun r h => soundCall_of_tree G mixed Q Tryz.func98 rfl (of_decide_eq_true (by kernel_rfl)) (by rfl) id st v o (fun _ => rfl) tree e (begin a0 a1 a2) (b a0 a1 a2) h⟩
end laws_heldLink
/-! #### loop.example/g00983/laws.heldNode (35) -/
namespace laws_heldNode
def S (a0 : List S166) (a1 a2 : List Int) (a3 a4 a5 a6 a7 a8 a9 a10 : Int) (a11 : List Int) (a12 a13 : Int) : List (PV U) := YtobfemcobakeoaaGreatEv.start C 30 [.agg [.sl 167 a0, .sl 3 a1, .sl 3 a2, .int .i64 a3, .int .i64 a4, .int .i64 a5, .int .i64 a6, .int .i64 a7, .int .i64 a8, .int .i64 a9, .int .i64 a10, .sl 3 a11, .int .i64 a12], .int .i64 a13] []
abbrev X := Empty
def id : X → Nat := fun _ => 0
def st : X → List (PV U) := fun _ => []
def begin (a0 : List S166) (a1 a2 : List Int) (a3 a4 a5 a6 a7 a8 a9 a10 : Int) (a11 : List Int) (a12 a13 : Int) : Tr X A :=
 .call (laws_heldProgram.told a0 a13) fun t1 => .ite (decide (t1 < (0 : Int)))
  (.ret ((-1 : Int)))
  (.call (laws_heldIntS.told a1 t1) fun t2 => .ite (decide (t2 < (0 : Int)))
   (.ret ((-1 : Int)))
   (.call (laws_heldIntS.told a2 t2) fun t3 => .ite (decide (t3 < (0 : Int)))
    (.ret ((-1 : Int)))
    (.call (laws_heldLink.told a10 a11 t3) fun t4 => .ite (decide (t4 < (0 : Int)))
     (.ret ((-1 : Int)))
     (.ret t4))))
def tree : X → Tr X A := fun _ => .fail
def f (a0 : List S166) (a1 a2 : List Int) (a3 a4 a5 a6 a7 a8 a9 a10 : Int) (a11 : List Int) (a12 a13 : Int) : Option A := (begin a0 a1 a2 a3 a4 a5 a6 a7 a8 a9 a10 a11 a12 a13).run (lp tree)
def Q : Plan C := { PL with cuts := [], ords := [], weak := [] }
theorem e : CutEq Pg C Q Tryz.f35 0 id st v o tree := fun J K x => by cases x
theorem b (a0 : List S166) (a1 a2 : List Int) (a3 a4 a5 a6 a7 a8 a9 a10 : Int) (a11 : List Int) (a12 a13 : Int) : BegEq Pg C Q Tryz.f35 0 id st v o (S a0 a1 a2 a3 a4 a5 a6 a7 a8 a9 a10 a11 a12 a13) (begin a0 a1 a2 a3 a4 a5 a6 a7 a8 a9 a10 a11 a12 a13) := fun J K => by kernel_rfl
def told (a0 : List S166) (a1 a2 : List Int) (a3 a4 a5 a6 a7 a8 a9 a10 : Int) (a11 : List Int) (a12 a13 : Int) : YtobfemcobakeoaaGreatEv.Told A := ⟨f a0 a1 a2 a3 a4 a5 a6 a7 a8 a9 a10 a11 a12 a13, fun r => SoundCall Pg C 35 (S a0 a1 a2 a3 a4 a5 a6 a7 a8 a9 a10 a11 a12 a13) 0 (v r) (o r), fun r h => soundCall_of_tree G mixed Q Tryz.func35 rfl (of_decide_eq_true (by kernel_rfl)) (by rfl) id st v o (fun _ => rfl) tree e (begin a0 a1 a2 a3 a4 a5 a6 a7 a8 a9 a10 a11 a12 a13) (b a0 a1 a2 a3 a4 a5 a6 a7 a8 a9 a10 a11 a12 a13) h⟩
end laws_heldNode
/-! #### loop.example/g00983/laws.FnExactUplink (4) -/
namespace laws_FnExactUplink
def S (a0 : List S172) (a1 a2 : List Int) (a3 a4 a5 a6 a7 a8 a9 a10 : Int) (a11 : List Int) (a12 : Int) (a13 : List Bool) (a14 : Bool) : List (PV U) := YtobfemcobakeoaaGreatEv.start C 122 [.agg [.sl 173 a0, .sl 3 a1, .sl 3 a2, .int .i64 a3, .int .i64 a4, .int .i64 a5, .int .i64 a6, .int .i64 a7, .int .i64 a8, .int .i64 a9, .int .i64 a10, .sl 3 a11, .int .i64 a12], .sl 4 a13, .bool a14] []
abbrev X := Empty
def id : X → Nat := fun _ => 0
def st : X → List (PV U) := fun _ => []
def begin (a0 : List S172) (a1 a2 : List Int) (a3 a4 a5 a6 a7 a8 a9 a10 : Int) (a11 : List Int) (a12 : Int) (a13 : List Bool) (a14 : Bool) : Tr X A :=
 .ite (decide ((List.length a13 : Int) > (1048576 : Int)))
  (.ret true)
  (.call (laws_szNode.told a0 a1 a2 a3 a4 a5 a6 a7 a8 a9 a10 a11 a12 (1048576 : Int)) fun t1 => .ite (decide (t1 < (0 : Int)))
   (.ret true)
   (.call (laws_toNode.told a0 a1 a2 a3 a4 a5 a6 a7 a8 a9 a10 a11 a12) fun t2 => .call (laws_toBoolS.told a13) fun t3 => .call (spec_Uplink.told t2.1 t2.2.1 t2.2.2.1 t2.2.2.2.1 t2.2.2.2.2.1 t2.2.2.2.2.2.1 t2.2.2.2.2.2.2.1 t2.2.2.2.2.2.2.2.1 t2.2.2.2.2.2.2.2.2.1 t2.2.2.2.2.2.2.2.2.2.1 t2.2.2.2.2.2.2.2.2.2.2.1 t2.2.2.2.2.2.2.2.2.2.2.2.1 t2.2.2.2.2.2.2.2.2.2.2.2.2 t3 a14) fun t4 => .call (laws_toNode.told a0 a1 a2 a3 a4 a5 a6 a7 a8 a9 a10 a11 a12) fun t5 => .call (laws_toBoolS.told a13) fun t6 => .call (impl_Uplink.told t5.1 t5.2.1 t5.2.2.1 t5.2.2.2.1 t5.2.2.2.2.1 t5.2.2.2.2.2.1 t5.2.2.2.2.2.2.1 t5.2.2.2.2.2.2.2.1 t5.2.2.2.2.2.2.2.2.1 t5.2.2.2.2.2.2.2.2.2.1 t5.2.2.2.2.2.2.2.2.2.2.1 t5.2.2.2.2.2.2.2.2.2.2.2.1 t5.2.2.2.2.2.2.2.2.2.2.2.2 t6 a14) fun t7 => .call (laws_eqNode.told t7.1 t7.2.1 t7.2.2.1 t7.2.2.2.1 t7.2.2.2.2.1 t7.2.2.2.2.2.1 t7.2.2.2.2.2.2.1 t7.2.2.2.2.2.2.2.1 t7.2.2.2.2.2.2.2.2.1 t7.2.2.2.2.2.2.2.2.2.1 t7.2.2.2.2.2.2.2.2.2.2.1 t7.2.2.2.2.2.2.2.2.2.2.2.1 t7.2.2.2.2.2.2.2.2.2.2.2.2.1 t4.1 t4.2.1 t4.2.2.1 t4.2.2.2.1 t4.2.2.2.2.1 t4.2.2.2.2.2.1 t4.2.2.2.2.2.2.1 t4.2.2.2.2.2.2.2.1 t4.2.2.2.2.2.2.2.2.1 t4.2.2.2.2.2.2.2.2.2.1 t4.2.2.2.2.2.2.2.2.2.2.1 t4.2.2.2.2.2.2.2.2.2.2.2.1 t4.2.2.2.2.2.2.2.2.2.2.2.2.1) fun t8 => .ite (!t8)
    (.ret false)
    (.ite (t7.2.2.2.2.2.2.2.2.2.2.2.2.2 != t4.2.2.2.2.2.2.2.2.2.2.2.2.2)
     (.ret false)
     (.last (.call (laws_toNode.told a0 a1 a2 a3 a4 a5 a6 a7 a8 a9 a10 a11 a12) fun t9 => .last (.call (laws_eqNode.told t5.1 t5.2.1 t5.2.2.1 t5.2.2.2.1 t5.2.2.2.2.1 t5.2.2.2.2.2.1 t5.2.2.2.2.2.2.1 t5.2.2.2.2.2.2.2.1 t5.2.2.2.2.2.2.2.2.1 t5.2.2.2.2.2.2.2.2.2.1 t5.2.2.2.2.2.2.2.2.2.2.1 t5.2.2.2.2.2.2.2.2.2.2.2.1 t5.2.2.2.2.2.2.2.2.2.2.2.2 t9.1 t9.2.1 t9.2.2.1 t9.2.2.2.1 t9.2.2.2.2.1 t9.2.2.2.2.2.1 t9.2.2.2.2.2.2.1 t9.2.2.2.2.2.2.2.1 t9.2.2.2.2.2.2.2.2.1 t9.2.2.2.2.2.2.2.2.2.1 t9.2.2.2.2.2.2.2.2.2.2.1 t9.2.2.2.2.2.2.2.2.2.2.2.1 t9.2.2.2.2.2.2.2.2.2.2.2.2) fun t10 => .ite (!t10)
      (.ret false)
      (.call (laws_toBoolS.told a13) fun t11 => .call (laws_eqBoolS.told t6 t11) fun t12 => .ite (!t12)
       (.ret false)
       (.call (laws_markNode.told t5.2.2.2.1 t5.2.2.2.2.1 t5.2.2.2.2.2.1 t5.2.2.2.2.2.2.1 t5.2.2.2.2.2.2.2.1 t5.2.2.2.2.2.2.2.2.1 t5.2.2.2.2.2.2.2.2.2.1 t5.2.2.2.2.2.2.2.2.2.2.1 t5.2.2.2.2.2.2.2.2.2.2.2.2 (1 : Int) t5.1 t5.2.1 t5.2.2.1 t5.2.2.2.2.2.2.2.2.2.2.2.1) fun t13 => .call (laws_markBoolS.told t13.1 t6) fun t14 => .ite (decide (t14.1 < (0 : Int)))
        (.ret false)
        (.call (laws_eqNode.told t7.1 t7.2.1 t7.2.2.1 t7.2.2.2.1 t7.2.2.2.2.1 t7.2.2.2.2.2.1 t7.2.2.2.2.2.2.1 t7.2.2.2.2.2.2.2.1 t7.2.2.2.2.2.2.2.2.1 t7.2.2.2.2.2.2.2.2.2.1 t7.2.2.2.2.2.2.2.2.2.2.1 t7.2.2.2.2.2.2.2.2.2.2.2.1 t7.2.2.2.2.2.2.2.2.2.2.2.2.1 t4.1 t4.2.1 t4.2.2.1 t4.2.2.2.1 t4.2.2.2.2.1 t4.2.2.2.2.2.1 t4.2.2.2.2.2.2.1 t4.2.2.2.2.2.2.2.1 t4.2.2.2.2.2.2.2.2.1 t4.2.2.2.2.2.2.2.2.2.1 t4.2.2.2.2.2.2.2.2.2.2.1 t4.2.2.2.2.2.2.2.2.2.2.2.1 t4.2.2.2.2.2.2.2.2.2.2.2.2.1) fun t15 => .ite (!t15)
         (.ret false)
         (.ite (t7.2.2.2.2.2.2.2.2.2.2.2.2.2 != t4.2.2.2.2.2.2.2.2.2.2.2.2.2)
          (.ret false)
          (.call (laws_markNode.told t7.2.2.2.1 t7.2.2.2.2.1 t7.2.2.2.2.2.1 t7.2.2.2.2.2.2.1 t7.2.2.2.2.2.2.2.1 t7.2.2.2.2.2.2.2.2.1 t7.2.2.2.2.2.2.2.2.2.1 t7.2.2.2.2.2.2.2.2.2.2.1 t7.2.2.2.2.2.2.2.2.2.2.2.2.1 (1 : Int) t7.1 t7.2.1 t7.2.2.1 t7.2.2.2.2.2.2.2.2.2.2.2.1) fun t16 => .call (laws_heldNode.told t16.2.1 t16.2.2.1 t16.2.2.2.1 t7.2.2.2.1 t7.2.2.2.2.1 t7.2.2.2.2.2.1 t7.2.2.2.2.2.2.1 t7.2.2.2.2.2.2.2.1 t7.2.2.2.2.2.2.2.2.1 t7.2.2.2.2.2.2.2.2.2.1 t7.2.2.2.2.2.2.2.2.2.2.1 t16.2.2.2.2 t7.2.2.2.2.2.2.2.2.2.2.2.2.1 (1 : Int)) fun t17 => .ite (decide (t17 < (0 : Int)))
           (.ret false)
           (.ite (!decide (t17 = t16.1))
            (.ret false)
            (.call (laws_toNode.told a0 a1 a2 a3 a4 a5 a6 a7 a8 a9 a10 a11 a12) fun t18 => .call (laws_toBoolS.told a13) fun t19 => .call (impl_Uplink.told t18.1 t18.2.1 t18.2.2.1 t18.2.2.2.1 t18.2.2.2.2.1 t18.2.2.2.2.2.1 t18.2.2.2.2.2.2.1 t18.2.2.2.2.2.2.2.1 t18.2.2.2.2.2.2.2.2.1 t18.2.2.2.2.2.2.2.2.2.1 t18.2.2.2.2.2.2.2.2.2.2.1 t18.2.2.2.2.2.2.2.2.2.2.2.1 t18.2.2.2.2.2.2.2.2.2.2.2.2 t19 a14) fun t20 => .call (laws_eqNode.told t20.1 t20.2.1 t20.2.2.1 t20.2.2.2.1 t20.2.2.2.2.1 t20.2.2.2.2.2.1 t20.2.2.2.2.2.2.1 t20.2.2.2.2.2.2.2.1 t20.2.2.2.2.2.2.2.2.1 t20.2.2.2.2.2.2.2.2.2.1 t20.2.2.2.2.2.2.2.2.2.2.1 t20.2.2.2.2.2.2.2.2.2.2.2.1 t20.2.2.2.2.2.2.2.2.2.2.2.2.1 t4.1 t4.2.1 t4.2.2.1 t4.2.2.2.1 t4.2.2.2.2.1 t4.2.2.2.2.2.1 t4.2.2.2.2.2.2.1 t4.2.2.2.2.2.2.2.1 t4.2.2.2.2.2.2.2.2.1 t4.2.2.2.2.2.2.2.2.2.1 t4.2.2.2.2.2.2.2.2.2.2.1 t4.2.2.2.2.2.2.2.2.2.2.2.1 t4.2.2.2.2.2.2.2.2.2.2.2.2.1) fun t21 => .ite (!t21)
             (.ret false)
             (.ite (t20.2.2.2.2.2.2.2.2.2.2.2.2.2 != t4.2.2.2.2.2.2.2.2.2.2.2.2.2)
              (.ret false)
              (.call (laws_heldNode.told t16.2.1 t16.2.2.1 t16.2.2.2.1 t7.2.2.2.1 t7.2.2.2.2.1 t7.2.2.2.2.2.1 t7.2.2.2.2.2.2.1 t7.2.2.2.2.2.2.2.1 t7.2.2.2.2.2.2.2.2.1 t7.2.2.2.2.2.2.2.2.2.1 t7.2.2.2.2.2.2.2.2.2.2.1 t16.2.2.2.2 t7.2.2.2.2.2.2.2.2.2.2.2.2.1 (1 : Int)) fun t22 => .ite (decide (t22 < (0 : Int)))
               (.ret false)
               (.ite (!decide (t22 = t16.1))
                (.ret false)
                (.ret true)))))))))))))))))
def tree : X → Tr X A := fun _ => .fail
def f (a0 : List S172) (a1 a2 : List Int) (a3 a4 a5 a6 a7 a8 a9 a10 : Int) (a11 : List Int) (a12 : Int) (a13 : List Bool) (a14 : Bool) : Option A := (begin a0 a1 a2 a3 a4 a5 a6 a7 a8 a9 a10 a11 a12 a13 a14).run (lp tree)
def Q : Plan C := { PL with cuts := [], ords := [(13, [], (.take 0 [1, 2] (.take 1 [0] (.alt 2 (.alt 3 (.take 4 [] .done) .nil) .nil))))], weak := [] }
theorem e : CutEq Pg C Q Tryz.f4 0 id st v o tree := fun J K x => by cases x
theorem b (a0 : List S172) (a1 a2 : List Int) (a3 a4 a5 a6 a7 a8 a9 a10 : Int) (a11 : List Int) (a12 : Int) (a13 : List Bool) (a14 : Bool) : BegEq Pg C Q Tryz.f4 0 id st v o (S a0 a1 a2 a3 a4 a5 a6 a7 a8 a9 a10 a11 a12 a13 a14) (begin a0 a1 a2 a3 a4 a5 a6 a7 a8 a9 a10 a11 a12 a13 a14) := fun J K => by kernel_rfl
def told (a0 : List S172) (a1 a2 : List Int) (a3 a4 a5 a6 a7 a8 a9 a10 : Int) (a11 : List Int) (a12 : Int) (a13 : List Bool) (a14 : Bool) : YtobfemcobakeoaaGreatEv.Told A := ⟨f a0 a1 a2 a3 a4 a5 a6 a7 a8 a9 a10 a11 a12 a13 a14, fun r => SoundCall Pg C 4 (S a0 a1 a2 a3 a4 a5 a6 a7 a8 a9 a10 a11 a12 a13 a14) 0 (v r) (o r), fun r h => soundCall_of_tree G mixed Q Tryz.func4 rfl (of_decide_eq_true (by kernel_rfl)) (by rfl) id st v o (fun _ => rfl) tree e (begin a0 a1 a2 a3 a4 a5 a6 a7 a8 a9 a10 a11 a12 a13 a14) (b a0 a1 a2 a3 a4 a5 a6 a7 a8 a9 a10 a11 a12 a13 a14) h⟩
end laws_FnExactUplink
end
end Go.Proofs.YtobfemcobakeoaaGreat.Ev
