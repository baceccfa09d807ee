/- Functions as trees, with their contracts. No conditions. -/
import Derived.Test.YtobfemcobakeoaaGreatREvH
namespace Go.Proofs.YtobfemcobakeoaaGreat.Ev
open Go.Proofs.YtobfemcobakeoaaGreatEv Go.RowKit
set_option linter.unusedVariables false
set_option maxRecDepth 100000
noncomputable section
/-! #### loop.example/g00983/laws.big (36) -/
namespace laws_big
def S (a0 : List Int) : List (PV U) := YtobfemcobakeoaaGreatEv.start C 6 [.sl 5 a0] []
abbrev X := Empty
def id : X → Nat := fun _ => 0
def st : X → List (PV U) := fun _ => []
def begin (a0 : List Int) : Tr X A :=
 .ret ((decide ((List.length a0 : Int) > (1048576 : Int))))
def tree : X → Tr X A := fun _ => .fail
def f (a0 : List Int) : Option A := (begin a0).run (lp tree)
def Q : Plan C := { PL with cuts := [], ords := [], weak := [] }
theorem e : CutEq Pg C Q Tryz.f36 0 id st v o tree := fun J K x => by cases x
theorem b (a0 : List Int) : BegEq Pg C Q Tryz.f36 0 id st v o (S a0) (begin a0) := fun J K => by kernel_rfl
def told (a0 : List Int) : YtobfemcobakeoaaGreatEv.Told A := ⟨f a0, fun r => SoundCall Pg C 36 (S a0) 0 (v r) (o r), fun r h => soundCall_of_tree G mixed Q Tryz.func36 rfl (of_decide_eq_true (by kernel_rfl)) (by rfl) id st v o (fun _ => rfl) tree e (begin a0) (b a0) h⟩
end laws_big
/-! #### loop.example/g00983/spec.l01New (99) -/
namespace spec_l01New
def S (a0 : List Int) : List (PV U) := YtobfemcobakeoaaGreatEv.start C 32 [.sl 5 a0] []
inductive X where
 | c3 (x0 : List Int) (x1 x2 : Int)
def id : X → Nat
 | .c3 .. => 3
def st : X → List (PV U)
 | .c3 x0 x1 x2 => stOf 32 [(0, .sl 5 x0), (3, .int .i64 x1), (4, .int .i64 x2)]
def begin (a0 : List Int) : Tr X A :=
 .jump (.c3 a0 (wr ((98347 : Int) + (List.length a0 : Int))) (0 : Int))
def tree : X → Tr X A
 | .c3 x0 x1 x2 =>
 .ite (decide (x2 < (List.length x0 : Int)))
  (.ite (decide (x2 < (4000 : Int)))
   (.need ((0 : Int) ≤ x2 ∧ x2 < (List.length x0 : Int)) (.val ((bitAnd .i64 (wr ((wr ((wr (x1 * (131 : Int))) + (wr (rdI x0 x2)))) + (7 : Int))) (1073741823 : Int)) : Int) fun v1 => .jump (.c3 x0 v1 (wr (x2 + (1 : Int))))))
   (.ret (x0, (0 : Int), x1)))
  (.ret (x0, (0 : Int), x1))
def f (a0 : List Int) : Option A := (begin a0).run (lp tree)
def Q : Plan C := { PL with cuts := [(3, [0, 3, 4])], ords := [], weak := [] }
theorem e : CutEq Pg C Q Tryz.f99 0 id st v o tree := fun J K x => by cases x <;> kernel_rfl
theorem b (a0 : List Int) : BegEq Pg C Q Tryz.f99 0 id st v o (S a0) (begin a0) := fun J K => by kernel_rfl
def told (a0 : List Int) : YtobfemcobakeoaaGreatEv.Told A := ⟨f a0, fun r => SoundCall Pg C 99 (S a0) 0 (v r) (o r), fun r h => soundCall_of_tree G mixed Q Tryz.func99 rfl (of_decide_eq_true (by kernel_rfl)) (by rfl) id st v o (fun _ => rfl) tree e (begin a0) (b a0) h⟩
end spec_l01New
/-! #### loop.example/g00983/spec.l01Byte (173) -/
namespace spec_l01Byte
def S (a0 : List Int) (a1 a2 : Int) : List (PV U) := YtobfemcobakeoaaGreatEv.start C 58 [.ptr 58 0] [.box [.sl 5 a0, .int .i64 a1, .int .i64 a2]]
inductive X where
 | c3 (x0 : Int) (x1 : List Int) (x2 x3 : Int)
def id : X → Nat
 | .c3 .. => 3
def st : X → List (PV U)
 | .c3 x0 x1 x2 x3 => stOf 59 [(0, .ptr 58 0), (3, .int .i64 x0), (58, .box [.sl 5 x1, .int .i64 x2, .int .i64 x3])]
def begin (a0 : List Int) (a1 a2 : Int) : Tr X A :=
 let u0_0 : Tr X A := (.need ((0 : Int) ≤ (33 : Int)) (.val ((shiftDown .i64 (wr ((wr (a2 * (6364136223846793005 : Int))) + (1442695040888963407 : Int))) (33 : Int)) : Int) fun v1 => .last (.need ((0 : Int) ≤ (45 : Int)) (.val ((shiftDown .i64 (wr ((wr (a2 * (6364136223846793005 : Int))) + (1442695040888963407 : Int))) (45 : Int)) : Int) fun v2 => .jump (.c3 (bitAnd .i64 (bitXor .i64 v1 v2) (255 : Int)) a0 a1 (wr ((wr (a2 * (6364136223846793005 : Int))) + (1442695040888963407 : Int)))))))); let u0_1 : Tr X A := (.last (.need ((0 : Int) ≤ (45 : Int)) (.val ((shiftDown .i64 (wr ((wr (a2 * (6364136223846793005 : Int))) + (1442695040888963407 : Int))) (45 : Int)) : Int) fun v1 => .last (.need ((0 : Int) ≤ (33 : Int)) (.val ((shiftDown .i64 (wr ((wr (a2 * (6364136223846793005 : Int))) + (1442695040888963407 : Int))) (33 : Int)) : Int) fun v2 => .jump (.c3 (bitAnd .i64 (bitXor .i64 v2 v1) (255 : Int)) a0 a1 (wr ((wr (a2 * (6364136223846793005 : Int))) + (1442695040888963407 : Int))))))))); let u0_2 : Tr X A := (.both (u0_0) (u0_1)); .both (.both (u0_0)
   (.last (u0_2)))
  (.last (.both (u0_2)
   (u0_1)))
def tree : X → Tr X A
 | .c3 x0 x1 x2 x3 =>
 .ite (decide (x2 < (List.length x1 : Int)))
  (.need ((0 : Int) ≤ x2 ∧ x2 < (List.length x1 : Int)) (.last (.ret ((bitAnd .i64 (wr (x0 + (wr (rdI x1 x2)))) (255 : Int)), x1, (wr (x2 + (1 : Int))), x3))))
  (.ret (x0, x1, x2, x3))
def f (a0 : List Int) (a1 a2 : Int) : Option A := (begin a0 a1 a2).run (lp tree)
def Q : Plan C := { PL with cuts := [(3, [0, 3, 58])], ords := [(2, [4, 9], (.take 0 [] (.take 1 [] (.take 2 [] (.take 5 [] (.take 6 [] (.take 7 [] (.alt 3 (.alt 4 (.take 8 [0, 1, 2, 3, 4, 5, 6, 7] (.alt 9 (.take 10 [] (.take 11 [] (.take 12 [] .done))) .nil)) (.alt 8 (.alt 4 (.alt 9 (.take 10 [] (.take 11 [] (.take 12 [] .done))) .nil) (.alt 9 (.alt 4 (.take 10 [] (.take 11 [] (.take 12 [] .done))) .nil) .nil)) .nil)) (.alt 8 (.alt 3 (.alt 4 (.alt 9 (.take 10 [] (.take 11 [] (.take 12 [] .done))) .nil) (.alt 9 (.alt 4 (.take 10 [] (.take 11 [] (.take 12 [] .done))) .nil) .nil)) (.alt 9 (.take 3 [0, 1, 2, 5, 6, 7, 8, 9] (.alt 4 (.take 10 [] (.take 11 [] (.take 12 [] .done))) .nil)) .nil)) .nil))))))))), (3, [], (.take 0 [] (.take 1 [] (.take 2 [] (.take 4 [] (.take 5 [] (.take 6 [] (.take 3 [0, 1, 2, 4, 5, 6, 7, 8] (.take 7 [0, 1, 2, 3, 4, 5, 6] (.take 8 [] (.take 9 [] .done))))))))))), (4, [11], (.take 0 [] (.take 1 [] (.take 2 [] (.take 3 [] (.take 5 [] (.take 6 [] (.take 7 [] (.take 4 [0, 1, 2, 3, 5, 6, 7, 8] (.take 8 [0, 1, 2, 3, 4, 5, 6, 7] (.take 9 [] (.take 10 [0, 1, 2, 3, 4, 5, 6, 7, 8, 9] (.alt 11 (.take 12 [] (.take 13 [] (.take 14 [] .done))) .nil)))))))))))))], weak := [] }
theorem e : CutEq Pg C Q Tryz.f173 1 id st v o tree := fun J K x => by cases x <;> kernel_rfl
theorem b (a0 : List Int) (a1 a2 : Int) : BegEq Pg C Q Tryz.f173 1 id st v o (S a0 a1 a2) (begin a0 a1 a2) := fun J K => by kernel_rfl
def told (a0 : List Int) (a1 a2 : Int) : YtobfemcobakeoaaGreatEv.Told A := ⟨f a0 a1 a2, fun r => SoundCall Pg C 173 (S a0 a1 a2) 1 (v r) (o r), fun r h => soundCall_of_tree G mixed Q Tryz.func173 rfl (of_decide_eq_true (by kernel_rfl)) (by rfl) id st v o (fun _ => rfl) tree e (begin a0 a1 a2) (b a0 a1 a2) h⟩
end spec_l01Byte
/-! #### loop.example/g00983/spec.l01Below (103) -/
namespace spec_l01Below
def S (a0 : Int) (a1 : List Int) (a2 a3 : Int) : List (PV U) := YtobfemcobakeoaaGreatEv.start C 37 [.ptr 37 0, .int .i64 a0] [.box [.sl 5 a1, .int .i64 a2, .int .i64 a3]]
abbrev X := Empty
def id : X → Nat := fun _ => 0
def st : X → List (PV U) := fun _ => []
def begin (a0 : Int) (a1 : List Int) (a2 a3 : Int) : Tr X A :=
 .ite (decide (a0 ≤ (0 : Int)))
  (.ret ((0 : Int), a1, a2, a3))
  (.ite (decide (a0 ≤ (256 : Int)))
   (.call (spec_l01Byte.told a1 a2 a3) fun t1 => .need (a0 ≠ 0) (.ret ((Int.tmod t1.1 a0), t1.2.1, t1.2.2.1, t1.2.2.2)))
   (.call (spec_l01Byte.told a1 a2 a3) fun t1 => .call (spec_l01Byte.told t1.2.1 t1.2.2.1 t1.2.2.2) fun t2 => .call (spec_l01Byte.told t2.2.1 t2.2.2.1 t2.2.2.2) fun t3 => .call (spec_l01Byte.told t3.2.1 t3.2.2.1 t3.2.2.2) fun t4 => .val ((wr ((wr ((wr (t1.1 * (16777216 : Int))) + (wr (t2.1 * (65536 : Int))))) + (wr (t3.1 * (256 : Int))))) : Int) fun v5 => .need (a0 ≠ 0) (.ret ((Int.tmod (wr (v5 + t4.1)) a0), t4.2.1, t4.2.2.1, t4.2.2.2))))
def tree : X → Tr X A := fun _ => .fail
def f (a0 : Int) (a1 : List Int) (a2 a3 : Int) : Option A := (begin a0 a1 a2 a3).run (lp tree)
def Q : Plan C := { PL with cuts := [], ords := [], weak := [] }
theorem e : CutEq Pg C Q Tryz.f103 1 id st v o tree := fun J K x => by cases x
theorem b (a0 : Int) (a1 : List Int) (a2 a3 : Int) : BegEq Pg C Q Tryz.f103 1 id st v o (S a0 a1 a2 a3) (begin a0 a1 a2 a3) := fun J K => by kernel_rfl
def told (a0 : Int) (a1 : List Int) (a2 a3 : Int) : YtobfemcobakeoaaGreatEv.Told A := ⟨f a0 a1 a2 a3, fun r => SoundCall Pg C 103 (S a0 a1 a2 a3) 1 (v r) (o r), fun r h => soundCall_of_tree G mixed Q Tryz.func103 rfl (of_decide_eq_true (by kernel_rfl)) (by rfl) id st v o (fun _ => rfl) tree e (begin a0 a1 a2 a3) (b a0 a1 a2 a3) h⟩
end spec_l01Below
/-! #### loop.example/g00983/spec.l01Once (229) -/
namespace spec_l01Once
def S (a0 : Int) (a1 : List Int) (a2 a3 : Int) : List (PV U) := YtobfemcobakeoaaGreatEv.start C 9 [.ptr 9 0, .int .i64 a0] [.box [.sl 5 a1, .int .i64 a2, .int .i64 a3]]
abbrev X := Empty
def id : X → Nat := fun _ => 0
def st : X → List (PV U) := fun _ => []
def begin (a0 : Int) (a1 : List Int) (a2 a3 : Int) : Tr X A :=
 .call (spec_l01Below.told a0 a1 a2 a3) fun t1 => .ret ((decide (t1.1 = (0 : Int))), t1.2.1, t1.2.2.1, t1.2.2.2)
def tree : X → Tr X A := fun _ => .fail
def f (a0 : Int) (a1 : List Int) (a2 a3 : Int) : Option A := (begin a0 a1 a2 a3).run (lp tree)
def Q : Plan C := { PL with cuts := [], ords := [], weak := [] }
theorem e : CutEq Pg C Q Tryz.f229 1 id st v o tree := fun J K x => by cases x
theorem b (a0 : Int) (a1 : List Int) (a2 a3 : Int) : BegEq Pg C Q Tryz.f229 1 id st v o (S a0 a1 a2 a3) (begin a0 a1 a2 a3) := fun J K => by kernel_rfl
def told (a0 : Int) (a1 : List Int) (a2 a3 : Int) : YtobfemcobakeoaaGreatEv.Told A := ⟨f a0 a1 a2 a3, fun r => SoundCall Pg C 229 (S a0 a1 a2 a3) 1 (v r) (o r), fun r h => soundCall_of_tree G mixed Q Tryz.func229 rfl (of_decide_eq_true (by kernel_rfl)) (by rfl) id st v o (fun _ => rfl) tree e (begin a0 a1 a2 a3) (b a0 a1 a2 a3) h⟩
end spec_l01Once
/-! #### loop.example/g00983/spec.l01PickInt (180) -/
namespace spec_l01PickInt
def S (a0 a1 : List Int) (a2 a3 : Int) : List (PV U) := YtobfemcobakeoaaGreatEv.start C 12 [.ptr 12 0, .sl 3 a0] [.box [.sl 5 a1, .int .i64 a2, .int .i64 a3]]
abbrev X := Empty
def id : X → Nat := fun _ => 0
def st : X → List (PV U) := fun _ => []
def begin (a0 a1 : List Int) (a2 a3 : Int) : Tr X A :=
 .call (spec_l01Below.told (List.length a0 : Int) a1 a2 a3) fun t1 => .need ((0 : Int) ≤ t1.1 ∧ t1.1 < (List.length a0 : Int)) (.ret ((rdI a0 t1.1), t1.2.1, t1.2.2.1, t1.2.2.2))
def tree : X → Tr X A := fun _ => .fail
def f (a0 a1 : List Int) (a2 a3 : Int) : Option A := (begin a0 a1 a2 a3).run (lp tree)
def Q : Plan C := { PL with cuts := [], ords := [], weak := [] }
theorem e : CutEq Pg C Q Tryz.f180 1 id st v o tree := fun J K x => by cases x
theorem b (a0 a1 : List Int) (a2 a3 : Int) : BegEq Pg C Q Tryz.f180 1 id st v o (S a0 a1 a2 a3) (begin a0 a1 a2 a3) := fun J K => by kernel_rfl
def told (a0 a1 : List Int) (a2 a3 : Int) : YtobfemcobakeoaaGreatEv.Told A := ⟨f a0 a1 a2 a3, fun r => SoundCall Pg C 180 (S a0 a1 a2 a3) 1 (v r) (o r), fun r h => soundCall_of_tree G mixed Q Tryz.func180 rfl (of_decide_eq_true (by kernel_rfl)) (by rfl) id st v o (fun _ => rfl) tree e (begin a0 a1 a2 a3) (b a0 a1 a2 a3) h⟩
end spec_l01PickInt
/-! #### loop.example/g00983/spec.l03Operand (213) -/
namespace spec_l03Operand
def S (a0 : List Int) (a1 a2 : Int) : List (PV U) := YtobfemcobakeoaaGreatEv.start C 11 [.ptr 11 0] [.box [.sl 5 a0, .int .i64 a1, .int .i64 a2]]
abbrev X := Empty
def id : X → Nat := fun _ => 0
def st : X → List (PV U) := fun _ => []
def begin (a0 : List Int) (a1 a2 : Int) : Tr X A :=
 .call (spec_l01Once.told (2 : Int) a0 a1 a2) fun t1 => .ite t1.1
  (.call (spec_l01Below.told (5 : Int) t1.2.1 t1.2.2.1 t1.2.2.2) fun t2 => .ret ((wr ((-1 : Int) - t2.1)), t2.2.1, t2.2.2.1, t2.2.2.2))
  (.call (spec_l01PickInt.told ([(0 : Int), (1 : Int), (2 : Int), (3 : Int), (10 : Int), (999 : Int)]) t1.2.1 t1.2.2.1 t1.2.2.2) fun t2 => .ret (t2.1, t2.2.1, t2.2.2.1, t2.2.2.2))
def tree : X → Tr X A := fun _ => .fail
def f (a0 : List Int) (a1 a2 : Int) : Option A := (begin a0 a1 a2).run (lp tree)
def Q : Plan C := { PL with cuts := [], ords := [], weak := [] }
theorem e : CutEq Pg C Q Tryz.f213 1 id st v o tree := fun J K x => by cases x
theorem b (a0 : List Int) (a1 a2 : Int) : BegEq Pg C Q Tryz.f213 1 id st v o (S a0 a1 a2) (begin a0 a1 a2) := fun J K => by kernel_rfl
def told (a0 : List Int) (a1 a2 : Int) : YtobfemcobakeoaaGreatEv.Told A := ⟨f a0 a1 a2, fun r => SoundCall Pg C 213 (S a0 a1 a2) 1 (v r) (o r), fun r h => soundCall_of_tree G mixed Q Tryz.func213 rfl (of_decide_eq_true (by kernel_rfl)) (by rfl) id st v o (fun _ => rfl) tree e (begin a0 a1 a2) (b a0 a1 a2) h⟩
end spec_l03Operand
/-! #### loop.example/g00983/spec.l03Expr (171) -/
namespace spec_l03Expr
def S (a0 : List Int) (a1 a2 : Int) : List (PV U) := YtobfemcobakeoaaGreatEv.start C 11 [.ptr 11 0] [.box [.sl 5 a0, .int .i64 a1, .int .i64 a2]]
abbrev X := Empty
def id : X → Nat := fun _ => 0
def st : X → List (PV U) := fun _ => []
def begin (a0 : List Int) (a1 a2 : Int) : Tr X A :=
 .call (spec_l01Below.told (7 : Int) a0 a1 a2) fun t1 => .call (spec_l03Operand.told t1.2.1 t1.2.2.1 t1.2.2.2) fun t2 => .call (spec_l03Operand.told t2.2.1 t2.2.2.1 t2.2.2.2) fun t3 => .ret ((wr ((1 : Int) + t1.1)), t2.1, t3.1, t3.2.1, t3.2.2.1, t3.2.2.2)
def tree : X → Tr X A := fun _ => .fail
def f (a0 : List Int) (a1 a2 : Int) : Option A := (begin a0 a1 a2).run (lp tree)
def Q : Plan C := { PL with cuts := [], ords := [], weak := [] }
theorem e : CutEq Pg C Q Tryz.f171 1 id st v o tree := fun J K x => by cases x
theorem b (a0 : List Int) (a1 a2 : Int) : BegEq Pg C Q Tryz.f171 1 id st v o (S a0 a1 a2) (begin a0 a1 a2) := fun J K => by kernel_rfl
def told (a0 : List Int) (a1 a2 : Int) : YtobfemcobakeoaaGreatEv.Told A := ⟨f a0 a1 a2, fun r => SoundCall Pg C 171 (S a0 a1 a2) 1 (v r) (o r), fun r h => soundCall_of_tree G mixed Q Tryz.func171 rfl (of_decide_eq_true (by kernel_rfl)) (by rfl) id st v o (fun _ => rfl) tree e (begin a0 a1 a2) (b a0 a1 a2) h⟩
end spec_l03Expr
/-! #### loop.example/g00983/spec.l04Stmt (230) -/
namespace spec_l04Stmt
def S (a0 : List Int) (a1 a2 : Int) : List (PV U) := YtobfemcobakeoaaGreatEv.start C 23 [.ptr 23 0] [.box [.sl 5 a0, .int .i64 a1, .int .i64 a2]]
abbrev X := Empty
def id : X → Nat := fun _ => 0
def st : X → List (PV U) := fun _ => []
def begin (a0 : List Int) (a1 a2 : Int) : Tr X A :=
 .call (spec_l01Below.told (7 : Int) a0 a1 a2) fun t1 => let u1_0 : Tr X A := (.call (spec_l01Below.told (5 : Int) t1.2.1 t1.2.2.1 t1.2.2.2) fun t2 => .call (spec_l01Below.told (4 : Int) t2.2.1 t2.2.2.1 t2.2.2.2) fun t3 => .ret ((2 : Int), t2.1, t3.1, (0 : Int), (0 : Int), (0 : Int), t3.2.1, t3.2.2.1, t3.2.2.2)); let u1_1 : Tr X A := (.ite (decide (t1.1 = (2 : Int))) (.call (spec_l03Expr.told t1.2.1 t1.2.2.1 t1.2.2.2) fun t2 => .ret ((3 : Int), (0 : Int), (0 : Int), t2.1, t2.2.1, t2.2.2.1, t2.2.2.2.1, t2.2.2.2.2.1, t2.2.2.2.2.2)) (.call (spec_l01Below.told (5 : Int) t1.2.1 t1.2.2.1 t1.2.2.2) fun t2 => .call (spec_l03Expr.told t2.2.1 t2.2.2.1 t2.2.2.2) fun t3 => .ret ((1 : Int), t2.1, (0 : Int), t3.1, t3.2.1, t3.2.2.1, t3.2.2.2.1, t3.2.2.2.2.1, t3.2.2.2.2.2))); .ite (decide (t1.1 = (0 : Int)))
  (.ite (decide (t1.1 = (0 : Int)))
   (u1_0)
   (u1_1))
  (.ite (decide (t1.1 = (1 : Int)))
   (u1_0)
   (u1_1))
def tree : X → Tr X A := fun _ => .fail
def f (a0 : List Int) (a1 a2 : Int) : Option A := (begin a0 a1 a2).run (lp tree)
def Q : Plan C := { PL with cuts := [], ords := [], weak := [] }
theorem e : CutEq Pg C Q Tryz.f230 1 id st v o tree := fun J K x => by cases x
theorem b (a0 : List Int) (a1 a2 : Int) : BegEq Pg C Q Tryz.f230 1 id st v o (S a0 a1 a2) (begin a0 a1 a2) := fun J K => by kernel_rfl
def told (a0 : List Int) (a1 a2 : Int) : YtobfemcobakeoaaGreatEv.Told A := ⟨f a0 a1 a2, fun r => SoundCall Pg C 230 (S a0 a1 a2) 1 (v r) (o r), fun r h => soundCall_of_tree G mixed Q Tryz.func230 rfl (of_decide_eq_true (by kernel_rfl)) (by rfl) id st v o (fun _ => rfl) tree e (begin a0 a1 a2) (b a0 a1 a2) h⟩
end spec_l04Stmt
/-! #### loop.example/g00983/spec.l05Block (212) -/
namespace spec_l05Block
def S (a0 a1 : Int) (a2 : List Int) (a3 a4 : Int) : List (PV U) := YtobfemcobakeoaaGreatEv.start C 59 [.ptr 59 0, .int .i64 a0, .int .i64 a1] [.box [.sl 5 a2, .int .i64 a3, .int .i64 a4]]
abbrev I := Int × Int × (List Int) × Int × Int
abbrev K : I → A → Prop := fun i_ r => SoundCall Pg C 212 (S i_.1 i_.2.1 i_.2.2.1 i_.2.2.2.1 i_.2.2.2.2) 1 (v r) (o r)
inductive X where
 | c3 (x0 x1 : Int) (x2 : List S210) (x3 : Int) (x4 : List Int) (x5 x6 : Int)
def id : X → Nat
 | .c3 .. => 3
def st : X → List (PV U)
 | .c3 x0 x1 x2 x3 x4 x5 x6 => stOf 60 [(0, .ptr 59 0), (1, .int .i64 x0), (2, .int .i64 x1), (7, .own true 211 x2), (8, .int .i64 x3), (59, .box [.sl 5 x4, .int .i64 x5, .int .i64 x6])]
def begin (self_ : Self I A K) (a0 a1 : Int) (a2 : List Int) (a3 a4 : Int) : Tr X A :=
 .jump (.c3 a0 a1 ([] : List S210) (0 : Int) a2 a3 a4)
def tree (self_ : Self I A K) : X → Tr X A
 | .c3 x0 x1 x2 x3 x4 x5 x6 =>
 let u0_0 : Tr X A := (.call (spec_l04Stmt.told x4 x5 x6) fun t1 => .val ([(⟨t1.1, t1.2.1, t1.2.2.1, (⟨t1.2.2.2.1, t1.2.2.2.2.1, t1.2.2.2.2.2.1⟩ : S153)⟩ : S210)] : List S210) fun v2 => .need (((List.length x2 : Int) + (List.length v2 : Int)) * (48 : Nat) ≤ room) (.jump (.c3 x0 x1 (x2 ++ v2) (wr (x3 + (1 : Int))) t1.2.2.2.2.2.2.1 t1.2.2.2.2.2.2.2.1 t1.2.2.2.2.2.2.2.2))); .ite (decide (x3 < x0))
  (.ite (decide (x1 < (2 : Int)))
   (.ite (decide ((List.length x2 : Int) < (6 : Int)))
    (.call (spec_l01Once.told (5 : Int) x4 x5 x6) fun t1 => .ite t1.1
     (.call (spec_l01Below.told (3 : Int) t1.2.1 t1.2.2.1 t1.2.2.2) fun t2 => .call (spec_l01Once.told (2 : Int) t2.2.1 t2.2.2.1 t2.2.2.2) fun t3 => .ite t3.1
      (.call (spec_l03Expr.told t3.2.1 t3.2.2.1 t3.2.2.2) fun t4 => .need (((List.length x2 : Int) + (List.length ([(⟨(4 : Int), (0 : Int), (0 : Int), (⟨t4.1, t4.2.1, t4.2.2.1⟩ : S153)⟩ : S210)]) : Int)) * (48 : Nat) ≤ room) (.call (spec_l01Below.told (2 : Int) t4.2.2.2.1 t4.2.2.2.2.1 t4.2.2.2.2.2) fun t5 => .call (self_.told ((wr ((1 : Int) + t5.1)), (wr (x1 + (1 : Int))), t5.2.1, t5.2.2.1, t5.2.2.2)) fun t6 => .need (((List.length (x2 ++ [(⟨(4 : Int), (0 : Int), (0 : Int), (⟨t4.1, t4.2.1, t4.2.2.1⟩ : S153)⟩ : S210)]) : Int) + (List.length t6.1 : Int)) * (48 : Nat) ≤ room) (.val (((x2 ++ [(⟨(4 : Int), (0 : Int), (0 : Int), (⟨t4.1, t4.2.1, t4.2.2.1⟩ : S153)⟩ : S210)]) ++ t6.1) : List S210) fun v7 => .need (((List.length v7 : Int) + (List.length ([(⟨(6 : Int), (0 : Int), (0 : Int), (⟨(0 : Int), (0 : Int), (0 : Int)⟩ : S153)⟩ : S210)]) : Int)) * (48 : Nat) ≤ room) (.val ((v7 ++ [(⟨(6 : Int), (0 : Int), (0 : Int), (⟨(0 : Int), (0 : Int), (0 : Int)⟩ : S153)⟩ : S210)]) : List S210) fun v8 => .jump (.c3 x0 x1 v8 (wr (x3 + (1 : Int))) t6.2.1 t6.2.2.1 t6.2.2.2)))))
      (.val ([(⟨(5 : Int), (0 : Int), (wr ((1 : Int) + t2.1)), (⟨(0 : Int), (0 : Int), (0 : Int)⟩ : S153)⟩ : S210)] : List S210) fun v4 => .need (((List.length x2 : Int) + (List.length v4 : Int)) * (48 : Nat) ≤ room) (.call (spec_l01Below.told (2 : Int) t3.2.1 t3.2.2.1 t3.2.2.2) fun t5 => .call (self_.told ((wr ((1 : Int) + t5.1)), (wr (x1 + (1 : Int))), t5.2.1, t5.2.2.1, t5.2.2.2)) fun t6 => .need (((List.length (x2 ++ v4) : Int) + (List.length t6.1 : Int)) * (48 : Nat) ≤ room) (.need (((List.length ((x2 ++ v4) ++ t6.1) : Int) + (List.length ([(⟨(6 : Int), (0 : Int), (0 : Int), (⟨(0 : Int), (0 : Int), (0 : Int)⟩ : S153)⟩ : S210)]) : Int)) * (48 : Nat) ≤ room) (.val ((((x2 ++ v4) ++ t6.1) ++ [(⟨(6 : Int), (0 : Int), (0 : Int), (⟨(0 : Int), (0 : Int), (0 : Int)⟩ : S153)⟩ : S210)]) : List S210) fun v7 => .jump (.c3 x0 x1 v7 (wr (x3 + (1 : Int))) t6.2.1 t6.2.2.1 t6.2.2.2))))))
     (.call (spec_l04Stmt.told t1.2.1 t1.2.2.1 t1.2.2.2) fun t2 => .val ([(⟨t2.1, t2.2.1, t2.2.2.1, (⟨t2.2.2.2.1, t2.2.2.2.2.1, t2.2.2.2.2.2.1⟩ : S153)⟩ : S210)] : List S210) fun v3 => .need (((List.length x2 : Int) + (List.length v3 : Int)) * (48 : Nat) ≤ room) (.jump (.c3 x0 x1 (x2 ++ v3) (wr (x3 + (1 : Int))) t2.2.2.2.2.2.2.1 t2.2.2.2.2.2.2.2.1 t2.2.2.2.2.2.2.2.2))))
    (u0_0))
   (u0_0))
  (.ret (x2, x4, x5, x6))
def Q : Plan C := { PL with cuts := [(3, [0, 1, 2, 7, 8, 59])], ords := [], weak := [] }
theorem e (self_ : Self I A K) : CutEq Pg C Q Tryz.f212 1 id st v o (tree self_) := fun J K x => by cases x <;> kernel_rfl
theorem b (self_ : Self I A K) (a0 a1 : Int) (a2 : List Int) (a3 a4 : Int) : BegEq Pg C Q Tryz.f212 1 id st v o (S a0 a1 a2 a3 a4) (begin self_ a0 a1 a2 a3 a4) := fun J K => by kernel_rfl
def step (self_ : Self I A K) : Self I A K := ⟨fun i_ => (begin self_ i_.1 i_.2.1 i_.2.2.1 i_.2.2.2.1 i_.2.2.2.2).run (lp (tree self_)), fun i_ r h => soundCall_of_tree G mixed Q Tryz.func212 rfl (of_decide_eq_true (by kernel_rfl)) (by rfl) id st v o (fun _ => rfl) (tree self_) (e self_) (begin self_ i_.1 i_.2.1 i_.2.2.1 i_.2.2.2.1 i_.2.2.2.2) (b self_ i_.1 i_.2.1 i_.2.2.1 i_.2.2.2.1 i_.2.2.2.2) h⟩
def f (a0 a1 : Int) (a2 : List Int) (a3 a4 : Int) : Option A := (Self.iter step 8).f (a0, a1, a2, a3, a4)
def told (a0 a1 : Int) (a2 : List Int) (a3 a4 : Int) : YtobfemcobakeoaaGreatEv.Told A := ⟨f a0 a1 a2 a3 a4, fun r => SoundCall Pg C 212 (S a0 a1 a2 a3 a4) 1 (v r) (o r), fun r h => (Self.iter step 8).ok (a0, a1, a2, a3, a4) r h⟩
end spec_l05Block
/-! #### loop.example/g00983/spec.l05Case (170) -/
namespace spec_l05Case
def S (a0 : List Int) (a1 a2 : Int) : List (PV U) := YtobfemcobakeoaaGreatEv.start C 7 [.ptr 7 0] [.box [.sl 5 a0, .int .i64 a1, .int .i64 a2]]
abbrev X := Empty
def id : X → Nat := fun _ => 0
def st : X → List (PV U) := fun _ => []
def begin (a0 : List Int) (a1 a2 : Int) : Tr X A :=
 .call (spec_l01Below.told (6 : Int) a0 a1 a2) fun t1 => .call (spec_l05Block.told t1.1 (0 : Int) t1.2.1 t1.2.2.1 t1.2.2.2) fun t2 => .ret (t2.1, t2.2.1, t2.2.2.1, t2.2.2.2)
def tree : X → Tr X A := fun _ => .fail
def f (a0 : List Int) (a1 a2 : Int) : Option A := (begin a0 a1 a2).run (lp tree)
def Q : Plan C := { PL with cuts := [], ords := [], weak := [] }
theorem e : CutEq Pg C Q Tryz.f170 1 id st v o tree := fun J K x => by cases x
theorem b (a0 : List Int) (a1 a2 : Int) : BegEq Pg C Q Tryz.f170 1 id st v o (S a0 a1 a2) (begin a0 a1 a2) := fun J K => by kernel_rfl
def told (a0 : List Int) (a1 a2 : Int) : YtobfemcobakeoaaGreatEv.Told A := ⟨f a0 a1 a2, fun r => SoundCall Pg C 170 (S a0 a1 a2) 1 (v r) (o r), fun r h => soundCall_of_tree G mixed Q Tryz.func170 rfl (of_decide_eq_true (by kernel_rfl)) (by rfl) id st v o (fun _ => rfl) tree e (begin a0 a1 a2) (b a0 a1 a2) h⟩
end spec_l05Case
/-! #### loop.example/g00983/spec.l06Program (100) -/
namespace spec_l06Program
def S (a0 : List Int) (a1 a2 : Int) : List (PV U) := YtobfemcobakeoaaGreatEv.start C 24 [.ptr 24 0] [.box [.sl 5 a0, .int .i64 a1, .int .i64 a2]]
inductive X where
 | c3 (x0 x1 : List S166) (x2 : Int) (x3 : List Int) (x4 x5 : Int)
def id : X → Nat
 | .c3 .. => 3
def st : X → List (PV U)
 | .c3 x0 x1 x2 x3 x4 x5 => stOf 25 [(0, .ptr 24 0), (2, .box [.own true 167 x0]), (3, .box [.own true 167 x1]), (4, .int .i64 x2), (24, .box [.sl 5 x3, .int .i64 x4, .int .i64 x5])]
def begin (a0 : List Int) (a1 a2 : Int) : Tr X A :=
 .jump (.c3 ([] : List S166) ([] : List S166) (0 : Int) a0 a1 a2)
def tree : X → Tr X A
 | .c3 x0 x1 x2 x3 x4 x5 =>
 .call (spec_l01Below.told (3 : Int) x3 x4 x5) fun t1 => .ite (decide (x2 < (wr ((1 : Int) + t1.1))))
  (.both (.last (.call (spec_l05Case.told t1.2.1 t1.2.2.1 t1.2.2.2) fun t2 => .last (.call (spec_l03Expr.told t2.2.1 t2.2.2.1 t2.2.2.2) fun t3 => .last (.last (.last (.need (((List.length x1 : Int) + (List.length ([(⟨t2.1, (⟨t3.1, t3.2.1, t3.2.2.1⟩ : S153)⟩ : S166)]) : Int)) * (48 : Nat) ≤ room) (.last (.jump (.c3 x0 (x1 ++ [(⟨t2.1, (⟨t3.1, t3.2.1, t3.2.2.1⟩ : S153)⟩ : S166)]) (wr (x2 + (1 : Int))) t3.2.2.2.1 t3.2.2.2.2.1 t3.2.2.2.2.2)))))))))
   (.last (.call (spec_l05Case.told t1.2.1 t1.2.2.1 t1.2.2.2) fun t2 => .both (.last (.call (spec_l03Expr.told t2.2.1 t2.2.2.1 t2.2.2.2) fun t3 => .last (.last (.last (.need (((List.length x1 : Int) + (List.length ([(⟨t2.1, (⟨t3.1, t3.2.1, t3.2.2.1⟩ : S153)⟩ : S166)]) : Int)) * (48 : Nat) ≤ room) (.last (.jump (.c3 x0 (x1 ++ [(⟨t2.1, (⟨t3.1, t3.2.1, t3.2.2.1⟩ : S153)⟩ : S166)]) (wr (x2 + (1 : Int))) t3.2.2.2.1 t3.2.2.2.2.1 t3.2.2.2.2.2))))))))
    (.last (.call (spec_l03Expr.told t2.2.1 t2.2.2.1 t2.2.2.2) fun t3 => let u3_0 : Tr X A := (.last (.last (.need (((List.length x1 : Int) + (List.length ([(⟨t2.1, (⟨t3.1, t3.2.1, t3.2.2.1⟩ : S153)⟩ : S166)]) : Int)) * (48 : Nat) ≤ room) (.last (.jump (.c3 x0 (x1 ++ [(⟨t2.1, (⟨t3.1, t3.2.1, t3.2.2.1⟩ : S153)⟩ : S166)]) (wr (x2 + (1 : Int))) t3.2.2.2.1 t3.2.2.2.2.1 t3.2.2.2.2.2)))))); .both (.last (u3_0))
     (.last (.both (u3_0)
      (u3_0))))))))
  (.ret (x1, t1.2.1, t1.2.2.1, t1.2.2.2))
def f (a0 : List Int) (a1 a2 : Int) : Option A := (begin a0 a1 a2).run (lp tree)
def Q : Plan C := { PL with cuts := [(3, [0, 2, 3, 4, 24])], ords := [(5, [3, 5, 6, 7, 8, 10], (.take 0 [] (.take 2 [] (.take 4 [] (.alt 1 (.alt 3 (.alt 5 (.alt 6 (.alt 7 (.alt 8 (.take 9 [] (.alt 10 .done .nil)) .nil) .nil) .nil) .nil) .nil) (.alt 3 (.alt 1 (.alt 5 (.alt 6 (.alt 7 (.alt 8 (.take 9 [] (.alt 10 .done .nil)) .nil) .nil) .nil) .nil) (.alt 5 (.alt 1 (.alt 6 (.alt 7 (.alt 8 (.take 9 [] (.alt 10 .done .nil)) .nil) .nil) .nil) (.alt 6 (.alt 1 (.alt 7 (.alt 8 (.take 9 [] (.alt 10 .done .nil)) .nil) .nil) (.alt 7 (.take 1 [0, 2, 3, 4, 5, 6, 7] (.alt 8 (.take 9 [] (.alt 10 .done .nil)) .nil)) .nil)) .nil)) .nil)) .nil))))))], weak := [] }
theorem e : CutEq Pg C Q Tryz.f100 1 id st v o tree := fun J K x => by cases x <;> kernel_rfl
theorem b (a0 : List Int) (a1 a2 : Int) : BegEq Pg C Q Tryz.f100 1 id st v o (S a0 a1 a2) (begin a0 a1 a2) := fun J K => by kernel_rfl
def told (a0 : List Int) (a1 a2 : Int) : YtobfemcobakeoaaGreatEv.Told A := ⟨f a0 a1 a2, fun r => SoundCall Pg C 100 (S a0 a1 a2) 1 (v r) (o r), fun r h => soundCall_of_tree G mixed Q Tryz.func100 rfl (of_decide_eq_true (by kernel_rfl)) (by rfl) id st v o (fun _ => rfl) tree e (begin a0 a1 a2) (b a0 a1 a2) h⟩
end spec_l06Program
/-! #### loop.example/g00983/spec.l03Vars (113) -/
namespace spec_l03Vars
def S (a0 : List Int) (a1 a2 : Int) : List (PV U) := YtobfemcobakeoaaGreatEv.start C 20 [.ptr 20 0] [.box [.sl 5 a0, .int .i64 a1, .int .i64 a2]]
inductive X where
 | c3 (x0 : List Int) (x1 : Int) (x2 : List Int) (x3 x4 : Int)
def id : X → Nat
 | .c3 .. => 3
def st : X → List (PV U)
 | .c3 x0 x1 x2 x3 x4 => stOf 21 [(0, .ptr 20 0), (3, .own true 3 x0), (4, .int .i64 x1), (20, .box [.sl 5 x2, .int .i64 x3, .int .i64 x4])]
def begin (a0 : List Int) (a1 a2 : Int) : Tr X A :=
 .jump (.c3 ([] : List Int) (0 : Int) a0 a1 a2)
def tree : X → Tr X A
 | .c3 x0 x1 x2 x3 x4 =>
 .ite (decide (x1 < (8 : Int)))
  (.call (spec_l01Below.told (2000 : Int) x2 x3 x4) fun t1 => .call (spec_l01PickInt.told ([(0 : Int), (1 : Int), (2 : Int), (5 : Int), (wr (t1.1 - (1000 : Int))), (1000000 : Int)]) t1.2.1 t1.2.2.1 t1.2.2.2) fun t2 => .need (((List.length x0 : Int) + (List.length ([t2.1]) : Int)) * (8 : Nat) ≤ room) (.jump (.c3 (x0 ++ [t2.1]) (wr (x1 + (1 : Int))) t2.2.1 t2.2.2.1 t2.2.2.2)))
  (.ret (x0, x2, x3, x4))
def f (a0 : List Int) (a1 a2 : Int) : Option A := (begin a0 a1 a2).run (lp tree)
def Q : Plan C := { PL with cuts := [(3, [0, 3, 4, 20])], ords := [], weak := [] }
theorem e : CutEq Pg C Q Tryz.f113 1 id st v o tree := fun J K x => by cases x <;> kernel_rfl
theorem b (a0 : List Int) (a1 a2 : Int) : BegEq Pg C Q Tryz.f113 1 id st v o (S a0 a1 a2) (begin a0 a1 a2) := fun J K => by kernel_rfl
def told (a0 : List Int) (a1 a2 : Int) : YtobfemcobakeoaaGreatEv.Told A := ⟨f a0 a1 a2, fun r => SoundCall Pg C 113 (S a0 a1 a2) 1 (v r) (o r), fun r h => soundCall_of_tree G mixed Q Tryz.func113 rfl (of_decide_eq_true (by kernel_rfl)) (by rfl) id st v o (fun _ => rfl) tree e (begin a0 a1 a2) (b a0 a1 a2) h⟩
end spec_l03Vars
/-! #### loop.example/g00983/spec.l12Readings (102) -/
namespace spec_l12Readings
def S (a0 : List Int) (a1 a2 : Int) : List (PV U) := YtobfemcobakeoaaGreatEv.start C 20 [.ptr 20 0] [.box [.sl 5 a0, .int .i64 a1, .int .i64 a2]]
inductive X where
 | c3 (x0 : List Int) (x1 : Int) (x2 : List Int) (x3 x4 : Int)
def id : X → Nat
 | .c3 .. => 3
def st : X → List (PV U)
 | .c3 x0 x1 x2 x3 x4 => stOf 21 [(0, .ptr 20 0), (3, .own true 3 x0), (4, .int .i64 x1), (20, .box [.sl 5 x2, .int .i64 x3, .int .i64 x4])]
def begin (a0 : List Int) (a1 a2 : Int) : Tr X A :=
 .jump (.c3 ([] : List Int) (0 : Int) a0 a1 a2)
def tree : X → Tr X A
 | .c3 x0 x1 x2 x3 x4 =>
 .call (spec_l01Below.told (9 : Int) x2 x3 x4) fun t1 => .ite (decide (x1 < (wr ((1 : Int) + t1.1))))
  (.call (spec_l01Below.told (800 : Int) t1.2.1 t1.2.2.1 t1.2.2.2) fun t2 => .need (((List.length x0 : Int) + (List.length ([(wr (t2.1 - (200 : Int)))]) : Int)) * (8 : Nat) ≤ room) (.jump (.c3 (x0 ++ [(wr (t2.1 - (200 : Int)))]) (wr (x1 + (1 : Int))) t2.2.1 t2.2.2.1 t2.2.2.2)))
  (.ret (x0, t1.2.1, t1.2.2.1, t1.2.2.2))
def f (a0 : List Int) (a1 a2 : Int) : Option A := (begin a0 a1 a2).run (lp tree)
def Q : Plan C := { PL with cuts := [(3, [0, 3, 4, 20])], ords := [], weak := [] }
theorem e : CutEq Pg C Q Tryz.f102 1 id st v o tree := fun J K x => by cases x <;> kernel_rfl
theorem b (a0 : List Int) (a1 a2 : Int) : BegEq Pg C Q Tryz.f102 1 id st v o (S a0 a1 a2) (begin a0 a1 a2) := fun J K => by kernel_rfl
def told (a0 : List Int) (a1 a2 : Int) : YtobfemcobakeoaaGreatEv.Told A := ⟨f a0 a1 a2, fun r => SoundCall Pg C 102 (S a0 a1 a2) 1 (v r) (o r), fun r h => soundCall_of_tree G mixed Q Tryz.func102 rfl (of_decide_eq_true (by kernel_rfl)) (by rfl) id st v o (fun _ => rfl) tree e (begin a0 a1 a2) (b a0 a1 a2) h⟩
end spec_l12Readings
/-! #### loop.example/g00983/spec.l19Store (114) -/
namespace spec_l19Store
def S (a0 : List Int) (a1 a2 : Int) : List (PV U) := YtobfemcobakeoaaGreatEv.start C 23 [.ptr 23 0] [.box [.sl 5 a0, .int .i64 a1, .int .i64 a2]]
abbrev X := Empty
def id : X → Nat := fun _ => 0
def st : X → List (PV U) := fun _ => []
def begin (a0 : List Int) (a1 a2 : Int) : Tr X A :=
 .call (spec_l01Below.told (400 : Int) a0 a1 a2) fun t1 => .call (spec_l01Below.told (4 : Int) t1.2.1 t1.2.2.1 t1.2.2.2) fun t2 => .call (spec_l01Below.told (wr ((wr ((20 : Int) + t1.1)) + (1 : Int))) t2.2.1 t2.2.2.1 t2.2.2.2) fun t3 => .call (spec_l01Below.told (wr ((20 : Int) + t1.1)) t3.2.1 t3.2.2.1 t3.2.2.2) fun t4 => .ret (t3.1, (wr ((20 : Int) + t1.1)), (wr ((1 : Int) + t4.1)), t2.1, t4.2.1, t4.2.2.1, t4.2.2.2)
def tree : X → Tr X A := fun _ => .fail
def f (a0 : List Int) (a1 a2 : Int) : Option A := (begin a0 a1 a2).run (lp tree)
def Q : Plan C := { PL with cuts := [], ords := [], weak := [] }
theorem e : CutEq Pg C Q Tryz.f114 1 id st v o tree := fun J K x => by cases x
theorem b (a0 : List Int) (a1 a2 : Int) : BegEq Pg C Q Tryz.f114 1 id st v o (S a0 a1 a2) (begin a0 a1 a2) := fun J K => by kernel_rfl
def told (a0 : List Int) (a1 a2 : Int) : YtobfemcobakeoaaGreatEv.Told A := ⟨f a0 a1 a2, fun r => SoundCall Pg C 114 (S a0 a1 a2) 1 (v r) (o r), fun r h => soundCall_of_tree G mixed Q Tryz.func114 rfl (of_decide_eq_true (by kernel_rfl)) (by rfl) id st v o (fun _ => rfl) tree e (begin a0 a1 a2) (b a0 a1 a2) h⟩
end spec_l19Store
/-! #### loop.example/g00983/spec.l01In (139) -/
namespace spec_l01In
def S (a0 a1 a2 : Int) : List (PV U) := YtobfemcobakeoaaGreatEv.start C 15 [.int .i64 a0, .int .i64 a1, .int .i64 a2] []
abbrev X := Empty
def id : X → Nat := fun _ => 0
def st : X → List (PV U) := fun _ => []
def begin (a0 a1 a2 : Int) : Tr X A :=
 .ite (decide (a0 ≥ a1))
  (.ret ((decide (a0 ≤ a2))))
  (.ret false)
def tree : X → Tr X A := fun _ => .fail
def f (a0 a1 a2 : Int) : Option A := (begin a0 a1 a2).run (lp tree)
def Q : Plan C := { PL with cuts := [], ords := [], weak := [] }
theorem e : CutEq Pg C Q Tryz.f139 0 id st v o tree := fun J K x => by cases x
theorem b (a0 a1 a2 : Int) : BegEq Pg C Q Tryz.f139 0 id st v o (S a0 a1 a2) (begin a0 a1 a2) := fun J K => by kernel_rfl
def told (a0 a1 a2 : Int) : YtobfemcobakeoaaGreatEv.Told A := ⟨f a0 a1 a2, fun r => SoundCall Pg C 139 (S a0 a1 a2) 0 (v r) (o r), fun r h => soundCall_of_tree G mixed Q Tryz.func139 rfl (of_decide_eq_true (by kernel_rfl)) (by rfl) id st v o (fun _ => rfl) tree e (begin a0 a1 a2) (b a0 a1 a2) h⟩
end spec_l01In
/-! #### loop.example/g00983/spec.IsValue (140) -/
namespace spec_IsValue
def S (a0 : Int) : List (PV U) := YtobfemcobakeoaaGreatEv.start C 5 [.int .i64 a0] []
abbrev X := Empty
def id : X → Nat := fun _ => 0
def st : X → List (PV U) := fun _ => []
def begin (a0 : Int) : Tr X A :=
 .call (spec_l01In.told a0 (-1000000 : Int) (1000000 : Int)) fun t1 => .ret t1
def tree : X → Tr X A := fun _ => .fail
def f (a0 : Int) : Option A := (begin a0).run (lp tree)
def Q : Plan C := { PL with cuts := [], ords := [], weak := [] }
theorem e : CutEq Pg C Q Tryz.f140 0 id st v o tree := fun J K x => by cases x
theorem b (a0 : Int) : BegEq Pg C Q Tryz.f140 0 id st v o (S a0) (begin a0) := fun J K => by kernel_rfl
def told (a0 : Int) : YtobfemcobakeoaaGreatEv.Told A := ⟨f a0, fun r => SoundCall Pg C 140 (S a0) 0 (v r) (o r), fun r h => soundCall_of_tree G mixed Q Tryz.func140 rfl (of_decide_eq_true (by kernel_rfl)) (by rfl) id st v o (fun _ => rfl) tree e (begin a0) (b a0) h⟩
end spec_IsValue
/-! #### loop.example/g00983/spec.VarsOk (144) -/
namespace spec_VarsOk
def S (a0 : List Int) : List (PV U) := YtobfemcobakeoaaGreatEv.start C 19 [.sl 3 a0] []
inductive X where
 | c2 (x0 : List Int) (x1 : Int)
def id : X → Nat
 | .c2 .. => 2
def st : X → List (PV U)
 | .c2 x0 x1 => stOf 19 [(0, .sl 3 x0), (3, .int .i64 x1)]
def begin (a0 : List Int) : Tr X A :=
 .jump (.c2 a0 (0 : Int))
def tree : X → Tr X A
 | .c2 x0 x1 =>
 .ite (decide (x1 < (List.length x0 : Int)))
  (.need ((0 : Int) ≤ x1 ∧ x1 < (List.length x0 : Int)) (.call (spec_IsValue.told (rdI x0 x1)) fun t1 => .ite (!t1)
   (.ret false)
   (.jump (.c2 x0 (wr (x1 + (1 : Int)))))))
  (.ret ((decide ((List.length x0 : Int) = (8 : Int)))))
def f (a0 : List Int) : Option A := (begin a0).run (lp tree)
def Q : Plan C := { PL with cuts := [(2, [0, 3])], ords := [], weak := [] }
theorem e : CutEq Pg C Q Tryz.f144 0 id st v o tree := fun J K x => by cases x <;> kernel_rfl
theorem b (a0 : List Int) : BegEq Pg C Q Tryz.f144 0 id st v o (S a0) (begin a0) := fun J K => by kernel_rfl
def told (a0 : List Int) : YtobfemcobakeoaaGreatEv.Told A := ⟨f a0, fun r => SoundCall Pg C 144 (S a0) 0 (v r) (o r), fun r h => soundCall_of_tree G mixed Q Tryz.func144 rfl (of_decide_eq_true (by kernel_rfl)) (by rfl) id st v o (fun _ => rfl) tree e (begin a0) (b a0) h⟩
end spec_VarsOk
/-! #### loop.example/g00983/spec.MemNew (172) -/
namespace spec_MemNew
def S (a0 : List Int) : List (PV U) := YtobfemcobakeoaaGreatEv.start C 14 [.sl 3 a0] []
abbrev X := Empty
def id : X → Nat := fun _ => 0
def st : X → List (PV U) := fun _ => []
def begin (a0 : List Int) : Tr X A :=
 .call (spec_VarsOk.told a0) fun t1 => .ite (!t1)
  (.ret (([] : List Int), false))
  (.need (((List.length ([] : List Int) : Int) + (List.length a0 : Int)) * (8 : Nat) ≤ room) (.need ((0 : Int) ≤ (41 : Int) ∧ ((List.length (([] : List Int) ++ a0) : Int) + (41 : Int)) * (8 : Nat) ≤ room) (.ret (((([] : List Int) ++ a0) ++ List.replicate (Int.toNat (41 : Int)) (0 : Int)), true))))
def tree : X → Tr X A := fun _ => .fail
def f (a0 : List Int) : Option A := (begin a0).run (lp tree)
def Q : Plan C := { PL with cuts := [], ords := [], weak := [] }
theorem e : CutEq Pg C Q Tryz.f172 0 id st v o tree := fun J K x => by cases x
theorem b (a0 : List Int) : BegEq Pg C Q Tryz.f172 0 id st v o (S a0) (begin a0) := fun J K => by kernel_rfl
def told (a0 : List Int) : YtobfemcobakeoaaGreatEv.Told A := ⟨f a0, fun r => SoundCall Pg C 172 (S a0) 0 (v r) (o r), fun r h => soundCall_of_tree G mixed Q Tryz.func172 rfl (of_decide_eq_true (by kernel_rfl)) (by rfl) id st v o (fun _ => rfl) tree e (begin a0) (b a0) h⟩
end spec_MemNew
/-! #### loop.example/g00983/spec.l04Plain (244) -/
namespace spec_l04Plain
def S (a0 a1 a2 a3 a4 a5 : Int) : List (PV U) := YtobfemcobakeoaaGreatEv.start C 37 [.agg [.int .i64 a0, .int .i64 a1, .int .i64 a2, .int .i64 a3, .int .i64 a4, .int .i64 a5]] []
inductive X where
 | c14 (x0 x1 x2 x3 x4 x5 x6 x7 x8 x9 x10 x11 : Int)
def id : X → Nat
 | .c14 .. => 14
def st : X → List (PV U)
 | .c14 x0 x1 x2 x3 x4 x5 x6 x7 x8 x9 x10 x11 => stOf 37 [(2, .box [.int .i64 x0, .int .i64 x1, .int .i64 x2, .int .i64 x3, .int .i64 x4, .int .i64 x5]), (3, .box [.int .i64 x6, .int .i64 x7, .int .i64 x8, .int .i64 x9, .int .i64 x10, .int .i64 x11])]
def begin (a0 a1 a2 a3 a4 a5 : Int) : Tr X A :=
 let u0_0 : Tr X A := (.jump (.c14 (0 : Int) (0 : Int) (0 : Int) (0 : Int) (0 : Int) (0 : Int) a0 (0 : Int) (0 : Int) a3 a4 a5)); let u0_1 : Tr X A := (.ite (decide (a0 = (5 : Int))) (.jump (.c14 (0 : Int) (0 : Int) (0 : Int) (0 : Int) (0 : Int) (0 : Int) a0 (0 : Int) a2 (0 : Int) (0 : Int) (0 : Int))) (.jump (.c14 (0 : Int) (0 : Int) (0 : Int) (0 : Int) (0 : Int) (0 : Int) a0 (0 : Int) (0 : Int) (0 : Int) (0 : Int) (0 : Int)))); .ite (decide (a0 = (1 : Int)))
  (.jump (.c14 (0 : Int) (0 : Int) (0 : Int) (0 : Int) (0 : Int) (0 : Int) a0 a1 (0 : Int) a3 a4 a5))
  (.ite (decide (a0 = (2 : Int)))
   (.jump (.c14 (0 : Int) (0 : Int) (0 : Int) (0 : Int) (0 : Int) (0 : Int) a0 a1 a2 (0 : Int) (0 : Int) (0 : Int)))
   (.ite (decide (a0 = (3 : Int)))
    (.ite (decide (a0 = (3 : Int)))
     (u0_0)
     (u0_1))
    (.ite (decide (a0 = (4 : Int)))
     (u0_0)
     (u0_1))))
def tree : X → Tr X A
 | .c14 x0 x1 x2 x3 x4 x5 x6 x7 x8 x9 x10 x11 =>
 .ret (x6, x7, x8, x9, x10, x11)
def f (a0 a1 a2 a3 a4 a5 : Int) : Option A := (begin a0 a1 a2 a3 a4 a5).run (lp tree)
def Q : Plan C := { PL with cuts := [(14, [2, 3])], ords := [], weak := [] }
theorem e : CutEq Pg C Q Tryz.f244 0 id st v o tree := fun J K x => by cases x <;> kernel_rfl
theorem b (a0 a1 a2 a3 a4 a5 : Int) : BegEq Pg C Q Tryz.f244 0 id st v o (S a0 a1 a2 a3 a4 a5) (begin a0 a1 a2 a3 a4 a5) := fun J K => by kernel_rfl
def told (a0 a1 a2 a3 a4 a5 : Int) : YtobfemcobakeoaaGreatEv.Told A := ⟨f a0 a1 a2 a3 a4 a5, fun r => SoundCall Pg C 244 (S a0 a1 a2 a3 a4 a5) 0 (v r) (o r), fun r h => soundCall_of_tree G mixed Q Tryz.func244 rfl (of_decide_eq_true (by kernel_rfl)) (by rfl) id st v o (fun _ => rfl) tree e (begin a0 a1 a2 a3 a4 a5) (b a0 a1 a2 a3 a4 a5) h⟩
end spec_l04Plain
/-! #### loop.example/g00983/spec.OperandOk (197) -/
namespace spec_OperandOk
def S (a0 : Int) : List (PV U) := YtobfemcobakeoaaGreatEv.start C 5 [.int .i64 a0] []
abbrev X := Empty
def id : X → Nat := fun _ => 0
def st : X → List (PV U) := fun _ => []
def begin (a0 : Int) : Tr X A :=
 .call (spec_l01In.told a0 (-8 : Int) (999 : Int)) fun t1 => .ret t1
def tree : X → Tr X A := fun _ => .fail
def f (a0 : Int) : Option A := (begin a0).run (lp tree)
def Q : Plan C := { PL with cuts := [], ords := [], weak := [] }
theorem e : CutEq Pg C Q Tryz.f197 0 id st v o tree := fun J K x => by cases x
theorem b (a0 : Int) : BegEq Pg C Q Tryz.f197 0 id st v o (S a0) (begin a0) := fun J K => by kernel_rfl
def told (a0 : Int) : YtobfemcobakeoaaGreatEv.Told A := ⟨f a0, fun r => SoundCall Pg C 197 (S a0) 0 (v r) (o r), fun r h => soundCall_of_tree G mixed Q Tryz.func197 rfl (of_decide_eq_true (by kernel_rfl)) (by rfl) id st v o (fun _ => rfl) tree e (begin a0) (b a0) h⟩
end spec_OperandOk
/-! #### loop.example/g00983/spec.ExprOk (141) -/
namespace spec_ExprOk
def S (a0 a1 a2 : Int) : List (PV U) := YtobfemcobakeoaaGreatEv.start C 16 [.agg [.int .i64 a0, .int .i64 a1, .int .i64 a2]] []
abbrev X := Empty
def id : X → Nat := fun _ => 0
def st : X → List (PV U) := fun _ => []
def begin (a0 a1 a2 : Int) : Tr X A :=
 .call (spec_l01In.told a0 (1 : Int) (7 : Int)) fun t1 => .ite t1
  (.call (spec_OperandOk.told a1) fun t2 => .ite t2
   (.call (spec_OperandOk.told a2) fun t3 => .ret t3)
   (.ret false))
  (.ret false)
def tree : X → Tr X A := fun _ => .fail
def f (a0 a1 a2 : Int) : Option A := (begin a0 a1 a2).run (lp tree)
def Q : Plan C := { PL with cuts := [], ords := [], weak := [] }
theorem e : CutEq Pg C Q Tryz.f141 0 id st v o tree := fun J K x => by cases x
theorem b (a0 a1 a2 : Int) : BegEq Pg C Q Tryz.f141 0 id st v o (S a0 a1 a2) (begin a0 a1 a2) := fun J K => by kernel_rfl
def told (a0 a1 a2 : Int) : YtobfemcobakeoaaGreatEv.Told A := ⟨f a0 a1 a2, fun r => SoundCall Pg C 141 (S a0 a1 a2) 0 (v r) (o r), fun r h => soundCall_of_tree G mixed Q Tryz.func141 rfl (of_decide_eq_true (by kernel_rfl)) (by rfl) id st v o (fun _ => rfl) tree e (begin a0 a1 a2) (b a0 a1 a2) h⟩
end spec_ExprOk
/-! #### loop.example/g00983/spec.StmtOk (225) -/
namespace spec_StmtOk
def S (a0 a1 a2 a3 a4 a5 : Int) : List (PV U) := YtobfemcobakeoaaGreatEv.start C 43 [.agg [.int .i64 a0, .int .i64 a1, .int .i64 a2, .int .i64 a3, .int .i64 a4, .int .i64 a5]] []
abbrev X := Empty
def id : X → Nat := fun _ => 0
def st : X → List (PV U) := fun _ => []
def begin (a0 a1 a2 a3 a4 a5 : Int) : Tr X A :=
 .last (.call (spec_l04Plain.told a0 a1 a2 a3 a4 a5) fun t1 => .last (.val ((!(decide (a0 = t1.1) && (decide (a1 = t1.2.1) && (decide (a2 = t1.2.2.1) && (decide (a3 = t1.2.2.2.1) && (decide (a4 = t1.2.2.2.2.1) && (decide (a5 = t1.2.2.2.2.2) && true))))))) : Bool) fun v2 => let u2_0 : Tr X A := (.call (spec_ExprOk.told a3 a4 a5) fun t3 => .ret t3); let u2_1 : Tr X A := (.ite (decide (a0 = (5 : Int))) (.call (spec_l01In.told a2 (1 : Int) (5 : Int)) fun t3 => .ret t3) (.ret ((decide (a0 = (6 : Int)))))); .ite v2
  (.ret false)
  (.ite (decide (a0 = (1 : Int)))
   (.call (spec_l01In.told a1 (0 : Int) (7 : Int)) fun t3 => .ite t3
    (.call (spec_ExprOk.told a3 a4 a5) fun t4 => .ret t4)
    (.ret false))
   (.ite (decide (a0 = (2 : Int)))
    (.call (spec_l01In.told a1 (0 : Int) (7 : Int)) fun t3 => .ite t3
     (.call (spec_l01In.told a2 (0 : Int) (3 : Int)) fun t4 => .ret t4)
     (.ret false))
    (.ite (decide (a0 = (3 : Int)))
     (.ite (decide (a0 = (3 : Int)))
      (u2_0)
      (u2_1))
     (.ite (decide (a0 = (4 : Int)))
      (u2_0)
      (u2_1)))))))
def tree : X → Tr X A := fun _ => .fail
def f (a0 a1 a2 a3 a4 a5 : Int) : Option A := (begin a0 a1 a2 a3 a4 a5).run (lp tree)
def Q : Plan C := { PL with cuts := [], ords := [(1, [], (.take 0 [1, 2] (.take 1 [0] (.alt 2 (.alt 3 .done .nil) .nil))))], weak := [] }
theorem e : CutEq Pg C Q Tryz.f225 0 id st v o tree := fun J K x => by cases x
theorem b (a0 a1 a2 a3 a4 a5 : Int) : BegEq Pg C Q Tryz.f225 0 id st v o (S a0 a1 a2 a3 a4 a5) (begin a0 a1 a2 a3 a4 a5) := fun J K => by kernel_rfl
def told (a0 a1 a2 a3 a4 a5 : Int) : YtobfemcobakeoaaGreatEv.Told A := ⟨f a0 a1 a2 a3 a4 a5, fun r => SoundCall Pg C 225 (S a0 a1 a2 a3 a4 a5) 0 (v r) (o r), fun r h => soundCall_of_tree G mixed Q Tryz.func225 rfl (of_decide_eq_true (by kernel_rfl)) (by rfl) id st v o (fun _ => rfl) tree e (begin a0 a1 a2 a3 a4 a5) (b a0 a1 a2 a3 a4 a5) h⟩
end spec_StmtOk
/-! #### loop.example/g00983/spec.BlockOk (196) -/
namespace spec_BlockOk
def S (a0 : List S210) : List (PV U) := YtobfemcobakeoaaGreatEv.start C 41 [.sl 211 a0] []
inductive X where
 | c3 (x0 : List S210) (x1 x2 : Int)
def id : X → Nat
 | .c3 .. => 3
def st : X → List (PV U)
 | .c3 x0 x1 x2 => stOf 41 [(0, .sl 211 x0), (3, .int .i64 x1), (4, .int .i64 x2)]
def begin (a0 : List S210) : Tr X A :=
 .jump (.c3 a0 (0 : Int) (0 : Int))
def tree : X → Tr X A
 | .c3 x0 x1 x2 =>
 .ite (decide (x2 < (List.length x0 : Int)))
  (.need ((0 : Int) ≤ x2 ∧ x2 < (List.length x0 : Int)) (.call (spec_StmtOk.told ((rdS210 x0 x2).f0) ((rdS210 x0 x2).f1) ((rdS210 x0 x2).f2) ((rdS210 x0 x2).f3.f0) ((rdS210 x0 x2).f3.f1) ((rdS210 x0 x2).f3.f2)) fun t1 => let u1_0 : Tr X A := (.call (spec_l01In.told (wr (x1 + (1 : Int))) (0 : Int) (3 : Int)) fun t2 => .ite (!t2) (.ret false) (.jump (.c3 x0 (wr (x1 + (1 : Int))) (wr (x2 + (1 : Int)))))); let u1_1 : Tr X A := (.ite (decide ((rdS210 x0 x2).f0 = (6 : Int))) (.call (spec_l01In.told (wr (x1 - (1 : Int))) (0 : Int) (3 : Int)) fun t2 => .ite (!t2) (.ret false) (.jump (.c3 x0 (wr (x1 - (1 : Int))) (wr (x2 + (1 : Int)))))) (.call (spec_l01In.told x1 (0 : Int) (3 : Int)) fun t2 => .ite (!t2) (.ret false) (.jump (.c3 x0 x1 (wr (x2 + (1 : Int))))))); .ite (!t1)
   (.ret false)
   (.need ((0 : Int) ≤ x2 ∧ x2 < (List.length x0 : Int)) (.ite (decide ((rdS210 x0 x2).f0 = (4 : Int)))
    (.ite (decide ((rdS210 x0 x2).f0 = (4 : Int)))
     (u1_0)
     (u1_1))
    (.ite (decide ((rdS210 x0 x2).f0 = (5 : Int)))
     (u1_0)
     (u1_1))))))
  (.ite (decide (x1 = (0 : Int)))
   (.ret ((decide ((List.length x0 : Int) ≤ (24 : Int)))))
   (.ret false))
def f (a0 : List S210) : Option A := (begin a0).run (lp tree)
def Q : Plan C := { PL with cuts := [(3, [0, 3, 4, 37, 38, 39])], ords := [], weak := [] }
theorem e : CutEq Pg C Q Tryz.f196 0 id st v o tree := fun J K x => by cases x <;> kernel_rfl
theorem b (a0 : List S210) : BegEq Pg C Q Tryz.f196 0 id st v o (S a0) (begin a0) := fun J K => by kernel_rfl
def told (a0 : List S210) : YtobfemcobakeoaaGreatEv.Told A := ⟨f a0, fun r => SoundCall Pg C 196 (S a0) 0 (v r) (o r), fun r h => soundCall_of_tree G mixed Q Tryz.func196 rfl (of_decide_eq_true (by kernel_rfl)) (by rfl) id st v o (fun _ => rfl) tree e (begin a0) (b a0) h⟩
end spec_BlockOk
/-! #### loop.example/g00983/spec.ProgramOk (137) -/
namespace spec_ProgramOk
def S (a0 : List S166) : List (PV U) := YtobfemcobakeoaaGreatEv.start C 33 [.agg [.sl 167 a0]] []
inductive X where
 | c2 (x0 : List S166) (x1 : Int)
def id : X → Nat
 | .c2 .. => 2
def st : X → List (PV U)
 | .c2 x0 x1 => stOf 33 [(1, .box [.sl 167 x0]), (3, .int .i64 x1)]
def begin (a0 : List S166) : Tr X A :=
 .jump (.c2 a0 (0 : Int))
def tree : X → Tr X A
 | .c2 x0 x1 =>
 .ite (decide (x1 < (List.length x0 : Int)))
  (.need ((0 : Int) ≤ x1 ∧ x1 < (List.length x0 : Int)) (.call (spec_BlockOk.told ((rdS166 x0 x1).f0)) fun t1 => .ite (!t1)
   (.ret false)
   (.need ((0 : Int) ≤ x1 ∧ x1 < (List.length x0 : Int)) (.call (spec_ExprOk.told ((rdS166 x0 x1).f1.f0) ((rdS166 x0 x1).f1.f1) ((rdS166 x0 x1).f1.f2)) fun t2 => .ite (!t2)
    (.ret false)
    (.jump (.c2 x0 (wr (x1 + (1 : Int)))))))))
  (.call (spec_l01In.told (List.length x0 : Int) (1 : Int) (6 : Int)) fun t1 => .ret t1)
def f (a0 : List S166) : Option A := (begin a0).run (lp tree)
def Q : Plan C := { PL with cuts := [(2, [1, 3])], ords := [], weak := [] }
theorem e : CutEq Pg C Q Tryz.f137 0 id st v o tree := fun J K x => by cases x <;> kernel_rfl
theorem b (a0 : List S166) : BegEq Pg C Q Tryz.f137 0 id st v o (S a0) (begin a0) := fun J K => by kernel_rfl
def told (a0 : List S166) : YtobfemcobakeoaaGreatEv.Told A := ⟨f a0, fun r => SoundCall Pg C 137 (S a0) 0 (v r) (o r), fun r h => soundCall_of_tree G mixed Q Tryz.func137 rfl (of_decide_eq_true (by kernel_rfl)) (by rfl) id st v o (fun _ => rfl) tree e (begin a0) (b a0) h⟩
end spec_ProgramOk
/-! #### loop.example/g00983/spec.StoreOk (157) -/
namespace spec_StoreOk
def S (a0 a1 a2 a3 : Int) : List (PV U) := YtobfemcobakeoaaGreatEv.start C 25 [.agg [.int .i64 a0, .int .i64 a1, .int .i64 a2, .int .i64 a3]] []
abbrev X := Empty
def id : X → Nat := fun _ => 0
def st : X → List (PV U) := fun _ => []
def begin (a0 a1 a2 a3 : Int) : Tr X A :=
 .call (spec_l01In.told a1 (1 : Int) (5000 : Int)) fun t1 => .ite t1
  (.call (spec_l01In.told a0 (0 : Int) a1) fun t2 => .ite t2
   (.call (spec_l01In.told a2 (1 : Int) a1) fun t3 => .ite t3
    (.call (spec_l01In.told a3 (0 : Int) (100 : Int)) fun t4 => .ret t4)
    (.ret false))
   (.ret false))
  (.ret false)
def tree : X → Tr X A := fun _ => .fail
def f (a0 a1 a2 a3 : Int) : Option A := (begin a0 a1 a2 a3).run (lp tree)
def Q : Plan C := { PL with cuts := [], ords := [], weak := [] }
theorem e : CutEq Pg C Q Tryz.f157 0 id st v o tree := fun J K x => by cases x
theorem b (a0 a1 a2 a3 : Int) : BegEq Pg C Q Tryz.f157 0 id st v o (S a0 a1 a2 a3) (begin a0 a1 a2 a3) := fun J K => by kernel_rfl
def told (a0 a1 a2 a3 : Int) : YtobfemcobakeoaaGreatEv.Told A := ⟨f a0 a1 a2 a3, fun r => SoundCall Pg C 157 (S a0 a1 a2 a3) 0 (v r) (o r), fun r h => soundCall_of_tree G mixed Q Tryz.func157 rfl (of_decide_eq_true (by kernel_rfl)) (by rfl) id st v o (fun _ => rfl) tree e (begin a0 a1 a2 a3) (b a0 a1 a2 a3) h⟩
end spec_StoreOk
/-! #### loop.example/g00983/spec.l09Values (138) -/
namespace spec_l09Values
def S (a0 : List Int) : List (PV U) := YtobfemcobakeoaaGreatEv.start C 16 [.sl 3 a0] []
inductive X where
 | c2 (x0 : List Int) (x1 : Int)
def id : X → Nat
 | .c2 .. => 2
def st : X → List (PV U)
 | .c2 x0 x1 => stOf 16 [(0, .sl 3 x0), (3, .int .i64 x1)]
def begin (a0 : List Int) : Tr X A :=
 .jump (.c2 a0 (0 : Int))
def tree : X → Tr X A
 | .c2 x0 x1 =>
 .ite (decide (x1 < (List.length x0 : Int)))
  (.need ((0 : Int) ≤ x1 ∧ x1 < (List.length x0 : Int)) (.call (spec_IsValue.told (rdI x0 x1)) fun t1 => .ite (!t1)
   (.ret false)
   (.jump (.c2 x0 (wr (x1 + (1 : Int)))))))
  (.ret true)
def f (a0 : List Int) : Option A := (begin a0).run (lp tree)
def Q : Plan C := { PL with cuts := [(2, [0, 3])], ords := [], weak := [] }
theorem e : CutEq Pg C Q Tryz.f138 0 id st v o tree := fun J K x => by cases x <;> kernel_rfl
theorem b (a0 : List Int) : BegEq Pg C Q Tryz.f138 0 id st v o (S a0) (begin a0) := fun J K => by kernel_rfl
def told (a0 : List Int) : YtobfemcobakeoaaGreatEv.Told A := ⟨f a0, fun r => SoundCall Pg C 138 (S a0) 0 (v r) (o r), fun r h => soundCall_of_tree G mixed Q Tryz.func138 rfl (of_decide_eq_true (by kernel_rfl)) (by rfl) id st v o (fun _ => rfl) tree e (begin a0) (b a0) h⟩
end spec_l09Values
/-! #### loop.example/g00983/spec.l06Copy (155) -/
namespace spec_l06Copy
def S (a0 : List S166) : List (PV U) := YtobfemcobakeoaaGreatEv.start C 34 [.agg [.sl 167 a0]] []
inductive X where
 | c3 (x0 x1 x2 : List S166) (x3 : Int)
 | c4 (x0 x1 x2 : List S166) (x3 : Int)
def id : X → Nat
 | .c3 .. => 3
 | .c4 .. => 4
def st : X → List (PV U)
 | .c3 x0 x1 x2 x3 => stOf 34 [(1, .box [.sl 167 x0]), (2, .box [.own true 167 x1]), (3, .box [.own true 167 x2]), (4, .int .i64 x3)]
 | .c4 x0 x1 x2 x3 => stOf 34 [(1, .box [.sl 167 x0]), (2, .box [.own true 167 x1]), (3, .box [.own true 167 x2]), (4, .int .i64 x3)]
def begin (a0 : List S166) : Tr X A :=
 .jump (.c3 a0 ([] : List S166) ([] : List S166) (0 : Int))
def tree : X → Tr X A
 | .c3 x0 x1 x2 x3 =>
 let u0_0 : Tr X A := (.last (.val ([(⟨(([] : List S210) ++ (rdS166 x0 x3).f0), (⟨(rdS166 x0 x3).f1.f0, (rdS166 x0 x3).f1.f1, (rdS166 x0 x3).f1.f2⟩ : S153)⟩ : S166)] : List S166) fun v1 => .last (.need (((List.length x2 : Int) + (List.length v1 : Int)) * (48 : Nat) ≤ room) (.last (.jump (.c4 x0 x1 (x2 ++ v1) x3)))))); let u0_1 : Tr X A := (.last (u0_0)); let u0_2 : Tr X A := (.need (((List.length ([] : List S210) : Int) + (List.length ((rdS166 x0 x3).f0) : Int)) * (48 : Nat) ≤ room) (u0_1)); let u0_3 : Tr X A := (.last (u0_2)); let u0_4 : Tr X A := (.last (u0_3)); let u0_5 : Tr X A := (.both (u0_2) (u0_4)); let u0_6 : Tr X A := (.both (u0_1) (.last (.both (u0_0) (u0_0)))); let u0_7 : Tr X A := (.need (((List.length ([] : List S210) : Int) + (List.length ((rdS166 x0 x3).f0) : Int)) * (48 : Nat) ≤ room) (u0_6)); let u0_8 : Tr X A := (.both (u0_5) (.last (u0_4))); let u0_9 : Tr X A := (.both (.need (((List.length ([] : List S210) : Int) + (List.length ((rdS166 x0 x3).f0) : Int)) * (48 : Nat) ≤ room) (.need ((0 : Int) ≤ x3 ∧ x3 < (List.length x0 : Int)) (u0_1))) (.last (.need ((0 : Int) ≤ x3 ∧ x3 < (List.length x0 : Int)) (u0_5)))); let u0_10 : Tr X A := (.last (.both (u0_3) (.last (u0_7)))); let u0_11 : Tr X A := (.both (u0_5) (.both (u0_7) (u0_10))); .ite (decide (x3 < (List.length x0 : Int)))
  (.need ((0 : Int) ≤ x3 ∧ x3 < (List.length x0 : Int)) (.both (.both (u0_9)
    (.last (.need ((0 : Int) ≤ x3 ∧ x3 < (List.length x0 : Int)) (u0_8))))
   (.both (.both (u0_9)
     (.both (.need (((List.length ([] : List S210) : Int) + (List.length ((rdS166 x0 x3).f0) : Int)) * (48 : Nat) ≤ room) (.need ((0 : Int) ≤ x3 ∧ x3 < (List.length x0 : Int)) (u0_6)))
      (.last (.need ((0 : Int) ≤ x3 ∧ x3 < (List.length x0 : Int)) (u0_11)))))
    (.last (.need ((0 : Int) ≤ x3 ∧ x3 < (List.length x0 : Int)) (.both (u0_8)
     (.both (u0_11)
      (.last (.both (u0_4)
       (u0_10))))))))))
  (.ret x2)
 | .c4 x0 x1 x2 x3 =>
 .jump (.c3 x0 x1 x2 (wr (x3 + (1 : Int))))
def f (a0 : List S166) : Option A := (begin a0).run (lp tree)
def Q : Plan C := { PL with cuts := [(3, [1, 2, 3, 4]), (4, [1, 2, 3, 4])], ords := [(5, [9, 16, 17, 18, 20], (.take 0 [] (.take 3 [] (.take 5 [] (.take 10 [] (.take 12 [] (.take 4 [0, 1, 2, 3, 5, 10, 11, 12, 13, 14, 15] (.take 6 [] (.take 7 [] (.take 8 [0, 1, 2, 3, 4, 5, 6, 7, 10, 11, 12, 13, 14, 15] (.alt 1 (.alt 2 (.alt 9 (.take 11 [0, 1, 2, 3, 4, 5, 6, 7, 8, 9, 10, 12] (.take 13 [] (.take 14 [] (.take 15 [0, 1, 2, 3, 4, 5, 6, 7, 8, 9, 10, 11, 12, 13, 14] (.alt 16 (.alt 17 (.alt 18 (.take 19 [] (.alt 20 .done .nil)) .nil) .nil) .nil))))) (.alt 11 (.take 13 [] (.take 14 [] (.alt 9 (.take 15 [0, 1, 2, 3, 4, 5, 6, 7, 8, 9, 10, 11, 12, 13, 14] (.alt 16 (.alt 17 (.alt 18 (.take 19 [] (.alt 20 .done .nil)) .nil) .nil) .nil)) (.alt 15 (.alt 9 (.alt 16 (.alt 17 (.alt 18 (.take 19 [] (.alt 20 .done .nil)) .nil) .nil) .nil) .nil) .nil)))) .nil)) (.alt 11 (.take 13 [] (.take 14 [] (.alt 2 (.alt 9 (.take 15 [0, 1, 2, 3, 4, 5, 6, 7, 8, 9, 10, 11, 12, 13, 14] (.alt 16 (.alt 17 (.alt 18 (.take 19 [] (.alt 20 .done .nil)) .nil) .nil) .nil)) (.alt 15 (.alt 9 (.alt 16 (.alt 17 (.alt 18 (.take 19 [] (.alt 20 .done .nil)) .nil) .nil) .nil) .nil) .nil)) (.alt 15 (.alt 2 (.alt 9 (.alt 16 (.alt 17 (.alt 18 (.take 19 [] (.alt 20 .done .nil)) .nil) .nil) .nil) .nil) .nil) .nil)))) .nil)) (.alt 2 (.alt 1 (.alt 9 (.take 11 [0, 1, 2, 3, 4, 5, 6, 7, 8, 9, 10, 12] (.take 13 [] (.take 14 [] (.take 15 [0, 1, 2, 3, 4, 5, 6, 7, 8, 9, 10, 11, 12, 13, 14] (.alt 16 (.alt 17 (.alt 18 (.take 19 [] (.alt 20 .done .nil)) .nil) .nil) .nil))))) (.alt 11 (.take 13 [] (.take 14 [] (.alt 9 (.take 15 [0, 1, 2, 3, 4, 5, 6, 7, 8, 9, 10, 11, 12, 13, 14] (.alt 16 (.alt 17 (.alt 18 (.take 19 [] (.alt 20 .done .nil)) .nil) .nil) .nil)) (.alt 15 (.alt 9 (.alt 16 (.alt 17 (.alt 18 (.take 19 [] (.alt 20 .done .nil)) .nil) .nil) .nil) .nil) .nil)))) .nil)) (.alt 9 (.take 11 [0, 1, 2, 3, 4, 5, 6, 7, 8, 9, 10, 12] (.take 13 [] (.take 14 [] (.take 15 [0, 1, 2, 3, 4, 5, 6, 7, 8, 9, 10, 11, 12, 13, 14] (.alt 1 (.alt 16 (.alt 17 (.alt 18 (.take 19 [] (.alt 20 .done .nil)) .nil) .nil) .nil) (.alt 16 (.alt 1 (.alt 17 (.alt 18 (.take 19 [] (.alt 20 .done .nil)) .nil) .nil) (.alt 17 (.take 1 [0, 2, 3, 4, 5, 6, 7, 8, 9, 10, 11, 12, 13, 14, 15, 16, 17] (.alt 18 (.take 19 [] (.alt 20 .done .nil)) .nil)) .nil)) .nil)))))) (.alt 11 (.take 13 [] (.take 14 [] (.alt 1 (.alt 9 (.take 15 [0, 1, 2, 3, 4, 5, 6, 7, 8, 9, 10, 11, 12, 13, 14] (.alt 16 (.alt 17 (.alt 18 (.take 19 [] (.alt 20 .done .nil)) .nil) .nil) .nil)) (.alt 15 (.alt 9 (.alt 16 (.alt 17 (.alt 18 (.take 19 [] (.alt 20 .done .nil)) .nil) .nil) .nil) .nil) .nil)) (.alt 9 (.take 15 [0, 1, 2, 3, 4, 5, 6, 7, 8, 9, 10, 11, 12, 13, 14] (.alt 1 (.alt 16 (.alt 17 (.alt 18 (.take 19 [] (.alt 20 .done .nil)) .nil) .nil) .nil) (.alt 16 (.alt 1 (.alt 17 (.alt 18 (.take 19 [] (.alt 20 .done .nil)) .nil) .nil) (.alt 17 (.take 1 [0, 2, 3, 4, 5, 6, 7, 8, 9, 10, 11, 12, 13, 14, 15, 16, 17] (.alt 18 (.take 19 [] (.alt 20 .done .nil)) .nil)) .nil)) .nil))) (.alt 15 (.alt 1 (.alt 9 (.alt 16 (.alt 17 (.alt 18 (.take 19 [] (.alt 20 .done .nil)) .nil) .nil) .nil) .nil) (.alt 9 (.alt 1 (.alt 16 (.alt 17 (.alt 18 (.take 19 [] (.alt 20 .done .nil)) .nil) .nil) .nil) (.alt 16 (.alt 1 (.alt 17 (.alt 18 (.take 19 [] (.alt 20 .done .nil)) .nil) .nil) (.alt 17 (.take 1 [0, 2, 3, 4, 5, 6, 7, 8, 9, 10, 11, 12, 13, 14, 15, 16, 17] (.alt 18 (.take 19 [] (.alt 20 .done .nil)) .nil)) .nil)) .nil)) .nil)) .nil))))) .nil))) (.alt 11 (.take 13 [] (.take 14 [] (.alt 1 (.alt 2 (.alt 9 (.take 15 [0, 1, 2, 3, 4, 5, 6, 7, 8, 9, 10, 11, 12, 13, 14] (.alt 16 (.alt 17 (.alt 18 (.take 19 [] (.alt 20 .done .nil)) .nil) .nil) .nil)) (.alt 15 (.alt 9 (.alt 16 (.alt 17 (.alt 18 (.take 19 [] (.alt 20 .done .nil)) .nil) .nil) .nil) .nil) .nil)) (.alt 15 (.alt 2 (.alt 9 (.alt 16 (.alt 17 (.alt 18 (.take 19 [] (.alt 20 .done .nil)) .nil) .nil) .nil) .nil) .nil) .nil)) (.alt 2 (.alt 1 (.alt 9 (.take 15 [0, 1, 2, 3, 4, 5, 6, 7, 8, 9, 10, 11, 12, 13, 14] (.alt 16 (.alt 17 (.alt 18 (.take 19 [] (.alt 20 .done .nil)) .nil) .nil) .nil)) (.alt 15 (.alt 9 (.alt 16 (.alt 17 (.alt 18 (.take 19 [] (.alt 20 .done .nil)) .nil) .nil) .nil) .nil) .nil)) (.alt 9 (.take 15 [0, 1, 2, 3, 4, 5, 6, 7, 8, 9, 10, 11, 12, 13, 14] (.alt 1 (.alt 16 (.alt 17 (.alt 18 (.take 19 [] (.alt 20 .done .nil)) .nil) .nil) .nil) (.alt 16 (.alt 1 (.alt 17 (.alt 18 (.take 19 [] (.alt 20 .done .nil)) .nil) .nil) (.alt 17 (.take 1 [0, 2, 3, 4, 5, 6, 7, 8, 9, 10, 11, 12, 13, 14, 15, 16, 17] (.alt 18 (.take 19 [] (.alt 20 .done .nil)) .nil)) .nil)) .nil))) (.alt 15 (.alt 1 (.alt 9 (.alt 16 (.alt 17 (.alt 18 (.take 19 [] (.alt 20 .done .nil)) .nil) .nil) .nil) .nil) (.alt 9 (.alt 1 (.alt 16 (.alt 17 (.alt 18 (.take 19 [] (.alt 20 .done .nil)) .nil) .nil) .nil) (.alt 16 (.alt 1 (.alt 17 (.alt 18 (.take 19 [] (.alt 20 .done .nil)) .nil) .nil) (.alt 17 (.take 1 [0, 2, 3, 4, 5, 6, 7, 8, 9, 10, 11, 12, 13, 14, 15, 16, 17] (.alt 18 (.take 19 [] (.alt 20 .done .nil)) .nil)) .nil)) .nil)) .nil)) .nil))) (.alt 15 (.alt 1 (.alt 2 (.alt 9 (.alt 16 (.alt 17 (.alt 18 (.take 19 [] (.alt 20 .done .nil)) .nil) .nil) .nil) .nil) .nil) (.alt 2 (.alt 1 (.alt 9 (.alt 16 (.alt 17 (.alt 18 (.take 19 [] (.alt 20 .done .nil)) .nil) .nil) .nil) .nil) (.alt 9 (.alt 1 (.alt 16 (.alt 17 (.alt 18 (.take 19 [] (.alt 20 .done .nil)) .nil) .nil) .nil) (.alt 16 (.alt 1 (.alt 17 (.alt 18 (.take 19 [] (.alt 20 .done .nil)) .nil) .nil) (.alt 17 (.take 1 [0, 2, 3, 4, 5, 6, 7, 8, 9, 10, 11, 12, 13, 14, 15, 16, 17] (.alt 18 (.take 19 [] (.alt 20 .done .nil)) .nil)) .nil)) .nil)) .nil)) .nil)) .nil))))) .nil)))))))))))))], weak := [] }
theorem e : CutEq Pg C Q Tryz.f155 0 id st v o tree := fun J K x => by cases x <;> kernel_rfl
theorem b (a0 : List S166) : BegEq Pg C Q Tryz.f155 0 id st v o (S a0) (begin a0) := fun J K => by kernel_rfl
def told (a0 : List S166) : YtobfemcobakeoaaGreatEv.Told A := ⟨f a0, fun r => SoundCall Pg C 155 (S a0) 0 (v r) (o r), fun r h => soundCall_of_tree G mixed Q Tryz.func155 rfl (of_decide_eq_true (by kernel_rfl)) (by rfl) id st v o (fun _ => rfl) tree e (begin a0) (b a0) h⟩
end spec_l06Copy
/-! #### loop.example/g00983/spec.NodeNew (131) -/
namespace spec_NodeNew
def S (a0 : List S166) (a1 a2 : List Int) (a3 a4 a5 a6 : Int) : List (PV U) := YtobfemcobakeoaaGreatEv.start C 43 [.agg [.sl 167 a0], .sl 3 a1, .sl 3 a2, .agg [.int .i64 a3, .int .i64 a4, .int .i64 a5, .int .i64 a6]] []
abbrev X := Empty
def id : X → Nat := fun _ => 0
def st : X → List (PV U) := fun _ => []
def begin (a0 : List S166) (a1 a2 : List Int) (a3 a4 a5 a6 : Int) : Tr X A :=
 .call (spec_MemNew.told a1) fun t1 => .ite (!t1.2)
  (.ret (([] : List S166), ([] : List Int), ([] : List Int), (0 : Int), (0 : Int), (0 : Int), (0 : Int), (0 : Int), (0 : Int), (0 : Int), (0 : Int), ([] : List Int), (0 : Int), false))
  (.call (spec_ProgramOk.told a0) fun t2 => .ite (!t2)
   (.ret (([] : List S166), ([] : List Int), ([] : List Int), (0 : Int), (0 : Int), (0 : Int), (0 : Int), (0 : Int), (0 : Int), (0 : Int), (0 : Int), ([] : List Int), (0 : Int), false))
   (.call (spec_StoreOk.told a3 a4 a5 a6) fun t3 => .ite (!t3)
    (.ret (([] : List S166), ([] : List Int), ([] : List Int), (0 : Int), (0 : Int), (0 : Int), (0 : Int), (0 : Int), (0 : Int), (0 : Int), (0 : Int), ([] : List Int), (0 : Int), false))
    (.call (spec_l09Values.told a2) fun t4 => let u4_0 : Tr X A := (.last (.last (.call (spec_l06Copy.told a0) fun t5 => .last (.need (((List.length ([] : List Int) : Int) + (List.length a2 : Int)) * (8 : Nat) ≤ room) (.last (.last (.ret (t5, t1.1, (([] : List Int) ++ a2), (0 : Int), a3, a4, a5, a6, (0 : Int), (0 : Int), (0 : Int), ([] : List Int), (0 : Int), true)))))))); .ite (!t4)
     (.ret (([] : List S166), ([] : List Int), ([] : List Int), (0 : Int), (0 : Int), (0 : Int), (0 : Int), (0 : Int), (0 : Int), (0 : Int), (0 : Int), ([] : List Int), (0 : Int), false))
     (.both (.call (spec_l06Copy.told a0) fun t5 => let u5_0 : Tr X A := (.need (((List.length ([] : List Int) : Int) + (List.length a2 : Int)) * (8 : Nat) ≤ room) (.last (.last (.ret (t5, t1.1, (([] : List Int) ++ a2), (0 : Int), a3, a4, a5, a6, (0 : Int), (0 : Int), (0 : Int), ([] : List Int), (0 : Int), true))))); let u5_1 : Tr X A := (.last (.last (u5_0))); .both (.both (u5_0)
        (u5_1))
       (.last (u5_1)))
      (.both (.both (.call (spec_l06Copy.told a0) fun t5 => let u5_0 : Tr X A := (.need (((List.length ([] : List Int) : Int) + (List.length a2 : Int)) * (8 : Nat) ≤ room) (.last (.last (.ret (t5, t1.1, (([] : List Int) ++ a2), (0 : Int), a3, a4, a5, a6, (0 : Int), (0 : Int), (0 : Int), ([] : List Int), (0 : Int), true))))); .both (u5_0)
         (.last (.last (u5_0))))
        (u4_0))
       (.last (.both (.call (spec_l06Copy.told a0) fun t5 => .last (.last (.need (((List.length ([] : List Int) : Int) + (List.length a2 : Int)) * (8 : Nat) ≤ room) (.last (.last (.ret (t5, t1.1, (([] : List Int) ++ a2), (0 : Int), a3, a4, a5, a6, (0 : Int), (0 : Int), (0 : Int), ([] : List Int), (0 : Int), true)))))))
        (u4_0))))))))
def tree : X → Tr X A := fun _ => .fail
def f (a0 : List S166) (a1 a2 : List Int) (a3 a4 a5 a6 : Int) : Option A := (begin a0 a1 a2 a3 a4 a5 a6).run (lp tree)
def Q : Plan C := { PL with cuts := [], ords := [(4, [5, 7, 8], (.take 2 [] (.take 4 [] (.take 0 [2, 3, 4, 6] (.alt 1 (.alt 3 (.alt 5 (.take 6 [0, 1, 2, 3, 4, 5] (.alt 7 (.alt 8 (.take 9 [] .done) .nil) .nil)) (.alt 6 (.alt 5 (.alt 7 (.alt 8 (.take 9 [] .done) .nil) .nil) .nil) .nil)) (.alt 6 (.alt 3 (.alt 5 (.alt 7 (.alt 8 (.take 9 [] .done) .nil) .nil) .nil) .nil) .nil)) (.alt 3 (.alt 1 (.alt 5 (.take 6 [0, 1, 2, 3, 4, 5] (.alt 7 (.alt 8 (.take 9 [] .done) .nil) .nil)) (.alt 6 (.alt 5 (.alt 7 (.alt 8 (.take 9 [] .done) .nil) .nil) .nil) .nil)) (.alt 6 (.alt 1 (.alt 5 (.alt 7 (.alt 8 (.take 9 [] .done) .nil) .nil) .nil) .nil) .nil)) (.alt 6 (.alt 1 (.alt 3 (.alt 5 (.alt 7 (.alt 8 (.take 9 [] .done) .nil) .nil) .nil) .nil) (.alt 3 (.alt 1 (.alt 5 (.alt 7 (.alt 8 (.take 9 [] .done) .nil) .nil) .nil) .nil) .nil)) .nil)))))))], weak := [] }
theorem e : CutEq Pg C Q Tryz.f131 0 id st v o tree := fun J K x => by cases x
theorem b (a0 : List S166) (a1 a2 : List Int) (a3 a4 a5 a6 : Int) : BegEq Pg C Q Tryz.f131 0 id st v o (S a0 a1 a2 a3 a4 a5 a6) (begin a0 a1 a2 a3 a4 a5 a6) := fun J K => by kernel_rfl
def told (a0 : List S166) (a1 a2 : List Int) (a3 a4 a5 a6 : Int) : YtobfemcobakeoaaGreatEv.Told A := ⟨f a0 a1 a2 a3 a4 a5 a6, fun r => SoundCall Pg C 131 (S a0 a1 a2 a3 a4 a5 a6) 0 (v r) (o r), fun r h => soundCall_of_tree G mixed Q Tryz.func131 rfl (of_decide_eq_true (by kernel_rfl)) (by rfl) id st v o (fun _ => rfl) tree e (begin a0 a1 a2 a3 a4 a5 a6) (b a0 a1 a2 a3 a4 a5 a6) h⟩
end spec_NodeNew
/-! #### loop.example/g00983/spec.l38Act (191) -/
namespace spec_l38Act
def S (a0 : List Int) (a1 a2 : Int) : List (PV U) := YtobfemcobakeoaaGreatEv.start C 48 [.ptr 48 0] [.box [.sl 5 a0, .int .i64 a1, .int .i64 a2]]
abbrev X := Empty
def id : X → Nat := fun _ => 0
def st : X → List (PV U) := fun _ => []
def begin (a0 : List Int) (a1 a2 : Int) : Tr X A :=
 .call (spec_l01Below.told (7 : Int) a0 a1 a2) fun t1 => let u1_0 : Tr X A := (.call (spec_l01Below.told (5 : Int) t1.2.1 t1.2.2.1 t1.2.2.2) fun t2 => .call (spec_l01Below.told (2 : Int) t2.2.1 t2.2.2.1 t2.2.2.2) fun t3 => .ret ((3 : Int), t2.1, t3.1, t3.2.1, t3.2.2.1, t3.2.2.2)); let u1_1 : Tr X A := (.ite (decide (t1.1 = (3 : Int))) (.call (spec_l01Below.told (60 : Int) t1.2.1 t1.2.2.1 t1.2.2.2) fun t2 => .call (spec_l01Below.told (40 : Int) t2.2.1 t2.2.2.1 t2.2.2.2) fun t3 => .ret ((4 : Int), t2.1, (wr (t2.1 + t3.1)), t3.2.1, t3.2.2.1, t3.2.2.2)) (.ite (decide (t1.1 = (4 : Int))) (.call (spec_l01Below.told (900 : Int) t1.2.1 t1.2.2.1 t1.2.2.2) fun t2 => .ret ((5 : Int), (wr (t2.1 - (200 : Int))), (0 : Int), t2.2.1, t2.2.2.1, t2.2.2.2)) (.call (spec_l01Below.told (6 : Int) t1.2.1 t1.2.2.1 t1.2.2.2) fun t2 => .call (spec_l01PickInt.told ([(0 : Int), (10 : Int), (60 : Int), (300 : Int)]) t2.2.1 t2.2.2.1 t2.2.2.2) fun t3 => .ret ((1 : Int), (wr ((1 : Int) + t2.1)), t3.1, t3.2.1, t3.2.2.1, t3.2.2.2)))); .ite (decide (t1.1 = (0 : Int)))
  (.call (spec_l01Below.told (20 : Int) t1.2.1 t1.2.2.1 t1.2.2.2) fun t2 => .call (spec_l01Below.told (9 : Int) t2.2.1 t2.2.2.1 t2.2.2.2) fun t3 => .ret ((2 : Int), t2.1, (wr (t2.1 + t3.1)), t3.2.1, t3.2.2.1, t3.2.2.2))
  (.ite (decide (t1.1 = (1 : Int)))
   (.ite (decide (t1.1 = (1 : Int)))
    (u1_0)
    (u1_1))
   (.ite (decide (t1.1 = (2 : Int)))
    (u1_0)
    (u1_1)))
def tree : X → Tr X A := fun _ => .fail
def f (a0 : List Int) (a1 a2 : Int) : Option A := (begin a0 a1 a2).run (lp tree)
def Q : Plan C := { PL with cuts := [], ords := [], weak := [] }
theorem e : CutEq Pg C Q Tryz.f191 1 id st v o tree := fun J K x => by cases x
theorem b (a0 : List Int) (a1 a2 : Int) : BegEq Pg C Q Tryz.f191 1 id st v o (S a0 a1 a2) (begin a0 a1 a2) := fun J K => by kernel_rfl
def told (a0 : List Int) (a1 a2 : Int) : YtobfemcobakeoaaGreatEv.Told A := ⟨f a0 a1 a2, fun r => SoundCall Pg C 191 (S a0 a1 a2) 1 (v r) (o r), fun r h => soundCall_of_tree G mixed Q Tryz.func191 rfl (of_decide_eq_true (by kernel_rfl)) (by rfl) id st v o (fun _ => rfl) tree e (begin a0 a1 a2) (b a0 a1 a2) h⟩
end spec_l38Act
/-! #### loop.example/g00983/spec.l38Acts (132) -/
namespace spec_l38Acts
def S (a0 : List Int) (a1 a2 : Int) : List (PV U) := YtobfemcobakeoaaGreatEv.start C 18 [.ptr 18 0] [.box [.sl 5 a0, .int .i64 a1, .int .i64 a2]]
inductive X where
 | c3 (x0 : List S160) (x1 : Int) (x2 : List Int) (x3 x4 : Int)
def id : X → Nat
 | .c3 .. => 3
def st : X → List (PV U)
 | .c3 x0 x1 x2 x3 x4 => stOf 19 [(0, .ptr 18 0), (3, .own true 161 x0), (4, .int .i64 x1), (18, .box [.sl 5 x2, .int .i64 x3, .int .i64 x4])]
def begin (a0 : List Int) (a1 a2 : Int) : Tr X A :=
 .jump (.c3 ([] : List S160) (0 : Int) a0 a1 a2)
def tree : X → Tr X A
 | .c3 x0 x1 x2 x3 x4 =>
 .call (spec_l01Below.told (7 : Int) x2 x3 x4) fun t1 => .ite (decide (x1 < t1.1))
  (.call (spec_l38Act.told t1.2.1 t1.2.2.1 t1.2.2.2) fun t2 => .need (((List.length x0 : Int) + (List.length ([(⟨t2.1, t2.2.1, t2.2.2.1⟩ : S160)]) : Int)) * (24 : Nat) ≤ room) (.jump (.c3 (x0 ++ [(⟨t2.1, t2.2.1, t2.2.2.1⟩ : S160)]) (wr (x1 + (1 : Int))) t2.2.2.2.1 t2.2.2.2.2.1 t2.2.2.2.2.2)))
  (.ret (x0, t1.2.1, t1.2.2.1, t1.2.2.2))
def f (a0 : List Int) (a1 a2 : Int) : Option A := (begin a0 a1 a2).run (lp tree)
def Q : Plan C := { PL with cuts := [(3, [0, 3, 4, 18])], ords := [], weak := [] }
theorem e : CutEq Pg C Q Tryz.f132 1 id st v o tree := fun J K x => by cases x <;> kernel_rfl
theorem b (a0 : List Int) (a1 a2 : Int) : BegEq Pg C Q Tryz.f132 1 id st v o (S a0 a1 a2) (begin a0 a1 a2) := fun J K => by kernel_rfl
def told (a0 : List Int) (a1 a2 : Int) : YtobfemcobakeoaaGreatEv.Told A := ⟨f a0 a1 a2, fun r => SoundCall Pg C 132 (S a0 a1 a2) 1 (v r) (o r), fun r h => soundCall_of_tree G mixed Q Tryz.func132 rfl (of_decide_eq_true (by kernel_rfl)) (by rfl) id st v o (fun _ => rfl) tree e (begin a0 a1 a2) (b a0 a1 a2) h⟩
end spec_l38Acts
/-! #### loop.example/g00983/spec.DrawActs (60) -/
namespace spec_DrawActs
def S (a0 : List Int) : List (PV U) := YtobfemcobakeoaaGreatEv.start C 26 [.sl 5 a0] []
inductive X where
 | c4 (x0 : List S166) (x1 x2 : List Int) (x3 x4 x5 x6 x7 x8 x9 x10 : Int) (x11 : List Int) (x12 : Int) (x13 : List S166) (x14 x15 : List Int) (x16 x17 x18 x19 x20 x21 x22 x23 : Int) (x24 : List Int) (x25 : Int) (x26 : List Int) (x27 x28 : Int)
def id : X → Nat
 | .c4 .. => 4
def st : X → List (PV U)
 | .c4 x0 x1 x2 x3 x4 x5 x6 x7 x8 x9 x10 x11 x12 x13 x14 x15 x16 x17 x18 x19 x20 x21 x22 x23 x24 x25 x26 x27 x28 => stOf 26 [(2, .box [.own true 167 x0, .own true 3 x1, .own true 3 x2, .int .i64 x3, .int .i64 x4, .int .i64 x5, .int .i64 x6, .int .i64 x7, .int .i64 x8, .int .i64 x9, .int .i64 x10, .own true 3 x11, .int .i64 x12]), (4, .ptr 9 0), (6, .box [.own true 167 x13, .own true 3 x14, .own true 3 x15, .int .i64 x16, .int .i64 x17, .int .i64 x18, .int .i64 x19, .int .i64 x20, .int .i64 x21, .int .i64 x22, .int .i64 x23, .own true 3 x24, .int .i64 x25]), (9, .box [.sl 5 x26, .int .i64 x27, .int .i64 x28])]
def begin (a0 : List Int) : Tr X A :=
 .call (spec_l01New.told a0) fun t1 => .call (spec_l06Program.told t1.1 t1.2.1 t1.2.2) fun t2 => let u2_0 : Tr X A := (.last (.call (spec_l03Vars.told t2.2.1 t2.2.2.1 t2.2.2.2) fun t3 => .last (.call (spec_l12Readings.told t3.2.1 t3.2.2.1 t3.2.2.2) fun t4 => .last (.call (spec_l19Store.told t4.2.1 t4.2.2.1 t4.2.2.2) fun t5 => .last (.call (spec_NodeNew.told t2.1 t3.1 t4.1 t5.1 t5.2.1 t5.2.2.1 t5.2.2.2.1) fun t6 => .last (.jump (.c4 ([] : List S166) ([] : List Int) ([] : List Int) (0 : Int) (0 : Int) (0 : Int) (0 : Int) (0 : Int) (0 : Int) (0 : Int) (0 : Int) ([] : List Int) (0 : Int) t6.1 t6.2.1 t6.2.2.1 t6.2.2.2.1 t6.2.2.2.2.1 t6.2.2.2.2.2.1 t6.2.2.2.2.2.2.1 t6.2.2.2.2.2.2.2.1 t6.2.2.2.2.2.2.2.2.1 t6.2.2.2.2.2.2.2.2.2.1 t6.2.2.2.2.2.2.2.2.2.2.1 t6.2.2.2.2.2.2.2.2.2.2.2.1 t6.2.2.2.2.2.2.2.2.2.2.2.2.1 t5.2.2.2.2.1 t5.2.2.2.2.2.1 t5.2.2.2.2.2.2))))))); .both (.both (.call (spec_l03Vars.told t2.2.1 t2.2.2.1 t2.2.2.2) fun t3 => .both (.call (spec_l12Readings.told t3.2.1 t3.2.2.1 t3.2.2.2) fun t4 => .both (.call (spec_l19Store.told t4.2.1 t4.2.2.1 t4.2.2.2) fun t5 => .both (.call (spec_NodeNew.told t2.1 t3.1 t4.1 t5.1 t5.2.1 t5.2.2.1 t5.2.2.2.1) fun t6 => .last (.last (.jump (.c4 ([] : List S166) ([] : List Int) ([] : List Int) (0 : Int) (0 : Int) (0 : Int) (0 : Int) (0 : Int) (0 : Int) (0 : Int) (0 : Int) ([] : List Int) (0 : Int) t6.1 t6.2.1 t6.2.2.1 t6.2.2.2.1 t6.2.2.2.2.1 t6.2.2.2.2.2.1 t6.2.2.2.2.2.2.1 t6.2.2.2.2.2.2.2.1 t6.2.2.2.2.2.2.2.2.1 t6.2.2.2.2.2.2.2.2.2.1 t6.2.2.2.2.2.2.2.2.2.2.1 t6.2.2.2.2.2.2.2.2.2.2.2.1 t6.2.2.2.2.2.2.2.2.2.2.2.2.1 t5.2.2.2.2.1 t5.2.2.2.2.2.1 t5.2.2.2.2.2.2))))
      (.last (.last (.call (spec_NodeNew.told t2.1 t3.1 t4.1 t5.1 t5.2.1 t5.2.2.1 t5.2.2.2.1) fun t6 => .last (.jump (.c4 ([] : List S166) ([] : List Int) ([] : List Int) (0 : Int) (0 : Int) (0 : Int) (0 : Int) (0 : Int) (0 : Int) (0 : Int) (0 : Int) ([] : List Int) (0 : Int) t6.1 t6.2.1 t6.2.2.1 t6.2.2.2.1 t6.2.2.2.2.1 t6.2.2.2.2.2.1 t6.2.2.2.2.2.2.1 t6.2.2.2.2.2.2.2.1 t6.2.2.2.2.2.2.2.2.1 t6.2.2.2.2.2.2.2.2.2.1 t6.2.2.2.2.2.2.2.2.2.2.1 t6.2.2.2.2.2.2.2.2.2.2.2.1 t6.2.2.2.2.2.2.2.2.2.2.2.2.1 t5.2.2.2.2.1 t5.2.2.2.2.2.1 t5.2.2.2.2.2.2))))))
     (.last (.last (.call (spec_l19Store.told t4.2.1 t4.2.2.1 t4.2.2.2) fun t5 => .last (.call (spec_NodeNew.told t2.1 t3.1 t4.1 t5.1 t5.2.1 t5.2.2.1 t5.2.2.2.1) fun t6 => .last (.jump (.c4 ([] : List S166) ([] : List Int) ([] : List Int) (0 : Int) (0 : Int) (0 : Int) (0 : Int) (0 : Int) (0 : Int) (0 : Int) (0 : Int) ([] : List Int) (0 : Int) t6.1 t6.2.1 t6.2.2.1 t6.2.2.2.1 t6.2.2.2.2.1 t6.2.2.2.2.2.1 t6.2.2.2.2.2.2.1 t6.2.2.2.2.2.2.2.1 t6.2.2.2.2.2.2.2.2.1 t6.2.2.2.2.2.2.2.2.2.1 t6.2.2.2.2.2.2.2.2.2.2.1 t6.2.2.2.2.2.2.2.2.2.2.2.1 t6.2.2.2.2.2.2.2.2.2.2.2.2.1 t5.2.2.2.2.1 t5.2.2.2.2.2.1 t5.2.2.2.2.2.2)))))))
    (.last (.last (.call (spec_l12Readings.told t3.2.1 t3.2.2.1 t3.2.2.2) fun t4 => .last (.call (spec_l19Store.told t4.2.1 t4.2.2.1 t4.2.2.2) fun t5 => .last (.call (spec_NodeNew.told t2.1 t3.1 t4.1 t5.1 t5.2.1 t5.2.2.1 t5.2.2.2.1) fun t6 => .last (.jump (.c4 ([] : List S166) ([] : List Int) ([] : List Int) (0 : Int) (0 : Int) (0 : Int) (0 : Int) (0 : Int) (0 : Int) (0 : Int) (0 : Int) ([] : List Int) (0 : Int) t6.1 t6.2.1 t6.2.2.1 t6.2.2.2.1 t6.2.2.2.2.1 t6.2.2.2.2.2.1 t6.2.2.2.2.2.2.1 t6.2.2.2.2.2.2.2.1 t6.2.2.2.2.2.2.2.2.1 t6.2.2.2.2.2.2.2.2.2.1 t6.2.2.2.2.2.2.2.2.2.2.1 t6.2.2.2.2.2.2.2.2.2.2.2.1 t6.2.2.2.2.2.2.2.2.2.2.2.2.1 t5.2.2.2.2.1 t5.2.2.2.2.2.1 t5.2.2.2.2.2.2))))))))
   (.last (u2_0)))
  (.both (.call (spec_l03Vars.told t2.2.1 t2.2.2.1 t2.2.2.2) fun t3 => let u3_0 : Tr X A := (.last (.call (spec_l12Readings.told t3.2.1 t3.2.2.1 t3.2.2.2) fun t4 => .last (.call (spec_l19Store.told t4.2.1 t4.2.2.1 t4.2.2.2) fun t5 => .last (.call (spec_NodeNew.told t2.1 t3.1 t4.1 t5.1 t5.2.1 t5.2.2.1 t5.2.2.2.1) fun t6 => .last (.jump (.c4 ([] : List S166) ([] : List Int) ([] : List Int) (0 : Int) (0 : Int) (0 : Int) (0 : Int) (0 : Int) (0 : Int) (0 : Int) (0 : Int) ([] : List Int) (0 : Int) t6.1 t6.2.1 t6.2.2.1 t6.2.2.2.1 t6.2.2.2.2.1 t6.2.2.2.2.2.1 t6.2.2.2.2.2.2.1 t6.2.2.2.2.2.2.2.1 t6.2.2.2.2.2.2.2.2.1 t6.2.2.2.2.2.2.2.2.2.1 t6.2.2.2.2.2.2.2.2.2.2.1 t6.2.2.2.2.2.2.2.2.2.2.2.1 t6.2.2.2.2.2.2.2.2.2.2.2.2.1 t5.2.2.2.2.1 t5.2.2.2.2.2.1 t5.2.2.2.2.2.2)))))); .both (.both (.call (spec_l12Readings.told t3.2.1 t3.2.2.1 t3.2.2.2) fun t4 => .both (.call (spec_l19Store.told t4.2.1 t4.2.2.1 t4.2.2.2) fun t5 => .both (.call (spec_NodeNew.told t2.1 t3.1 t4.1 t5.1 t5.2.1 t5.2.2.1 t5.2.2.2.1) fun t6 => .last (.last (.jump (.c4 ([] : List S166) ([] : List Int) ([] : List Int) (0 : Int) (0 : Int) (0 : Int) (0 : Int) (0 : Int) (0 : Int) (0 : Int) (0 : Int) ([] : List Int) (0 : Int) t6.1 t6.2.1 t6.2.2.1 t6.2.2.2.1 t6.2.2.2.2.1 t6.2.2.2.2.2.1 t6.2.2.2.2.2.2.1 t6.2.2.2.2.2.2.2.1 t6.2.2.2.2.2.2.2.2.1 t6.2.2.2.2.2.2.2.2.2.1 t6.2.2.2.2.2.2.2.2.2.2.1 t6.2.2.2.2.2.2.2.2.2.2.2.1 t6.2.2.2.2.2.2.2.2.2.2.2.2.1 t5.2.2.2.2.1 t5.2.2.2.2.2.1 t5.2.2.2.2.2.2))))
       (.last (.last (.call (spec_NodeNew.told t2.1 t3.1 t4.1 t5.1 t5.2.1 t5.2.2.1 t5.2.2.2.1) fun t6 => .last (.jump (.c4 ([] : List S166) ([] : List Int) ([] : List Int) (0 : Int) (0 : Int) (0 : Int) (0 : Int) (0 : Int) (0 : Int) (0 : Int) (0 : Int) ([] : List Int) (0 : Int) t6.1 t6.2.1 t6.2.2.1 t6.2.2.2.1 t6.2.2.2.2.1 t6.2.2.2.2.2.1 t6.2.2.2.2.2.2.1 t6.2.2.2.2.2.2.2.1 t6.2.2.2.2.2.2.2.2.1 t6.2.2.2.2.2.2.2.2.2.1 t6.2.2.2.2.2.2.2.2.2.2.1 t6.2.2.2.2.2.2.2.2.2.2.2.1 t6.2.2.2.2.2.2.2.2.2.2.2.2.1 t5.2.2.2.2.1 t5.2.2.2.2.2.1 t5.2.2.2.2.2.2))))))
      (.last (.last (.call (spec_l19Store.told t4.2.1 t4.2.2.1 t4.2.2.2) fun t5 => .last (.call (spec_NodeNew.told t2.1 t3.1 t4.1 t5.1 t5.2.1 t5.2.2.1 t5.2.2.2.1) fun t6 => .last (.jump (.c4 ([] : List S166) ([] : List Int) ([] : List Int) (0 : Int) (0 : Int) (0 : Int) (0 : Int) (0 : Int) (0 : Int) (0 : Int) (0 : Int) ([] : List Int) (0 : Int) t6.1 t6.2.1 t6.2.2.1 t6.2.2.2.1 t6.2.2.2.2.1 t6.2.2.2.2.2.1 t6.2.2.2.2.2.2.1 t6.2.2.2.2.2.2.2.1 t6.2.2.2.2.2.2.2.2.1 t6.2.2.2.2.2.2.2.2.2.1 t6.2.2.2.2.2.2.2.2.2.2.1 t6.2.2.2.2.2.2.2.2.2.2.2.1 t6.2.2.2.2.2.2.2.2.2.2.2.2.1 t5.2.2.2.2.1 t5.2.2.2.2.2.1 t5.2.2.2.2.2.2)))))))
     (.last (u3_0)))
    (.both (.call (spec_l12Readings.told t3.2.1 t3.2.2.1 t3.2.2.2) fun t4 => let u4_0 : Tr X A := (.last (.call (spec_l19Store.told t4.2.1 t4.2.2.1 t4.2.2.2) fun t5 => .last (.call (spec_NodeNew.told t2.1 t3.1 t4.1 t5.1 t5.2.1 t5.2.2.1 t5.2.2.2.1) fun t6 => .last (.jump (.c4 ([] : List S166) ([] : List Int) ([] : List Int) (0 : Int) (0 : Int) (0 : Int) (0 : Int) (0 : Int) (0 : Int) (0 : Int) (0 : Int) ([] : List Int) (0 : Int) t6.1 t6.2.1 t6.2.2.1 t6.2.2.2.1 t6.2.2.2.2.1 t6.2.2.2.2.2.1 t6.2.2.2.2.2.2.1 t6.2.2.2.2.2.2.2.1 t6.2.2.2.2.2.2.2.2.1 t6.2.2.2.2.2.2.2.2.2.1 t6.2.2.2.2.2.2.2.2.2.2.1 t6.2.2.2.2.2.2.2.2.2.2.2.1 t6.2.2.2.2.2.2.2.2.2.2.2.2.1 t5.2.2.2.2.1 t5.2.2.2.2.2.1 t5.2.2.2.2.2.2))))); let u4_1 : Tr X A := (.call (spec_l19Store.told t4.2.1 t4.2.2.1 t4.2.2.2) fun t5 => .both (.call (spec_NodeNew.told t2.1 t3.1 t4.1 t5.1 t5.2.1 t5.2.2.1 t5.2.2.2.1) fun t6 => .last (.last (.jump (.c4 ([] : List S166) ([] : List Int) ([] : List Int) (0 : Int) (0 : Int) (0 : Int) (0 : Int) (0 : Int) (0 : Int) (0 : Int) (0 : Int) ([] : List Int) (0 : Int) t6.1 t6.2.1 t6.2.2.1 t6.2.2.2.1 t6.2.2.2.2.1 t6.2.2.2.2.2.1 t6.2.2.2.2.2.2.1 t6.2.2.2.2.2.2.2.1 t6.2.2.2.2.2.2.2.2.1 t6.2.2.2.2.2.2.2.2.2.1 t6.2.2.2.2.2.2.2.2.2.2.1 t6.2.2.2.2.2.2.2.2.2.2.2.1 t6.2.2.2.2.2.2.2.2.2.2.2.2.1 t5.2.2.2.2.1 t5.2.2.2.2.2.1 t5.2.2.2.2.2.2)))) (.last (.last (.call (spec_NodeNew.told t2.1 t3.1 t4.1 t5.1 t5.2.1 t5.2.2.1 t5.2.2.2.1) fun t6 => .last (.jump (.c4 ([] : List S166) ([] : List Int) ([] : List Int) (0 : Int) (0 : Int) (0 : Int) (0 : Int) (0 : Int) (0 : Int) (0 : Int) (0 : Int) ([] : List Int) (0 : Int) t6.1 t6.2.1 t6.2.2.1 t6.2.2.2.1 t6.2.2.2.2.1 t6.2.2.2.2.2.1 t6.2.2.2.2.2.2.1 t6.2.2.2.2.2.2.2.1 t6.2.2.2.2.2.2.2.2.1 t6.2.2.2.2.2.2.2.2.2.1 t6.2.2.2.2.2.2.2.2.2.2.1 t6.2.2.2.2.2.2.2.2.2.2.2.1 t6.2.2.2.2.2.2.2.2.2.2.2.2.1 t5.2.2.2.2.1 t5.2.2.2.2.2.1 t5.2.2.2.2.2.2)))))); .both (.both (u4_1)
       (.last (u4_0)))
      (.both (u4_1)
       (.last (.both (u4_0)
        (u4_0)))))
     (.last (.both (u3_0)
      (.last (.call (spec_l12Readings.told t3.2.1 t3.2.2.1 t3.2.2.2) fun t4 => let u4_0 : Tr X A := (.last (.call (spec_l19Store.told t4.2.1 t4.2.2.1 t4.2.2.2) fun t5 => .last (.call (spec_NodeNew.told t2.1 t3.1 t4.1 t5.1 t5.2.1 t5.2.2.1 t5.2.2.2.1) fun t6 => .last (.jump (.c4 ([] : List S166) ([] : List Int) ([] : List Int) (0 : Int) (0 : Int) (0 : Int) (0 : Int) (0 : Int) (0 : Int) (0 : Int) (0 : Int) ([] : List Int) (0 : Int) t6.1 t6.2.1 t6.2.2.1 t6.2.2.2.1 t6.2.2.2.2.1 t6.2.2.2.2.2.1 t6.2.2.2.2.2.2.1 t6.2.2.2.2.2.2.2.1 t6.2.2.2.2.2.2.2.2.1 t6.2.2.2.2.2.2.2.2.2.1 t6.2.2.2.2.2.2.2.2.2.2.1 t6.2.2.2.2.2.2.2.2.2.2.2.1 t6.2.2.2.2.2.2.2.2.2.2.2.2.1 t5.2.2.2.2.1 t5.2.2.2.2.2.1 t5.2.2.2.2.2.2))))); .both (u4_0)
       (u4_0)))))))
   (.last (.both (u2_0)
    (.last (.call (spec_l03Vars.told t2.2.1 t2.2.2.1 t2.2.2.2) fun t3 => .both (.last (.call (spec_l12Readings.told t3.2.1 t3.2.2.1 t3.2.2.2) fun t4 => .last (.call (spec_l19Store.told t4.2.1 t4.2.2.1 t4.2.2.2) fun t5 => .last (.call (spec_NodeNew.told t2.1 t3.1 t4.1 t5.1 t5.2.1 t5.2.2.1 t5.2.2.2.1) fun t6 => .last (.jump (.c4 ([] : List S166) ([] : List Int) ([] : List Int) (0 : Int) (0 : Int) (0 : Int) (0 : Int) (0 : Int) (0 : Int) (0 : Int) (0 : Int) ([] : List Int) (0 : Int) t6.1 t6.2.1 t6.2.2.1 t6.2.2.2.1 t6.2.2.2.2.1 t6.2.2.2.2.2.1 t6.2.2.2.2.2.2.1 t6.2.2.2.2.2.2.2.1 t6.2.2.2.2.2.2.2.2.1 t6.2.2.2.2.2.2.2.2.2.1 t6.2.2.2.2.2.2.2.2.2.2.1 t6.2.2.2.2.2.2.2.2.2.2.2.1 t6.2.2.2.2.2.2.2.2.2.2.2.2.1 t5.2.2.2.2.1 t5.2.2.2.2.2.1 t5.2.2.2.2.2.2))))))
     (.last (.call (spec_l12Readings.told t3.2.1 t3.2.2.1 t3.2.2.2) fun t4 => let u4_0 : Tr X A := (.last (.call (spec_l19Store.told t4.2.1 t4.2.2.1 t4.2.2.2) fun t5 => .last (.call (spec_NodeNew.told t2.1 t3.1 t4.1 t5.1 t5.2.1 t5.2.2.1 t5.2.2.2.1) fun t6 => .last (.jump (.c4 ([] : List S166) ([] : List Int) ([] : List Int) (0 : Int) (0 : Int) (0 : Int) (0 : Int) (0 : Int) (0 : Int) (0 : Int) (0 : Int) ([] : List Int) (0 : Int) t6.1 t6.2.1 t6.2.2.1 t6.2.2.2.1 t6.2.2.2.2.1 t6.2.2.2.2.2.1 t6.2.2.2.2.2.2.1 t6.2.2.2.2.2.2.2.1 t6.2.2.2.2.2.2.2.2.1 t6.2.2.2.2.2.2.2.2.2.1 t6.2.2.2.2.2.2.2.2.2.2.1 t6.2.2.2.2.2.2.2.2.2.2.2.1 t6.2.2.2.2.2.2.2.2.2.2.2.2.1 t5.2.2.2.2.1 t5.2.2.2.2.2.1 t5.2.2.2.2.2.2))))); .both (u4_0)
      (u4_0))))))))
def tree : X → Tr X A
 | .c4 x0 x1 x2 x3 x4 x5 x6 x7 x8 x9 x10 x11 x12 x13 x14 x15 x16 x17 x18 x19 x20 x21 x22 x23 x24 x25 x26 x27 x28 =>
 let u0_0 : Tr X A := (.last (.call (spec_l38Acts.told x26 x27 x28) fun t1 => .last (.ret (x13, x14, x15, x16, x17, x18, x19, x20, x21, x22, x23, x24, x25, t1.1)))); .both (u0_0)
  (u0_0)
def f (a0 : List Int) : Option A := (begin a0).run (lp tree)
def Q : Plan C := { PL with cuts := [(4, [2, 4, 6, 9])], ords := [(3, [2, 4, 6, 12], (.take 1 [] (.take 3 [] (.take 5 [] (.alt 0 (.alt 2 (.alt 4 (.alt 6 (.alt 7 (.take 8 [] (.take 9 [] (.take 10 [] (.alt 11 (.alt 12 (.take 13 [] .done) .nil) .nil)))) (.alt 11 (.alt 7 (.take 8 [] (.take 9 [] (.take 10 [] (.alt 12 (.take 13 [] .done) .nil)))) .nil) .nil)) (.alt 11 (.alt 6 (.alt 7 (.take 8 [] (.take 9 [] (.take 10 [] (.alt 12 (.take 13 [] .done) .nil)))) .nil) .nil) .nil)) (.alt 11 (.alt 4 (.alt 6 (.alt 7 (.take 8 [] (.take 9 [] (.take 10 [] (.alt 12 (.take 13 [] .done) .nil)))) .nil) .nil) .nil) .nil)) (.alt 11 (.alt 2 (.alt 4 (.alt 6 (.alt 7 (.take 8 [] (.take 9 [] (.take 10 [] (.alt 12 (.take 13 [] .done) .nil)))) .nil) .nil) .nil) .nil) .nil)) (.alt 2 (.alt 0 (.alt 4 (.alt 6 (.alt 7 (.take 8 [] (.take 9 [] (.take 10 [] (.alt 11 (.alt 12 (.take 13 [] .done) .nil) .nil)))) (.alt 11 (.alt 7 (.take 8 [] (.take 9 [] (.take 10 [] (.alt 12 (.take 13 [] .done) .nil)))) .nil) .nil)) (.alt 11 (.alt 6 (.alt 7 (.take 8 [] (.take 9 [] (.take 10 [] (.alt 12 (.take 13 [] .done) .nil)))) .nil) .nil) .nil)) (.alt 11 (.alt 4 (.alt 6 (.alt 7 (.take 8 [] (.take 9 [] (.take 10 [] (.alt 12 (.take 13 [] .done) .nil)))) .nil) .nil) .nil) .nil)) (.alt 4 (.alt 0 (.alt 6 (.alt 7 (.take 8 [] (.take 9 [] (.take 10 [] (.alt 11 (.alt 12 (.take 13 [] .done) .nil) .nil)))) (.alt 11 (.alt 7 (.take 8 [] (.take 9 [] (.take 10 [] (.alt 12 (.take 13 [] .done) .nil)))) .nil) .nil)) (.alt 11 (.alt 6 (.alt 7 (.take 8 [] (.take 9 [] (.take 10 [] (.alt 12 (.take 13 [] .done) .nil)))) .nil) .nil) .nil)) (.alt 6 (.take 0 [1, 2, 3, 4, 5, 6, 11] (.alt 7 (.take 8 [] (.take 9 [] (.take 10 [] (.alt 11 (.alt 12 (.take 13 [] .done) .nil) .nil)))) (.alt 11 (.alt 7 (.take 8 [] (.take 9 [] (.take 10 [] (.alt 12 (.take 13 [] .done) .nil)))) .nil) .nil))) (.alt 11 (.alt 0 (.alt 6 (.alt 7 (.take 8 [] (.take 9 [] (.take 10 [] (.alt 12 (.take 13 [] .done) .nil)))) .nil) .nil) (.alt 6 (.take 0 [1, 2, 3, 4, 5, 6, 11] (.alt 7 (.take 8 [] (.take 9 [] (.take 10 [] (.alt 12 (.take 13 [] .done) .nil)))) .nil)) .nil)) .nil))) (.alt 11 (.alt 0 (.alt 4 (.alt 6 (.alt 7 (.take 8 [] (.take 9 [] (.take 10 [] (.alt 12 (.take 13 [] .done) .nil)))) .nil) .nil) .nil) (.alt 4 (.alt 0 (.alt 6 (.alt 7 (.take 8 [] (.take 9 [] (.take 10 [] (.alt 12 (.take 13 [] .done) .nil)))) .nil) .nil) (.alt 6 (.take 0 [1, 2, 3, 4, 5, 6, 11] (.alt 7 (.take 8 [] (.take 9 [] (.take 10 [] (.alt 12 (.take 13 [] .done) .nil)))) .nil)) .nil)) .nil)) .nil))) (.alt 11 (.alt 0 (.alt 2 (.alt 4 (.alt 6 (.alt 7 (.take 8 [] (.take 9 [] (.take 10 [] (.alt 12 (.take 13 [] .done) .nil)))) .nil) .nil) .nil) .nil) (.alt 2 (.alt 0 (.alt 4 (.alt 6 (.alt 7 (.take 8 [] (.take 9 [] (.take 10 [] (.alt 12 (.take 13 [] .done) .nil)))) .nil) .nil) .nil) (.alt 4 (.alt 0 (.alt 6 (.alt 7 (.take 8 [] (.take 9 [] (.take 10 [] (.alt 12 (.take 13 [] .done) .nil)))) .nil) .nil) (.alt 6 (.take 0 [1, 2, 3, 4, 5, 6, 11] (.alt 7 (.take 8 [] (.take 9 [] (.take 10 [] (.alt 12 (.take 13 [] .done) .nil)))) .nil)) .nil)) .nil)) .nil)) .nil))))))), (4, [2, 3], (.take 1 [] (.alt 0 (.alt 2 (.alt 3 (.take 4 [] .done) .nil) .nil) (.alt 2 (.take 0 [1, 2] (.alt 3 (.take 4 [] .done) .nil)) .nil))))], weak := [] }
theorem e : CutEq Pg C Q Tryz.f60 0 id st v o tree := fun J K x => by cases x <;> kernel_rfl
theorem b (a0 : List Int) : BegEq Pg C Q Tryz.f60 0 id st v o (S a0) (begin a0) := fun J K => by kernel_rfl
def told (a0 : List Int) : YtobfemcobakeoaaGreatEv.Told A := ⟨f a0, fun r => SoundCall Pg C 60 (S a0) 0 (v r) (o r), fun r h => soundCall_of_tree G mixed Q Tryz.func60 rfl (of_decide_eq_true (by kernel_rfl)) (by rfl) id st v o (fun _ => rfl) tree e (begin a0) (b a0) h⟩
end spec_DrawActs
/-! #### slices.Clone[[]loop.example/g00983/impl.Stmt,loop.example/g00983/impl.Stmt] (219) -/
namespace slices_Clone_impl_Stmt
def S (a0 : List S210) : List (PV U) := YtobfemcobakeoaaGreatEv.start C 8 [.sl 211 a0] []
abbrev X := Empty
def id : X → Nat := fun _ => 0
def st : X → List (PV U) := fun _ => []
def begin (a0 : List S210) : Tr X A :=
 .nilq a0
  (.ret (([] : List S210)))
  (.need (((List.length ([] : List S210) : Int) + (List.length a0 : Int)) * (48 : Nat) ≤ room) (.ret ((([] : List S210) ++ a0))))
def tree : X → Tr X A := fun _ => .fail
def f (a0 : List S210) : Option A := (begin a0).run (lp tree)
def Q : Plan C := { PL with cuts := [], ords := [], weak := [] }
theorem e : CutEq Pg C Q Tryz.f219 0 id st v o tree := fun J K x => by cases x
theorem b (a0 : List S210) : BegEq Pg C Q Tryz.f219 0 id st v o (S a0) (begin a0) := fun J K => by kernel_rfl
def told (a0 : List S210) : YtobfemcobakeoaaGreatEv.Told A := ⟨f a0, fun r => SoundCall Pg C 219 (S a0) 0 (v r) (o r), fun r h => soundCall_of_tree G mixed Q Tryz.func219 rfl (of_decide_eq_true (by kernel_rfl)) (by rfl) id st v o (fun _ => rfl) tree e (begin a0) (b a0) h⟩
end slices_Clone_impl_Stmt
/-! #### loop.example/g00983/impl.copyTask (181) -/
namespace impl_copyTask
def S (a0 : List S210) (a1 a2 a3 : Int) : List (PV U) := YtobfemcobakeoaaGreatEv.start C 8 [.agg [.sl 211 a0, .int .i64 a1, .int .i64 a2, .int .i64 a3]] []
abbrev X := Empty
def id : X → Nat := fun _ => 0
def st : X → List (PV U) := fun _ => []
def begin (a0 : List S210) (a1 a2 a3 : Int) : Tr X A :=
 .call (slices_Clone_impl_Stmt.told a0) fun t1 => .ret (t1, a1, a2, a3)
def tree : X → Tr X A := fun _ => .fail
def f (a0 : List S210) (a1 a2 a3 : Int) : Option A := (begin a0 a1 a2 a3).run (lp tree)
def Q : Plan C := { PL with cuts := [], ords := [], weak := [] }
theorem e : CutEq Pg C Q Tryz.f181 0 id st v o tree := fun J K x => by cases x
theorem b (a0 : List S210) (a1 a2 a3 : Int) : BegEq Pg C Q Tryz.f181 0 id st v o (S a0 a1 a2 a3) (begin a0 a1 a2 a3) := fun J K => by kernel_rfl
def told (a0 : List S210) (a1 a2 a3 : Int) : YtobfemcobakeoaaGreatEv.Told A := ⟨f a0 a1 a2 a3, fun r => SoundCall Pg C 181 (S a0 a1 a2 a3) 0 (v r) (o r), fun r h => soundCall_of_tree G mixed Q Tryz.func181 rfl (of_decide_eq_true (by kernel_rfl)) (by rfl) id st v o (fun _ => rfl) tree e (begin a0 a1 a2 a3) (b a0 a1 a2 a3) h⟩
end impl_copyTask
/-! #### loop.example/g00983/impl.copyProgram (117) -/
namespace impl_copyProgram
def S (a0 : List S166) : List (PV U) := YtobfemcobakeoaaGreatEv.start C 23 [.agg [.sl 167 a0]] []
inductive X where
 | c3 (x0 x1 x2 : List S166) (x3 x4 : Int)
def id : X → Nat
 | .c3 .. => 3
def st : X → List (PV U)
 | .c3 x0 x1 x2 x3 x4 => stOf 23 [(2, .box [.own true 167 x0]), (3, .box [.own true 167 x1]), (8, .sl 167 x2), (9, .int .i64 x3), (10, .int .i64 x4)]
def begin (a0 : List S166) : Tr X A :=
 .jump (.c3 ([] : List S166) ([] : List S166) a0 (List.length a0 : Int) (0 : Int))
def tree : X → Tr X A
 | .c3 x0 x1 x2 x3 x4 =>
 .ite (decide (x4 < x3))
  (.need ((0 : Int) ≤ x4 ∧ x4 < (List.length x2 : Int)) (.both (.last (.call (impl_copyTask.told ((rdS166 x2 x4).f0) ((rdS166 x2 x4).f1.f0) ((rdS166 x2 x4).f1.f1) ((rdS166 x2 x4).f1.f2)) fun t1 => .last (.last (.need (((List.length x1 : Int) + (List.length ([(⟨t1.1, (⟨t1.2.1, t1.2.2.1, t1.2.2.2⟩ : S153)⟩ : S166)]) : Int)) * (48 : Nat) ≤ room) (.last (.jump (.c3 x0 (x1 ++ [(⟨t1.1, (⟨t1.2.1, t1.2.2.1, t1.2.2.2⟩ : S153)⟩ : S166)]) x2 x3 (wr (x4 + (1 : Int))))))))))
   (.last (.call (impl_copyTask.told ((rdS166 x2 x4).f0) ((rdS166 x2 x4).f1.f0) ((rdS166 x2 x4).f1.f1) ((rdS166 x2 x4).f1.f2)) fun t1 => let u1_0 : Tr X A := (.last (.last (.need (((List.length x1 : Int) + (List.length ([(⟨t1.1, (⟨t1.2.1, t1.2.2.1, t1.2.2.2⟩ : S153)⟩ : S166)]) : Int)) * (48 : Nat) ≤ room) (.last (.jump (.c3 x0 (x1 ++ [(⟨t1.1, (⟨t1.2.1, t1.2.2.1, t1.2.2.2⟩ : S153)⟩ : S166)]) x2 x3 (wr (x4 + (1 : Int))))))))); .both (u1_0)
    (u1_0)))))
  (.ret x1)
def f (a0 : List S166) : Option A := (begin a0).run (lp tree)
def Q : Plan C := { PL with cuts := [(3, [2, 3, 8, 9, 10])], ords := [(5, [4, 5, 7], (.take 0 [] (.take 2 [0, 1] (.alt 1 (.alt 3 (.alt 4 (.alt 5 (.take 6 [] (.alt 7 .done .nil)) .nil) .nil) .nil) (.alt 3 (.alt 1 (.alt 4 (.alt 5 (.take 6 [] (.alt 7 .done .nil)) .nil) .nil) (.alt 4 (.take 1 [0, 2, 3, 4] (.alt 5 (.take 6 [] (.alt 7 .done .nil)) .nil)) .nil)) .nil)))))], weak := [] }
theorem e : CutEq Pg C Q Tryz.f117 0 id st v o tree := fun J K x => by cases x <;> kernel_rfl
theorem b (a0 : List S166) : BegEq Pg C Q Tryz.f117 0 id st v o (S a0) (begin a0) := fun J K => by kernel_rfl
def told (a0 : List S166) : YtobfemcobakeoaaGreatEv.Told A := ⟨f a0, fun r => SoundCall Pg C 117 (S a0) 0 (v r) (o r), fun r h => soundCall_of_tree G mixed Q Tryz.func117 rfl (of_decide_eq_true (by kernel_rfl)) (by rfl) id st v o (fun _ => rfl) tree e (begin a0) (b a0) h⟩
end impl_copyProgram
/-! #### slices.Clone[[]int,int] (112) -/
namespace slices_Clone_int
def S (a0 : List Int) : List (PV U) := YtobfemcobakeoaaGreatEv.start C 8 [.sl 3 a0] []
abbrev X := Empty
def id : X → Nat := fun _ => 0
def st : X → List (PV U) := fun _ => []
def begin (a0 : List Int) : Tr X A :=
 .nilq a0
  (.ret (([] : List Int)))
  (.need (((List.length ([] : List Int) : Int) + (List.length a0 : Int)) * (8 : Nat) ≤ room) (.ret ((([] : List Int) ++ a0))))
def tree : X → Tr X A := fun _ => .fail
def f (a0 : List Int) : Option A := (begin a0).run (lp tree)
def Q : Plan C := { PL with cuts := [], ords := [], weak := [] }
theorem e : CutEq Pg C Q Tryz.f112 0 id st v o tree := fun J K x => by cases x
theorem b (a0 : List Int) : BegEq Pg C Q Tryz.f112 0 id st v o (S a0) (begin a0) := fun J K => by kernel_rfl
def told (a0 : List Int) : YtobfemcobakeoaaGreatEv.Told A := ⟨f a0, fun r => SoundCall Pg C 112 (S a0) 0 (v r) (o r), fun r h => soundCall_of_tree G mixed Q Tryz.func112 rfl (of_decide_eq_true (by kernel_rfl)) (by rfl) id st v o (fun _ => rfl) tree e (begin a0) (b a0) h⟩
end slices_Clone_int
/-! #### loop.example/g00983/impl.copyLink (163) -/
namespace impl_copyLink
def S (a0 : Int) (a1 : List Int) : List (PV U) := YtobfemcobakeoaaGreatEv.start C 11 [.agg [.int .i64 a0, .sl 3 a1]] []
abbrev X := Empty
def id : X → Nat := fun _ => 0
def st : X → List (PV U) := fun _ => []
def begin (a0 : Int) (a1 : List Int) : Tr X A :=
 .both (.last (.call (slices_Clone_int.told a1) fun t1 => .last (.last (.last (.ret (a0, t1))))))
  (.last (.call (slices_Clone_int.told a1) fun t1 => .both (.last (.last (.last (.ret (a0, t1)))))
   (.last (.last (.last (.ret (a0, t1)))))))
def tree : X → Tr X A := fun _ => .fail
def f (a0 : Int) (a1 : List Int) : Option A := (begin a0 a1).run (lp tree)
def Q : Plan C := { PL with cuts := [], ords := [(1, [6, 7, 8], (.take 0 [] (.take 2 [] (.take 3 [] (.take 4 [0, 1, 2, 3] (.alt 1 (.alt 5 (.alt 6 (.alt 7 (.alt 8 .done .nil) .nil) .nil) .nil) (.alt 5 (.alt 1 (.alt 6 (.alt 7 (.alt 8 .done .nil) .nil) .nil) (.alt 6 (.take 1 [0, 2, 3, 4, 5, 6] (.alt 7 (.alt 8 .done .nil) .nil)) .nil)) .nil)))))))], weak := [] }
theorem e : CutEq Pg C Q Tryz.f163 0 id st v o tree := fun J K x => by cases x
theorem b (a0 : Int) (a1 : List Int) : BegEq Pg C Q Tryz.f163 0 id st v o (S a0 a1) (begin a0 a1) := fun J K => by kernel_rfl
def told (a0 : Int) (a1 : List Int) : YtobfemcobakeoaaGreatEv.Told A := ⟨f a0 a1, fun r => SoundCall Pg C 163 (S a0 a1) 0 (v r) (o r), fun r h => soundCall_of_tree G mixed Q Tryz.func163 rfl (of_decide_eq_true (by kernel_rfl)) (by rfl) id st v o (fun _ => rfl) tree e (begin a0 a1) (b a0 a1) h⟩
end impl_copyLink
/-! #### loop.example/g00983/impl.copyNode (91) -/
namespace impl_copyNode
def S (a0 : List S166) (a1 a2 : List Int) (a3 a4 a5 a6 a7 a8 a9 a10 : Int) (a11 : List Int) (a12 : Int) : List (PV U) := YtobfemcobakeoaaGreatEv.start C 20 [.agg [.sl 167 a0, .sl 3 a1, .sl 3 a2, .int .i64 a3, .int .i64 a4, .int .i64 a5, .int .i64 a6, .int .i64 a7, .int .i64 a8, .int .i64 a9, .int .i64 a10, .sl 3 a11, .int .i64 a12]] []
abbrev X := Empty
def id : X → Nat := fun _ => 0
def st : X → List (PV U) := fun _ => []
def begin (a0 : List S166) (a1 a2 : List Int) (a3 a4 a5 a6 a7 a8 a9 a10 : Int) (a11 : List Int) (a12 : Int) : Tr X A :=
 .last (.call (impl_copyProgram.told a0) fun t1 => .last (.call (slices_Clone_int.told a1) fun t2 => .last (.call (slices_Clone_int.told a2) fun t3 => .last (.call (impl_copyLink.told a10 a11) fun t4 => .last (.last (.last (.last (.ret (t1, t2, t3, a3, a4, a5, a6, a7, a8, a9, t4.1, t4.2, a12)))))))))
def tree : X → Tr X A := fun _ => .fail
def f (a0 : List S166) (a1 a2 : List Int) (a3 a4 a5 a6 a7 a8 a9 a10 : Int) (a11 : List Int) (a12 : Int) : Option A := (begin a0 a1 a2 a3 a4 a5 a6 a7 a8 a9 a10 a11 a12).run (lp tree)
def Q : Plan C := { PL with cuts := [], ords := [(1, [13, 15, 17, 19], (.take 0 [] (.take 3 [] (.take 6 [] (.take 9 [] (.take 1 [0, 3, 4, 6, 7, 9, 10] (.take 4 [0, 1, 2, 3, 6, 7, 9, 10] (.take 7 [0, 1, 2, 3, 4, 5, 6, 9, 10] (.take 10 [0, 1, 2, 3, 4, 5, 6, 7, 8, 9] (.alt 2 (.take 12 [] (.alt 5 (.alt 8 (.alt 11 (.alt 13 (.take 14 [] (.alt 15 (.take 16 [] (.alt 17 (.take 18 [] (.alt 19 .done .nil)) .nil)) .nil)) .nil) .nil) .nil) .nil)) .nil))))))))))], weak := [] }
theorem e : CutEq Pg C Q Tryz.f91 0 id st v o tree := fun J K x => by cases x
theorem b (a0 : List S166) (a1 a2 : List Int) (a3 a4 a5 a6 a7 a8 a9 a10 : Int) (a11 : List Int) (a12 : Int) : BegEq Pg C Q Tryz.f91 0 id st v o (S a0 a1 a2 a3 a4 a5 a6 a7 a8 a9 a10 a11 a12) (begin a0 a1 a2 a3 a4 a5 a6 a7 a8 a9 a10 a11 a12) := fun J K => by kernel_rfl
def told (a0 : List S166) (a1 a2 : List Int) (a3 a4 a5 a6 a7 a8 a9 a10 : Int) (a11 : List Int) (a12 : Int) : YtobfemcobakeoaaGreatEv.Told A := ⟨f a0 a1 a2 a3 a4 a5 a6 a7 a8 a9 a10 a11 a12, fun r => SoundCall Pg C 91 (S a0 a1 a2 a3 a4 a5 a6 a7 a8 a9 a10 a11 a12) 0 (v r) (o r), fun r h => soundCall_of_tree G mixed Q Tryz.func91 rfl (of_decide_eq_true (by kernel_rfl)) (by rfl) id st v o (fun _ => rfl) tree e (begin a0 a1 a2 a3 a4 a5 a6 a7 a8 a9 a10 a11 a12) (b a0 a1 a2 a3 a4 a5 a6 a7 a8 a9 a10 a11 a12) h⟩
end impl_copyNode
/-! #### loop.example/g00983/impl.within (105) -/
namespace impl_within
def S (a0 a1 a2 : Int) : List (PV U) := YtobfemcobakeoaaGreatEv.start C 15 [.int .i64 a0, .int .i64 a1, .int .i64 a2] []
abbrev X := Empty
def id : X → Nat := fun _ => 0
def st : X → List (PV U) := fun _ => []
def begin (a0 a1 a2 : Int) : Tr X A :=
 .ite (decide (a0 ≥ a1))
  (.ret ((decide (a0 ≤ a2))))
  (.ret false)
def tree : X → Tr X A := fun _ => .fail
def f (a0 a1 a2 : Int) : Option A := (begin a0 a1 a2).run (lp tree)
def Q : Plan C := { PL with cuts := [], ords := [], weak := [] }
theorem e : CutEq Pg C Q Tryz.f105 0 id st v o tree := fun J K x => by cases x
theorem b (a0 a1 a2 : Int) : BegEq Pg C Q Tryz.f105 0 id st v o (S a0 a1 a2) (begin a0 a1 a2) := fun J K => by kernel_rfl
def told (a0 a1 a2 : Int) : YtobfemcobakeoaaGreatEv.Told A := ⟨f a0 a1 a2, fun r => SoundCall Pg C 105 (S a0 a1 a2) 0 (v r) (o r), fun r h => soundCall_of_tree G mixed Q Tryz.func105 rfl (of_decide_eq_true (by kernel_rfl)) (by rfl) id st v o (fun _ => rfl) tree e (begin a0 a1 a2) (b a0 a1 a2) h⟩
end impl_within
/-! #### loop.example/g00983/impl.hasVar (255) -/
namespace impl_hasVar
def S (a0 : Int) : List (PV U) := YtobfemcobakeoaaGreatEv.start C 9 [.int .i64 a0] []
abbrev X := Empty
def id : X → Nat := fun _ => 0
def st : X → List (PV U) := fun _ => []
def begin (a0 : Int) : Tr X A :=
 .ite (decide (a0 = (1 : Int)))
  (.ret true)
  (.ret ((decide (a0 = (2 : Int)))))
def tree : X → Tr X A := fun _ => .fail
def f (a0 : Int) : Option A := (begin a0).run (lp tree)
def Q : Plan C := { PL with cuts := [], ords := [], weak := [] }
theorem e : CutEq Pg C Q Tryz.f255 0 id st v o tree := fun J K x => by cases x
theorem b (a0 : Int) : BegEq Pg C Q Tryz.f255 0 id st v o (S a0) (begin a0) := fun J K => by kernel_rfl
def told (a0 : Int) : YtobfemcobakeoaaGreatEv.Told A := ⟨f a0, fun r => SoundCall Pg C 255 (S a0) 0 (v r) (o r), fun r h => soundCall_of_tree G mixed Q Tryz.func255 rfl (of_decide_eq_true (by kernel_rfl)) (by rfl) id st v o (fun _ => rfl) tree e (begin a0) (b a0) h⟩
end impl_hasVar
/-! #### loop.example/g00983/impl.isVar (109) -/
namespace impl_isVar
def S (a0 : Int) : List (PV U) := YtobfemcobakeoaaGreatEv.start C 5 [.int .i64 a0] []
abbrev X := Empty
def id : X → Nat := fun _ => 0
def st : X → List (PV U) := fun _ => []
def begin (a0 : Int) : Tr X A :=
 .call (impl_within.told a0 (0 : Int) (7 : Int)) fun t1 => .ret t1
def tree : X → Tr X A := fun _ => .fail
def f (a0 : Int) : Option A := (begin a0).run (lp tree)
def Q : Plan C := { PL with cuts := [], ords := [], weak := [] }
theorem e : CutEq Pg C Q Tryz.f109 0 id st v o tree := fun J K x => by cases x
theorem b (a0 : Int) : BegEq Pg C Q Tryz.f109 0 id st v o (S a0) (begin a0) := fun J K => by kernel_rfl
def told (a0 : Int) : YtobfemcobakeoaaGreatEv.Told A := ⟨f a0, fun r => SoundCall Pg C 109 (S a0) 0 (v r) (o r), fun r h => soundCall_of_tree G mixed Q Tryz.func109 rfl (of_decide_eq_true (by kernel_rfl)) (by rfl) id st v o (fun _ => rfl) tree e (begin a0) (b a0) h⟩
end impl_isVar
/-! #### loop.example/g00983/impl.hasExpr (256) -/
namespace impl_hasExpr
def S (a0 : Int) : List (PV U) := YtobfemcobakeoaaGreatEv.start C 13 [.int .i64 a0] []
abbrev X := Empty
def id : X → Nat := fun _ => 0
def st : X → List (PV U) := fun _ => []
def begin (a0 : Int) : Tr X A :=
 .ite (decide (a0 = (1 : Int)))
  (.ret true)
  (.ite (decide (a0 = (3 : Int)))
   (.ret true)
   (.ret ((decide (a0 = (4 : Int))))))
def tree : X → Tr X A := fun _ => .fail
def f (a0 : Int) : Option A := (begin a0).run (lp tree)
def Q : Plan C := { PL with cuts := [], ords := [], weak := [] }
theorem e : CutEq Pg C Q Tryz.f256 0 id st v o tree := fun J K x => by cases x
theorem b (a0 : Int) : BegEq Pg C Q Tryz.f256 0 id st v o (S a0) (begin a0) := fun J K => by kernel_rfl
def told (a0 : Int) : YtobfemcobakeoaaGreatEv.Told A := ⟨f a0, fun r => SoundCall Pg C 256 (S a0) 0 (v r) (o r), fun r h => soundCall_of_tree G mixed Q Tryz.func256 rfl (of_decide_eq_true (by kernel_rfl)) (by rfl) id st v o (fun _ => rfl) tree e (begin a0) (b a0) h⟩
end impl_hasExpr
/-! #### loop.example/g00983/impl.OperandOk (205) -/
namespace impl_OperandOk
def S (a0 : Int) : List (PV U) := YtobfemcobakeoaaGreatEv.start C 5 [.int .i64 a0] []
abbrev X := Empty
def id : X → Nat := fun _ => 0
def st : X → List (PV U) := fun _ => []
def begin (a0 : Int) : Tr X A :=
 .call (impl_within.told a0 (-8 : Int) (999 : Int)) fun t1 => .ret t1
def tree : X → Tr X A := fun _ => .fail
def f (a0 : Int) : Option A := (begin a0).run (lp tree)
def Q : Plan C := { PL with cuts := [], ords := [], weak := [] }
theorem e : CutEq Pg C Q Tryz.f205 0 id st v o tree := fun J K x => by cases x
theorem b (a0 : Int) : BegEq Pg C Q Tryz.f205 0 id st v o (S a0) (begin a0) := fun J K => by kernel_rfl
def told (a0 : Int) : YtobfemcobakeoaaGreatEv.Told A := ⟨f a0, fun r => SoundCall Pg C 205 (S a0) 0 (v r) (o r), fun r h => soundCall_of_tree G mixed Q Tryz.func205 rfl (of_decide_eq_true (by kernel_rfl)) (by rfl) id st v o (fun _ => rfl) tree e (begin a0) (b a0) h⟩
end impl_OperandOk
/-! #### loop.example/g00983/impl.ExprOk (150) -/
namespace impl_ExprOk
def S (a0 a1 a2 : Int) : List (PV U) := YtobfemcobakeoaaGreatEv.start C 16 [.agg [.int .i64 a0, .int .i64 a1, .int .i64 a2]] []
abbrev X := Empty
def id : X → Nat := fun _ => 0
def st : X → List (PV U) := fun _ => []
def begin (a0 a1 a2 : Int) : Tr X A :=
 .call (impl_within.told a0 (1 : Int) (7 : Int)) fun t1 => .ite t1
  (.call (impl_OperandOk.told a1) fun t2 => .ite t2
   (.call (impl_OperandOk.told a2) fun t3 => .ret t3)
   (.ret false))
  (.ret false)
def tree : X → Tr X A := fun _ => .fail
def f (a0 a1 a2 : Int) : Option A := (begin a0 a1 a2).run (lp tree)
def Q : Plan C := { PL with cuts := [], ords := [], weak := [] }
theorem e : CutEq Pg C Q Tryz.f150 0 id st v o tree := fun J K x => by cases x
theorem b (a0 a1 a2 : Int) : BegEq Pg C Q Tryz.f150 0 id st v o (S a0 a1 a2) (begin a0 a1 a2) := fun J K => by kernel_rfl
def told (a0 a1 a2 : Int) : YtobfemcobakeoaaGreatEv.Told A := ⟨f a0 a1 a2, fun r => SoundCall Pg C 150 (S a0 a1 a2) 0 (v r) (o r), fun r h => soundCall_of_tree G mixed Q Tryz.func150 rfl (of_decide_eq_true (by kernel_rfl)) (by rfl) id st v o (fun _ => rfl) tree e (begin a0 a1 a2) (b a0 a1 a2) h⟩
end impl_ExprOk
/-! #### loop.example/g00983/impl.isSensor (253) -/
namespace impl_isSensor
def S (a0 : Int) : List (PV U) := YtobfemcobakeoaaGreatEv.start C 5 [.int .i64 a0] []
abbrev X := Empty
def id : X → Nat := fun _ => 0
def st : X → List (PV U) := fun _ => []
def begin (a0 : Int) : Tr X A :=
 .call (impl_within.told a0 (0 : Int) (3 : Int)) fun t1 => .ret t1
def tree : X → Tr X A := fun _ => .fail
def f (a0 : Int) : Option A := (begin a0).run (lp tree)
def Q : Plan C := { PL with cuts := [], ords := [], weak := [] }
theorem e : CutEq Pg C Q Tryz.f253 0 id st v o tree := fun J K x => by cases x
theorem b (a0 : Int) : BegEq Pg C Q Tryz.f253 0 id st v o (S a0) (begin a0) := fun J K => by kernel_rfl
def told (a0 : Int) : YtobfemcobakeoaaGreatEv.Told A := ⟨f a0, fun r => SoundCall Pg C 253 (S a0) 0 (v r) (o r), fun r h => soundCall_of_tree G mixed Q Tryz.func253 rfl (of_decide_eq_true (by kernel_rfl)) (by rfl) id st v o (fun _ => rfl) tree e (begin a0) (b a0) h⟩
end impl_isSensor
/-! #### loop.example/g00983/impl.StmtOk (241) -/
namespace impl_StmtOk
def S (a0 a1 a2 a3 a4 a5 : Int) : List (PV U) := YtobfemcobakeoaaGreatEv.start C 65 [.agg [.int .i64 a0, .int .i64 a1, .int .i64 a2, .int .i64 a3, .int .i64 a4, .int .i64 a5]] []
inductive X where
 | c3 (x0 x1 x2 x3 x4 x5 : Int)
 | c5 (x0 x1 x2 x3 x4 x5 : Int)
def id : X → Nat
 | .c3 .. => 3
 | .c5 .. => 5
def st : X → List (PV U)
 | .c3 x0 x1 x2 x3 x4 x5 => stOf 65 [(1, .box [.int .i64 x0, .int .i64 x1, .int .i64 x2, .int .i64 x3, .int .i64 x4, .int .i64 x5])]
 | .c5 x0 x1 x2 x3 x4 x5 => stOf 65 [(1, .box [.int .i64 x0, .int .i64 x1, .int .i64 x2, .int .i64 x3, .int .i64 x4, .int .i64 x5])]
def begin (a0 a1 a2 a3 a4 a5 : Int) : Tr X A :=
 .call (impl_within.told a0 (1 : Int) (6 : Int)) fun t1 => .ite (!t1)
  (.ret false)
  (.call (impl_hasVar.told a0) fun t2 => .ite t2
   (.call (impl_isVar.told a1) fun t3 => .ite (!t3)
    (.ret false)
    (.call (impl_hasVar.told a0) fun t4 => let u4_0 : Tr X A := (.jump (.c3 a0 a1 a2 a3 a4 a5)); .ite (!t4)
     (.ite (!decide (a1 = (0 : Int)))
      (.ret false)
      (u4_0))
     (u4_0)))
   (.call (impl_hasVar.told a0) fun t3 => let u3_0 : Tr X A := (.jump (.c3 a0 a1 a2 a3 a4 a5)); .ite (!t3)
    (.ite (!decide (a1 = (0 : Int)))
     (.ret false)
     (u3_0))
    (u3_0)))
def tree : X → Tr X A
 | .c3 x0 x1 x2 x3 x4 x5 =>
 .call (impl_hasExpr.told x0) fun t1 => .ite t1
  (.call (impl_ExprOk.told x3 x4 x5) fun t2 => .ite (!t2)
   (.ret false)
   (.call (impl_hasExpr.told x0) fun t3 => .ite (!t3)
    (.val ((!(decide (x3 = (0 : Int)) && (decide (x4 = (0 : Int)) && (decide (x5 = (0 : Int)) && true)))) : Bool) fun v4 => .ite v4
     (.ret false)
     (.jump (.c5 x0 x1 x2 x3 x4 x5)))
    (.jump (.c5 x0 x1 x2 x3 x4 x5))))
  (.call (impl_hasExpr.told x0) fun t2 => .ite (!t2)
   (.val ((!(decide (x3 = (0 : Int)) && (decide (x4 = (0 : Int)) && (decide (x5 = (0 : Int)) && true)))) : Bool) fun v3 => .ite v3
    (.ret false)
    (.jump (.c5 x0 x1 x2 x3 x4 x5)))
   (.jump (.c5 x0 x1 x2 x3 x4 x5)))
 | .c5 x0 x1 x2 x3 x4 x5 =>
 .ite (decide (x0 = (2 : Int)))
  (.call (impl_isSensor.told x2) fun t1 => .ret t1)
  (.ite (decide (x0 = (5 : Int)))
   (.call (impl_within.told x2 (1 : Int) (5 : Int)) fun t1 => .ret t1)
   (.ret ((decide (x2 = (0 : Int))))))
def f (a0 a1 a2 a3 a4 a5 : Int) : Option A := (begin a0 a1 a2 a3 a4 a5).run (lp tree)
def Q : Plan C := { PL with cuts := [(3, [1, 33, 34, 35, 36, 39, 40, 41, 42, 43, 44, 45, 46, 47, 48]), (5, [1])], ords := [], weak := [] }
theorem e : CutEq Pg C Q Tryz.f241 0 id st v o tree := fun J K x => by cases x <;> kernel_rfl
theorem b (a0 a1 a2 a3 a4 a5 : Int) : BegEq Pg C Q Tryz.f241 0 id st v o (S a0 a1 a2 a3 a4 a5) (begin a0 a1 a2 a3 a4 a5) := fun J K => by kernel_rfl
def told (a0 a1 a2 a3 a4 a5 : Int) : YtobfemcobakeoaaGreatEv.Told A := ⟨f a0 a1 a2 a3 a4 a5, fun r => SoundCall Pg C 241 (S a0 a1 a2 a3 a4 a5) 0 (v r) (o r), fun r h => soundCall_of_tree G mixed Q Tryz.func241 rfl (of_decide_eq_true (by kernel_rfl)) (by rfl) id st v o (fun _ => rfl) tree e (begin a0 a1 a2 a3 a4 a5) (b a0 a1 a2 a3 a4 a5) h⟩
end impl_StmtOk
/-! #### loop.example/g00983/impl.isOpening (242) -/
namespace impl_isOpening
def S (a0 : Int) : List (PV U) := YtobfemcobakeoaaGreatEv.start C 9 [.int .i64 a0] []
abbrev X := Empty
def id : X → Nat := fun _ => 0
def st : X → List (PV U) := fun _ => []
def begin (a0 : Int) : Tr X A :=
 .ite (decide (a0 = (4 : Int)))
  (.ret true)
  (.ret ((decide (a0 = (5 : Int)))))
def tree : X → Tr X A := fun _ => .fail
def f (a0 : Int) : Option A := (begin a0).run (lp tree)
def Q : Plan C := { PL with cuts := [], ords := [], weak := [] }
theorem e : CutEq Pg C Q Tryz.f242 0 id st v o tree := fun J K x => by cases x
theorem b (a0 : Int) : BegEq Pg C Q Tryz.f242 0 id st v o (S a0) (begin a0) := fun J K => by kernel_rfl
def told (a0 : Int) : YtobfemcobakeoaaGreatEv.Told A := ⟨f a0, fun r => SoundCall Pg C 242 (S a0) 0 (v r) (o r), fun r h => soundCall_of_tree G mixed Q Tryz.func242 rfl (of_decide_eq_true (by kernel_rfl)) (by rfl) id st v o (fun _ => rfl) tree e (begin a0) (b a0) h⟩
end impl_isOpening
/-! #### loop.example/g00983/impl.BlockOk (218) -/
namespace impl_BlockOk
def S (a0 : List S210) : List (PV U) := YtobfemcobakeoaaGreatEv.start C 39 [.sl 211 a0] []
inductive X where
 | c3 (x0 : List S210) (x1 : Int) (x2 : List S210) (x3 x4 : Int)
 | c12
def id : X → Nat
 | .c3 .. => 3
 | .c12 .. => 12
def st : X → List (PV U)
 | .c3 x0 x1 x2 x3 x4 => stOf 39 [(0, .sl 211 x0), (3, .int .i64 x1), (6, .sl 211 x2), (7, .int .i64 x3), (8, .int .i64 x4)]
 | .c12 => stOf 39 []
def begin (a0 : List S210) : Tr X A :=
 .jump (.c3 a0 (0 : Int) a0 (List.length a0 : Int) (0 : Int))
def tree : X → Tr X A
 | .c3 x0 x1 x2 x3 x4 =>
 .ite (decide (x4 < x3))
  (.need ((0 : Int) ≤ x4 ∧ x4 < (List.length x2 : Int)) (.call (impl_StmtOk.told ((rdS210 x2 x4).f0) ((rdS210 x2 x4).f1) ((rdS210 x2 x4).f2) ((rdS210 x2 x4).f3.f0) ((rdS210 x2 x4).f3.f1) ((rdS210 x2 x4).f3.f2)) fun t1 => .ite (!t1)
   (.ret false)
   (.call (impl_isOpening.told ((rdS210 x2 x4).f0)) fun t2 => let u2_0 : Tr X A := (.jump (.c12)); .ite t2
    (.ite (decide ((rdS210 x2 x4).f0 = (6 : Int)))
     (.ite (decide ((wr ((wr (x1 + (1 : Int))) - (1 : Int))) < (0 : Int)))
      (u2_0)
      (.ite (decide ((wr ((wr (x1 + (1 : Int))) - (1 : Int))) > (3 : Int)))
       (u2_0)
       (.jump (.c3 x0 (wr ((wr (x1 + (1 : Int))) - (1 : Int))) x2 x3 (wr (x4 + (1 : Int)))))))
     (.ite (decide ((wr (x1 + (1 : Int))) < (0 : Int)))
      (u2_0)
      (.ite (decide ((wr (x1 + (1 : Int))) > (3 : Int)))
       (u2_0)
       (.jump (.c3 x0 (wr (x1 + (1 : Int))) x2 x3 (wr (x4 + (1 : Int))))))))
    (.ite (decide ((rdS210 x2 x4).f0 = (6 : Int)))
     (.ite (decide ((wr (x1 - (1 : Int))) < (0 : Int)))
      (u2_0)
      (.ite (decide ((wr (x1 - (1 : Int))) > (3 : Int)))
       (u2_0)
       (.jump (.c3 x0 (wr (x1 - (1 : Int))) x2 x3 (wr (x4 + (1 : Int)))))))
     (.ite (decide (x1 < (0 : Int)))
      (u2_0)
      (.ite (decide (x1 > (3 : Int)))
       (u2_0)
       (.jump (.c3 x0 x1 x2 x3 (wr (x4 + (1 : Int)))))))))))
  (.ite (decide (x1 = (0 : Int)))
   (.ret ((decide ((List.length x0 : Int) ≤ (24 : Int)))))
   (.ret false))
 | .c12 =>
 .ret false
def f (a0 : List S210) : Option A := (begin a0).run (lp tree)
def Q : Plan C := { PL with cuts := [(3, [0, 3, 6, 7, 8, 35, 36, 37]), (12, [])], ords := [], weak := [] }
theorem e : CutEq Pg C Q Tryz.f218 0 id st v o tree := fun J K x => by cases x <;> kernel_rfl
theorem b (a0 : List S210) : BegEq Pg C Q Tryz.f218 0 id st v o (S a0) (begin a0) := fun J K => by kernel_rfl
def told (a0 : List S210) : YtobfemcobakeoaaGreatEv.Told A := ⟨f a0, fun r => SoundCall Pg C 218 (S a0) 0 (v r) (o r), fun r h => soundCall_of_tree G mixed Q Tryz.func218 rfl (of_decide_eq_true (by kernel_rfl)) (by rfl) id st v o (fun _ => rfl) tree e (begin a0) (b a0) h⟩
end impl_BlockOk
/-! #### loop.example/g00983/impl.taskOk (178) -/
namespace impl_taskOk
def S (a0 : List S210) (a1 a2 a3 : Int) : List (PV U) := YtobfemcobakeoaaGreatEv.start C 11 [.agg [.sl 211 a0, .int .i64 a1, .int .i64 a2, .int .i64 a3]] []
abbrev X := Empty
def id : X → Nat := fun _ => 0
def st : X → List (PV U) := fun _ => []
def begin (a0 : List S210) (a1 a2 a3 : Int) : Tr X A :=
 .call (impl_BlockOk.told a0) fun t1 => .ite t1
  (.call (impl_ExprOk.told a1 a2 a3) fun t2 => .ret t2)
  (.ret false)
def tree : X → Tr X A := fun _ => .fail
def f (a0 : List S210) (a1 a2 a3 : Int) : Option A := (begin a0 a1 a2 a3).run (lp tree)
def Q : Plan C := { PL with cuts := [], ords := [], weak := [] }
theorem e : CutEq Pg C Q Tryz.f178 0 id st v o tree := fun J K x => by cases x
theorem b (a0 : List S210) (a1 a2 a3 : Int) : BegEq Pg C Q Tryz.f178 0 id st v o (S a0 a1 a2 a3) (begin a0 a1 a2 a3) := fun J K => by kernel_rfl
def told (a0 : List S210) (a1 a2 a3 : Int) : YtobfemcobakeoaaGreatEv.Told A := ⟨f a0 a1 a2 a3, fun r => SoundCall Pg C 178 (S a0 a1 a2 a3) 0 (v r) (o r), fun r h => soundCall_of_tree G mixed Q Tryz.func178 rfl (of_decide_eq_true (by kernel_rfl)) (by rfl) id st v o (fun _ => rfl) tree e (begin a0 a1 a2 a3) (b a0 a1 a2 a3) h⟩
end impl_taskOk
/-! #### loop.example/g00983/impl.ProgramOk$1 (177) -/
namespace impl_ProgramOk_1
def S (a0 : List S210) (a1 a2 a3 : Int) : List (PV U) := YtobfemcobakeoaaGreatEv.start C 6 [.agg [.sl 211 a0, .int .i64 a1, .int .i64 a2, .int .i64 a3]] []
abbrev X := Empty
def id : X → Nat := fun _ => 0
def st : X → List (PV U) := fun _ => []
def begin (a0 : List S210) (a1 a2 a3 : Int) : Tr X A :=
 .call (impl_taskOk.told a0 a1 a2 a3) fun t1 => .ret ((!t1))
def tree : X → Tr X A := fun _ => .fail
def f (a0 : List S210) (a1 a2 a3 : Int) : Option A := (begin a0 a1 a2 a3).run (lp tree)
def Q : Plan C := { PL with cuts := [], ords := [], weak := [] }
theorem e : CutEq Pg C Q Tryz.f177 0 id st v o tree := fun J K x => by cases x
theorem b (a0 : List S210) (a1 a2 a3 : Int) : BegEq Pg C Q Tryz.f177 0 id st v o (S a0 a1 a2 a3) (begin a0 a1 a2 a3) := fun J K => by kernel_rfl
def told (a0 : List S210) (a1 a2 a3 : Int) : YtobfemcobakeoaaGreatEv.Told A := ⟨f a0 a1 a2 a3, fun r => SoundCall Pg C 177 (S a0 a1 a2 a3) 0 (v r) (o r), fun r h => soundCall_of_tree G mixed Q Tryz.func177 rfl (of_decide_eq_true (by kernel_rfl)) (by rfl) id st v o (fun _ => rfl) tree e (begin a0 a1 a2 a3) (b a0 a1 a2 a3) h⟩
end impl_ProgramOk_1
/-! #### slices.IndexFunc[[]loop.example/g00983/impl.Task,loop.example/g00983/impl.Task] (217) -/
namespace slices_IndexFunc_impl_Task_ProgramOk_1
def S (a0 : List S166) : List (PV U) := YtobfemcobakeoaaGreatEv.start C 19 [.sl 167 a0, .fn 177 []] []
inductive X where
 | c2 (x0 : List S166) (x1 x2 : Int)
def id : X → Nat
 | .c2 .. => 2
def st : X → List (PV U)
 | .c2 x0 x1 x2 => stOf 19 [(0, .sl 167 x0), (1, .fn 177 []), (7, .int .i64 x1), (8, .int .i64 x2)]
def begin (a0 : List S166) : Tr X A :=
 .jump (.c2 a0 (List.length a0 : Int) (0 : Int))
def tree : X → Tr X A
 | .c2 x0 x1 x2 =>
 .ite (decide (x2 < x1))
  (.need ((0 : Int) ≤ x2 ∧ x2 < (List.length x0 : Int)) (.call (impl_ProgramOk_1.told ((rdS166 x0 x2).f0) ((rdS166 x0 x2).f1.f0) ((rdS166 x0 x2).f1.f1) ((rdS166 x0 x2).f1.f2)) fun t1 => .ite t1
   (.ret x2)
   (.jump (.c2 x0 x1 (wr (x2 + (1 : Int)))))))
  (.ret ((-1 : Int)))
def f (a0 : List S166) : Option A := (begin a0).run (lp tree)
def Q : Plan C := { PL with cuts := [(2, [0, 1, 7, 8])], ords := [], weak := [] }
theorem e : CutEq Pg C Q Tryz.f217 0 id st v o tree := fun J K x => by cases x <;> kernel_rfl
theorem b (a0 : List S166) : BegEq Pg C Q Tryz.f217 0 id st v o (S a0) (begin a0) := fun J K => by kernel_rfl
def told (a0 : List S166) : YtobfemcobakeoaaGreatEv.Told A := ⟨f a0, fun r => SoundCall Pg C 217 (S a0) 0 (v r) (o r), fun r h => soundCall_of_tree G mixed Q Tryz.func217 rfl (of_decide_eq_true (by kernel_rfl)) (by rfl) id st v o (fun _ => rfl) tree e (begin a0) (b a0) h⟩
end slices_IndexFunc_impl_Task_ProgramOk_1
/-! #### slices.ContainsFunc[[]loop.example/g00983/impl.Task,loop.example/g00983/impl.Task] (176) -/
namespace slices_ContainsFunc_impl_Task_ProgramOk_1
def S (a0 : List S166) : List (PV U) := YtobfemcobakeoaaGreatEv.start C 9 [.sl 167 a0, .fn 177 []] []
abbrev X := Empty
def id : X → Nat := fun _ => 0
def st : X → List (PV U) := fun _ => []
def begin (a0 : List S166) : Tr X A :=
 .call (slices_IndexFunc_impl_Task_ProgramOk_1.told a0) fun t1 => .ret ((decide (t1 ≥ (0 : Int))))
def tree : X → Tr X A := fun _ => .fail
def f (a0 : List S166) : Option A := (begin a0).run (lp tree)
def Q : Plan C := { PL with cuts := [], ords := [], weak := [] }
theorem e : CutEq Pg C Q Tryz.f176 0 id st v o tree := fun J K x => by cases x
theorem b (a0 : List S166) : BegEq Pg C Q Tryz.f176 0 id st v o (S a0) (begin a0) := fun J K => by kernel_rfl
def told (a0 : List S166) : YtobfemcobakeoaaGreatEv.Told A := ⟨f a0, fun r => SoundCall Pg C 176 (S a0) 0 (v r) (o r), fun r h => soundCall_of_tree G mixed Q Tryz.func176 rfl (of_decide_eq_true (by kernel_rfl)) (by rfl) id st v o (fun _ => rfl) tree e (begin a0) (b a0) h⟩
end slices_ContainsFunc_impl_Task_ProgramOk_1
/-! #### loop.example/g00983/impl.ProgramOk (107) -/
namespace impl_ProgramOk
def S (a0 : List S166) : List (PV U) := YtobfemcobakeoaaGreatEv.start C 13 [.agg [.sl 167 a0]] []
abbrev X := Empty
def id : X → Nat := fun _ => 0
def st : X → List (PV U) := fun _ => []
def begin (a0 : List S166) : Tr X A :=
 .call (impl_within.told (List.length a0 : Int) (1 : Int) (6 : Int)) fun t1 => .ite t1
  (.call (slices_ContainsFunc_impl_Task_ProgramOk_1.told a0) fun t2 => .ret ((!t2)))
  (.ret false)
def tree : X → Tr X A := fun _ => .fail
def f (a0 : List S166) : Option A := (begin a0).run (lp tree)
def Q : Plan C := { PL with cuts := [], ords := [], weak := [] }
theorem e : CutEq Pg C Q Tryz.f107 0 id st v o tree := fun J K x => by cases x
theorem b (a0 : List S166) : BegEq Pg C Q Tryz.f107 0 id st v o (S a0) (begin a0) := fun J K => by kernel_rfl
def told (a0 : List S166) : YtobfemcobakeoaaGreatEv.Told A := ⟨f a0, fun r => SoundCall Pg C 107 (S a0) 0 (v r) (o r), fun r h => soundCall_of_tree G mixed Q Tryz.func107 rfl (of_decide_eq_true (by kernel_rfl)) (by rfl) id st v o (fun _ => rfl) tree e (begin a0) (b a0) h⟩
end impl_ProgramOk
/-! #### loop.example/g00983/impl.IsValue (110) -/
namespace impl_IsValue
def S (a0 : Int) : List (PV U) := YtobfemcobakeoaaGreatEv.start C 5 [.int .i64 a0] []
abbrev X := Empty
def id : X → Nat := fun _ => 0
def st : X → List (PV U) := fun _ => []
def begin (a0 : Int) : Tr X A :=
 .call (impl_within.told a0 (-1000000 : Int) (1000000 : Int)) fun t1 => .ret t1
def tree : X → Tr X A := fun _ => .fail
def f (a0 : Int) : Option A := (begin a0).run (lp tree)
def Q : Plan C := { PL with cuts := [], ords := [], weak := [] }
theorem e : CutEq Pg C Q Tryz.f110 0 id st v o tree := fun J K x => by cases x
theorem b (a0 : Int) : BegEq Pg C Q Tryz.f110 0 id st v o (S a0) (begin a0) := fun J K => by kernel_rfl
def told (a0 : Int) : YtobfemcobakeoaaGreatEv.Told A := ⟨f a0, fun r => SoundCall Pg C 110 (S a0) 0 (v r) (o r), fun r h => soundCall_of_tree G mixed Q Tryz.func110 rfl (of_decide_eq_true (by kernel_rfl)) (by rfl) id st v o (fun _ => rfl) tree e (begin a0) (b a0) h⟩
end impl_IsValue
/-! #### loop.example/g00983/impl.areValues$1 (179) -/
namespace impl_areValues_1
def S (a0 : Int) : List (PV U) := YtobfemcobakeoaaGreatEv.start C 6 [.int .i64 a0] []
abbrev X := Empty
def id : X → Nat := fun _ => 0
def st : X → List (PV U) := fun _ => []
def begin (a0 : Int) : Tr X A :=
 .call (impl_IsValue.told a0) fun t1 => .ret ((!t1))
def tree : X → Tr X A := fun _ => .fail
def f (a0 : Int) : Option A := (begin a0).run (lp tree)
def Q : Plan C := { PL with cuts := [], ords := [], weak := [] }
theorem e : CutEq Pg C Q Tryz.f179 0 id st v o tree := fun J K x => by cases x
theorem b (a0 : Int) : BegEq Pg C Q Tryz.f179 0 id st v o (S a0) (begin a0) := fun J K => by kernel_rfl
def told (a0 : Int) : YtobfemcobakeoaaGreatEv.Told A := ⟨f a0, fun r => SoundCall Pg C 179 (S a0) 0 (v r) (o r), fun r h => soundCall_of_tree G mixed Q Tryz.func179 rfl (of_decide_eq_true (by kernel_rfl)) (by rfl) id st v o (fun _ => rfl) tree e (begin a0) (b a0) h⟩
end impl_areValues_1
/-! #### slices.IndexFunc[[]int,int] (184) -/
namespace slices_IndexFunc_int_areValues_1
def S (a0 : List Int) : List (PV U) := YtobfemcobakeoaaGreatEv.start C 19 [.sl 3 a0, .fn 179 []] []
inductive X where
 | c2 (x0 : List Int) (x1 x2 : Int)
def id : X → Nat
 | .c2 .. => 2
def st : X → List (PV U)
 | .c2 x0 x1 x2 => stOf 19 [(0, .sl 3 x0), (1, .fn 179 []), (7, .int .i64 x1), (8, .int .i64 x2)]
def begin (a0 : List Int) : Tr X A :=
 .jump (.c2 a0 (List.length a0 : Int) (0 : Int))
def tree : X → Tr X A
 | .c2 x0 x1 x2 =>
 .ite (decide (x2 < x1))
  (.need ((0 : Int) ≤ x2 ∧ x2 < (List.length x0 : Int)) (.call (impl_areValues_1.told (rdI x0 x2)) fun t1 => .ite t1
   (.ret x2)
   (.jump (.c2 x0 x1 (wr (x2 + (1 : Int)))))))
  (.ret ((-1 : Int)))
def f (a0 : List Int) : Option A := (begin a0).run (lp tree)
def Q : Plan C := { PL with cuts := [(2, [0, 1, 7, 8])], ords := [], weak := [] }
theorem e : CutEq Pg C Q Tryz.f184 0 id st v o tree := fun J K x => by cases x <;> kernel_rfl
theorem b (a0 : List Int) : BegEq Pg C Q Tryz.f184 0 id st v o (S a0) (begin a0) := fun J K => by kernel_rfl
def told (a0 : List Int) : YtobfemcobakeoaaGreatEv.Told A := ⟨f a0, fun r => SoundCall Pg C 184 (S a0) 0 (v r) (o r), fun r h => soundCall_of_tree G mixed Q Tryz.func184 rfl (of_decide_eq_true (by kernel_rfl)) (by rfl) id st v o (fun _ => rfl) tree e (begin a0) (b a0) h⟩
end slices_IndexFunc_int_areValues_1
/-! #### slices.ContainsFunc[[]int,int] (124) -/
namespace slices_ContainsFunc_int_areValues_1
def S (a0 : List Int) : List (PV U) := YtobfemcobakeoaaGreatEv.start C 9 [.sl 3 a0, .fn 179 []] []
abbrev X := Empty
def id : X → Nat := fun _ => 0
def st : X → List (PV U) := fun _ => []
def begin (a0 : List Int) : Tr X A :=
 .call (slices_IndexFunc_int_areValues_1.told a0) fun t1 => .ret ((decide (t1 ≥ (0 : Int))))
def tree : X → Tr X A := fun _ => .fail
def f (a0 : List Int) : Option A := (begin a0).run (lp tree)
def Q : Plan C := { PL with cuts := [], ords := [], weak := [] }
theorem e : CutEq Pg C Q Tryz.f124 0 id st v o tree := fun J K x => by cases x
theorem b (a0 : List Int) : BegEq Pg C Q Tryz.f124 0 id st v o (S a0) (begin a0) := fun J K => by kernel_rfl
def told (a0 : List Int) : YtobfemcobakeoaaGreatEv.Told A := ⟨f a0, fun r => SoundCall Pg C 124 (S a0) 0 (v r) (o r), fun r h => soundCall_of_tree G mixed Q Tryz.func124 rfl (of_decide_eq_true (by kernel_rfl)) (by rfl) id st v o (fun _ => rfl) tree e (begin a0) (b a0) h⟩
end slices_ContainsFunc_int_areValues_1
/-! #### loop.example/g00983/impl.areValues (108) -/
namespace impl_areValues
def S (a0 : List Int) : List (PV U) := YtobfemcobakeoaaGreatEv.start C 6 [.sl 3 a0] []
abbrev X := Empty
def id : X → Nat := fun _ => 0
def st : X → List (PV U) := fun _ => []
def begin (a0 : List Int) : Tr X A :=
 .call (slices_ContainsFunc_int_areValues_1.told a0) fun t1 => .ret ((!t1))
def tree : X → Tr X A := fun _ => .fail
def f (a0 : List Int) : Option A := (begin a0).run (lp tree)
def Q : Plan C := { PL with cuts := [], ords := [], weak := [] }
theorem e : CutEq Pg C Q Tryz.f108 0 id st v o tree := fun J K x => by cases x
theorem b (a0 : List Int) : BegEq Pg C Q Tryz.f108 0 id st v o (S a0) (begin a0) := fun J K => by kernel_rfl
def told (a0 : List Int) : YtobfemcobakeoaaGreatEv.Told A := ⟨f a0, fun r => SoundCall Pg C 108 (S a0) 0 (v r) (o r), fun r h => soundCall_of_tree G mixed Q Tryz.func108 rfl (of_decide_eq_true (by kernel_rfl)) (by rfl) id st v o (fun _ => rfl) tree e (begin a0) (b a0) h⟩
end impl_areValues
/-! #### loop.example/g00983/impl.PackControl (78) -/
namespace impl_PackControl
def S (a0 a1 a2 : Int) : List (PV U) := YtobfemcobakeoaaGreatEv.start C 27 [.int .i64 a0, .int .i64 a1, .int .i64 a2] []
abbrev X := Empty
def id : X → Nat := fun _ => 0
def st : X → List (PV U) := fun _ => []
def begin (a0 a1 a2 : Int) : Tr X A :=
 .call (impl_within.told a0 (0 : Int) (5 : Int)) fun t1 => .ite (!t1)
  (.ret ((-1 : Int)))
  (.call (impl_within.told a1 (0 : Int) (8 : Int)) fun t2 => .ite (!t2)
   (.ret ((-1 : Int)))
   (.call (impl_within.told a2 (0 : Int) (24 : Int)) fun t3 => .ite (!t3)
    (.ret ((-1 : Int)))
    (.ret ((wr (a0 + (wr ((8 : Int) * (wr (a1 + (wr ((16 : Int) * a2))))))))))))
def tree : X → Tr X A := fun _ => .fail
def f (a0 a1 a2 : Int) : Option A := (begin a0 a1 a2).run (lp tree)
def Q : Plan C := { PL with cuts := [], ords := [], weak := [] }
theorem e : CutEq Pg C Q Tryz.f78 0 id st v o tree := fun J K x => by cases x
theorem b (a0 a1 a2 : Int) : BegEq Pg C Q Tryz.f78 0 id st v o (S a0 a1 a2) (begin a0 a1 a2) := fun J K => by kernel_rfl
def told (a0 a1 a2 : Int) : YtobfemcobakeoaaGreatEv.Told A := ⟨f a0 a1 a2, fun r => SoundCall Pg C 78 (S a0 a1 a2) 0 (v r) (o r), fun r h => soundCall_of_tree G mixed Q Tryz.func78 rfl (of_decide_eq_true (by kernel_rfl)) (by rfl) id st v o (fun _ => rfl) tree e (begin a0 a1 a2) (b a0 a1 a2) h⟩
end impl_PackControl
/-! #### loop.example/g00983/impl.UnpackControl (77) -/
namespace impl_UnpackControl
def S (a0 : Int) : List (PV U) := YtobfemcobakeoaaGreatEv.start C 28 [.int .i64 a0] []
abbrev X := Empty
def id : X → Nat := fun _ => 0
def st : X → List (PV U) := fun _ => []
def begin (a0 : Int) : Tr X A :=
 .need ((8 : Int) ≠ 0) (.need ((8 : Int) ≠ 0) (.need ((16 : Int) ≠ 0) (.need ((128 : Int) ≠ 0) (.ite (decide (a0 < (0 : Int)))
  (.ret ((-1 : Int), (-1 : Int), (-1 : Int)))
  (.call (impl_PackControl.told (Int.tmod a0 (8 : Int)) (Int.tmod (wr (Int.tdiv a0 (8 : Int))) (16 : Int)) (wr (Int.tdiv a0 (128 : Int)))) fun t1 => .ite (!decide (t1 = a0))
   (.ret ((-1 : Int), (-1 : Int), (-1 : Int)))
   (.ret ((Int.tmod a0 (8 : Int)), (Int.tmod (wr (Int.tdiv a0 (8 : Int))) (16 : Int)), (wr (Int.tdiv a0 (128 : Int))))))))))
def tree : X → Tr X A := fun _ => .fail
def f (a0 : Int) : Option A := (begin a0).run (lp tree)
def Q : Plan C := { PL with cuts := [], ords := [], weak := [] }
theorem e : CutEq Pg C Q Tryz.f77 0 id st v o tree := fun J K x => by cases x
theorem b (a0 : Int) : BegEq Pg C Q Tryz.f77 0 id st v o (S a0) (begin a0) := fun J K => by kernel_rfl
def told (a0 : Int) : YtobfemcobakeoaaGreatEv.Told A := ⟨f a0, fun r => SoundCall Pg C 77 (S a0) 0 (v r) (o r), fun r h => soundCall_of_tree G mixed Q Tryz.func77 rfl (of_decide_eq_true (by kernel_rfl)) (by rfl) id st v o (fun _ => rfl) tree e (begin a0) (b a0) h⟩
end impl_UnpackControl
/-! #### loop.example/g00983/impl.MemOk (41) -/
namespace impl_MemOk
def S (a0 : List S166) (a1 : List Int) : List (PV U) := YtobfemcobakeoaaGreatEv.start C 72 [.agg [.sl 167 a0], .sl 3 a1] []
inductive X where
 | c7 (x0 : List Int) (x1 x2 : Int)
def id : X → Nat
 | .c7 .. => 7
def st : X → List (PV U)
 | .c7 x0 x1 x2 => stOf 72 [(1, .sl 3 x0), (48, .int .i64 x1), (49, .int .i64 x2)]
def begin (a0 : List S166) (a1 : List Int) : Tr X A :=
 .call (impl_ProgramOk.told a0) fun t1 => .ite (!t1)
  (.ret false)
  (.ite (!decide ((List.length a1 : Int) = (49 : Int)))
   (.ret false)
   (.need ((0 : Int) ≤ (0 : Int) ∧ (0 : Int) ≤ (8 : Int) ∧ (8 : Int) ≤ (List.length a1 : Int)) (.call (impl_areValues.told (List.take (Int.toNat (8 : Int)) a1)) fun t2 => .ite (!t2)
    (.ret false)
    (.need ((0 : Int) ≤ (8 : Int) ∧ (8 : Int) < (List.length a1 : Int)) (.call (impl_UnpackControl.told (rdI a1 (8 : Int))) fun t3 => .ite (decide (t3.1 < (0 : Int)))
     (.ret false)
     (.ite (decide (t3.1 ≥ (List.length a0 : Int)))
      (.ret false)
      (.need ((0 : Int) ≤ (25 : Int) ∧ (25 : Int) ≤ (wr ((25 : Int) + t3.2.2)) ∧ (wr ((25 : Int) + t3.2.2)) ≤ (List.length a1 : Int)) (.call (impl_areValues.told (List.drop (Int.toNat (25 : Int)) (List.take (Int.toNat (wr ((25 : Int) + t3.2.2))) a1))) fun t4 => .ite (!t4)
       (.ret false)
       (.jump (.c7 a1 t3.2.1 (0 : Int)))))))))))
def tree : X → Tr X A
 | .c7 x0 x1 x2 =>
 .ite (decide (x2 < x1))
  (.need ((0 : Int) ≤ (wr ((9 : Int) + (wr ((2 : Int) * x2)))) ∧ (wr ((9 : Int) + (wr ((2 : Int) * x2)))) < (List.length x0 : Int)) (.call (impl_isVar.told (rdI x0 (wr ((9 : Int) + (wr ((2 : Int) * x2)))))) fun t1 => .ite (!t1)
   (.ret false)
   (.need ((0 : Int) ≤ (wr ((wr ((9 : Int) + (wr ((2 : Int) * x2)))) + (1 : Int))) ∧ (wr ((wr ((9 : Int) + (wr ((2 : Int) * x2)))) + (1 : Int))) < (List.length x0 : Int)) (.call (impl_IsValue.told (rdI x0 (wr ((wr ((9 : Int) + (wr ((2 : Int) * x2)))) + (1 : Int))))) fun t2 => .ite (!t2)
    (.ret false)
    (.jump (.c7 x0 x1 (wr (x2 + (1 : Int)))))))))
  (.ret true)
def f (a0 : List S166) (a1 : List Int) : Option A := (begin a0 a1).run (lp tree)
def Q : Plan C := { PL with cuts := [(7, [1, 48, 49])], ords := [], weak := [] }
theorem e : CutEq Pg C Q Tryz.f41 0 id st v o tree := fun J K x => by cases x <;> kernel_rfl
theorem b (a0 : List S166) (a1 : List Int) : BegEq Pg C Q Tryz.f41 0 id st v o (S a0 a1) (begin a0 a1) := fun J K => by kernel_rfl
def told (a0 : List S166) (a1 : List Int) : YtobfemcobakeoaaGreatEv.Told A := ⟨f a0 a1, fun r => SoundCall Pg C 41 (S a0 a1) 0 (v r) (o r), fun r h => soundCall_of_tree G mixed Q Tryz.func41 rfl (of_decide_eq_true (by kernel_rfl)) (by rfl) id st v o (fun _ => rfl) tree e (begin a0 a1) (b a0 a1) h⟩
end impl_MemOk
/-! #### loop.example/g00983/impl.StoreOk (116) -/
namespace impl_StoreOk
def S (a0 a1 a2 a3 : Int) : List (PV U) := YtobfemcobakeoaaGreatEv.start C 25 [.agg [.int .i64 a0, .int .i64 a1, .int .i64 a2, .int .i64 a3]] []
abbrev X := Empty
def id : X → Nat := fun _ => 0
def st : X → List (PV U) := fun _ => []
def begin (a0 a1 a2 a3 : Int) : Tr X A :=
 .call (impl_within.told a1 (1 : Int) (5000 : Int)) fun t1 => .ite t1
  (.call (impl_within.told a0 (0 : Int) a1) fun t2 => .ite t2
   (.call (impl_within.told a2 (1 : Int) a1) fun t3 => .ite t3
    (.call (impl_within.told a3 (0 : Int) (100 : Int)) fun t4 => .ret t4)
    (.ret false))
   (.ret false))
  (.ret false)
def tree : X → Tr X A := fun _ => .fail
def f (a0 a1 a2 a3 : Int) : Option A := (begin a0 a1 a2 a3).run (lp tree)
def Q : Plan C := { PL with cuts := [], ords := [], weak := [] }
theorem e : CutEq Pg C Q Tryz.f116 0 id st v o tree := fun J K x => by cases x
theorem b (a0 a1 a2 a3 : Int) : BegEq Pg C Q Tryz.f116 0 id st v o (S a0 a1 a2 a3) (begin a0 a1 a2 a3) := fun J K => by kernel_rfl
def told (a0 a1 a2 a3 : Int) : YtobfemcobakeoaaGreatEv.Told A := ⟨f a0 a1 a2 a3, fun r => SoundCall Pg C 116 (S a0 a1 a2 a3) 0 (v r) (o r), fun r h => soundCall_of_tree G mixed Q Tryz.func116 rfl (of_decide_eq_true (by kernel_rfl)) (by rfl) id st v o (fun _ => rfl) tree e (begin a0 a1 a2 a3) (b a0 a1 a2 a3) h⟩
end impl_StoreOk
/-! #### loop.example/g00983/impl.SpanOk (121) -/
namespace impl_SpanOk
def S (a0 a1 : Int) : List (PV U) := YtobfemcobakeoaaGreatEv.start C 18 [.agg [.int .i64 a0, .int .i64 a1]] []
abbrev X := Empty
def id : X → Nat := fun _ => 0
def st : X → List (PV U) := fun _ => []
def begin (a0 a1 : Int) : Tr X A :=
 .ite (decide (a0 ≥ (0 : Int)))
  (.ite (decide (a0 ≤ a1))
   (.ret ((decide (a1 ≤ (1000000 : Int)))))
   (.ret false))
  (.ret false)
def tree : X → Tr X A := fun _ => .fail
def f (a0 a1 : Int) : Option A := (begin a0 a1).run (lp tree)
def Q : Plan C := { PL with cuts := [], ords := [], weak := [] }
theorem e : CutEq Pg C Q Tryz.f121 0 id st v o tree := fun J K x => by cases x
theorem b (a0 a1 : Int) : BegEq Pg C Q Tryz.f121 0 id st v o (S a0 a1) (begin a0 a1) := fun J K => by kernel_rfl
def told (a0 a1 : Int) : YtobfemcobakeoaaGreatEv.Told A := ⟨f a0 a1, fun r => SoundCall Pg C 121 (S a0 a1) 0 (v r) (o r), fun r h => soundCall_of_tree G mixed Q Tryz.func121 rfl (of_decide_eq_true (by kernel_rfl)) (by rfl) id st v o (fun _ => rfl) tree e (begin a0 a1) (b a0 a1) h⟩
end impl_SpanOk
/-! #### loop.example/g00983/impl.MemSent (43) -/
namespace impl_MemSent
def S (a0 : List Int) : List (PV U) := YtobfemcobakeoaaGreatEv.start C 24 [.sl 3 a0] []
abbrev X := Empty
def id : X → Nat := fun _ => 0
def st : X → List (PV U) := fun _ => []
def begin (a0 : List Int) : Tr X A :=
 .ite (!decide ((List.length a0 : Int) = (49 : Int)))
  (.ret (([] : List Int)))
  (.need ((0 : Int) ≤ (8 : Int) ∧ (8 : Int) < (List.length a0 : Int)) (.call (impl_UnpackControl.told (rdI a0 (8 : Int))) fun t1 => .ite (decide (t1.2.2 < (0 : Int)))
   (.ret (([] : List Int)))
   (.need ((0 : Int) ≤ (25 : Int) ∧ (25 : Int) ≤ (wr ((25 : Int) + t1.2.2)) ∧ (wr ((25 : Int) + t1.2.2)) ≤ (List.length a0 : Int)) (.call (slices_Clone_int.told (List.drop (Int.toNat (25 : Int)) (List.take (Int.toNat (wr ((25 : Int) + t1.2.2))) a0))) fun t2 => .ret t2))))
def tree : X → Tr X A := fun _ => .fail
def f (a0 : List Int) : Option A := (begin a0).run (lp tree)
def Q : Plan C := { PL with cuts := [], ords := [], weak := [] }
theorem e : CutEq Pg C Q Tryz.f43 0 id st v o tree := fun J K x => by cases x
theorem b (a0 : List Int) : BegEq Pg C Q Tryz.f43 0 id st v o (S a0) (begin a0) := fun J K => by kernel_rfl
def told (a0 : List Int) : YtobfemcobakeoaaGreatEv.Told A := ⟨f a0, fun r => SoundCall Pg C 43 (S a0) 0 (v r) (o r), fun r h => soundCall_of_tree G mixed Q Tryz.func43 rfl (of_decide_eq_true (by kernel_rfl)) (by rfl) id st v o (fun _ => rfl) tree e (begin a0) (b a0) h⟩
end impl_MemSent
/-! #### slices.Equal[[]int,int] (111) -/
namespace slices_Equal_int
def S (a0 a1 : List Int) : List (PV U) := YtobfemcobakeoaaGreatEv.start C 26 [.sl 3 a0, .sl 3 a1] []
inductive X where
 | c4 (x0 x1 : List Int) (x2 x3 : Int)
def id : X → Nat
 | .c4 .. => 4
def st : X → List (PV U)
 | .c4 x0 x1 x2 x3 => stOf 26 [(0, .sl 3 x0), (1, .sl 3 x1), (12, .int .i64 x2), (13, .int .i64 x3)]
def begin (a0 a1 : List Int) : Tr X A :=
 .ite (!decide ((List.length a0 : Int) = (List.length a1 : Int)))
  (.ret false)
  (.jump (.c4 a0 a1 (List.length a0 : Int) (0 : Int)))
def tree : X → Tr X A
 | .c4 x0 x1 x2 x3 =>
 .ite (decide (x3 < x2))
  (.need ((0 : Int) ≤ x3 ∧ x3 < (List.length x0 : Int)) (.need ((0 : Int) ≤ x3 ∧ x3 < (List.length x1 : Int)) (.ite (!decide ((rdI x0 x3) = (rdI x1 x3)))
   (.ret false)
   (.jump (.c4 x0 x1 x2 (wr (x3 + (1 : Int))))))))
  (.ret true)
def f (a0 a1 : List Int) : Option A := (begin a0 a1).run (lp tree)
def Q : Plan C := { PL with cuts := [(4, [0, 1, 12, 13])], ords := [(6, [], (.take 0 [] (.take 1 [] (.take 2 [] (.take 4 [] (.take 5 [] (.take 6 [] (.take 3 [0, 1, 2, 4, 5, 6, 7] (.take 7 [0, 1, 2, 3, 4, 5, 6] (.take 8 [] .done))))))))))], weak := [] }
theorem e : CutEq Pg C Q Tryz.f111 0 id st v o tree := fun J K x => by cases x <;> kernel_rfl
theorem b (a0 a1 : List Int) : BegEq Pg C Q Tryz.f111 0 id st v o (S a0 a1) (begin a0 a1) := fun J K => by kernel_rfl
def told (a0 a1 : List Int) : YtobfemcobakeoaaGreatEv.Told A := ⟨f a0 a1, fun r => SoundCall Pg C 111 (S a0 a1) 0 (v r) (o r), fun r h => soundCall_of_tree G mixed Q Tryz.func111 rfl (of_decide_eq_true (by kernel_rfl)) (by rfl) id st v o (fun _ => rfl) tree e (begin a0 a1) (b a0 a1) h⟩
end slices_Equal_int
/-! #### loop.example/g00983/impl.IsPrefixOf (42) -/
namespace impl_IsPrefixOf
def S (a0 a1 : List Int) : List (PV U) := YtobfemcobakeoaaGreatEv.start C 18 [.sl 3 a0, .sl 3 a1] []
abbrev X := Empty
def id : X → Nat := fun _ => 0
def st : X → List (PV U) := fun _ => []
def begin (a0 a1 : List Int) : Tr X A :=
 .ite (decide ((List.length a0 : Int) ≤ (List.length a1 : Int)))
  (.need ((0 : Int) ≤ (0 : Int) ∧ (0 : Int) ≤ (List.length a0 : Int) ∧ (List.length a0 : Int) ≤ (List.length a1 : Int)) (.call (slices_Equal_int.told a0 (List.take (Int.toNat (List.length a0 : Int)) a1)) fun t1 => .ret t1))
  (.ret false)
def tree : X → Tr X A := fun _ => .fail
def f (a0 a1 : List Int) : Option A := (begin a0 a1).run (lp tree)
def Q : Plan C := { PL with cuts := [], ords := [], weak := [] }
theorem e : CutEq Pg C Q Tryz.f42 0 id st v o tree := fun J K x => by cases x
theorem b (a0 a1 : List Int) : BegEq Pg C Q Tryz.f42 0 id st v o (S a0 a1) (begin a0 a1) := fun J K => by kernel_rfl
def told (a0 a1 : List Int) : YtobfemcobakeoaaGreatEv.Told A := ⟨f a0 a1, fun r => SoundCall Pg C 42 (S a0 a1) 0 (v r) (o r), fun r h => soundCall_of_tree G mixed Q Tryz.func42 rfl (of_decide_eq_true (by kernel_rfl)) (by rfl) id st v o (fun _ => rfl) tree e (begin a0 a1) (b a0 a1) h⟩
end impl_IsPrefixOf
/-! #### loop.example/g00983/impl.LinkOk (122) -/
namespace impl_LinkOk
def S (a0 : List Int) (a1 : Int) (a2 : List Int) : List (PV U) := YtobfemcobakeoaaGreatEv.start C 20 [.sl 3 a0, .agg [.int .i64 a1, .sl 3 a2]] []
abbrev X := Empty
def id : X → Nat := fun _ => 0
def st : X → List (PV U) := fun _ => []
def begin (a0 : List Int) (a1 : Int) (a2 : List Int) : Tr X A :=
 .last (.call (impl_within.told a1 (0 : Int) (List.length a2 : Int)) fun t1 => .ite t1
  (.last (.call (impl_MemSent.told a0) fun t2 => .last (.call (impl_IsPrefixOf.told a2 t2) fun t3 => .ret t3)))
  (.last (.last (.ret false))))
def tree : X → Tr X A := fun _ => .fail
def f (a0 : List Int) (a1 : Int) (a2 : List Int) : Option A := (begin a0 a1 a2).run (lp tree)
def Q : Plan C := { PL with cuts := [], ords := [(1, [], (.take 0 [] (.take 2 [] (.take 3 [] (.take 1 [0, 2, 3, 4, 5] (.take 4 [0, 1, 2, 3] (.take 5 [] (.alt 6 (.take 7 [] (.take 8 [] (.take 9 [] (.take 11 [] (.take 10 [0, 1, 2, 3, 4, 5, 6, 7, 8, 9, 11, 12] (.alt 12 (.alt 13 (.take 14 [] (.take 15 [] .done)) .nil) .nil)))))) .nil))))))))], weak := [] }
theorem e : CutEq Pg C Q Tryz.f122 0 id st v o tree := fun J K x => by cases x
theorem b (a0 : List Int) (a1 : Int) (a2 : List Int) : BegEq Pg C Q Tryz.f122 0 id st v o (S a0 a1 a2) (begin a0 a1 a2) := fun J K => by kernel_rfl
def told (a0 : List Int) (a1 : Int) (a2 : List Int) : YtobfemcobakeoaaGreatEv.Told A := ⟨f a0 a1 a2, fun r => SoundCall Pg C 122 (S a0 a1 a2) 0 (v r) (o r), fun r h => soundCall_of_tree G mixed Q Tryz.func122 rfl (of_decide_eq_true (by kernel_rfl)) (by rfl) id st v o (fun _ => rfl) tree e (begin a0 a1 a2) (b a0 a1 a2) h⟩
end impl_LinkOk
/-! #### loop.example/g00983/impl.NodeOk (50) -/
namespace impl_NodeOk
def S (a0 : List S166) (a1 a2 : List Int) (a3 a4 a5 a6 a7 a8 a9 a10 : Int) (a11 : List Int) (a12 : Int) : List (PV U) := YtobfemcobakeoaaGreatEv.start C 40 [.agg [.sl 167 a0, .sl 3 a1, .sl 3 a2, .int .i64 a3, .int .i64 a4, .int .i64 a5, .int .i64 a6, .int .i64 a7, .int .i64 a8, .int .i64 a9, .int .i64 a10, .sl 3 a11, .int .i64 a12]] []
abbrev X := Empty
def id : X → Nat := fun _ => 0
def st : X → List (PV U) := fun _ => []
def begin (a0 : List S166) (a1 a2 : List Int) (a3 a4 a5 a6 a7 a8 a9 a10 : Int) (a11 : List Int) (a12 : Int) : Tr X A :=
 .call (impl_MemOk.told a0 a1) fun t1 => .ite t1
  (.call (impl_StoreOk.told a4 a5 a6 a7) fun t2 => .ite t2
   (.call (impl_areValues.told a2) fun t3 => .ite t3
    (.call (impl_within.told a3 (0 : Int) (400000 : Int)) fun t4 => .ite t4
     (.call (impl_SpanOk.told a8 a9) fun t5 => .ite t5
      (.call (impl_LinkOk.told a1 a10 a11) fun t6 => .ite t6
       (.call (impl_within.told a12 (0 : Int) (100000 : Int)) fun t7 => .ret t7)
       (.ret false))
      (.ret false))
     (.ret false))
    (.ret false))
   (.ret false))
  (.ret false)
def tree : X → Tr X A := fun _ => .fail
def f (a0 : List S166) (a1 a2 : List Int) (a3 a4 a5 a6 a7 a8 a9 a10 : Int) (a11 : List Int) (a12 : Int) : Option A := (begin a0 a1 a2 a3 a4 a5 a6 a7 a8 a9 a10 a11 a12).run (lp tree)
def Q : Plan C := { PL with cuts := [], ords := [], weak := [] }
theorem e : CutEq Pg C Q Tryz.f50 0 id st v o tree := fun J K x => by cases x
theorem b (a0 : List S166) (a1 a2 : List Int) (a3 a4 a5 a6 a7 a8 a9 a10 : Int) (a11 : List Int) (a12 : Int) : BegEq Pg C Q Tryz.f50 0 id st v o (S a0 a1 a2 a3 a4 a5 a6 a7 a8 a9 a10 a11 a12) (begin a0 a1 a2 a3 a4 a5 a6 a7 a8 a9 a10 a11 a12) := fun J K => by kernel_rfl
def told (a0 : List S166) (a1 a2 : List Int) (a3 a4 a5 a6 a7 a8 a9 a10 : Int) (a11 : List Int) (a12 : Int) : YtobfemcobakeoaaGreatEv.Told A := ⟨f a0 a1 a2 a3 a4 a5 a6 a7 a8 a9 a10 a11 a12, fun r => SoundCall Pg C 50 (S a0 a1 a2 a3 a4 a5 a6 a7 a8 a9 a10 a11 a12) 0 (v r) (o r), fun r h => soundCall_of_tree G mixed Q Tryz.func50 rfl (of_decide_eq_true (by kernel_rfl)) (by rfl) id st v o (fun _ => rfl) tree e (begin a0 a1 a2 a3 a4 a5 a6 a7 a8 a9 a10 a11 a12) (b a0 a1 a2 a3 a4 a5 a6 a7 a8 a9 a10 a11 a12) h⟩
end impl_NodeOk
/-! #### loop.example/g00983/impl.isHarvest (118) -/
namespace impl_isHarvest
def S (a0 : Int) : List (PV U) := YtobfemcobakeoaaGreatEv.start C 5 [.int .i64 a0] []
abbrev X := Empty
def id : X → Nat := fun _ => 0
def st : X → List (PV U) := fun _ => []
def begin (a0 : Int) : Tr X A :=
 .call (impl_within.told a0 (0 : Int) (1000 : Int)) fun t1 => .ret t1
def tree : X → Tr X A := fun _ => .fail
def f (a0 : Int) : Option A := (begin a0).run (lp tree)
def Q : Plan C := { PL with cuts := [], ords := [], weak := [] }
theorem e : CutEq Pg C Q Tryz.f118 0 id st v o tree := fun J K x => by cases x
theorem b (a0 : Int) : BegEq Pg C Q Tryz.f118 0 id st v o (S a0) (begin a0) := fun J K => by kernel_rfl
def told (a0 : Int) : YtobfemcobakeoaaGreatEv.Told A := ⟨f a0, fun r => SoundCall Pg C 118 (S a0) 0 (v r) (o r), fun r h => soundCall_of_tree G mixed Q Tryz.func118 rfl (of_decide_eq_true (by kernel_rfl)) (by rfl) id st v o (fun _ => rfl) tree e (begin a0) (b a0) h⟩
end impl_isHarvest
/-! #### loop.example/g00983/impl.ActOk (192) -/
namespace impl_ActOk
def S (a0 a1 a2 : Int) : List (PV U) := YtobfemcobakeoaaGreatEv.start C 60 [.agg [.int .i64 a0, .int .i64 a1, .int .i64 a2]] []
abbrev X := Empty
def id : X → Nat := fun _ => 0
def st : X → List (PV U) := fun _ => []
def begin (a0 a1 a2 : Int) : Tr X A :=
 .ite (decide (a0 = (1 : Int)))
  (.call (impl_within.told a1 (1 : Int) (50 : Int)) fun t1 => .ite t1
   (.call (impl_isHarvest.told a2) fun t2 => .ret t2)
   (.ret false))
  (.ite (decide (a0 = (2 : Int)))
   (.ite (decide (a1 ≥ (0 : Int)))
    (.ite (decide (a1 ≤ a2))
     (.ret ((decide (a2 ≤ (10000 : Int)))))
     (.ret false))
    (.ret false))
   (.ite (decide (a0 = (3 : Int)))
    (.call (impl_within.told a1 (0 : Int) (24 : Int)) fun t1 => .ite t1
     (.call (impl_within.told a2 (0 : Int) (1 : Int)) fun t2 => .ret t2)
     (.ret false))
    (.ite (decide (a0 = (4 : Int)))
     (.call (impl_SpanOk.told a1 a2) fun t1 => .ret t1)
     (.ite (decide (a0 = (5 : Int)))
      (.call (impl_IsValue.told a1) fun t1 => .ite t1
       (.ret ((decide (a2 = (0 : Int)))))
       (.ret false))
      (.ret false)))))
def tree : X → Tr X A := fun _ => .fail
def f (a0 a1 a2 : Int) : Option A := (begin a0 a1 a2).run (lp tree)
def Q : Plan C := { PL with cuts := [], ords := [], weak := [] }
theorem e : CutEq Pg C Q Tryz.f192 0 id st v o tree := fun J K x => by cases x
theorem b (a0 a1 a2 : Int) : BegEq Pg C Q Tryz.f192 0 id st v o (S a0 a1 a2) (begin a0 a1 a2) := fun J K => by kernel_rfl
def told (a0 a1 a2 : Int) : YtobfemcobakeoaaGreatEv.Told A := ⟨f a0 a1 a2, fun r => SoundCall Pg C 192 (S a0 a1 a2) 0 (v r) (o r), fun r h => soundCall_of_tree G mixed Q Tryz.func192 rfl (of_decide_eq_true (by kernel_rfl)) (by rfl) id st v o (fun _ => rfl) tree e (begin a0 a1 a2) (b a0 a1 a2) h⟩
end impl_ActOk
/-! #### loop.example/g00983/impl.Clamp (182) -/
namespace impl_Clamp
def S (a0 a1 a2 : Int) : List (PV U) := YtobfemcobakeoaaGreatEv.start C 16 [.int .i64 a0, .int .i64 a1, .int .i64 a2] []
abbrev X := Empty
def id : X → Nat := fun _ => 0
def st : X → List (PV U) := fun _ => []
def begin (a0 a1 a2 : Int) : Tr X A :=
 .ite (decide (a2 < a1))
  (.ret a1)
  (.ret ((if a2 < (if a1 > a0 then a1 else a0) then a2 else (if a1 > a0 then a1 else a0))))
def tree : X → Tr X A := fun _ => .fail
def f (a0 a1 a2 : Int) : Option A := (begin a0 a1 a2).run (lp tree)
def Q : Plan C := { PL with cuts := [], ords := [], weak := [] }
theorem e : CutEq Pg C Q Tryz.f182 0 id st v o tree := fun J K x => by cases x
theorem b (a0 a1 a2 : Int) : BegEq Pg C Q Tryz.f182 0 id st v o (S a0 a1 a2) (begin a0 a1 a2) := fun J K => by kernel_rfl
def told (a0 a1 a2 : Int) : YtobfemcobakeoaaGreatEv.Told A := ⟨f a0 a1 a2, fun r => SoundCall Pg C 182 (S a0 a1 a2) 0 (v r) (o r), fun r h => soundCall_of_tree G mixed Q Tryz.func182 rfl (of_decide_eq_true (by kernel_rfl)) (by rfl) id st v o (fun _ => rfl) tree e (begin a0 a1 a2) (b a0 a1 a2) h⟩
end impl_Clamp
/-! #### (*loop.example/g00983/impl.Store).tick (119) -/
namespace impl_Store_tick
def S (a0 : Int) (a1 : List S166) (a2 a3 : List Int) (a4 a5 a6 a7 a8 a9 a10 a11 : Int) (a12 : List Int) (a13 : Int) : List (PV U) := YtobfemcobakeoaaGreatEv.start C 23 [.ptr 23 4, .int .i64 a0] [.box [.own true 167 a1, .own true 3 a2, .own true 3 a3, .int .i64 a4, .int .i64 a5, .int .i64 a6, .int .i64 a7, .int .i64 a8, .int .i64 a9, .int .i64 a10, .int .i64 a11, .own true 3 a12, .int .i64 a13]]
abbrev X := Empty
def id : X → Nat := fun _ => 0
def st : X → List (PV U) := fun _ => []
def begin (a0 : Int) (a1 : List S166) (a2 a3 : List Int) (a4 a5 a6 a7 a8 a9 a10 a11 : Int) (a12 : List Int) (a13 : Int) : Tr X A :=
 .last (.call (impl_Clamp.told (wr ((wr (a5 + a0)) - a8)) (0 : Int) a6) fun t1 => .last (.ret (a1, a2, a3, a4, t1, a6, a7, a8, a9, a10, a11, a12, a13)))
def tree : X → Tr X A := fun _ => .fail
def f (a0 : Int) (a1 : List S166) (a2 a3 : List Int) (a4 a5 a6 a7 a8 a9 a10 a11 : Int) (a12 : List Int) (a13 : Int) : Option A := (begin a0 a1 a2 a3 a4 a5 a6 a7 a8 a9 a10 a11 a12 a13).run (lp tree)
def Q : Plan C := { PL with cuts := [], ords := [(0, [19], (.take 0 [] (.take 1 [] (.take 2 [] (.take 3 [] (.take 5 [] (.take 7 [] (.take 8 [] (.take 9 [] (.take 12 [] (.take 13 [] (.take 14 [] (.take 4 [0, 1, 2, 3, 5, 7, 8, 9, 10, 12, 13, 14, 15] (.take 6 [] (.take 10 [0, 1, 2, 3, 4, 5, 6, 7, 8, 9, 12, 13, 14, 15] (.take 11 [] (.take 15 [0, 1, 2, 3, 4, 5, 6, 7, 8, 9, 10, 11, 12, 13, 14] (.alt 16 (.take 17 [] (.take 18 [] (.alt 19 .done .nil))) .nil))))))))))))))))))], weak := [] }
theorem e : CutEq Pg C Q Tryz.f119 1 id st v o tree := fun J K x => by cases x
theorem b (a0 : Int) (a1 : List S166) (a2 a3 : List Int) (a4 a5 a6 a7 a8 a9 a10 a11 : Int) (a12 : List Int) (a13 : Int) : BegEq Pg C Q Tryz.f119 1 id st v o (S a0 a1 a2 a3 a4 a5 a6 a7 a8 a9 a10 a11 a12 a13) (begin a0 a1 a2 a3 a4 a5 a6 a7 a8 a9 a10 a11 a12 a13) := fun J K => by kernel_rfl
def told (a0 : Int) (a1 : List S166) (a2 a3 : List Int) (a4 a5 a6 a7 a8 a9 a10 a11 : Int) (a12 : List Int) (a13 : Int) : YtobfemcobakeoaaGreatEv.Told A := ⟨f a0 a1 a2 a3 a4 a5 a6 a7 a8 a9 a10 a11 a12 a13, fun r => SoundCall Pg C 119 (S a0 a1 a2 a3 a4 a5 a6 a7 a8 a9 a10 a11 a12 a13) 1 (v r) (o r), fun r h => soundCall_of_tree G mixed Q Tryz.func119 rfl (of_decide_eq_true (by kernel_rfl)) (by rfl) id st v o (fun _ => rfl) tree e (begin a0 a1 a2 a3 a4 a5 a6 a7 a8 a9 a10 a11 a12 a13) (b a0 a1 a2 a3 a4 a5 a6 a7 a8 a9 a10 a11 a12 a13) h⟩
end impl_Store_tick
/-! #### loop.example/g00983/impl.PassOff (183) -/
namespace impl_PassOff
def S (a0 a1 a2 a3 : Int) : List (PV U) := YtobfemcobakeoaaGreatEv.start C 29 [.agg [.int .i64 a0, .int .i64 a1], .int .i64 a2, .int .i64 a3] []
abbrev X := Empty
def id : X → Nat := fun _ => 0
def st : X → List (PV U) := fun _ => []
def begin (a0 a1 a2 a3 : Int) : Tr X A :=
 .call (impl_SpanOk.told a0 a1) fun t1 => .ite (!t1)
  (.ret (a0, a1))
  (.call (impl_SpanOk.told a2 a3) fun t2 => .ite (!t2)
   (.ret (a0, a1))
   (.ret ((if (wr (a0 + a2)) < (1000000 : Int) then (wr (a0 + a2)) else (1000000 : Int)), (if (wr (a1 + a3)) < (1000000 : Int) then (wr (a1 + a3)) else (1000000 : Int)))))
def tree : X → Tr X A := fun _ => .fail
def f (a0 a1 a2 a3 : Int) : Option A := (begin a0 a1 a2 a3).run (lp tree)
def Q : Plan C := { PL with cuts := [], ords := [], weak := [] }
theorem e : CutEq Pg C Q Tryz.f183 0 id st v o tree := fun J K x => by cases x
theorem b (a0 a1 a2 a3 : Int) : BegEq Pg C Q Tryz.f183 0 id st v o (S a0 a1 a2 a3) (begin a0 a1 a2 a3) := fun J K => by kernel_rfl
def told (a0 a1 a2 a3 : Int) : YtobfemcobakeoaaGreatEv.Told A := ⟨f a0 a1 a2 a3, fun r => SoundCall Pg C 183 (S a0 a1 a2 a3) 0 (v r) (o r), fun r h => soundCall_of_tree G mixed Q Tryz.func183 rfl (of_decide_eq_true (by kernel_rfl)) (by rfl) id st v o (fun _ => rfl) tree e (begin a0 a1 a2 a3) (b a0 a1 a2 a3) h⟩
end impl_PassOff
/-! #### loop.example/g00983/impl.PassOn (120) -/
namespace impl_PassOn
def S (a0 a1 a2 : Int) : List (PV U) := YtobfemcobakeoaaGreatEv.start C 9 [.agg [.int .i64 a0, .int .i64 a1], .int .i64 a2] []
abbrev X := Empty
def id : X → Nat := fun _ => 0
def st : X → List (PV U) := fun _ => []
def begin (a0 a1 a2 : Int) : Tr X A :=
 .call (impl_PassOff.told a0 a1 a2 a2) fun t1 => .ret (t1.1, t1.2)
def tree : X → Tr X A := fun _ => .fail
def f (a0 a1 a2 : Int) : Option A := (begin a0 a1 a2).run (lp tree)
def Q : Plan C := { PL with cuts := [], ords := [], weak := [] }
theorem e : CutEq Pg C Q Tryz.f120 0 id st v o tree := fun J K x => by cases x
theorem b (a0 a1 a2 : Int) : BegEq Pg C Q Tryz.f120 0 id st v o (S a0 a1 a2) (begin a0 a1 a2) := fun J K => by kernel_rfl
def told (a0 a1 a2 : Int) : YtobfemcobakeoaaGreatEv.Told A := ⟨f a0 a1 a2, fun r => SoundCall Pg C 120 (S a0 a1 a2) 0 (v r) (o r), fun r h => soundCall_of_tree G mixed Q Tryz.func120 rfl (of_decide_eq_true (by kernel_rfl)) (by rfl) id st v o (fun _ => rfl) tree e (begin a0 a1 a2) (b a0 a1 a2) h⟩
end impl_PassOn
/-! #### loop.example/g00983/impl.RecoveryWrites (129) -/
namespace impl_RecoveryWrites
def S (a0 : List Int) : List (PV U) := YtobfemcobakeoaaGreatEv.start C 57 [.sl 3 a0] []
inductive X where
 | c8 (x0 : List Int) (x1 x2 : Int) (x3 : List S205) (x4 : Int)
def id : X → Nat
 | .c8 .. => 8
def st : X → List (PV U)
 | .c8 x0 x1 x2 x3 x4 => stOf 57 [(0, .sl 3 x0), (3, .int .i64 x1), (5, .int .i64 x2), (6, .own true 206 x3), (7, .int .i64 x4)]
def begin (a0 : List Int) : Tr X A :=
 .ite (!decide ((List.length a0 : Int) = (49 : Int)))
  (.ret (([] : List S205)))
  (.need ((0 : Int) ≤ (8 : Int) ∧ (8 : Int) < (List.length a0 : Int)) (.call (impl_UnpackControl.told (rdI a0 (8 : Int))) fun t1 => .ite (decide (t1.2.1 < (1 : Int)))
   (.ret (([] : List S205)))
   (.jump (.c8 a0 t1.1 t1.2.2 ([] : List S205) (wr (t1.2.1 - (1 : Int)))))))
def tree : X → Tr X A
 | .c8 x0 x1 x2 x3 x4 =>
 .ite (decide (x4 ≥ (0 : Int)))
  (.need ((0 : Int) ≤ (wr ((9 : Int) + (wr ((2 : Int) * x4)))) ∧ (wr ((9 : Int) + (wr ((2 : Int) * x4)))) < (List.length x0 : Int)) (.call (impl_isVar.told (rdI x0 (wr ((9 : Int) + (wr ((2 : Int) * x4)))))) fun t1 => .ite (!t1)
   (.ret (([] : List S205)))
   (.need ((0 : Int) ≤ (wr ((wr ((9 : Int) + (wr ((2 : Int) * x4)))) + (1 : Int))) ∧ (wr ((wr ((9 : Int) + (wr ((2 : Int) * x4)))) + (1 : Int))) < (List.length x0 : Int)) (.val ([(⟨(rdI x0 (wr ((9 : Int) + (wr ((2 : Int) * x4))))), (rdI x0 (wr ((wr ((9 : Int) + (wr ((2 : Int) * x4)))) + (1 : Int))))⟩ : S205)] : List S205) fun v2 => .need (((List.length x3 : Int) + (List.length v2 : Int)) * (16 : Nat) ≤ room) (.jump (.c8 x0 x1 x2 (x3 ++ v2) (wr (x4 - (1 : Int)))))))))
  (.call (impl_PackControl.told x1 (0 : Int) x2) fun t1 => .need (((List.length x3 : Int) + (List.length ([(⟨(8 : Int), t1⟩ : S205)]) : Int)) * (16 : Nat) ≤ room) (.ret ((x3 ++ [(⟨(8 : Int), t1⟩ : S205)]))))
def f (a0 : List Int) : Option A := (begin a0).run (lp tree)
def Q : Plan C := { PL with cuts := [(8, [0, 3, 5, 6, 7])], ords := [], weak := [] }
theorem e : CutEq Pg C Q Tryz.f129 0 id st v o tree := fun J K x => by cases x <;> kernel_rfl
theorem b (a0 : List Int) : BegEq Pg C Q Tryz.f129 0 id st v o (S a0) (begin a0) := fun J K => by kernel_rfl
def told (a0 : List Int) : YtobfemcobakeoaaGreatEv.Told A := ⟨f a0, fun r => SoundCall Pg C 129 (S a0) 0 (v r) (o r), fun r h => soundCall_of_tree G mixed Q Tryz.func129 rfl (of_decide_eq_true (by kernel_rfl)) (by rfl) id st v o (fun _ => rfl) tree e (begin a0) (b a0) h⟩
end impl_RecoveryWrites
/-! #### (*loop.example/g00983/impl.Boot).spend (214) -/
namespace impl_Boot_spend
def S (a0 : Int) (a1 : List Int) (a2 : Int) (a3 : List (List Int)) (a4 : Int) : List (PV U) := YtobfemcobakeoaaGreatEv.start C 19 [.ptr 19 0, .int .i64 a0] [.box [.own true 3 a1, .int .i64 a2, .own true 25 a3, .int .i64 a4]]
abbrev X := Empty
def id : X → Nat := fun _ => 0
def st : X → List (PV U) := fun _ => []
def begin (a0 : Int) (a1 : List Int) (a2 : Int) (a3 : List (List Int)) (a4 : Int) : Tr X A :=
 .ite (decide (a4 < a0))
  (.ret (false, a1, a2, a3, a4))
  (.ret (true, a1, a2, a3, (wr (a4 - a0))))
def tree : X → Tr X A := fun _ => .fail
def f (a0 : Int) (a1 : List Int) (a2 : Int) (a3 : List (List Int)) (a4 : Int) : Option A := (begin a0 a1 a2 a3 a4).run (lp tree)
def Q : Plan C := { PL with cuts := [], ords := [], weak := [] }
theorem e : CutEq Pg C Q Tryz.f214 1 id st v o tree := fun J K x => by cases x
theorem b (a0 : Int) (a1 : List Int) (a2 : Int) (a3 : List (List Int)) (a4 : Int) : BegEq Pg C Q Tryz.f214 1 id st v o (S a0 a1 a2 a3 a4) (begin a0 a1 a2 a3 a4) := fun J K => by kernel_rfl
def told (a0 : Int) (a1 : List Int) (a2 : Int) (a3 : List (List Int)) (a4 : Int) : YtobfemcobakeoaaGreatEv.Told A := ⟨f a0 a1 a2 a3 a4, fun r => SoundCall Pg C 214 (S a0 a1 a2 a3 a4) 1 (v r) (o r), fun r h => soundCall_of_tree G mixed Q Tryz.func214 rfl (of_decide_eq_true (by kernel_rfl)) (by rfl) id st v o (fun _ => rfl) tree e (begin a0 a1 a2 a3 a4) (b a0 a1 a2 a3 a4) h⟩
end impl_Boot_spend
/-! #### (*loop.example/g00983/impl.Boot).recover (174) -/
namespace impl_Boot_recover
def S (a0 : List Int) (a1 : Int) (a2 : List (List Int)) (a3 : Int) : List (PV U) := YtobfemcobakeoaaGreatEv.start C 28 [.ptr 28 0] [.box [.own true 3 a0, .int .i64 a1, .own true 25 a2, .int .i64 a3]]
inductive X where
 | c2 (x0 : List S205) (x1 x2 : Int) (x3 : List Int) (x4 : Int) (x5 : List (List Int)) (x6 : Int)
def id : X → Nat
 | .c2 .. => 2
def st : X → List (PV U)
 | .c2 x0 x1 x2 x3 x4 x5 x6 => stOf 29 [(0, .ptr 28 0), (9, .own true 206 x0), (10, .int .i64 x1), (11, .int .i64 x2), (28, .box [.own true 3 x3, .int .i64 x4, .own true 25 x5, .int .i64 x6])]
def begin (a0 : List Int) (a1 : Int) (a2 : List (List Int)) (a3 : Int) : Tr X A :=
 .call (impl_RecoveryWrites.told a0) fun t1 => .jump (.c2 t1 (List.length t1 : Int) (0 : Int) a0 a1 a2 a3)
def tree : X → Tr X A
 | .c2 x0 x1 x2 x3 x4 x5 x6 =>
 .ite (decide (x2 < x1))
  (.need ((0 : Int) ≤ x2 ∧ x2 < (List.length x0 : Int)) (.call (impl_Boot_spend.told (3 : Int) x3 x4 x5 x6) fun t1 => .ite (!t1.1)
   (.ret (false, t1.2.1, t1.2.2.1, t1.2.2.2.1, t1.2.2.2.2))
   (.need ((0 : Int) ≤ (rdS205 x0 x2).f0 ∧ (rdS205 x0 x2).f0 < (List.length t1.2.1 : Int)) (.last (.jump (.c2 x0 x1 (wr (x2 + (1 : Int))) (List.set t1.2.1 (Int.toNat ((rdS205 x0 x2).f0)) ((rdS205 x0 x2).f1)) t1.2.2.1 t1.2.2.2.1 t1.2.2.2.2))))))
  (.ret (true, x3, x4, x5, x6))
def f (a0 : List Int) (a1 : Int) (a2 : List (List Int)) (a3 : Int) : Option A := (begin a0 a1 a2 a3).run (lp tree)
def Q : Plan C := { PL with cuts := [(2, [0, 9, 10, 11, 28])], ords := [(6, [9], (.take 0 [] (.take 1 [] (.take 2 [] (.take 4 [] (.take 6 [] (.take 3 [0, 1, 2, 4, 5, 6, 7] (.take 5 [0, 1, 2, 3, 4, 6, 7] (.take 7 [0, 1, 2, 3, 4, 5, 6] (.take 8 [] (.alt 9 .done .nil)))))))))))], weak := [] }
theorem e : CutEq Pg C Q Tryz.f174 1 id st v o tree := fun J K x => by cases x <;> kernel_rfl
theorem b (a0 : List Int) (a1 : Int) (a2 : List (List Int)) (a3 : Int) : BegEq Pg C Q Tryz.f174 1 id st v o (S a0 a1 a2 a3) (begin a0 a1 a2 a3) := fun J K => by kernel_rfl
def told (a0 : List Int) (a1 : Int) (a2 : List (List Int)) (a3 : Int) : YtobfemcobakeoaaGreatEv.Told A := ⟨f a0 a1 a2 a3, fun r => SoundCall Pg C 174 (S a0 a1 a2 a3) 1 (v r) (o r), fun r h => soundCall_of_tree G mixed Q Tryz.func174 rfl (of_decide_eq_true (by kernel_rfl)) (by rfl) id st v o (fun _ => rfl) tree e (begin a0 a1 a2 a3) (b a0 a1 a2 a3) h⟩
end impl_Boot_recover
/-! #### loop.example/g00983/impl.MemVars (57) -/
namespace impl_MemVars
def S (a0 : List Int) : List (PV U) := YtobfemcobakeoaaGreatEv.start C 9 [.sl 3 a0] []
abbrev X := Empty
def id : X → Nat := fun _ => 0
def st : X → List (PV U) := fun _ => []
def begin (a0 : List Int) : Tr X A :=
 .ite (!decide ((List.length a0 : Int) = (49 : Int)))
  (.ret (([] : List Int)))
  (.need ((0 : Int) ≤ (0 : Int) ∧ (0 : Int) ≤ (8 : Int) ∧ (8 : Int) ≤ (List.length a0 : Int)) (.call (slices_Clone_int.told (List.take (Int.toNat (8 : Int)) a0)) fun t1 => .ret t1))
def tree : X → Tr X A := fun _ => .fail
def f (a0 : List Int) : Option A := (begin a0).run (lp tree)
def Q : Plan C := { PL with cuts := [], ords := [], weak := [] }
theorem e : CutEq Pg C Q Tryz.f57 0 id st v o tree := fun J K x => by cases x
theorem b (a0 : List Int) : BegEq Pg C Q Tryz.f57 0 id st v o (S a0) (begin a0) := fun J K => by kernel_rfl
def told (a0 : List Int) : YtobfemcobakeoaaGreatEv.Told A := ⟨f a0, fun r => SoundCall Pg C 57 (S a0) 0 (v r) (o r), fun r h => soundCall_of_tree G mixed Q Tryz.func57 rfl (of_decide_eq_true (by kernel_rfl)) (by rfl) id st v o (fun _ => rfl) tree e (begin a0) (b a0) h⟩
end impl_MemVars
/-! #### slices.Sort[[]int,int] (266) -/
namespace slices_Sort_int
def S (a0 : List Int) : List (PV U) := YtobfemcobakeoaaGreatEv.start C 1 [.ali (1, [])] [.own true 3 a0]
noncomputable def f (a0 : List Int) : Option A := if (a0.length : Int) < 4611686018427387904 then some (a0.mergeSort fun x y => decide (x ≤ y)) else none
def told (a0 : List Int) : YtobfemcobakeoaaGreatEv.Told A := ⟨f a0, fun r => SoundCall Pg C 266 (S a0) 1 (v r) (o r), fun r h => by
  unfold f at h
  split at h
  · rename_i hl
    cases h
    exact sort_sound (C := C) (e := 3) ⟨_, Tryz.func266, rfl, rfl⟩ (fun x : Int => x) (fun _ => rfl) (fun blk off cap zs w => Go.Proofs.Tryz.sort_call blk off cap zs w) (fun p cap w => Go.Proofs.Tryz.sort_none p cap w) (show List.length (α := Int) a0 < 4611686018427387904 from by omega) (show List.map (fun x : Int => x) (List.mergeSort (α := Int) a0 fun x y => decide (x ≤ y)) = List.mergeSort (α := Int) (List.map (fun x : Int => x) a0) fun x y => decide (x ≤ y) from by simp)
  · cases h⟩
end slices_Sort_int
/-! #### slices.Compact[[]int,int] (267) -/
namespace slices_Compact_int
def S (a0 : List Int) : List (PV U) := YtobfemcobakeoaaGreatEv.start C 1 [.own true 3 a0] []
def f (a0 : List Int) : Option A := some (Lib.compact a0)
def told (a0 : List Int) : YtobfemcobakeoaaGreatEv.Told A := ⟨f a0, fun r => SoundCall Pg C 267 (S a0) 0 (v r) (o r), fun r h => by
  cases h
  exact compact_sound (C := C) (e := 3) ⟨_, Tryz.func267, rfl, rfl⟩ (fun x : Int => x) (fun _ => rfl) (fun blk off cap zs w => Go.Proofs.Tryz.compact_call blk off cap zs w) (fun p cap w => Go.Proofs.Tryz.compact_none p cap w) (show List.map (fun x : Int => x) (Lib.compact (α := Int) a0) = Lib.compact (α := Int) (List.map (fun x : Int => x) a0) from by simp)⟩
end slices_Compact_int
/-! #### loop.example/g00983/impl.ReadsOf (265) -/
namespace impl_ReadsOf
def S (a0 a1 a2 : Int) : List (PV U) := YtobfemcobakeoaaGreatEv.start C 32 [.agg [.int .i64 a0, .int .i64 a1, .int .i64 a2]] []
inductive X where
 | c5 (x0 x1 : List Int) (x2 x3 : Int)
def id : X → Nat
 | .c5 .. => 5
def st : X → List (PV U)
 | .c5 x0 x1 x2 x3 => stOf 32 [(3, .own true 3 x0), (14, .own true 3 x1), (15, .int .i64 x2), (16, .int .i64 x3)]
def begin (a0 a1 a2 : Int) : Tr X A :=
 .call (impl_ExprOk.told a0 a1 a2) fun t1 => .ite (!t1)
  (.ret (([] : List Int)))
  (.jump (.c5 ([] : List Int) ([a1, a2]) (List.length ([a1, a2]) : Int) (0 : Int)))
def tree : X → Tr X A
 | .c5 x0 x1 x2 x3 =>
 .ite (decide (x3 < x2))
  (.need ((0 : Int) ≤ x3 ∧ x3 < (List.length x1 : Int)) (.ite (decide ((rdI x1 x3) < (0 : Int)))
   (.need (((List.length x0 : Int) + (List.length ([(wr ((-1 : Int) - (rdI x1 x3)))]) : Int)) * (8 : Nat) ≤ room) (.jump (.c5 (x0 ++ [(wr ((-1 : Int) - (rdI x1 x3)))]) x1 x2 (wr (x3 + (1 : Int))))))
   (.jump (.c5 x0 x1 x2 (wr (x3 + (1 : Int)))))))
  (.call (slices_Sort_int.told x0) fun t1 => .call (slices_Compact_int.told t1) fun t2 => .ret t2)
def f (a0 a1 a2 : Int) : Option A := (begin a0 a1 a2).run (lp tree)
def Q : Plan C := { PL with cuts := [(5, [3, 14, 15, 16])], ords := [], weak := [] }
theorem e : CutEq Pg C Q Tryz.f265 0 id st v o tree := fun J K x => by cases x <;> kernel_rfl
theorem b (a0 a1 a2 : Int) : BegEq Pg C Q Tryz.f265 0 id st v o (S a0 a1 a2) (begin a0 a1 a2) := fun J K => by kernel_rfl
def told (a0 a1 a2 : Int) : YtobfemcobakeoaaGreatEv.Told A := ⟨f a0 a1 a2, fun r => SoundCall Pg C 265 (S a0 a1 a2) 0 (v r) (o r), fun r h => soundCall_of_tree G mixed Q Tryz.func265 rfl (of_decide_eq_true (by kernel_rfl)) (by rfl) id st v o (fun _ => rfl) tree e (begin a0 a1 a2) (b a0 a1 a2) h⟩
end impl_ReadsOf
/-! #### (*loop.example/g00983/impl.reader).read (260) -/
namespace impl_reader_read
def S (a0 a1 a2 : Int) (a3 a4 a5 a6 a7 a8 a9 a10 a11 a12 a13 a14 a15 a16 a17 a18 : Bool) : List (PV U) := YtobfemcobakeoaaGreatEv.start C 26 [.ptr 26 0, .agg [.int .i64 a0, .int .i64 a1, .int .i64 a2]] [.box [.bool a3, .bool a4, .bool a5, .bool a6, .bool a7, .bool a8, .bool a9, .bool a10, .bool a11, .bool a12, .bool a13, .bool a14, .bool a15, .bool a16, .bool a17, .bool a18]]
inductive X where
 | c2 (x0 : List Int) (x1 x2 : Int) (x3 x4 x5 x6 x7 x8 x9 x10 x11 x12 x13 x14 x15 x16 x17 x18 : Bool)
 | c5 (x0 : Int) (x1 : List Int) (x2 x3 : Int) (x4 x5 x6 x7 x8 x9 x10 x11 x12 x13 x14 x15 x16 x17 x18 x19 : Bool)
 | c6 (x0 : List Int) (x1 x2 : Int) (x3 x4 x5 x6 x7 x8 x9 x10 x11 x12 x13 x14 x15 x16 x17 x18 : Bool)
def id : X → Nat
 | .c2 .. => 2
 | .c5 .. => 5
 | .c6 .. => 6
def st : X → List (PV U)
 | .c2 x0 x1 x2 x3 x4 x5 x6 x7 x8 x9 x10 x11 x12 x13 x14 x15 x16 x17 x18 => stOf 27 [(0, .ptr 26 0), (7, .own true 3 x0), (8, .int .i64 x1), (9, .int .i64 x2), (26, .box [.bool x3, .bool x4, .bool x5, .bool x6, .bool x7, .bool x8, .bool x9, .bool x10, .bool x11, .bool x12, .bool x13, .bool x14, .bool x15, .bool x16, .bool x17, .bool x18])]
 | .c5 x0 x1 x2 x3 x4 x5 x6 x7 x8 x9 x10 x11 x12 x13 x14 x15 x16 x17 x18 x19 => stOf 27 [(0, .ptr 26 0), (5, .int .i64 x0), (7, .own true 3 x1), (8, .int .i64 x2), (9, .int .i64 x3), (26, .box [.bool x4, .bool x5, .bool x6, .bool x7, .bool x8, .bool x9, .bool x10, .bool x11, .bool x12, .bool x13, .bool x14, .bool x15, .bool x16, .bool x17, .bool x18, .bool x19])]
 | .c6 x0 x1 x2 x3 x4 x5 x6 x7 x8 x9 x10 x11 x12 x13 x14 x15 x16 x17 x18 => stOf 27 [(0, .ptr 26 0), (7, .own true 3 x0), (8, .int .i64 x1), (9, .int .i64 x2), (26, .box [.bool x3, .bool x4, .bool x5, .bool x6, .bool x7, .bool x8, .bool x9, .bool x10, .bool x11, .bool x12, .bool x13, .bool x14, .bool x15, .bool x16, .bool x17, .bool x18])]
def begin (a0 a1 a2 : Int) (a3 a4 a5 a6 a7 a8 a9 a10 a11 a12 a13 a14 a15 a16 a17 a18 : Bool) : Tr X A :=
 .call (impl_ReadsOf.told a0 a1 a2) fun t1 => .jump (.c2 t1 (List.length t1 : Int) (0 : Int) a3 a4 a5 a6 a7 a8 a9 a10 a11 a12 a13 a14 a15 a16 a17 a18)
def tree : X → Tr X A
 | .c2 x0 x1 x2 x3 x4 x5 x6 x7 x8 x9 x10 x11 x12 x13 x14 x15 x16 x17 x18 =>
 let u0_0 : Tr X A := (.jump (.c6 x0 x1 x2 x3 x4 x5 x6 x7 x8 x9 x10 x11 x12 x13 x14 x15 x16 x17 x18)); let u0_1 : Tr X A := (.jump (.c5 (rdI x0 x2) x0 x1 x2 x3 x4 x5 x6 x7 x8 x9 x10 x11 x12 x13 x14 x15 x16 x17 x18)); .ite (decide (x2 < x1))
  (.need ((0 : Int) ≤ x2 ∧ x2 < (List.length x0 : Int)) (.ite (decide ((rdI x0 x2) = (0 : Int)))
   (.ite (!x3)
    (u0_1)
    (u0_0))
   (.ite (decide ((rdI x0 x2) = (1 : Int)))
    (.ite (!x4)
     (u0_1)
     (u0_0))
    (.ite (decide ((rdI x0 x2) = (2 : Int)))
     (.ite (!x5)
      (u0_1)
      (u0_0))
     (.ite (decide ((rdI x0 x2) = (3 : Int)))
      (.ite (!x6)
       (u0_1)
       (u0_0))
      (.ite (decide ((rdI x0 x2) = (4 : Int)))
       (.ite (!x7)
        (u0_1)
        (u0_0))
       (.ite (decide ((rdI x0 x2) = (5 : Int)))
        (.ite (!x8)
         (u0_1)
         (u0_0))
        (.ite (decide ((rdI x0 x2) = (6 : Int)))
         (.ite (!x9)
          (u0_1)
          (u0_0))
         (.ite (decide ((rdI x0 x2) = (7 : Int)))
          (.ite (!x10)
           (u0_1)
           (u0_0))
          (.fail))))))))))
  (.ret (x3, x4, x5, x6, x7, x8, x9, x10, x11, x12, x13, x14, x15, x16, x17, x18))
 | .c5 x0 x1 x2 x3 x4 x5 x6 x7 x8 x9 x10 x11 x12 x13 x14 x15 x16 x17 x18 x19 =>
 .ite (decide (x0 = (0 : Int)))
  (.jump (.c6 x1 x2 x3 x4 x5 x6 x7 x8 x9 x10 x11 true x13 x14 x15 x16 x17 x18 x19))
  (.ite (decide (x0 = (1 : Int)))
   (.jump (.c6 x1 x2 x3 x4 x5 x6 x7 x8 x9 x10 x11 x12 true x14 x15 x16 x17 x18 x19))
   (.ite (decide (x0 = (2 : Int)))
    (.jump (.c6 x1 x2 x3 x4 x5 x6 x7 x8 x9 x10 x11 x12 x13 true x15 x16 x17 x18 x19))
    (.ite (decide (x0 = (3 : Int)))
     (.jump (.c6 x1 x2 x3 x4 x5 x6 x7 x8 x9 x10 x11 x12 x13 x14 true x16 x17 x18 x19))
     (.ite (decide (x0 = (4 : Int)))
      (.jump (.c6 x1 x2 x3 x4 x5 x6 x7 x8 x9 x10 x11 x12 x13 x14 x15 true x17 x18 x19))
      (.ite (decide (x0 = (5 : Int)))
       (.jump (.c6 x1 x2 x3 x4 x5 x6 x7 x8 x9 x10 x11 x12 x13 x14 x15 x16 true x18 x19))
       (.ite (decide (x0 = (6 : Int)))
        (.jump (.c6 x1 x2 x3 x4 x5 x6 x7 x8 x9 x10 x11 x12 x13 x14 x15 x16 x17 true x19))
        (.ite (decide (x0 = (7 : Int)))
         (.jump (.c6 x1 x2 x3 x4 x5 x6 x7 x8 x9 x10 x11 x12 x13 x14 x15 x16 x17 x18 true))
         (.fail))))))))
 | .c6 x0 x1 x2 x3 x4 x5 x6 x7 x8 x9 x10 x11 x12 x13 x14 x15 x16 x17 x18 =>
 .jump (.c2 x0 x1 (wr (x2 + (1 : Int))) x3 x4 x5 x6 x7 x8 x9 x10 x11 x12 x13 x14 x15 x16 x17 x18)
def f (a0 a1 a2 : Int) (a3 a4 a5 a6 a7 a8 a9 a10 a11 a12 a13 a14 a15 a16 a17 a18 : Bool) : Option A := (begin a0 a1 a2 a3 a4 a5 a6 a7 a8 a9 a10 a11 a12 a13 a14 a15 a16 a17 a18).run (lp tree)
def Q : Plan C := { PL with cuts := [(2, [0, 7, 8, 9, 26]), (5, [0, 5, 7, 8, 9, 26]), (6, [0, 7, 8, 9, 26])], ords := [], weak := [] }
theorem e : CutEq Pg C Q Tryz.f260 1 id st v o tree := fun J K x => by cases x <;> kernel_rfl
theorem b (a0 a1 a2 : Int) (a3 a4 a5 a6 a7 a8 a9 a10 a11 a12 a13 a14 a15 a16 a17 a18 : Bool) : BegEq Pg C Q Tryz.f260 1 id st v o (S a0 a1 a2 a3 a4 a5 a6 a7 a8 a9 a10 a11 a12 a13 a14 a15 a16 a17 a18) (begin a0 a1 a2 a3 a4 a5 a6 a7 a8 a9 a10 a11 a12 a13 a14 a15 a16 a17 a18) := fun J K => by kernel_rfl
def told (a0 a1 a2 : Int) (a3 a4 a5 a6 a7 a8 a9 a10 a11 a12 a13 a14 a15 a16 a17 a18 : Bool) : YtobfemcobakeoaaGreatEv.Told A := ⟨f a0 a1 a2 a3 a4 a5 a6 a7 a8 a9 a10 a11 a12 a13 a14 a15 a16 a17 a18, fun r => SoundCall Pg C 260 (S a0 a1 a2 a3 a4 a5 a6 a7 a8 a9 a10 a11 a12 a13 a14 a15 a16 a17 a18) 1 (v r) (o r), fun r h => soundCall_of_tree G mixed Q Tryz.func260 rfl (of_decide_eq_true (by kernel_rfl)) (by rfl) id st v o (fun _ => rfl) tree e (begin a0 a1 a2 a3 a4 a5 a6 a7 a8 a9 a10 a11 a12 a13 a14 a15 a16 a17 a18) (b a0 a1 a2 a3 a4 a5 a6 a7 a8 a9 a10 a11 a12 a13 a14 a15 a16 a17 a18) h⟩
end impl_reader_read
/-! #### loop.example/g00983/impl.endOf (252) -/
namespace impl_endOf
def S (a0 : List S210) (a1 : Int) : List (PV U) := YtobfemcobakeoaaGreatEv.start C 33 [.sl 211 a0, .int .i64 a1] []
inductive X where
 | c3 (x0 : List S210) (x1 x2 : Int)
def id : X → Nat
 | .c3 .. => 3
def st : X → List (PV U)
 | .c3 x0 x1 x2 => stOf 33 [(0, .sl 211 x0), (5, .int .i64 x1), (6, .int .i64 x2)]
def begin (a0 : List S210) (a1 : Int) : Tr X A :=
 .jump (.c3 a0 (0 : Int) a1)
def tree : X → Tr X A
 | .c3 x0 x1 x2 =>
 .ite (decide (x2 < (List.length x0 : Int)))
  (.need ((0 : Int) ≤ x2 ∧ x2 < (List.length x0 : Int)) (.call (impl_isOpening.told ((rdS210 x0 x2).f0)) fun t1 => .ite t1
   (.need ((0 : Int) ≤ x2 ∧ x2 < (List.length x0 : Int)) (.ite (decide ((rdS210 x0 x2).f0 = (6 : Int)))
    (.ite (decide ((wr ((wr (x1 + (1 : Int))) - (1 : Int))) = (0 : Int)))
     (.ret x2)
     (.jump (.c3 x0 (wr ((wr (x1 + (1 : Int))) - (1 : Int))) (wr (x2 + (1 : Int))))))
    (.ite (decide ((wr (x1 + (1 : Int))) = (0 : Int)))
     (.ret x2)
     (.jump (.c3 x0 (wr (x1 + (1 : Int))) (wr (x2 + (1 : Int))))))))
   (.need ((0 : Int) ≤ x2 ∧ x2 < (List.length x0 : Int)) (.ite (decide ((rdS210 x0 x2).f0 = (6 : Int)))
    (.ite (decide ((wr (x1 - (1 : Int))) = (0 : Int)))
     (.ret x2)
     (.jump (.c3 x0 (wr (x1 - (1 : Int))) (wr (x2 + (1 : Int))))))
    (.ite (decide (x1 = (0 : Int)))
     (.ret x2)
     (.jump (.c3 x0 x1 (wr (x2 + (1 : Int))))))))))
  (.ret ((-1 : Int)))
def f (a0 : List S210) (a1 : Int) : Option A := (begin a0 a1).run (lp tree)
def Q : Plan C := { PL with cuts := [(3, [0, 5, 6])], ords := [], weak := [] }
theorem e : CutEq Pg C Q Tryz.f252 0 id st v o tree := fun J K x => by cases x <;> kernel_rfl
theorem b (a0 : List S210) (a1 : Int) : BegEq Pg C Q Tryz.f252 0 id st v o (S a0 a1) (begin a0 a1) := fun J K => by kernel_rfl
def told (a0 : List S210) (a1 : Int) : YtobfemcobakeoaaGreatEv.Told A := ⟨f a0 a1, fun r => SoundCall Pg C 252 (S a0 a1) 0 (v r) (o r), fun r h => soundCall_of_tree G mixed Q Tryz.func252 rfl (of_decide_eq_true (by kernel_rfl)) (by rfl) id st v o (fun _ => rfl) tree e (begin a0 a1) (b a0 a1) h⟩
end impl_endOf
/-! #### (*loop.example/g00983/impl.reader).pass (259) -/
namespace impl_reader_pass
def S (a0 : List S210) (a1 a2 a3 a4 a5 a6 a7 a8 a9 a10 a11 a12 a13 a14 a15 a16 : Bool) : List (PV U) := YtobfemcobakeoaaGreatEv.start C 56 [.ptr 56 0, .sl 211 a0] [.box [.bool a1, .bool a2, .bool a3, .bool a4, .bool a5, .bool a6, .bool a7, .bool a8, .bool a9, .bool a10, .bool a11, .bool a12, .bool a13, .bool a14, .bool a15, .bool a16]]
abbrev I := (List S210) × Bool × Bool × Bool × Bool × Bool × Bool × Bool × Bool × Bool × Bool × Bool × Bool × Bool × Bool × Bool × Bool
abbrev K : I → A → Prop := fun i_ r => SoundCall Pg C 259 (S i_.1 i_.2.1 i_.2.2.1 i_.2.2.2.1 i_.2.2.2.2.1 i_.2.2.2.2.2.1 i_.2.2.2.2.2.2.1 i_.2.2.2.2.2.2.2.1 i_.2.2.2.2.2.2.2.2.1 i_.2.2.2.2.2.2.2.2.2.1 i_.2.2.2.2.2.2.2.2.2.2.1 i_.2.2.2.2.2.2.2.2.2.2.2.1 i_.2.2.2.2.2.2.2.2.2.2.2.2.1 i_.2.2.2.2.2.2.2.2.2.2.2.2.2.1 i_.2.2.2.2.2.2.2.2.2.2.2.2.2.2.1 i_.2.2.2.2.2.2.2.2.2.2.2.2.2.2.2.1 i_.2.2.2.2.2.2.2.2.2.2.2.2.2.2.2.2) 1 (v r) (o r)
inductive X where
 | c1 (x0 : List S210) (x1 : Int) (x2 x3 x4 x5 x6 x7 x8 x9 x10 x11 x12 x13 x14 x15 x16 x17 : Bool)
 | c8 (x0 : List S210) (x1 x2 x3 x4 x5 x6 x7 : Int) (x8 x9 x10 x11 x12 x13 x14 x15 x16 x17 x18 x19 x20 x21 x22 x23 : Bool)
 | c11 (x0 : List S210) (x1 x2 : Int) (x3 x4 x5 x6 x7 x8 x9 x10 x11 x12 x13 x14 x15 x16 x17 x18 x19 x20 x21 x22 x23 x24 x25 x26 : Bool)
def id : X → Nat
 | .c1 .. => 1
 | .c8 .. => 8
 | .c11 .. => 11
def st : X → List (PV U)
 | .c1 x0 x1 x2 x3 x4 x5 x6 x7 x8 x9 x10 x11 x12 x13 x14 x15 x16 x17 => stOf 57 [(0, .ptr 56 0), (1, .sl 211 x0), (4, .int .i64 x1), (56, .box [.bool x2, .bool x3, .bool x4, .bool x5, .bool x6, .bool x7, .bool x8, .bool x9, .bool x10, .bool x11, .bool x12, .bool x13, .bool x14, .bool x15, .bool x16, .bool x17])]
 | .c8 x0 x1 x2 x3 x4 x5 x6 x7 x8 x9 x10 x11 x12 x13 x14 x15 x16 x17 x18 x19 x20 x21 x22 x23 => stOf 57 [(0, .ptr 56 0), (1, .sl 211 x0), (4, .int .i64 x1), (5, .box [.int .i64 x2, .int .i64 x3, .int .i64 x4, .int .i64 x5, .int .i64 x6, .int .i64 x7]), (56, .box [.bool x8, .bool x9, .bool x10, .bool x11, .bool x12, .bool x13, .bool x14, .bool x15, .bool x16, .bool x17, .bool x18, .bool x19, .bool x20, .bool x21, .bool x22, .bool x23])]
 | .c11 x0 x1 x2 x3 x4 x5 x6 x7 x8 x9 x10 x11 x12 x13 x14 x15 x16 x17 x18 x19 x20 x21 x22 x23 x24 x25 x26 => stOf 57 [(0, .ptr 56 0), (1, .sl 211 x0), (4, .int .i64 x1), (6, .int .i64 x2), (7, .box [.bool x3, .bool x4, .bool x5, .bool x6, .bool x7, .bool x8, .bool x9, .bool x10]), (56, .box [.bool x11, .bool x12, .bool x13, .bool x14, .bool x15, .bool x16, .bool x17, .bool x18, .bool x19, .bool x20, .bool x21, .bool x22, .bool x23, .bool x24, .bool x25, .bool x26])]
def begin (self_ : Self I A K) (a0 : List S210) (a1 a2 a3 a4 a5 a6 a7 a8 a9 a10 a11 a12 a13 a14 a15 a16 : Bool) : Tr X A :=
 .jump (.c1 a0 (0 : Int) a1 a2 a3 a4 a5 a6 a7 a8 a9 a10 a11 a12 a13 a14 a15 a16)
def tree (self_ : Self I A K) : X → Tr X A
 | .c1 x0 x1 x2 x3 x4 x5 x6 x7 x8 x9 x10 x11 x12 x13 x14 x15 x16 x17 =>
 .ite (decide (x1 < (List.length x0 : Int)))
  (.need ((0 : Int) ≤ x1 ∧ x1 < (List.length x0 : Int)) (.call (impl_hasExpr.told ((rdS210 x0 x1).f0)) fun t1 => .ite t1
   (.call (impl_reader_read.told ((rdS210 x0 x1).f3.f0) ((rdS210 x0 x1).f3.f1) ((rdS210 x0 x1).f3.f2) x2 x3 x4 x5 x6 x7 x8 x9 x10 x11 x12 x13 x14 x15 x16 x17) fun t2 => .call (impl_hasVar.told ((rdS210 x0 x1).f0)) fun t3 => .ite t3
    (.ite (decide ((rdS210 x0 x1).f1 = (0 : Int)))
     (.last (.jump (.c8 x0 x1 ((rdS210 x0 x1).f0) ((rdS210 x0 x1).f1) ((rdS210 x0 x1).f2) ((rdS210 x0 x1).f3.f0) ((rdS210 x0 x1).f3.f1) ((rdS210 x0 x1).f3.f2) true t2.2.1 t2.2.2.1 t2.2.2.2.1 t2.2.2.2.2.1 t2.2.2.2.2.2.1 t2.2.2.2.2.2.2.1 t2.2.2.2.2.2.2.2.1 t2.2.2.2.2.2.2.2.2.1 t2.2.2.2.2.2.2.2.2.2.1 t2.2.2.2.2.2.2.2.2.2.2.1 t2.2.2.2.2.2.2.2.2.2.2.2.1 t2.2.2.2.2.2.2.2.2.2.2.2.2.1 t2.2.2.2.2.2.2.2.2.2.2.2.2.2.1 t2.2.2.2.2.2.2.2.2.2.2.2.2.2.2.1 t2.2.2.2.2.2.2.2.2.2.2.2.2.2.2.2)))
     (.ite (decide ((rdS210 x0 x1).f1 = (1 : Int)))
      (.last (.jump (.c8 x0 x1 ((rdS210 x0 x1).f0) ((rdS210 x0 x1).f1) ((rdS210 x0 x1).f2) ((rdS210 x0 x1).f3.f0) ((rdS210 x0 x1).f3.f1) ((rdS210 x0 x1).f3.f2) t2.1 true t2.2.2.1 t2.2.2.2.1 t2.2.2.2.2.1 t2.2.2.2.2.2.1 t2.2.2.2.2.2.2.1 t2.2.2.2.2.2.2.2.1 t2.2.2.2.2.2.2.2.2.1 t2.2.2.2.2.2.2.2.2.2.1 t2.2.2.2.2.2.2.2.2.2.2.1 t2.2.2.2.2.2.2.2.2.2.2.2.1 t2.2.2.2.2.2.2.2.2.2.2.2.2.1 t2.2.2.2.2.2.2.2.2.2.2.2.2.2.1 t2.2.2.2.2.2.2.2.2.2.2.2.2.2.2.1 t2.2.2.2.2.2.2.2.2.2.2.2.2.2.2.2)))
      (.ite (decide ((rdS210 x0 x1).f1 = (2 : Int)))
       (.last (.jump (.c8 x0 x1 ((rdS210 x0 x1).f0) ((rdS210 x0 x1).f1) ((rdS210 x0 x1).f2) ((rdS210 x0 x1).f3.f0) ((rdS210 x0 x1).f3.f1) ((rdS210 x0 x1).f3.f2) t2.1 t2.2.1 true t2.2.2.2.1 t2.2.2.2.2.1 t2.2.2.2.2.2.1 t2.2.2.2.2.2.2.1 t2.2.2.2.2.2.2.2.1 t2.2.2.2.2.2.2.2.2.1 t2.2.2.2.2.2.2.2.2.2.1 t2.2.2.2.2.2.2.2.2.2.2.1 t2.2.2.2.2.2.2.2.2.2.2.2.1 t2.2.2.2.2.2.2.2.2.2.2.2.2.1 t2.2.2.2.2.2.2.2.2.2.2.2.2.2.1 t2.2.2.2.2.2.2.2.2.2.2.2.2.2.2.1 t2.2.2.2.2.2.2.2.2.2.2.2.2.2.2.2)))
       (.ite (decide ((rdS210 x0 x1).f1 = (3 : Int)))
        (.last (.jump (.c8 x0 x1 ((rdS210 x0 x1).f0) ((rdS210 x0 x1).f1) ((rdS210 x0 x1).f2) ((rdS210 x0 x1).f3.f0) ((rdS210 x0 x1).f3.f1) ((rdS210 x0 x1).f3.f2) t2.1 t2.2.1 t2.2.2.1 true t2.2.2.2.2.1 t2.2.2.2.2.2.1 t2.2.2.2.2.2.2.1 t2.2.2.2.2.2.2.2.1 t2.2.2.2.2.2.2.2.2.1 t2.2.2.2.2.2.2.2.2.2.1 t2.2.2.2.2.2.2.2.2.2.2.1 t2.2.2.2.2.2.2.2.2.2.2.2.1 t2.2.2.2.2.2.2.2.2.2.2.2.2.1 t2.2.2.2.2.2.2.2.2.2.2.2.2.2.1 t2.2.2.2.2.2.2.2.2.2.2.2.2.2.2.1 t2.2.2.2.2.2.2.2.2.2.2.2.2.2.2.2)))
        (.ite (decide ((rdS210 x0 x1).f1 = (4 : Int)))
         (.last (.jump (.c8 x0 x1 ((rdS210 x0 x1).f0) ((rdS210 x0 x1).f1) ((rdS210 x0 x1).f2) ((rdS210 x0 x1).f3.f0) ((rdS210 x0 x1).f3.f1) ((rdS210 x0 x1).f3.f2) t2.1 t2.2.1 t2.2.2.1 t2.2.2.2.1 true t2.2.2.2.2.2.1 t2.2.2.2.2.2.2.1 t2.2.2.2.2.2.2.2.1 t2.2.2.2.2.2.2.2.2.1 t2.2.2.2.2.2.2.2.2.2.1 t2.2.2.2.2.2.2.2.2.2.2.1 t2.2.2.2.2.2.2.2.2.2.2.2.1 t2.2.2.2.2.2.2.2.2.2.2.2.2.1 t2.2.2.2.2.2.2.2.2.2.2.2.2.2.1 t2.2.2.2.2.2.2.2.2.2.2.2.2.2.2.1 t2.2.2.2.2.2.2.2.2.2.2.2.2.2.2.2)))
         (.ite (decide ((rdS210 x0 x1).f1 = (5 : Int)))
          (.last (.jump (.c8 x0 x1 ((rdS210 x0 x1).f0) ((rdS210 x0 x1).f1) ((rdS210 x0 x1).f2) ((rdS210 x0 x1).f3.f0) ((rdS210 x0 x1).f3.f1) ((rdS210 x0 x1).f3.f2) t2.1 t2.2.1 t2.2.2.1 t2.2.2.2.1 t2.2.2.2.2.1 true t2.2.2.2.2.2.2.1 t2.2.2.2.2.2.2.2.1 t2.2.2.2.2.2.2.2.2.1 t2.2.2.2.2.2.2.2.2.2.1 t2.2.2.2.2.2.2.2.2.2.2.1 t2.2.2.2.2.2.2.2.2.2.2.2.1 t2.2.2.2.2.2.2.2.2.2.2.2.2.1 t2.2.2.2.2.2.2.2.2.2.2.2.2.2.1 t2.2.2.2.2.2.2.2.2.2.2.2.2.2.2.1 t2.2.2.2.2.2.2.2.2.2.2.2.2.2.2.2)))
          (.ite (decide ((rdS210 x0 x1).f1 = (6 : Int)))
           (.last (.jump (.c8 x0 x1 ((rdS210 x0 x1).f0) ((rdS210 x0 x1).f1) ((rdS210 x0 x1).f2) ((rdS210 x0 x1).f3.f0) ((rdS210 x0 x1).f3.f1) ((rdS210 x0 x1).f3.f2) t2.1 t2.2.1 t2.2.2.1 t2.2.2.2.1 t2.2.2.2.2.1 t2.2.2.2.2.2.1 true t2.2.2.2.2.2.2.2.1 t2.2.2.2.2.2.2.2.2.1 t2.2.2.2.2.2.2.2.2.2.1 t2.2.2.2.2.2.2.2.2.2.2.1 t2.2.2.2.2.2.2.2.2.2.2.2.1 t2.2.2.2.2.2.2.2.2.2.2.2.2.1 t2.2.2.2.2.2.2.2.2.2.2.2.2.2.1 t2.2.2.2.2.2.2.2.2.2.2.2.2.2.2.1 t2.2.2.2.2.2.2.2.2.2.2.2.2.2.2.2)))
           (.ite (decide ((rdS210 x0 x1).f1 = (7 : Int)))
            (.last (.jump (.c8 x0 x1 ((rdS210 x0 x1).f0) ((rdS210 x0 x1).f1) ((rdS210 x0 x1).f2) ((rdS210 x0 x1).f3.f0) ((rdS210 x0 x1).f3.f1) ((rdS210 x0 x1).f3.f2) t2.1 t2.2.1 t2.2.2.1 t2.2.2.2.1 t2.2.2.2.2.1 t2.2.2.2.2.2.1 t2.2.2.2.2.2.2.1 true t2.2.2.2.2.2.2.2.2.1 t2.2.2.2.2.2.2.2.2.2.1 t2.2.2.2.2.2.2.2.2.2.2.1 t2.2.2.2.2.2.2.2.2.2.2.2.1 t2.2.2.2.2.2.2.2.2.2.2.2.2.1 t2.2.2.2.2.2.2.2.2.2.2.2.2.2.1 t2.2.2.2.2.2.2.2.2.2.2.2.2.2.2.1 t2.2.2.2.2.2.2.2.2.2.2.2.2.2.2.2)))
            (.fail)))))))))
    (.jump (.c8 x0 x1 ((rdS210 x0 x1).f0) ((rdS210 x0 x1).f1) ((rdS210 x0 x1).f2) ((rdS210 x0 x1).f3.f0) ((rdS210 x0 x1).f3.f1) ((rdS210 x0 x1).f3.f2) t2.1 t2.2.1 t2.2.2.1 t2.2.2.2.1 t2.2.2.2.2.1 t2.2.2.2.2.2.1 t2.2.2.2.2.2.2.1 t2.2.2.2.2.2.2.2.1 t2.2.2.2.2.2.2.2.2.1 t2.2.2.2.2.2.2.2.2.2.1 t2.2.2.2.2.2.2.2.2.2.2.1 t2.2.2.2.2.2.2.2.2.2.2.2.1 t2.2.2.2.2.2.2.2.2.2.2.2.2.1 t2.2.2.2.2.2.2.2.2.2.2.2.2.2.1 t2.2.2.2.2.2.2.2.2.2.2.2.2.2.2.1 t2.2.2.2.2.2.2.2.2.2.2.2.2.2.2.2)))
   (.call (impl_hasVar.told ((rdS210 x0 x1).f0)) fun t2 => .ite t2
    (.ite (decide ((rdS210 x0 x1).f1 = (0 : Int)))
     (.last (.jump (.c8 x0 x1 ((rdS210 x0 x1).f0) ((rdS210 x0 x1).f1) ((rdS210 x0 x1).f2) ((rdS210 x0 x1).f3.f0) ((rdS210 x0 x1).f3.f1) ((rdS210 x0 x1).f3.f2) true x3 x4 x5 x6 x7 x8 x9 x10 x11 x12 x13 x14 x15 x16 x17)))
     (.ite (decide ((rdS210 x0 x1).f1 = (1 : Int)))
      (.last (.jump (.c8 x0 x1 ((rdS210 x0 x1).f0) ((rdS210 x0 x1).f1) ((rdS210 x0 x1).f2) ((rdS210 x0 x1).f3.f0) ((rdS210 x0 x1).f3.f1) ((rdS210 x0 x1).f3.f2) x2 true x4 x5 x6 x7 x8 x9 x10 x11 x12 x13 x14 x15 x16 x17)))
      (.ite (decide ((rdS210 x0 x1).f1 = (2 : Int)))
       (.last (.jump (.c8 x0 x1 ((rdS210 x0 x1).f0) ((rdS210 x0 x1).f1) ((rdS210 x0 x1).f2) ((rdS210 x0 x1).f3.f0) ((rdS210 x0 x1).f3.f1) ((rdS210 x0 x1).f3.f2) x2 x3 true x5 x6 x7 x8 x9 x10 x11 x12 x13 x14 x15 x16 x17)))
       (.ite (decide ((rdS210 x0 x1).f1 = (3 : Int)))
        (.last (.jump (.c8 x0 x1 ((rdS210 x0 x1).f0) ((rdS210 x0 x1).f1) ((rdS210 x0 x1).f2) ((rdS210 x0 x1).f3.f0) ((rdS210 x0 x1).f3.f1) ((rdS210 x0 x1).f3.f2) x2 x3 x4 true x6 x7 x8 x9 x10 x11 x12 x13 x14 x15 x16 x17)))
        (.ite (decide ((rdS210 x0 x1).f1 = (4 : Int)))
         (.last (.jump (.c8 x0 x1 ((rdS210 x0 x1).f0) ((rdS210 x0 x1).f1) ((rdS210 x0 x1).f2) ((rdS210 x0 x1).f3.f0) ((rdS210 x0 x1).f3.f1) ((rdS210 x0 x1).f3.f2) x2 x3 x4 x5 true x7 x8 x9 x10 x11 x12 x13 x14 x15 x16 x17)))
         (.ite (decide ((rdS210 x0 x1).f1 = (5 : Int)))
          (.last (.jump (.c8 x0 x1 ((rdS210 x0 x1).f0) ((rdS210 x0 x1).f1) ((rdS210 x0 x1).f2) ((rdS210 x0 x1).f3.f0) ((rdS210 x0 x1).f3.f1) ((rdS210 x0 x1).f3.f2) x2 x3 x4 x5 x6 true x8 x9 x10 x11 x12 x13 x14 x15 x16 x17)))
          (.ite (decide ((rdS210 x0 x1).f1 = (6 : Int)))
           (.last (.jump (.c8 x0 x1 ((rdS210 x0 x1).f0) ((rdS210 x0 x1).f1) ((rdS210 x0 x1).f2) ((rdS210 x0 x1).f3.f0) ((rdS210 x0 x1).f3.f1) ((rdS210 x0 x1).f3.f2) x2 x3 x4 x5 x6 x7 true x9 x10 x11 x12 x13 x14 x15 x16 x17)))
           (.ite (decide ((rdS210 x0 x1).f1 = (7 : Int)))
            (.last (.jump (.c8 x0 x1 ((rdS210 x0 x1).f0) ((rdS210 x0 x1).f1) ((rdS210 x0 x1).f2) ((rdS210 x0 x1).f3.f0) ((rdS210 x0 x1).f3.f1) ((rdS210 x0 x1).f3.f2) x2 x3 x4 x5 x6 x7 x8 true x10 x11 x12 x13 x14 x15 x16 x17)))
            (.fail)))))))))
    (.jump (.c8 x0 x1 ((rdS210 x0 x1).f0) ((rdS210 x0 x1).f1) ((rdS210 x0 x1).f2) ((rdS210 x0 x1).f3.f0) ((rdS210 x0 x1).f3.f1) ((rdS210 x0 x1).f3.f2) x2 x3 x4 x5 x6 x7 x8 x9 x10 x11 x12 x13 x14 x15 x16 x17)))))
  (.ret (x2, x3, x4, x5, x6, x7, x8, x9, x10, x11, x12, x13, x14, x15, x16, x17))
 | .c8 x0 x1 x2 x3 x4 x5 x6 x7 x8 x9 x10 x11 x12 x13 x14 x15 x16 x17 x18 x19 x20 x21 x22 x23 =>
 .ite (decide (x2 = (4 : Int)))
  (.call (impl_endOf.told x0 x1) fun t1 => .jump (.c11 x0 x1 t1 x8 x9 x10 x11 x12 x13 x14 x15 x8 x9 x10 x11 x12 x13 x14 x15 x16 x17 x18 x19 x20 x21 x22 x23))
  (.jump (.c1 x0 (wr (x1 + (1 : Int))) x8 x9 x10 x11 x12 x13 x14 x15 x16 x17 x18 x19 x20 x21 x22 x23))
 | .c11 x0 x1 x2 x3 x4 x5 x6 x7 x8 x9 x10 x11 x12 x13 x14 x15 x16 x17 x18 x19 x20 x21 x22 x23 x24 x25 x26 =>
 .need ((0 : Int) ≤ (wr (x1 + (1 : Int))) ∧ (wr (x1 + (1 : Int))) ≤ x2 ∧ x2 ≤ (List.length x0 : Int)) (.call (self_.told ((List.drop (Int.toNat (wr (x1 + (1 : Int)))) (List.take (Int.toNat x2) x0)), x11, x12, x13, x14, x15, x16, x17, x18, x19, x20, x21, x22, x23, x24, x25, x26)) fun t1 => .jump (.c1 x0 (wr (x2 + (1 : Int))) x3 x4 x5 x6 x7 x8 x9 x10 t1.2.2.2.2.2.2.2.2.1 t1.2.2.2.2.2.2.2.2.2.1 t1.2.2.2.2.2.2.2.2.2.2.1 t1.2.2.2.2.2.2.2.2.2.2.2.1 t1.2.2.2.2.2.2.2.2.2.2.2.2.1 t1.2.2.2.2.2.2.2.2.2.2.2.2.2.1 t1.2.2.2.2.2.2.2.2.2.2.2.2.2.2.1 t1.2.2.2.2.2.2.2.2.2.2.2.2.2.2.2))
def Q : Plan C := { PL with cuts := [(1, [0, 1, 4, 56]), (8, [0, 1, 4, 5, 56]), (11, [0, 1, 4, 6, 7, 56])], ords := [(7, [6], (.take 0 [] (.take 1 [] (.take 3 [] (.take 4 [] (.take 2 [0, 1, 3, 4] (.take 5 [] (.alt 6 .done .nil))))))))], weak := [] }
theorem e (self_ : Self I A K) : CutEq Pg C Q Tryz.f259 1 id st v o (tree self_) := fun J K x => by cases x <;> kernel_rfl
theorem b (self_ : Self I A K) (a0 : List S210) (a1 a2 a3 a4 a5 a6 a7 a8 a9 a10 a11 a12 a13 a14 a15 a16 : Bool) : BegEq Pg C Q Tryz.f259 1 id st v o (S a0 a1 a2 a3 a4 a5 a6 a7 a8 a9 a10 a11 a12 a13 a14 a15 a16) (begin self_ a0 a1 a2 a3 a4 a5 a6 a7 a8 a9 a10 a11 a12 a13 a14 a15 a16) := fun J K => by kernel_rfl
def step (self_ : Self I A K) : Self I A K := ⟨fun i_ => (begin self_ i_.1 i_.2.1 i_.2.2.1 i_.2.2.2.1 i_.2.2.2.2.1 i_.2.2.2.2.2.1 i_.2.2.2.2.2.2.1 i_.2.2.2.2.2.2.2.1 i_.2.2.2.2.2.2.2.2.1 i_.2.2.2.2.2.2.2.2.2.1 i_.2.2.2.2.2.2.2.2.2.2.1 i_.2.2.2.2.2.2.2.2.2.2.2.1 i_.2.2.2.2.2.2.2.2.2.2.2.2.1 i_.2.2.2.2.2.2.2.2.2.2.2.2.2.1 i_.2.2.2.2.2.2.2.2.2.2.2.2.2.2.1 i_.2.2.2.2.2.2.2.2.2.2.2.2.2.2.2.1 i_.2.2.2.2.2.2.2.2.2.2.2.2.2.2.2.2).run (lp (tree self_)), fun i_ r h => soundCall_of_tree G mixed Q Tryz.func259 rfl (of_decide_eq_true (by kernel_rfl)) (by rfl) id st v o (fun _ => rfl) (tree self_) (e self_) (begin self_ i_.1 i_.2.1 i_.2.2.1 i_.2.2.2.1 i_.2.2.2.2.1 i_.2.2.2.2.2.1 i_.2.2.2.2.2.2.1 i_.2.2.2.2.2.2.2.1 i_.2.2.2.2.2.2.2.2.1 i_.2.2.2.2.2.2.2.2.2.1 i_.2.2.2.2.2.2.2.2.2.2.1 i_.2.2.2.2.2.2.2.2.2.2.2.1 i_.2.2.2.2.2.2.2.2.2.2.2.2.1 i_.2.2.2.2.2.2.2.2.2.2.2.2.2.1 i_.2.2.2.2.2.2.2.2.2.2.2.2.2.2.1 i_.2.2.2.2.2.2.2.2.2.2.2.2.2.2.2.1 i_.2.2.2.2.2.2.2.2.2.2.2.2.2.2.2.2) (b self_ i_.1 i_.2.1 i_.2.2.1 i_.2.2.2.1 i_.2.2.2.2.1 i_.2.2.2.2.2.1 i_.2.2.2.2.2.2.1 i_.2.2.2.2.2.2.2.1 i_.2.2.2.2.2.2.2.2.1 i_.2.2.2.2.2.2.2.2.2.1 i_.2.2.2.2.2.2.2.2.2.2.1 i_.2.2.2.2.2.2.2.2.2.2.2.1 i_.2.2.2.2.2.2.2.2.2.2.2.2.1 i_.2.2.2.2.2.2.2.2.2.2.2.2.2.1 i_.2.2.2.2.2.2.2.2.2.2.2.2.2.2.1 i_.2.2.2.2.2.2.2.2.2.2.2.2.2.2.2.1 i_.2.2.2.2.2.2.2.2.2.2.2.2.2.2.2.2) h⟩
def f (a0 : List S210) (a1 a2 a3 a4 a5 a6 a7 a8 a9 a10 a11 a12 a13 a14 a15 a16 : Bool) : Option A := (Self.iter step 8).f (a0, a1, a2, a3, a4, a5, a6, a7, a8, a9, a10, a11, a12, a13, a14, a15, a16)
def told (a0 : List S210) (a1 a2 a3 a4 a5 a6 a7 a8 a9 a10 a11 a12 a13 a14 a15 a16 : Bool) : YtobfemcobakeoaaGreatEv.Told A := ⟨f a0 a1 a2 a3 a4 a5 a6 a7 a8 a9 a10 a11 a12 a13 a14 a15 a16, fun r => SoundCall Pg C 259 (S a0 a1 a2 a3 a4 a5 a6 a7 a8 a9 a10 a11 a12 a13 a14 a15 a16) 1 (v r) (o r), fun r h => (Self.iter step 8).ok (a0, a1, a2, a3, a4, a5, a6, a7, a8, a9, a10, a11, a12, a13, a14, a15, a16) r h⟩
end impl_reader_pass
/-! #### loop.example/g00983/impl.MayReadFirst (246) -/
namespace impl_MayReadFirst
def S (a0 : List S210) (a1 a2 a3 : Int) : List (PV U) := YtobfemcobakeoaaGreatEv.start C 36 [.agg [.sl 211 a0, .int .i64 a1, .int .i64 a2, .int .i64 a3]] []
inductive X where
 | c8 (x0 : List Int) (x1 x2 x3 x4 x5 x6 x7 x8 : Bool) (x9 : Int)
def id : X → Nat
 | .c8 .. => 8
def st : X → List (PV U)
 | .c8 x0 x1 x2 x3 x4 x5 x6 x7 x8 x9 => stOf 36 [(4, .own true 3 x0), (24, .agg [.bool x1, .bool x2, .bool x3, .bool x4, .bool x5, .bool x6, .bool x7, .bool x8]), (25, .int .i64 x9)]
def begin (a0 : List S210) (a1 a2 a3 : Int) : Tr X A :=
 .call (impl_taskOk.told a0 a1 a2 a3) fun t1 => .ite (!t1)
  (.ret (([] : List Int)))
  (.call (impl_reader_pass.told a0 false false false false false false false false false false false false false false false false) fun t2 => .call (impl_reader_read.told a1 a2 a3 t2.1 t2.2.1 t2.2.2.1 t2.2.2.2.1 t2.2.2.2.2.1 t2.2.2.2.2.2.1 t2.2.2.2.2.2.2.1 t2.2.2.2.2.2.2.2.1 t2.2.2.2.2.2.2.2.2.1 t2.2.2.2.2.2.2.2.2.2.1 t2.2.2.2.2.2.2.2.2.2.2.1 t2.2.2.2.2.2.2.2.2.2.2.2.1 t2.2.2.2.2.2.2.2.2.2.2.2.2.1 t2.2.2.2.2.2.2.2.2.2.2.2.2.2.1 t2.2.2.2.2.2.2.2.2.2.2.2.2.2.2.1 t2.2.2.2.2.2.2.2.2.2.2.2.2.2.2.2) fun t3 => .jump (.c8 ([] : List Int) t3.2.2.2.2.2.2.2.2.1 t3.2.2.2.2.2.2.2.2.2.1 t3.2.2.2.2.2.2.2.2.2.2.1 t3.2.2.2.2.2.2.2.2.2.2.2.1 t3.2.2.2.2.2.2.2.2.2.2.2.2.1 t3.2.2.2.2.2.2.2.2.2.2.2.2.2.1 t3.2.2.2.2.2.2.2.2.2.2.2.2.2.2.1 t3.2.2.2.2.2.2.2.2.2.2.2.2.2.2.2 (0 : Int)))
def tree : X → Tr X A
 | .c8 x0 x1 x2 x3 x4 x5 x6 x7 x8 x9 =>
 .ite (decide (x9 < (8 : Int)))
  (.need ((0 : Int) ≤ x9 ∧ x9 < (8 : Int)) (.ite (List.getD [x1, x2, x3, x4, x5, x6, x7, x8] (Int.toNat x9) false)
   (.need (((List.length x0 : Int) + (List.length ([x9]) : Int)) * (8 : Nat) ≤ room) (.jump (.c8 (x0 ++ [x9]) x1 x2 x3 x4 x5 x6 x7 x8 (wr (x9 + (1 : Int))))))
   (.jump (.c8 x0 x1 x2 x3 x4 x5 x6 x7 x8 (wr (x9 + (1 : Int)))))))
  (.ret x0)
def f (a0 : List S210) (a1 a2 a3 : Int) : Option A := (begin a0 a1 a2 a3).run (lp tree)
def Q : Plan C := { PL with cuts := [(8, [4, 24, 25])], ords := [], weak := [] }
theorem e : CutEq Pg C Q Tryz.f246 0 id st v o tree := fun J K x => by cases x <;> kernel_rfl
theorem b (a0 : List S210) (a1 a2 a3 : Int) : BegEq Pg C Q Tryz.f246 0 id st v o (S a0 a1 a2 a3) (begin a0 a1 a2 a3) := fun J K => by kernel_rfl
def told (a0 : List S210) (a1 a2 a3 : Int) : YtobfemcobakeoaaGreatEv.Told A := ⟨f a0 a1 a2 a3, fun r => SoundCall Pg C 246 (S a0 a1 a2 a3) 0 (v r) (o r), fun r h => soundCall_of_tree G mixed Q Tryz.func246 rfl (of_decide_eq_true (by kernel_rfl)) (by rfl) id st v o (fun _ => rfl) tree e (begin a0 a1 a2 a3) (b a0 a1 a2 a3) h⟩
end impl_MayReadFirst
/-! #### loop.example/g00983/impl.MustWrite$1 (262) -/
namespace impl_MustWrite_1
def S (a0 : Int) (a1 : List Bool) : List (PV U) := YtobfemcobakeoaaGreatEv.start C 9 [.int .i64 a0, .ptr 9 0] [.box [.own true 4 a1]]
abbrev X := Empty
def id : X → Nat := fun _ => 0
def st : X → List (PV U) := fun _ => []
def begin (a0 : Int) (a1 : List Bool) : Tr X A :=
 .need ((0 : Int) ≤ a0 ∧ a0 < (List.length a1 : Int)) (.ret ((!(rdB a1 a0)), a1))
def tree : X → Tr X A := fun _ => .fail
def f (a0 : Int) (a1 : List Bool) : Option A := (begin a0 a1).run (lp tree)
def Q : Plan C := { PL with cuts := [], ords := [], weak := [] }
theorem e : CutEq Pg C Q Tryz.f262 1 id st v o tree := fun J K x => by cases x
theorem b (a0 : Int) (a1 : List Bool) : BegEq Pg C Q Tryz.f262 1 id st v o (S a0 a1) (begin a0 a1) := fun J K => by kernel_rfl
def told (a0 : Int) (a1 : List Bool) : YtobfemcobakeoaaGreatEv.Told A := ⟨f a0 a1, fun r => SoundCall Pg C 262 (S a0 a1) 1 (v r) (o r), fun r h => soundCall_of_tree G mixed Q Tryz.func262 rfl (of_decide_eq_true (by kernel_rfl)) (by rfl) id st v o (fun _ => rfl) tree e (begin a0 a1) (b a0 a1) h⟩
end impl_MustWrite_1
/-! #### loop.example/g00983/impl.written (261) -/
namespace impl_written
def S (a0 : List S210) (a1 : List Bool) : List (PV U) := YtobfemcobakeoaaGreatEv.start C 34 [.sl 211 a0, .fn 262 [.ptr 34 0]] [.box [.own true 4 a1]]
inductive X where
 | c3 (x0 : List Int) (x1 : List S210) (x2 x3 : Int) (x4 : List Bool)
def id : X → Nat
 | .c3 .. => 3
def st : X → List (PV U)
 | .c3 x0 x1 x2 x3 x4 => stOf 35 [(1, .fn 262 [.ptr 34 0]), (5, .own true 3 x0), (9, .sl 211 x1), (10, .int .i64 x2), (11, .int .i64 x3), (34, .box [.own true 4 x4])]
def begin (a0 : List S210) (a1 : List Bool) : Tr X A :=
 .jump (.c3 ([] : List Int) a0 (List.length a0 : Int) (0 : Int) a1)
def tree : X → Tr X A
 | .c3 x0 x1 x2 x3 x4 =>
 .ite (decide (x3 < x2))
  (.need ((0 : Int) ≤ x3 ∧ x3 < (List.length x1 : Int)) (.call (impl_hasVar.told ((rdS210 x1 x3).f0)) fun t1 => .ite t1
   (.call (impl_MustWrite_1.told x3 x4) fun t2 => .ite t2.1
    (.need (((List.length x0 : Int) + (List.length ([(rdS210 x1 x3).f1]) : Int)) * (8 : Nat) ≤ room) (.jump (.c3 (x0 ++ [(rdS210 x1 x3).f1]) x1 x2 (wr (x3 + (1 : Int))) t2.2)))
    (.jump (.c3 x0 x1 x2 (wr (x3 + (1 : Int))) t2.2)))
   (.jump (.c3 x0 x1 x2 (wr (x3 + (1 : Int))) x4))))
  (.call (slices_Sort_int.told x0) fun t1 => .call (slices_Compact_int.told t1) fun t2 => .ret (t2, x4))
def f (a0 : List S210) (a1 : List Bool) : Option A := (begin a0 a1).run (lp tree)
def Q : Plan C := { PL with cuts := [(3, [1, 5, 9, 10, 11, 34])], ords := [], weak := [] }
theorem e : CutEq Pg C Q Tryz.f261 1 id st v o tree := fun J K x => by cases x <;> kernel_rfl
theorem b (a0 : List S210) (a1 : List Bool) : BegEq Pg C Q Tryz.f261 1 id st v o (S a0 a1) (begin a0 a1) := fun J K => by kernel_rfl
def told (a0 : List S210) (a1 : List Bool) : YtobfemcobakeoaaGreatEv.Told A := ⟨f a0 a1, fun r => SoundCall Pg C 261 (S a0 a1) 1 (v r) (o r), fun r h => soundCall_of_tree G mixed Q Tryz.func261 rfl (of_decide_eq_true (by kernel_rfl)) (by rfl) id st v o (fun _ => rfl) tree e (begin a0 a1) (b a0 a1) h⟩
end impl_written
/-! #### loop.example/g00983/impl.MustWrite (247) -/
namespace impl_MustWrite
def S (a0 : List S210) : List (PV U) := YtobfemcobakeoaaGreatEv.start C 38 [.sl 211 a0] []
inductive X where
 | c5 (x0 : List S210) (x1 : List Bool) (x2 : List S210) (x3 x4 : Int)
 | c9 (x0 : List S210) (x1 : List Bool) (x2 x3 : Int) (x4 : List S210) (x5 x6 : Int)
def id : X → Nat
 | .c5 .. => 5
 | .c9 .. => 9
def st : X → List (PV U)
 | .c5 x0 x1 x2 x3 x4 => stOf 38 [(0, .sl 211 x0), (3, .box [.own true 4 x1]), (13, .sl 211 x2), (14, .int .i64 x3), (15, .int .i64 x4)]
 | .c9 x0 x1 x2 x3 x4 x5 x6 => stOf 38 [(0, .sl 211 x0), (3, .box [.own true 4 x1]), (4, .int .i64 x2), (6, .int .i64 x3), (13, .sl 211 x4), (14, .int .i64 x5), (15, .int .i64 x6)]
def begin (a0 : List S210) : Tr X A :=
 .call (impl_BlockOk.told a0) fun t1 => .ite (!t1)
  (.ret (([] : List Int)))
  (.need ((0 : Int) ≤ (List.length a0 : Int) ∧ (List.length a0 : Int) ≤ (List.length a0 : Int) ∧ (List.length a0 : Int) * (1 : Nat) ≤ room) (.jump (.c5 a0 (List.replicate (Int.toNat (List.length a0 : Int)) false) a0 (List.length a0 : Int) (0 : Int))))
def tree : X → Tr X A
 | .c5 x0 x1 x2 x3 x4 =>
 .ite (decide (x4 < x3))
  (.need ((0 : Int) ≤ x4 ∧ x4 < (List.length x2 : Int)) (.ite (decide ((rdS210 x2 x4).f0 = (4 : Int)))
   (.jump (.c9 x0 x1 x4 x4 x2 x3 x4))
   (.jump (.c5 x0 x1 x2 x3 (wr (x4 + (1 : Int)))))))
  (.call (impl_written.told x0 x1) fun t1 => .ret t1.1)
 | .c9 x0 x1 x2 x3 x4 x5 x6 =>
 .call (impl_endOf.told x0 x2) fun t1 => .ite (decide (x3 ≤ t1))
  (.need ((0 : Int) ≤ x3 ∧ x3 < (List.length x1 : Int)) (.jump (.c9 x0 (List.set x1 (Int.toNat x3) true) x2 (wr (x3 + (1 : Int))) x4 x5 x6)))
  (.jump (.c5 x0 x1 x4 x5 (wr (x6 + (1 : Int)))))
def f (a0 : List S210) : Option A := (begin a0).run (lp tree)
def Q : Plan C := { PL with cuts := [(5, [0, 3, 13, 14, 15]), (9, [0, 3, 4, 6, 13, 14, 15])], ords := [], weak := [] }
theorem e : CutEq Pg C Q Tryz.f247 0 id st v o tree := fun J K x => by cases x <;> kernel_rfl
theorem b (a0 : List S210) : BegEq Pg C Q Tryz.f247 0 id st v o (S a0) (begin a0) := fun J K => by kernel_rfl
def told (a0 : List S210) : YtobfemcobakeoaaGreatEv.Told A := ⟨f a0, fun r => SoundCall Pg C 247 (S a0) 0 (v r) (o r), fun r h => soundCall_of_tree G mixed Q Tryz.func247 rfl (of_decide_eq_true (by kernel_rfl)) (by rfl) id st v o (fun _ => rfl) tree e (begin a0) (b a0) h⟩
end impl_MustWrite
/-! #### loop.example/g00983/impl.MayWrite$1 (263) -/
namespace impl_MayWrite_1
def S (a0 : Int) : List (PV U) := YtobfemcobakeoaaGreatEv.start C 3 [.int .i64 a0] []
abbrev X := Empty
def id : X → Nat := fun _ => 0
def st : X → List (PV U) := fun _ => []
def begin (a0 : Int) : Tr X A :=
 .ret true
def tree : X → Tr X A := fun _ => .fail
def f (a0 : Int) : Option A := (begin a0).run (lp tree)
def Q : Plan C := { PL with cuts := [], ords := [], weak := [] }
theorem e : CutEq Pg C Q Tryz.f263 0 id st v o tree := fun J K x => by cases x
theorem b (a0 : Int) : BegEq Pg C Q Tryz.f263 0 id st v o (S a0) (begin a0) := fun J K => by kernel_rfl
def told (a0 : Int) : YtobfemcobakeoaaGreatEv.Told A := ⟨f a0, fun r => SoundCall Pg C 263 (S a0) 0 (v r) (o r), fun r h => soundCall_of_tree G mixed Q Tryz.func263 rfl (of_decide_eq_true (by kernel_rfl)) (by rfl) id st v o (fun _ => rfl) tree e (begin a0) (b a0) h⟩
end impl_MayWrite_1
/-! #### loop.example/g00983/impl.written (261) -/
namespace impl_written_2
def S (a0 : List S210) : List (PV U) := YtobfemcobakeoaaGreatEv.start C 34 [.sl 211 a0, .fn 263 []] []
inductive X where
 | c3 (x0 : List Int) (x1 : List S210) (x2 x3 : Int)
def id : X → Nat
 | .c3 .. => 3
def st : X → List (PV U)
 | .c3 x0 x1 x2 x3 => stOf 34 [(1, .fn 263 []), (5, .own true 3 x0), (9, .sl 211 x1), (10, .int .i64 x2), (11, .int .i64 x3)]
def begin (a0 : List S210) : Tr X A :=
 .jump (.c3 ([] : List Int) a0 (List.length a0 : Int) (0 : Int))
def tree : X → Tr X A
 | .c3 x0 x1 x2 x3 =>
 .ite (decide (x3 < x2))
  (.need ((0 : Int) ≤ x3 ∧ x3 < (List.length x1 : Int)) (.call (impl_hasVar.told ((rdS210 x1 x3).f0)) fun t1 => .ite t1
   (.call (impl_MayWrite_1.told x3) fun t2 => .ite t2
    (.need (((List.length x0 : Int) + (List.length ([(rdS210 x1 x3).f1]) : Int)) * (8 : Nat) ≤ room) (.jump (.c3 (x0 ++ [(rdS210 x1 x3).f1]) x1 x2 (wr (x3 + (1 : Int))))))
    (.jump (.c3 x0 x1 x2 (wr (x3 + (1 : Int))))))
   (.jump (.c3 x0 x1 x2 (wr (x3 + (1 : Int)))))))
  (.call (slices_Sort_int.told x0) fun t1 => .call (slices_Compact_int.told t1) fun t2 => .ret t2)
def f (a0 : List S210) : Option A := (begin a0).run (lp tree)
def Q : Plan C := { PL with cuts := [(3, [1, 5, 9, 10, 11])], ords := [], weak := [] }
theorem e : CutEq Pg C Q Tryz.f261 0 id st v o tree := fun J K x => by cases x <;> kernel_rfl
theorem b (a0 : List S210) : BegEq Pg C Q Tryz.f261 0 id st v o (S a0) (begin a0) := fun J K => by kernel_rfl
def told (a0 : List S210) : YtobfemcobakeoaaGreatEv.Told A := ⟨f a0, fun r => SoundCall Pg C 261 (S a0) 0 (v r) (o r), fun r h => soundCall_of_tree G mixed Q Tryz.func261 rfl (of_decide_eq_true (by kernel_rfl)) (by rfl) id st v o (fun _ => rfl) tree e (begin a0) (b a0) h⟩
end impl_written_2
/-! #### loop.example/g00983/impl.MayWrite (249) -/
namespace impl_MayWrite
def S (a0 : List S210) : List (PV U) := YtobfemcobakeoaaGreatEv.start C 8 [.sl 211 a0] []
abbrev X := Empty
def id : X → Nat := fun _ => 0
def st : X → List (PV U) := fun _ => []
def begin (a0 : List S210) : Tr X A :=
 .call (impl_BlockOk.told a0) fun t1 => .ite (!t1)
  (.ret (([] : List Int)))
  (.call (impl_written_2.told a0) fun t2 => .ret t2)
def tree : X → Tr X A := fun _ => .fail
def f (a0 : List S210) : Option A := (begin a0).run (lp tree)
def Q : Plan C := { PL with ret := fun f_ => lookup f_ ((261, (⟨impl_written_2.A, impl_written_2.v, impl_written_2.o⟩ : Ret C)) :: retTab), cuts := [], ords := [], weak := [] }
theorem e : CutEq Pg C Q Tryz.f249 0 id st v o tree := fun J K x => by cases x
theorem b (a0 : List S210) : BegEq Pg C Q Tryz.f249 0 id st v o (S a0) (begin a0) := fun J K => by kernel_rfl
def told (a0 : List S210) : YtobfemcobakeoaaGreatEv.Told A := ⟨f a0, fun r => SoundCall Pg C 249 (S a0) 0 (v r) (o r), fun r h => soundCall_of_tree G mixed Q Tryz.func249 rfl (of_decide_eq_true (by kernel_rfl)) (by rfl) id st v o (fun _ => rfl) tree e (begin a0) (b a0) h⟩
end impl_MayWrite
/-! #### slices.Index[[]int,int] (268) -/
namespace slices_Index_int
def S (a0 : List Int) (a1 : Int) : List (PV U) := YtobfemcobakeoaaGreatEv.start C 19 [.sl 3 a0, .int .i64 a1] []
inductive X where
 | c2 (x0 : List Int) (x1 x2 x3 : Int)
def id : X → Nat
 | .c2 .. => 2
def st : X → List (PV U)
 | .c2 x0 x1 x2 x3 => stOf 19 [(0, .sl 3 x0), (1, .int .i64 x1), (7, .int .i64 x2), (8, .int .i64 x3)]
def begin (a0 : List Int) (a1 : Int) : Tr X A :=
 .jump (.c2 a0 a1 (List.length a0 : Int) (0 : Int))
def tree : X → Tr X A
 | .c2 x0 x1 x2 x3 =>
 .ite (decide (x3 < x2))
  (.need ((0 : Int) ≤ x3 ∧ x3 < (List.length x0 : Int)) (.ite (decide (x1 = (rdI x0 x3)))
   (.ret x3)
   (.jump (.c2 x0 x1 x2 (wr (x3 + (1 : Int)))))))
  (.ret ((-1 : Int)))
def f (a0 : List Int) (a1 : Int) : Option A := (begin a0 a1).run (lp tree)
def Q : Plan C := { PL with cuts := [(2, [0, 1, 7, 8])], ords := [], weak := [] }
theorem e : CutEq Pg C Q Tryz.f268 0 id st v o tree := fun J K x => by cases x <;> kernel_rfl
theorem b (a0 : List Int) (a1 : Int) : BegEq Pg C Q Tryz.f268 0 id st v o (S a0 a1) (begin a0 a1) := fun J K => by kernel_rfl
def told (a0 : List Int) (a1 : Int) : YtobfemcobakeoaaGreatEv.Told A := ⟨f a0 a1, fun r => SoundCall Pg C 268 (S a0 a1) 0 (v r) (o r), fun r h => soundCall_of_tree G mixed Q Tryz.func268 rfl (of_decide_eq_true (by kernel_rfl)) (by rfl) id st v o (fun _ => rfl) tree e (begin a0 a1) (b a0 a1) h⟩
end slices_Index_int
/-! #### slices.Contains[[]int,int] (264) -/
namespace slices_Contains_int
def S (a0 : List Int) (a1 : Int) : List (PV U) := YtobfemcobakeoaaGreatEv.start C 9 [.sl 3 a0, .int .i64 a1] []
abbrev X := Empty
def id : X → Nat := fun _ => 0
def st : X → List (PV U) := fun _ => []
def begin (a0 : List Int) (a1 : Int) : Tr X A :=
 .call (slices_Index_int.told a0 a1) fun t1 => .ret ((decide (t1 ≥ (0 : Int))))
def tree : X → Tr X A := fun _ => .fail
def f (a0 : List Int) (a1 : Int) : Option A := (begin a0 a1).run (lp tree)
def Q : Plan C := { PL with cuts := [], ords := [], weak := [] }
theorem e : CutEq Pg C Q Tryz.f264 0 id st v o tree := fun J K x => by cases x
theorem b (a0 : List Int) (a1 : Int) : BegEq Pg C Q Tryz.f264 0 id st v o (S a0 a1) (begin a0 a1) := fun J K => by kernel_rfl
def told (a0 : List Int) (a1 : Int) : YtobfemcobakeoaaGreatEv.Told A := ⟨f a0 a1, fun r => SoundCall Pg C 264 (S a0 a1) 0 (v r) (o r), fun r h => soundCall_of_tree G mixed Q Tryz.func264 rfl (of_decide_eq_true (by kernel_rfl)) (by rfl) id st v o (fun _ => rfl) tree e (begin a0 a1) (b a0 a1) h⟩
end slices_Contains_int
/-! #### loop.example/g00983/impl.HasVar (251) -/
namespace impl_HasVar
def S (a0 : List Int) (a1 : Int) : List (PV U) := YtobfemcobakeoaaGreatEv.start C 8 [.sl 3 a0, .int .i64 a1] []
abbrev X := Empty
def id : X → Nat := fun _ => 0
def st : X → List (PV U) := fun _ => []
def begin (a0 : List Int) (a1 : Int) : Tr X A :=
 .call (slices_Contains_int.told a0 a1) fun t1 => .ret t1
def tree : X → Tr X A := fun _ => .fail
def f (a0 : List Int) (a1 : Int) : Option A := (begin a0 a1).run (lp tree)
def Q : Plan C := { PL with cuts := [], ords := [], weak := [] }
theorem e : CutEq Pg C Q Tryz.f251 0 id st v o tree := fun J K x => by cases x
theorem b (a0 : List Int) (a1 : Int) : BegEq Pg C Q Tryz.f251 0 id st v o (S a0 a1) (begin a0 a1) := fun J K => by kernel_rfl
def told (a0 : List Int) (a1 : Int) : YtobfemcobakeoaaGreatEv.Told A := ⟨f a0 a1, fun r => SoundCall Pg C 251 (S a0 a1) 0 (v r) (o r), fun r h => soundCall_of_tree G mixed Q Tryz.func251 rfl (of_decide_eq_true (by kernel_rfl)) (by rfl) id st v o (fun _ => rfl) tree e (begin a0 a1) (b a0 a1) h⟩
end impl_HasVar
/-! #### loop.example/g00983/impl.MustLog$1 (250) -/
namespace impl_MustLog_1
def S (a0 : Int) (a1 a2 : List Int) : List (PV U) := YtobfemcobakeoaaGreatEv.start C 14 [.int .i64 a0, .ptr 14 0, .ptr 15 0] [.box [.own true 3 a1], .box [.own true 3 a2]]
abbrev X := Empty
def id : X → Nat := fun _ => 0
def st : X → List (PV U) := fun _ => []
def begin (a0 : Int) (a1 a2 : List Int) : Tr X A :=
 .call (impl_HasVar.told a1 a0) fun t1 => .ite (!t1)
  (.call (impl_HasVar.told a2 a0) fun t2 => .ret (t2, a1, a2))
  (.ret (false, a1, a2))
def tree : X → Tr X A := fun _ => .fail
def f (a0 : Int) (a1 a2 : List Int) : Option A := (begin a0 a1 a2).run (lp tree)
def Q : Plan C := { PL with cuts := [], ords := [], weak := [] }
theorem e : CutEq Pg C Q Tryz.f250 2 id st v o tree := fun J K x => by cases x
theorem b (a0 : Int) (a1 a2 : List Int) : BegEq Pg C Q Tryz.f250 2 id st v o (S a0 a1 a2) (begin a0 a1 a2) := fun J K => by kernel_rfl
def told (a0 : Int) (a1 a2 : List Int) : YtobfemcobakeoaaGreatEv.Told A := ⟨f a0 a1 a2, fun r => SoundCall Pg C 250 (S a0 a1 a2) 2 (v r) (o r), fun r h => soundCall_of_tree G mixed Q Tryz.func250 rfl (of_decide_eq_true (by kernel_rfl)) (by rfl) id st v o (fun _ => rfl) tree e (begin a0 a1 a2) (b a0 a1 a2) h⟩
end impl_MustLog_1
/-! #### slices.IndexFunc[[]int,int] (184) -/
namespace slices_IndexFunc_int_MustLog_1
def S (a0 a1 a2 : List Int) : List (PV U) := YtobfemcobakeoaaGreatEv.start C 19 [.sl 3 a0, .fn 250 [.ptr 19 0, .ptr 20 0]] [.box [.own true 3 a1], .box [.own true 3 a2]]
inductive X where
 | c2 (x0 : List Int) (x1 x2 : Int) (x3 x4 : List Int)
def id : X → Nat
 | .c2 .. => 2
def st : X → List (PV U)
 | .c2 x0 x1 x2 x3 x4 => stOf 21 [(0, .sl 3 x0), (1, .fn 250 [.ptr 19 0, .ptr 20 0]), (7, .int .i64 x1), (8, .int .i64 x2), (19, .box [.own true 3 x3]), (20, .box [.own true 3 x4])]
def begin (a0 a1 a2 : List Int) : Tr X A :=
 .jump (.c2 a0 (List.length a0 : Int) (0 : Int) a1 a2)
def tree : X → Tr X A
 | .c2 x0 x1 x2 x3 x4 =>
 .ite (decide (x2 < x1))
  (.need ((0 : Int) ≤ x2 ∧ x2 < (List.length x0 : Int)) (.call (impl_MustLog_1.told (rdI x0 x2) x3 x4) fun t1 => .ite t1.1
   (.ret (x2, t1.2.1, t1.2.2))
   (.jump (.c2 x0 x1 (wr (x2 + (1 : Int))) t1.2.1 t1.2.2))))
  (.ret ((-1 : Int), x3, x4))
def f (a0 a1 a2 : List Int) : Option A := (begin a0 a1 a2).run (lp tree)
def Q : Plan C := { PL with cuts := [(2, [0, 1, 7, 8, 19, 20])], ords := [], weak := [] }
theorem e : CutEq Pg C Q Tryz.f184 2 id st v o tree := fun J K x => by cases x <;> kernel_rfl
theorem b (a0 a1 a2 : List Int) : BegEq Pg C Q Tryz.f184 2 id st v o (S a0 a1 a2) (begin a0 a1 a2) := fun J K => by kernel_rfl
def told (a0 a1 a2 : List Int) : YtobfemcobakeoaaGreatEv.Told A := ⟨f a0 a1 a2, fun r => SoundCall Pg C 184 (S a0 a1 a2) 2 (v r) (o r), fun r h => soundCall_of_tree G mixed Q Tryz.func184 rfl (of_decide_eq_true (by kernel_rfl)) (by rfl) id st v o (fun _ => rfl) tree e (begin a0 a1 a2) (b a0 a1 a2) h⟩
end slices_IndexFunc_int_MustLog_1
/-! #### slices.DeleteFunc[[]int,int] (248) -/
namespace slices_DeleteFunc_int_MustLog_1
def S (a0 a1 a2 : List Int) : List (PV U) := YtobfemcobakeoaaGreatEv.start C 42 [.own true 3 a0, .fn 250 [.ptr 42 0, .ptr 43 0]] [.box [.own true 3 a1], .box [.own true 3 a2]]
inductive X where
 | c5 (x0 : List Int) (x1 x2 : Int) (x3 x4 : List Int)
def id : X → Nat
 | .c5 .. => 5
def st : X → List (PV U)
 | .c5 x0 x1 x2 x3 x4 => stOf 44 [(0, .own true 3 x0), (1, .fn 250 [.ptr 42 0, .ptr 43 0]), (5, .int .i64 x1), (6, .int .i64 x2), (42, .box [.own true 3 x3]), (43, .box [.own true 3 x4])]
def begin (a0 a1 a2 : List Int) : Tr X A :=
 .call (slices_IndexFunc_int_MustLog_1.told a0 a1 a2) fun t1 => .ite (decide (t1.1 = (-1 : Int)))
  (.ret (a0, t1.2.1, t1.2.2))
  (.jump (.c5 a0 t1.1 (wr (t1.1 + (1 : Int))) t1.2.1 t1.2.2))
def tree : X → Tr X A
 | .c5 x0 x1 x2 x3 x4 =>
 .ite (decide (x2 < (List.length x0 : Int)))
  (.need ((0 : Int) ≤ x2 ∧ x2 < (List.length x0 : Int)) (.call (impl_MustLog_1.told (rdI x0 x2) x3 x4) fun t1 => .ite (!t1.1)
   (.need ((0 : Int) ≤ x1 ∧ x1 < (List.length x0 : Int)) (.jump (.c5 (List.set x0 (Int.toNat x1) (rdI x0 x2)) (wr (x1 + (1 : Int))) (wr (x2 + (1 : Int))) t1.2.1 t1.2.2)))
   (.jump (.c5 x0 x1 (wr (x2 + (1 : Int))) t1.2.1 t1.2.2))))
  (.need ((0 : Int) ≤ x1 ∧ x1 < (List.length x0 : Int)) (.need ((0 : Int) ≤ (0 : Int) ∧ (0 : Int) ≤ x1 ∧ x1 ≤ (List.length (List.take (Int.toNat x1) x0 ++ List.replicate (List.length x0 - Int.toNat x1) (0 : Int)) : Int)) (.val ((List.take (Int.toNat x1) (List.take (Int.toNat x1) x0 ++ List.replicate (List.length x0 - Int.toNat x1) (0 : Int))) : List Int) fun v1 => .ret (v1, x3, x4))))
def f (a0 a1 a2 : List Int) : Option A := (begin a0 a1 a2).run (lp tree)
def Q : Plan C := { PL with ret := fun f_ => lookup f_ ((184, (⟨slices_IndexFunc_int_MustLog_1.A, slices_IndexFunc_int_MustLog_1.v, slices_IndexFunc_int_MustLog_1.o⟩ : Ret C)) :: retTab), cuts := [(5, [0, 1, 5, 6, 42, 43])], ords := [], weak := [(1000000, [(4, [])]), (3000000, [])] }
theorem e : CutEq Pg C Q Tryz.f248 2 id st v o tree := fun J K x => by cases x <;> kernel_rfl
theorem b (a0 a1 a2 : List Int) : BegEq Pg C Q Tryz.f248 2 id st v o (S a0 a1 a2) (begin a0 a1 a2) := fun J K => by kernel_rfl
def told (a0 a1 a2 : List Int) : YtobfemcobakeoaaGreatEv.Told A := ⟨f a0 a1 a2, fun r => SoundCall Pg C 248 (S a0 a1 a2) 2 (v r) (o r), fun r h => soundCall_of_tree G mixed Q Tryz.func248 rfl (of_decide_eq_true (by kernel_rfl)) (by rfl) id st v o (fun _ => rfl) tree e (begin a0 a1 a2) (b a0 a1 a2) h⟩
end slices_DeleteFunc_int_MustLog_1
/-! #### loop.example/g00983/impl.MustLog (231) -/
namespace impl_MustLog
def S (a0 : List S210) (a1 a2 a3 : Int) : List (PV U) := YtobfemcobakeoaaGreatEv.start C 18 [.agg [.sl 211 a0, .int .i64 a1, .int .i64 a2, .int .i64 a3]] []
inductive X where
 | c4 (x0 : List S210) (x1 x2 x3 : Int) (x4 x5 : List Int)
def id : X → Nat
 | .c4 .. => 4
def st : X → List (PV U)
 | .c4 x0 x1 x2 x3 x4 x5 => stOf 18 [(1, .box [.sl 211 x0, .int .i64 x1, .int .i64 x2, .int .i64 x3]), (3, .box [.own true 3 x4]), (4, .box [.own true 3 x5])]
def begin (a0 : List S210) (a1 a2 a3 : Int) : Tr X A :=
 .call (impl_taskOk.told a0 a1 a2 a3) fun t1 => let u1_0 : Tr X A := (.both (.call (impl_MayReadFirst.told a0 a1 a2 a3) fun t2 => .both (.call (impl_MustWrite.told a0) fun t3 => .last (.last (.last (.jump (.c4 a0 a1 a2 a3 t2 t3))))) (.last (.last (.call (impl_MustWrite.told a0) fun t3 => .last (.last (.jump (.c4 a0 a1 a2 a3 t2 t3))))))) (.last (.last (.call (impl_MayReadFirst.told a0 a1 a2 a3) fun t2 => .last (.call (impl_MustWrite.told a0) fun t3 => .last (.last (.jump (.c4 a0 a1 a2 a3 t2 t3)))))))); .ite (!t1)
  (.ret (([] : List Int)))
  (.both (.call (impl_MayReadFirst.told a0 a1 a2 a3) fun t2 => let u2_0 : Tr X A := (.both (.call (impl_MustWrite.told a0) fun t3 => .last (.last (.last (.jump (.c4 a0 a1 a2 a3 t2 t3))))) (.last (.last (.call (impl_MustWrite.told a0) fun t3 => .last (.last (.jump (.c4 a0 a1 a2 a3 t2 t3))))))); .both (.call (impl_MustWrite.told a0) fun t3 => let u3_0 : Tr X A := (.last (.last (.last (.jump (.c4 a0 a1 a2 a3 t2 t3))))); .both (u3_0)
     (.last (u3_0)))
    (.both (u2_0)
     (.last (u2_0))))
   (.both (u1_0)
    (.last (u1_0))))
def tree : X → Tr X A
 | .c4 x0 x1 x2 x3 x4 x5 =>
 .call (impl_MayWrite.told x0) fun t1 => .call (slices_DeleteFunc_int_MustLog_1.told t1 x4 x5) fun t2 => .ret t2.1
def f (a0 : List S210) (a1 a2 a3 : Int) : Option A := (begin a0 a1 a2 a3).run (lp tree)
def Q : Plan C := { PL with cuts := [(4, [1, 3, 4])], ords := [(3, [7, 8], (.take 2 [] (.take 0 [2, 3, 5, 6] (.take 3 [0, 1, 2, 5, 6] (.alt 1 (.alt 4 (.alt 5 (.alt 6 (.alt 7 (.alt 8 .done .nil) .nil) .nil) (.alt 6 (.alt 5 (.alt 7 (.alt 8 .done .nil) .nil) .nil) .nil)) (.alt 5 (.alt 4 (.alt 6 (.alt 7 (.alt 8 .done .nil) .nil) .nil) (.alt 6 (.alt 4 (.alt 7 (.alt 8 .done .nil) .nil) .nil) .nil)) (.alt 6 (.alt 4 (.alt 5 (.alt 7 (.alt 8 .done .nil) .nil) .nil) (.alt 5 (.alt 4 (.alt 7 (.alt 8 .done .nil) .nil) .nil) .nil)) .nil))) (.alt 5 (.alt 1 (.alt 4 (.alt 6 (.alt 7 (.alt 8 .done .nil) .nil) .nil) (.alt 6 (.alt 4 (.alt 7 (.alt 8 .done .nil) .nil) .nil) .nil)) (.alt 6 (.alt 1 (.alt 4 (.alt 7 (.alt 8 .done .nil) .nil) .nil) .nil) .nil)) (.alt 6 (.alt 1 (.alt 4 (.alt 5 (.alt 7 (.alt 8 .done .nil) .nil) .nil) (.alt 5 (.alt 4 (.alt 7 (.alt 8 .done .nil) .nil) .nil) .nil)) (.alt 5 (.alt 1 (.alt 4 (.alt 7 (.alt 8 .done .nil) .nil) .nil) .nil) .nil)) .nil)))))))], weak := [(1000000, [(2, [])]), (3000000, [])] }
theorem e : CutEq Pg C Q Tryz.f231 0 id st v o tree := fun J K x => by cases x <;> kernel_rfl
theorem b (a0 : List S210) (a1 a2 a3 : Int) : BegEq Pg C Q Tryz.f231 0 id st v o (S a0 a1 a2 a3) (begin a0 a1 a2 a3) := fun J K => by kernel_rfl
def told (a0 : List S210) (a1 a2 a3 : Int) : YtobfemcobakeoaaGreatEv.Told A := ⟨f a0 a1 a2 a3, fun r => SoundCall Pg C 231 (S a0 a1 a2 a3) 0 (v r) (o r), fun r h => soundCall_of_tree G mixed Q Tryz.func231 rfl (of_decide_eq_true (by kernel_rfl)) (by rfl) id st v o (fun _ => rfl) tree e (begin a0 a1 a2 a3) (b a0 a1 a2 a3) h⟩
end impl_MustLog
/-! #### loop.example/g00983/impl.StmtCost (235) -/
namespace impl_StmtCost
def S (a0 a1 a2 a3 a4 a5 : Int) : List (PV U) := YtobfemcobakeoaaGreatEv.start C 11 [.agg [.int .i64 a0, .int .i64 a1, .int .i64 a2, .int .i64 a3, .int .i64 a4, .int .i64 a5]] []
abbrev X := Empty
def id : X → Nat := fun _ => 0
def st : X → List (PV U) := fun _ => []
def begin (a0 a1 a2 a3 a4 a5 : Int) : Tr X A :=
 .call (impl_StmtOk.told a0 a1 a2 a3 a4 a5) fun t1 => .ite (!t1)
  (.ret ((0 : Int)))
  (.need ((0 : Int) ≤ a0 ∧ a0 < (List.length ([(0 : Int), (2 : Int), (5 : Int), (4 : Int), (1 : Int), (1 : Int), (0 : Int)]) : Int)) (.ret ((rdI ([(0 : Int), (2 : Int), (5 : Int), (4 : Int), (1 : Int), (1 : Int), (0 : Int)]) a0))))
def tree : X → Tr X A := fun _ => .fail
def f (a0 a1 a2 a3 a4 a5 : Int) : Option A := (begin a0 a1 a2 a3 a4 a5).run (lp tree)
def Q : Plan C := { PL with cuts := [], ords := [], weak := [] }
theorem e : CutEq Pg C Q Tryz.f235 0 id st v o tree := fun J K x => by cases x
theorem b (a0 a1 a2 a3 a4 a5 : Int) : BegEq Pg C Q Tryz.f235 0 id st v o (S a0 a1 a2 a3 a4 a5) (begin a0 a1 a2 a3 a4 a5) := fun J K => by kernel_rfl
def told (a0 a1 a2 a3 a4 a5 : Int) : YtobfemcobakeoaaGreatEv.Told A := ⟨f a0 a1 a2 a3 a4 a5, fun r => SoundCall Pg C 235 (S a0 a1 a2 a3 a4 a5) 0 (v r) (o r), fun r h => soundCall_of_tree G mixed Q Tryz.func235 rfl (of_decide_eq_true (by kernel_rfl)) (by rfl) id st v o (fun _ => rfl) tree e (begin a0 a1 a2 a3 a4 a5) (b a0 a1 a2 a3 a4 a5) h⟩
end impl_StmtCost
/-! #### (*loop.example/g00983/impl.tracer).work (234) -/
namespace impl_tracer_work
def S (a0 : Int) (a1 : List S227) (a2 : List Int) (a3 a4 a5 : Int) (a6 : List Int) (a7 a8 a9 a10 a11 a12 a13 a14 : Bool) (a15 : List Int) : List (PV U) := YtobfemcobakeoaaGreatEv.start C 17 [.ptr 17 0, .int .i64 a0] [.box [.own true 228 a1, .own true 3 a2, .int .i64 a3, .int .i64 a4, .int .i64 a5, .own true 3 a6, .bool a7, .bool a8, .bool a9, .bool a10, .bool a11, .bool a12, .bool a13, .bool a14, .own true 3 a15]]
abbrev X := Empty
def id : X → Nat := fun _ => 0
def st : X → List (PV U) := fun _ => []
def begin (a0 : Int) (a1 : List S227) (a2 : List Int) (a3 a4 a5 : Int) (a6 : List Int) (a7 a8 a9 a10 a11 a12 a13 a14 : Bool) (a15 : List Int) : Tr X A :=
 .need (((List.length a1 : Int) + (List.length ([(⟨a0, (-1 : Int), (0 : Int)⟩ : S227)]) : Int)) * (24 : Nat) ≤ room) (.ret ((a1 ++ [(⟨a0, (-1 : Int), (0 : Int)⟩ : S227)]), a2, a3, a4, a5, a6, a7, a8, a9, a10, a11, a12, a13, a14, a15))
def tree : X → Tr X A := fun _ => .fail
def f (a0 : Int) (a1 : List S227) (a2 : List Int) (a3 a4 a5 : Int) (a6 : List Int) (a7 a8 a9 a10 a11 a12 a13 a14 : Bool) (a15 : List Int) : Option A := (begin a0 a1 a2 a3 a4 a5 a6 a7 a8 a9 a10 a11 a12 a13 a14 a15).run (lp tree)
def Q : Plan C := { PL with cuts := [], ords := [], weak := [] }
theorem e : CutEq Pg C Q Tryz.f234 1 id st v o tree := fun J K x => by cases x
theorem b (a0 : Int) (a1 : List S227) (a2 : List Int) (a3 a4 a5 : Int) (a6 : List Int) (a7 a8 a9 a10 a11 a12 a13 a14 : Bool) (a15 : List Int) : BegEq Pg C Q Tryz.f234 1 id st v o (S a0 a1 a2 a3 a4 a5 a6 a7 a8 a9 a10 a11 a12 a13 a14 a15) (begin a0 a1 a2 a3 a4 a5 a6 a7 a8 a9 a10 a11 a12 a13 a14 a15) := fun J K => by kernel_rfl
def told (a0 : Int) (a1 : List S227) (a2 : List Int) (a3 a4 a5 : Int) (a6 : List Int) (a7 a8 a9 a10 a11 a12 a13 a14 : Bool) (a15 : List Int) : YtobfemcobakeoaaGreatEv.Told A := ⟨f a0 a1 a2 a3 a4 a5 a6 a7 a8 a9 a10 a11 a12 a13 a14 a15, fun r => SoundCall Pg C 234 (S a0 a1 a2 a3 a4 a5 a6 a7 a8 a9 a10 a11 a12 a13 a14 a15) 1 (v r) (o r), fun r h => soundCall_of_tree G mixed Q Tryz.func234 rfl (of_decide_eq_true (by kernel_rfl)) (by rfl) id st v o (fun _ => rfl) tree e (begin a0 a1 a2 a3 a4 a5 a6 a7 a8 a9 a10 a11 a12 a13 a14 a15) (b a0 a1 a2 a3 a4 a5 a6 a7 a8 a9 a10 a11 a12 a13 a14 a15) h⟩
end impl_tracer_work
/-! #### loop.example/g00983/impl.VarsOk (127) -/
namespace impl_VarsOk
def S (a0 : List Int) : List (PV U) := YtobfemcobakeoaaGreatEv.start C 10 [.sl 3 a0] []
abbrev X := Empty
def id : X → Nat := fun _ => 0
def st : X → List (PV U) := fun _ => []
def begin (a0 : List Int) : Tr X A :=
 .ite (decide ((List.length a0 : Int) = (8 : Int)))
  (.call (impl_areValues.told a0) fun t1 => .ret t1)
  (.ret false)
def tree : X → Tr X A := fun _ => .fail
def f (a0 : List Int) : Option A := (begin a0).run (lp tree)
def Q : Plan C := { PL with cuts := [], ords := [], weak := [] }
theorem e : CutEq Pg C Q Tryz.f127 0 id st v o tree := fun J K x => by cases x
theorem b (a0 : List Int) : BegEq Pg C Q Tryz.f127 0 id st v o (S a0) (begin a0) := fun J K => by kernel_rfl
def told (a0 : List Int) : YtobfemcobakeoaaGreatEv.Told A := ⟨f a0, fun r => SoundCall Pg C 127 (S a0) 0 (v r) (o r), fun r h => soundCall_of_tree G mixed Q Tryz.func127 rfl (of_decide_eq_true (by kernel_rfl)) (by rfl) id st v o (fun _ => rfl) tree e (begin a0) (b a0) h⟩
end impl_VarsOk
/-! #### loop.example/g00983/impl.operand (186) -/
namespace impl_operand
def S (a0 : List Int) (a1 : Int) : List (PV U) := YtobfemcobakeoaaGreatEv.start C 13 [.sl 3 a0, .int .i64 a1] []
abbrev X := Empty
def id : X → Nat := fun _ => 0
def st : X → List (PV U) := fun _ => []
def begin (a0 : List Int) (a1 : Int) : Tr X A :=
 .ite (decide (a1 < (0 : Int)))
  (.need ((0 : Int) ≤ (wr ((-1 : Int) - a1)) ∧ (wr ((-1 : Int) - a1)) < (List.length a0 : Int)) (.ret ((rdI a0 (wr ((-1 : Int) - a1))))))
  (.ret a1)
def tree : X → Tr X A := fun _ => .fail
def f (a0 : List Int) (a1 : Int) : Option A := (begin a0 a1).run (lp tree)
def Q : Plan C := { PL with cuts := [], ords := [], weak := [] }
theorem e : CutEq Pg C Q Tryz.f186 0 id st v o tree := fun J K x => by cases x
theorem b (a0 : List Int) (a1 : Int) : BegEq Pg C Q Tryz.f186 0 id st v o (S a0 a1) (begin a0 a1) := fun J K => by kernel_rfl
def told (a0 : List Int) (a1 : Int) : YtobfemcobakeoaaGreatEv.Told A := ⟨f a0 a1, fun r => SoundCall Pg C 186 (S a0 a1) 0 (v r) (o r), fun r h => soundCall_of_tree G mixed Q Tryz.func186 rfl (of_decide_eq_true (by kernel_rfl)) (by rfl) id st v o (fun _ => rfl) tree e (begin a0 a1) (b a0 a1) h⟩
end impl_operand
/-! #### loop.example/g00983/impl.Saturate (220) -/
namespace impl_Saturate
def S (a0 : Int) : List (PV U) := YtobfemcobakeoaaGreatEv.start C 5 [.int .i64 a0] []
abbrev X := Empty
def id : X → Nat := fun _ => 0
def st : X → List (PV U) := fun _ => []
def begin (a0 : Int) : Tr X A :=
 .call (impl_Clamp.told a0 (-1000000 : Int) (1000000 : Int)) fun t1 => .ret t1
def tree : X → Tr X A := fun _ => .fail
def f (a0 : Int) : Option A := (begin a0).run (lp tree)
def Q : Plan C := { PL with cuts := [], ords := [], weak := [] }
theorem e : CutEq Pg C Q Tryz.f220 0 id st v o tree := fun J K x => by cases x
theorem b (a0 : Int) : BegEq Pg C Q Tryz.f220 0 id st v o (S a0) (begin a0) := fun J K => by kernel_rfl
def told (a0 : Int) : YtobfemcobakeoaaGreatEv.Told A := ⟨f a0, fun r => SoundCall Pg C 220 (S a0) 0 (v r) (o r), fun r h => soundCall_of_tree G mixed Q Tryz.func220 rfl (of_decide_eq_true (by kernel_rfl)) (by rfl) id st v o (fun _ => rfl) tree e (begin a0) (b a0) h⟩
end impl_Saturate
/-! #### loop.example/g00983/impl.AddValues (187) -/
namespace impl_AddValues
def S (a0 a1 : Int) : List (PV U) := YtobfemcobakeoaaGreatEv.start C 11 [.int .i64 a0, .int .i64 a1] []
abbrev X := Empty
def id : X → Nat := fun _ => 0
def st : X → List (PV U) := fun _ => []
def begin (a0 a1 : Int) : Tr X A :=
 .call (impl_Saturate.told a0) fun t1 => .call (impl_Saturate.told a1) fun t2 => .call (impl_Saturate.told (wr (t1 + t2))) fun t3 => .ret t3
def tree : X → Tr X A := fun _ => .fail
def f (a0 a1 : Int) : Option A := (begin a0 a1).run (lp tree)
def Q : Plan C := { PL with cuts := [], ords := [], weak := [] }
theorem e : CutEq Pg C Q Tryz.f187 0 id st v o tree := fun J K x => by cases x
theorem b (a0 a1 : Int) : BegEq Pg C Q Tryz.f187 0 id st v o (S a0 a1) (begin a0 a1) := fun J K => by kernel_rfl
def told (a0 a1 : Int) : YtobfemcobakeoaaGreatEv.Told A := ⟨f a0 a1, fun r => SoundCall Pg C 187 (S a0 a1) 0 (v r) (o r), fun r h => soundCall_of_tree G mixed Q Tryz.func187 rfl (of_decide_eq_true (by kernel_rfl)) (by rfl) id st v o (fun _ => rfl) tree e (begin a0 a1) (b a0 a1) h⟩
end impl_AddValues
/-! #### loop.example/g00983/impl.SubValues (188) -/
namespace impl_SubValues
def S (a0 a1 : Int) : List (PV U) := YtobfemcobakeoaaGreatEv.start C 11 [.int .i64 a0, .int .i64 a1] []
abbrev X := Empty
def id : X → Nat := fun _ => 0
def st : X → List (PV U) := fun _ => []
def begin (a0 a1 : Int) : Tr X A :=
 .call (impl_Saturate.told a0) fun t1 => .call (impl_Saturate.told a1) fun t2 => .call (impl_Saturate.told (wr (t1 - t2))) fun t3 => .ret t3
def tree : X → Tr X A := fun _ => .fail
def f (a0 a1 : Int) : Option A := (begin a0 a1).run (lp tree)
def Q : Plan C := { PL with cuts := [], ords := [], weak := [] }
theorem e : CutEq Pg C Q Tryz.f188 0 id st v o tree := fun J K x => by cases x
theorem b (a0 a1 : Int) : BegEq Pg C Q Tryz.f188 0 id st v o (S a0 a1) (begin a0 a1) := fun J K => by kernel_rfl
def told (a0 a1 : Int) : YtobfemcobakeoaaGreatEv.Told A := ⟨f a0 a1, fun r => SoundCall Pg C 188 (S a0 a1) 0 (v r) (o r), fun r h => soundCall_of_tree G mixed Q Tryz.func188 rfl (of_decide_eq_true (by kernel_rfl)) (by rfl) id st v o (fun _ => rfl) tree e (begin a0 a1) (b a0 a1) h⟩
end impl_SubValues
/-! #### loop.example/g00983/impl.MulValues (189) -/
namespace impl_MulValues
def S (a0 a1 : Int) : List (PV U) := YtobfemcobakeoaaGreatEv.start C 11 [.int .i64 a0, .int .i64 a1] []
abbrev X := Empty
def id : X → Nat := fun _ => 0
def st : X → List (PV U) := fun _ => []
def begin (a0 a1 : Int) : Tr X A :=
 .call (impl_Saturate.told a0) fun t1 => .call (impl_Saturate.told a1) fun t2 => .call (impl_Saturate.told (wr (t1 * t2))) fun t3 => .ret t3
def tree : X → Tr X A := fun _ => .fail
def f (a0 a1 : Int) : Option A := (begin a0 a1).run (lp tree)
def Q : Plan C := { PL with cuts := [], ords := [], weak := [] }
theorem e : CutEq Pg C Q Tryz.f189 0 id st v o tree := fun J K x => by cases x
theorem b (a0 a1 : Int) : BegEq Pg C Q Tryz.f189 0 id st v o (S a0 a1) (begin a0 a1) := fun J K => by kernel_rfl
def told (a0 a1 : Int) : YtobfemcobakeoaaGreatEv.Told A := ⟨f a0 a1, fun r => SoundCall Pg C 189 (S a0 a1) 0 (v r) (o r), fun r h => soundCall_of_tree G mixed Q Tryz.func189 rfl (of_decide_eq_true (by kernel_rfl)) (by rfl) id st v o (fun _ => rfl) tree e (begin a0 a1) (b a0 a1) h⟩
end impl_MulValues
/-! #### loop.example/g00983/impl.bit (190) -/
namespace impl_bit
def S (a0 : Bool) : List (PV U) := YtobfemcobakeoaaGreatEv.start C 4 [.bool a0] []
abbrev X := Empty
def id : X → Nat := fun _ => 0
def st : X → List (PV U) := fun _ => []
def begin (a0 : Bool) : Tr X A :=
 .ite a0
  (.ret ((1 : Int)))
  (.ret ((0 : Int)))
def tree : X → Tr X A := fun _ => .fail
def f (a0 : Bool) : Option A := (begin a0).run (lp tree)
def Q : Plan C := { PL with cuts := [], ords := [], weak := [] }
theorem e : CutEq Pg C Q Tryz.f190 0 id st v o tree := fun J K x => by cases x
theorem b (a0 : Bool) : BegEq Pg C Q Tryz.f190 0 id st v o (S a0) (begin a0) := fun J K => by kernel_rfl
def told (a0 : Bool) : YtobfemcobakeoaaGreatEv.Told A := ⟨f a0, fun r => SoundCall Pg C 190 (S a0) 0 (v r) (o r), fun r h => soundCall_of_tree G mixed Q Tryz.func190 rfl (of_decide_eq_true (by kernel_rfl)) (by rfl) id st v o (fun _ => rfl) tree e (begin a0) (b a0) h⟩
end impl_bit
/-! #### loop.example/g00983/impl.EvalExpr (128) -/
namespace impl_EvalExpr
def S (a0 : List Int) (a1 a2 a3 : Int) : List (PV U) := YtobfemcobakeoaaGreatEv.start C 60 [.sl 3 a0, .agg [.int .i64 a1, .int .i64 a2, .int .i64 a3]] []
abbrev X := Empty
def id : X → Nat := fun _ => 0
def st : X → List (PV U) := fun _ => []
def begin (a0 : List Int) (a1 a2 a3 : Int) : Tr X A :=
 .call (impl_VarsOk.told a0) fun t1 => .ite (!t1)
  (.ret ((0 : Int)))
  (.call (impl_ExprOk.told a1 a2 a3) fun t2 => .ite (!t2)
   (.ret ((0 : Int)))
   (.last (.call (impl_operand.told a0 a2) fun t3 => .last (.call (impl_operand.told a0 a3) fun t4 => .ite (decide (a1 = (1 : Int)))
    (.call (impl_AddValues.told t3 t4) fun t5 => .ret t5)
    (.ite (decide (a1 = (2 : Int)))
     (.call (impl_SubValues.told t3 t4) fun t5 => .ret t5)
     (.ite (decide (a1 = (3 : Int)))
      (.call (impl_MulValues.told t3 t4) fun t5 => .ret t5)
      (.ite (decide (a1 = (4 : Int)))
       (.ret ((if t4 < t3 then t4 else t3)))
       (.ite (decide (a1 = (5 : Int)))
        (.ret ((if t4 > t3 then t4 else t3)))
        (.ite (decide (a1 = (6 : Int)))
         (.call (impl_bit.told (decide (t3 < t4))) fun t5 => .ret t5)
         (.call (impl_bit.told (decide (t3 = t4))) fun t5 => .ret t5))))))))))
def tree : X → Tr X A := fun _ => .fail
def f (a0 : List Int) (a1 a2 a3 : Int) : Option A := (begin a0 a1 a2 a3).run (lp tree)
def Q : Plan C := { PL with cuts := [], ords := [(3, [], (.take 0 [] (.take 1 [] (.take 4 [] (.take 5 [] (.take 2 [0, 1, 4, 5, 6] (.take 6 [0, 1, 2, 3, 4, 5] (.alt 3 (.alt 7 (.take 8 [] (.take 9 [] .done)) .nil) .nil))))))))], weak := [] }
theorem e : CutEq Pg C Q Tryz.f128 0 id st v o tree := fun J K x => by cases x
theorem b (a0 : List Int) (a1 a2 a3 : Int) : BegEq Pg C Q Tryz.f128 0 id st v o (S a0 a1 a2 a3) (begin a0 a1 a2 a3) := fun J K => by kernel_rfl
def told (a0 : List Int) (a1 a2 a3 : Int) : YtobfemcobakeoaaGreatEv.Told A := ⟨f a0 a1 a2 a3, fun r => SoundCall Pg C 128 (S a0 a1 a2 a3) 0 (v r) (o r), fun r h => soundCall_of_tree G mixed Q Tryz.func128 rfl (of_decide_eq_true (by kernel_rfl)) (by rfl) id st v o (fun _ => rfl) tree e (begin a0 a1 a2 a3) (b a0 a1 a2 a3) h⟩
end impl_EvalExpr
/-! #### (*loop.example/g00983/impl.tracer).write (239) -/
namespace impl_tracer_write
def S (a0 a1 : Int) (a2 : List S227) (a3 : List Int) (a4 a5 a6 : Int) (a7 : List Int) (a8 a9 a10 a11 a12 a13 a14 a15 : Bool) (a16 : List Int) : List (PV U) := YtobfemcobakeoaaGreatEv.start C 20 [.ptr 20 0, .int .i64 a0, .int .i64 a1] [.box [.own true 228 a2, .own true 3 a3, .int .i64 a4, .int .i64 a5, .int .i64 a6, .own true 3 a7, .bool a8, .bool a9, .bool a10, .bool a11, .bool a12, .bool a13, .bool a14, .bool a15, .own true 3 a16]]
abbrev X := Empty
def id : X → Nat := fun _ => 0
def st : X → List (PV U) := fun _ => []
def begin (a0 a1 : Int) (a2 : List S227) (a3 : List Int) (a4 a5 a6 : Int) (a7 : List Int) (a8 a9 a10 a11 a12 a13 a14 a15 : Bool) (a16 : List Int) : Tr X A :=
 .need (((List.length a2 : Int) + (List.length ([(⟨(3 : Int), a0, a1⟩ : S227)]) : Int)) * (24 : Nat) ≤ room) (.ret ((a2 ++ [(⟨(3 : Int), a0, a1⟩ : S227)]), a3, a4, a5, a6, a7, a8, a9, a10, a11, a12, a13, a14, a15, a16))
def tree : X → Tr X A := fun _ => .fail
def f (a0 a1 : Int) (a2 : List S227) (a3 : List Int) (a4 a5 a6 : Int) (a7 : List Int) (a8 a9 a10 a11 a12 a13 a14 a15 : Bool) (a16 : List Int) : Option A := (begin a0 a1 a2 a3 a4 a5 a6 a7 a8 a9 a10 a11 a12 a13 a14 a15 a16).run (lp tree)
def Q : Plan C := { PL with cuts := [], ords := [], weak := [] }
theorem e : CutEq Pg C Q Tryz.f239 1 id st v o tree := fun J K x => by cases x
theorem b (a0 a1 : Int) (a2 : List S227) (a3 : List Int) (a4 a5 a6 : Int) (a7 : List Int) (a8 a9 a10 a11 a12 a13 a14 a15 : Bool) (a16 : List Int) : BegEq Pg C Q Tryz.f239 1 id st v o (S a0 a1 a2 a3 a4 a5 a6 a7 a8 a9 a10 a11 a12 a13 a14 a15 a16) (begin a0 a1 a2 a3 a4 a5 a6 a7 a8 a9 a10 a11 a12 a13 a14 a15 a16) := fun J K => by kernel_rfl
def told (a0 a1 : Int) (a2 : List S227) (a3 : List Int) (a4 a5 a6 : Int) (a7 : List Int) (a8 a9 a10 a11 a12 a13 a14 a15 : Bool) (a16 : List Int) : YtobfemcobakeoaaGreatEv.Told A := ⟨f a0 a1 a2 a3 a4 a5 a6 a7 a8 a9 a10 a11 a12 a13 a14 a15 a16, fun r => SoundCall Pg C 239 (S a0 a1 a2 a3 a4 a5 a6 a7 a8 a9 a10 a11 a12 a13 a14 a15 a16) 1 (v r) (o r), fun r h => soundCall_of_tree G mixed Q Tryz.func239 rfl (of_decide_eq_true (by kernel_rfl)) (by rfl) id st v o (fun _ => rfl) tree e (begin a0 a1 a2 a3 a4 a5 a6 a7 a8 a9 a10 a11 a12 a13 a14 a15 a16) (b a0 a1 a2 a3 a4 a5 a6 a7 a8 a9 a10 a11 a12 a13 a14 a15 a16) h⟩
end impl_tracer_write
/-! #### (*loop.example/g00983/impl.tracer).assign (236) -/
namespace impl_tracer_assign
def S (a0 : List Int) (a1 a2 : Int) (a3 : List S227) (a4 : List Int) (a5 a6 a7 : Int) (a8 : List Int) (a9 a10 a11 a12 a13 a14 a15 a16 : Bool) (a17 : List Int) : List (PV U) := YtobfemcobakeoaaGreatEv.start C 85 [.ptr 85 0, .sl 3 a0, .int .i64 a1, .int .i64 a2] [.box [.own true 228 a3, .own true 3 a4, .int .i64 a5, .int .i64 a6, .int .i64 a7, .own true 3 a8, .bool a9, .bool a10, .bool a11, .bool a12, .bool a13, .bool a14, .bool a15, .bool a16, .own true 3 a17]]
inductive X where
 | c1 (x0 x1 : Int) (x2 : List S227) (x3 : List Int) (x4 x5 x6 : Int) (x7 : List Int) (x8 x9 x10 x11 x12 x13 x14 x15 : Bool) (x16 : List Int)
 | c6 (x0 x1 : Int) (x2 : List S227) (x3 : List Int) (x4 x5 x6 : Int) (x7 : List Int) (x8 x9 x10 x11 x12 x13 x14 x15 : Bool) (x16 : List Int)
 | c7 (x0 x1 : Int) (x2 : List S227) (x3 : List Int) (x4 x5 x6 : Int) (x7 : List Int) (x8 x9 x10 x11 x12 x13 x14 x15 : Bool) (x16 : List Int)
def id : X → Nat
 | .c1 .. => 1
 | .c6 .. => 6
 | .c7 .. => 7
def st : X → List (PV U)
 | .c1 x0 x1 x2 x3 x4 x5 x6 x7 x8 x9 x10 x11 x12 x13 x14 x15 x16 => stOf 86 [(0, .ptr 85 0), (2, .int .i64 x0), (3, .int .i64 x1), (85, .box [.own true 228 x2, .own true 3 x3, .int .i64 x4, .int .i64 x5, .int .i64 x6, .own true 3 x7, .bool x8, .bool x9, .bool x10, .bool x11, .bool x12, .bool x13, .bool x14, .bool x15, .own true 3 x16])]
 | .c6 x0 x1 x2 x3 x4 x5 x6 x7 x8 x9 x10 x11 x12 x13 x14 x15 x16 => stOf 86 [(0, .ptr 85 0), (2, .int .i64 x0), (3, .int .i64 x1), (85, .box [.own true 228 x2, .own true 3 x3, .int .i64 x4, .int .i64 x5, .int .i64 x6, .own true 3 x7, .bool x8, .bool x9, .bool x10, .bool x11, .bool x12, .bool x13, .bool x14, .bool x15, .own true 3 x16])]
 | .c7 x0 x1 x2 x3 x4 x5 x6 x7 x8 x9 x10 x11 x12 x13 x14 x15 x16 => stOf 86 [(0, .ptr 85 0), (2, .int .i64 x0), (3, .int .i64 x1), (85, .box [.own true 228 x2, .own true 3 x3, .int .i64 x4, .int .i64 x5, .int .i64 x6, .own true 3 x7, .bool x8, .bool x9, .bool x10, .bool x11, .bool x12, .bool x13, .bool x14, .bool x15, .own true 3 x16])]
def begin (a0 : List Int) (a1 a2 : Int) (a3 : List S227) (a4 : List Int) (a5 a6 a7 : Int) (a8 : List Int) (a9 a10 a11 a12 a13 a14 a15 a16 : Bool) (a17 : List Int) : Tr X A :=
 .call (impl_HasVar.told a0 a1) fun t1 => let u1_0 : Tr X A := (.jump (.c6 a1 a2 a3 a4 a5 a6 a7 a8 a9 a10 a11 a12 a13 a14 a15 a16 a17)); let u1_1 : Tr X A := (.jump (.c1 a1 a2 a3 a4 a5 a6 a7 a8 a9 a10 a11 a12 a13 a14 a15 a16 a17)); .ite t1
  (.ite (decide (a1 = (0 : Int)))
   (.ite (!a9)
    (u1_1)
    (u1_0))
   (.ite (decide (a1 = (1 : Int)))
    (.ite (!a10)
     (u1_1)
     (u1_0))
    (.ite (decide (a1 = (2 : Int)))
     (.ite (!a11)
      (u1_1)
      (u1_0))
     (.ite (decide (a1 = (3 : Int)))
      (.ite (!a12)
       (u1_1)
       (u1_0))
      (.ite (decide (a1 = (4 : Int)))
       (.ite (!a13)
        (u1_1)
        (u1_0))
       (.ite (decide (a1 = (5 : Int)))
        (.ite (!a14)
         (u1_1)
         (u1_0))
        (.ite (decide (a1 = (6 : Int)))
         (.ite (!a15)
          (u1_1)
          (u1_0))
         (.ite (decide (a1 = (7 : Int)))
          (.ite (!a16)
           (u1_1)
           (u1_0))
          (.fail)))))))))
  (u1_0)
def tree : X → Tr X A
 | .c1 x0 x1 x2 x3 x4 x5 x6 x7 x8 x9 x10 x11 x12 x13 x14 x15 x16 =>
 .call (impl_tracer_write.told (wr ((9 : Int) + (wr ((2 : Int) * (List.length x7 : Int))))) x0 x2 x3 x4 x5 x6 x7 x8 x9 x10 x11 x12 x13 x14 x15 x16) fun t1 => .need ((0 : Int) ≤ x0 ∧ x0 < (List.length t1.2.2.2.2.2.2.2.2.2.2.2.2.2.2 : Int)) (.call (impl_tracer_write.told (wr ((wr ((9 : Int) + (wr ((2 : Int) * (List.length x7 : Int))))) + (1 : Int))) (rdI t1.2.2.2.2.2.2.2.2.2.2.2.2.2.2 x0) t1.1 t1.2.1 t1.2.2.1 t1.2.2.2.1 t1.2.2.2.2.1 t1.2.2.2.2.2.1 t1.2.2.2.2.2.2.1 t1.2.2.2.2.2.2.2.1 t1.2.2.2.2.2.2.2.2.1 t1.2.2.2.2.2.2.2.2.2.1 t1.2.2.2.2.2.2.2.2.2.2.1 t1.2.2.2.2.2.2.2.2.2.2.2.1 t1.2.2.2.2.2.2.2.2.2.2.2.2.1 t1.2.2.2.2.2.2.2.2.2.2.2.2.2.1 t1.2.2.2.2.2.2.2.2.2.2.2.2.2.2) fun t2 => .need (((List.length t2.2.2.2.2.2.1 : Int) + (List.length ([x0]) : Int)) * (8 : Nat) ≤ room) (.last (.call (impl_PackControl.told t2.2.2.1 (List.length (t2.2.2.2.2.2.1 ++ [x0]) : Int) t2.2.2.2.1) fun t3 => .last (.call (impl_tracer_write.told (8 : Int) t3 t2.1 t2.2.1 t2.2.2.1 t2.2.2.2.1 t2.2.2.2.2.1 (t2.2.2.2.2.2.1 ++ [x0]) t2.2.2.2.2.2.2.1 t2.2.2.2.2.2.2.2.1 t2.2.2.2.2.2.2.2.2.1 t2.2.2.2.2.2.2.2.2.2.1 t2.2.2.2.2.2.2.2.2.2.2.1 t2.2.2.2.2.2.2.2.2.2.2.2.1 t2.2.2.2.2.2.2.2.2.2.2.2.2.1 t2.2.2.2.2.2.2.2.2.2.2.2.2.2.1 t2.2.2.2.2.2.2.2.2.2.2.2.2.2.2) fun t4 => .jump (.c6 x0 x1 t4.1 t4.2.1 t4.2.2.1 t4.2.2.2.1 t4.2.2.2.2.1 t4.2.2.2.2.2.1 t4.2.2.2.2.2.2.1 t4.2.2.2.2.2.2.2.1 t4.2.2.2.2.2.2.2.2.1 t4.2.2.2.2.2.2.2.2.2.1 t4.2.2.2.2.2.2.2.2.2.2.1 t4.2.2.2.2.2.2.2.2.2.2.2.1 t4.2.2.2.2.2.2.2.2.2.2.2.2.1 t4.2.2.2.2.2.2.2.2.2.2.2.2.2.1 t4.2.2.2.2.2.2.2.2.2.2.2.2.2.2)))))
 | .c6 x0 x1 x2 x3 x4 x5 x6 x7 x8 x9 x10 x11 x12 x13 x14 x15 x16 =>
 .ite (decide (x0 = (0 : Int)))
  (.jump (.c7 x0 x1 x2 x3 x4 x5 x6 x7 true x9 x10 x11 x12 x13 x14 x15 x16))
  (.ite (decide (x0 = (1 : Int)))
   (.jump (.c7 x0 x1 x2 x3 x4 x5 x6 x7 x8 true x10 x11 x12 x13 x14 x15 x16))
   (.ite (decide (x0 = (2 : Int)))
    (.jump (.c7 x0 x1 x2 x3 x4 x5 x6 x7 x8 x9 true x11 x12 x13 x14 x15 x16))
    (.ite (decide (x0 = (3 : Int)))
     (.jump (.c7 x0 x1 x2 x3 x4 x5 x6 x7 x8 x9 x10 true x12 x13 x14 x15 x16))
     (.ite (decide (x0 = (4 : Int)))
      (.jump (.c7 x0 x1 x2 x3 x4 x5 x6 x7 x8 x9 x10 x11 true x13 x14 x15 x16))
      (.ite (decide (x0 = (5 : Int)))
       (.jump (.c7 x0 x1 x2 x3 x4 x5 x6 x7 x8 x9 x10 x11 x12 true x14 x15 x16))
       (.ite (decide (x0 = (6 : Int)))
        (.jump (.c7 x0 x1 x2 x3 x4 x5 x6 x7 x8 x9 x10 x11 x12 x13 true x15 x16))
        (.ite (decide (x0 = (7 : Int)))
         (.jump (.c7 x0 x1 x2 x3 x4 x5 x6 x7 x8 x9 x10 x11 x12 x13 x14 true x16))
         (.fail))))))))
 | .c7 x0 x1 x2 x3 x4 x5 x6 x7 x8 x9 x10 x11 x12 x13 x14 x15 x16 =>
 .need ((0 : Int) ≤ x0 ∧ x0 < (List.length x16 : Int)) (.call (impl_tracer_write.told x0 x1 x2 x3 x4 x5 x6 x7 x8 x9 x10 x11 x12 x13 x14 x15 (List.set x16 (Int.toNat x0) x1)) fun t1 => .ret (t1.1, t1.2.1, t1.2.2.1, t1.2.2.2.1, t1.2.2.2.2.1, t1.2.2.2.2.2.1, t1.2.2.2.2.2.2.1, t1.2.2.2.2.2.2.2.1, t1.2.2.2.2.2.2.2.2.1, t1.2.2.2.2.2.2.2.2.2.1, t1.2.2.2.2.2.2.2.2.2.2.1, t1.2.2.2.2.2.2.2.2.2.2.2.1, t1.2.2.2.2.2.2.2.2.2.2.2.2.1, t1.2.2.2.2.2.2.2.2.2.2.2.2.2.1, t1.2.2.2.2.2.2.2.2.2.2.2.2.2.2))
def f (a0 : List Int) (a1 a2 : Int) (a3 : List S227) (a4 : List Int) (a5 a6 a7 : Int) (a8 : List Int) (a9 a10 a11 a12 a13 a14 a15 a16 : Bool) (a17 : List Int) : Option A := (begin a0 a1 a2 a3 a4 a5 a6 a7 a8 a9 a10 a11 a12 a13 a14 a15 a16 a17).run (lp tree)
def Q : Plan C := { PL with cuts := [(1, [0, 2, 3, 85]), (6, [0, 2, 3, 85]), (7, [0, 2, 3, 85])], ords := [(5, [15], (.take 0 [] (.take 1 [] (.take 2 [] (.take 3 [] (.take 5 [] (.take 6 [] (.take 7 [] (.take 10 [] (.take 11 [] (.take 12 [] (.take 4 [0, 1, 2, 3, 5, 6, 7, 8, 9, 10, 11, 12, 13] (.take 8 [0, 1, 2, 3, 4, 5, 6, 7, 10, 11, 12, 13] (.take 9 [] (.take 13 [0, 1, 2, 3, 4, 5, 6, 7, 8, 9, 10, 11, 12] (.alt 14 (.alt 15 .done .nil) .nil))))))))))))))))], weak := [] }
theorem e : CutEq Pg C Q Tryz.f236 1 id st v o tree := fun J K x => by cases x <;> kernel_rfl
theorem b (a0 : List Int) (a1 a2 : Int) (a3 : List S227) (a4 : List Int) (a5 a6 a7 : Int) (a8 : List Int) (a9 a10 a11 a12 a13 a14 a15 a16 : Bool) (a17 : List Int) : BegEq Pg C Q Tryz.f236 1 id st v o (S a0 a1 a2 a3 a4 a5 a6 a7 a8 a9 a10 a11 a12 a13 a14 a15 a16 a17) (begin a0 a1 a2 a3 a4 a5 a6 a7 a8 a9 a10 a11 a12 a13 a14 a15 a16 a17) := fun J K => by kernel_rfl
def told (a0 : List Int) (a1 a2 : Int) (a3 : List S227) (a4 : List Int) (a5 a6 a7 : Int) (a8 : List Int) (a9 a10 a11 a12 a13 a14 a15 a16 : Bool) (a17 : List Int) : YtobfemcobakeoaaGreatEv.Told A := ⟨f a0 a1 a2 a3 a4 a5 a6 a7 a8 a9 a10 a11 a12 a13 a14 a15 a16 a17, fun r => SoundCall Pg C 236 (S a0 a1 a2 a3 a4 a5 a6 a7 a8 a9 a10 a11 a12 a13 a14 a15 a16 a17) 1 (v r) (o r), fun r h => soundCall_of_tree G mixed Q Tryz.func236 rfl (of_decide_eq_true (by kernel_rfl)) (by rfl) id st v o (fun _ => rfl) tree e (begin a0 a1 a2 a3 a4 a5 a6 a7 a8 a9 a10 a11 a12 a13 a14 a15 a16 a17) (b a0 a1 a2 a3 a4 a5 a6 a7 a8 a9 a10 a11 a12 a13 a14 a15 a16 a17) h⟩
end impl_tracer_assign
/-! #### loop.example/g00983/impl.ReadSensor (237) -/
namespace impl_ReadSensor
def S (a0 : List Int) (a1 a2 : Int) : List (PV U) := YtobfemcobakeoaaGreatEv.start C 29 [.sl 3 a0, .int .i64 a1, .int .i64 a2] []
abbrev X := Empty
def id : X → Nat := fun _ => 0
def st : X → List (PV U) := fun _ => []
def begin (a0 : List Int) (a1 a2 : Int) : Tr X A :=
 .ite (decide ((List.length a0 : Int) = (0 : Int)))
  (.ret ((0 : Int)))
  (.call (impl_isSensor.told a1) fun t1 => .ite (!t1)
   (.ret ((0 : Int)))
   (.ite (decide (a2 < (0 : Int)))
    (.ret ((0 : Int)))
    (.need ((List.length a0 : Int) ≠ 0) (.need ((0 : Int) ≤ (Int.tmod a2 (List.length a0 : Int)) ∧ (Int.tmod a2 (List.length a0 : Int)) < (List.length a0 : Int)) (.call (impl_AddValues.told (rdI a0 (Int.tmod a2 (List.length a0 : Int))) (wr ((100 : Int) * a1))) fun t2 => .ret t2)))))
def tree : X → Tr X A := fun _ => .fail
def f (a0 : List Int) (a1 a2 : Int) : Option A := (begin a0 a1 a2).run (lp tree)
def Q : Plan C := { PL with cuts := [], ords := [], weak := [] }
theorem e : CutEq Pg C Q Tryz.f237 0 id st v o tree := fun J K x => by cases x
theorem b (a0 : List Int) (a1 a2 : Int) : BegEq Pg C Q Tryz.f237 0 id st v o (S a0 a1 a2) (begin a0 a1 a2) := fun J K => by kernel_rfl
def told (a0 : List Int) (a1 a2 : Int) : YtobfemcobakeoaaGreatEv.Told A := ⟨f a0 a1 a2, fun r => SoundCall Pg C 237 (S a0 a1 a2) 0 (v r) (o r), fun r h => soundCall_of_tree G mixed Q Tryz.func237 rfl (of_decide_eq_true (by kernel_rfl)) (by rfl) id st v o (fun _ => rfl) tree e (begin a0 a1 a2) (b a0 a1 a2) h⟩
end impl_ReadSensor
/-! #### (*loop.example/g00983/impl.tracer).send (238) -/
namespace impl_tracer_send
def S (a0 : Int) (a1 : List S227) (a2 : List Int) (a3 a4 a5 : Int) (a6 : List Int) (a7 a8 a9 a10 a11 a12 a13 a14 : Bool) (a15 : List Int) : List (PV U) := YtobfemcobakeoaaGreatEv.start C 28 [.ptr 28 0, .int .i64 a0] [.box [.own true 228 a1, .own true 3 a2, .int .i64 a3, .int .i64 a4, .int .i64 a5, .own true 3 a6, .bool a7, .bool a8, .bool a9, .bool a10, .bool a11, .bool a12, .bool a13, .bool a14, .own true 3 a15]]
abbrev X := Empty
def id : X → Nat := fun _ => 0
def st : X → List (PV U) := fun _ => []
def begin (a0 : Int) (a1 : List S227) (a2 : List Int) (a3 a4 a5 : Int) (a6 : List Int) (a7 a8 a9 a10 a11 a12 a13 a14 : Bool) (a15 : List Int) : Tr X A :=
 .ite (decide ((wr (a4 + a5)) < (24 : Int)))
  (.call (impl_tracer_write.told (wr ((25 : Int) + (wr (a4 + a5)))) a0 a1 a2 a3 a4 a5 a6 a7 a8 a9 a10 a11 a12 a13 a14 a15) fun t1 => .ret (t1.1, t1.2.1, t1.2.2.1, t1.2.2.2.1, (wr (t1.2.2.2.2.1 + (1 : Int))), t1.2.2.2.2.2.1, t1.2.2.2.2.2.2.1, t1.2.2.2.2.2.2.2.1, t1.2.2.2.2.2.2.2.2.1, t1.2.2.2.2.2.2.2.2.2.1, t1.2.2.2.2.2.2.2.2.2.2.1, t1.2.2.2.2.2.2.2.2.2.2.2.1, t1.2.2.2.2.2.2.2.2.2.2.2.2.1, t1.2.2.2.2.2.2.2.2.2.2.2.2.2.1, t1.2.2.2.2.2.2.2.2.2.2.2.2.2.2))
  (.ret (a1, a2, a3, a4, (wr (a5 + (1 : Int))), a6, a7, a8, a9, a10, a11, a12, a13, a14, a15))
def tree : X → Tr X A := fun _ => .fail
def f (a0 : Int) (a1 : List S227) (a2 : List Int) (a3 a4 a5 : Int) (a6 : List Int) (a7 a8 a9 a10 a11 a12 a13 a14 : Bool) (a15 : List Int) : Option A := (begin a0 a1 a2 a3 a4 a5 a6 a7 a8 a9 a10 a11 a12 a13 a14 a15).run (lp tree)
def Q : Plan C := { PL with cuts := [], ords := [(0, [], (.take 0 [] (.take 1 [] (.take 2 [] (.take 4 [] (.take 5 [] (.take 6 [] (.take 3 [0, 1, 2, 4, 5, 6, 7] (.take 7 [0, 1, 2, 3, 4, 5, 6] (.take 8 [] (.take 9 [] .done)))))))))))], weak := [] }
theorem e : CutEq Pg C Q Tryz.f238 1 id st v o tree := fun J K x => by cases x
theorem b (a0 : Int) (a1 : List S227) (a2 : List Int) (a3 a4 a5 : Int) (a6 : List Int) (a7 a8 a9 a10 a11 a12 a13 a14 : Bool) (a15 : List Int) : BegEq Pg C Q Tryz.f238 1 id st v o (S a0 a1 a2 a3 a4 a5 a6 a7 a8 a9 a10 a11 a12 a13 a14 a15) (begin a0 a1 a2 a3 a4 a5 a6 a7 a8 a9 a10 a11 a12 a13 a14 a15) := fun J K => by kernel_rfl
def told (a0 : Int) (a1 : List S227) (a2 : List Int) (a3 a4 a5 : Int) (a6 : List Int) (a7 a8 a9 a10 a11 a12 a13 a14 : Bool) (a15 : List Int) : YtobfemcobakeoaaGreatEv.Told A := ⟨f a0 a1 a2 a3 a4 a5 a6 a7 a8 a9 a10 a11 a12 a13 a14 a15, fun r => SoundCall Pg C 238 (S a0 a1 a2 a3 a4 a5 a6 a7 a8 a9 a10 a11 a12 a13 a14 a15) 1 (v r) (o r), fun r h => soundCall_of_tree G mixed Q Tryz.func238 rfl (of_decide_eq_true (by kernel_rfl)) (by rfl) id st v o (fun _ => rfl) tree e (begin a0 a1 a2 a3 a4 a5 a6 a7 a8 a9 a10 a11 a12 a13 a14 a15) (b a0 a1 a2 a3 a4 a5 a6 a7 a8 a9 a10 a11 a12 a13 a14 a15) h⟩
end impl_tracer_send
end
end Go.Proofs.YtobfemcobakeoaaGreat.Ev
