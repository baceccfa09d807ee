/- Functions as trees, with their contracts. No conditions. -/
import Derived.Test.YtpndhhellhfegaaDoorAEvH
namespace Go.Proofs.YtpndhhellhfegaaDoor.Ev
open Go.Proofs.YtpndhhellhfegaaDoorEv Go.RowKit
set_option linter.unusedVariables false
set_option maxRecDepth 100000
noncomputable section
/-! #### loop.example/g00983/laws.big (4) -/
namespace laws_big
def S (a0 : List Int) : List (PV U) := YtpndhhellhfegaaDoorEv.start C 6 [.sl 5 a0] []
def begin (a0 : List Int) : Tr Empty A :=
 .ret ((decide ((List.length a0 : Int) > (1048576 : Int))))
def f (a0 : List Int) : Option A := (begin a0).run (lp noTree)
def told (a0 : List Int) : YtpndhhellhfegaaDoorEv.Told A := ⟨f a0, fun r => SoundCall Pg C 4 (S a0) 0 (v r) (o r), fun r h => sdFlat (Q := PL) v o Tryd.func4 rfl (of_decide_eq_true (by kernel_rfl)) (by rfl) (fun _ => rfl) (fun J K => by kernel_rfl) h⟩
end laws_big
/-! #### loop.example/g00983/spec.l01New (8) -/
namespace spec_l01New
def S (a0 : List Int) : List (PV U) := YtpndhhellhfegaaDoorEv.start C 32 [.sl 5 a0] []
inductive X where
 | c3 (x0 : List Int) (x1 x2 : Int)
def id : X → Nat
 | .c3 .. => 3
def st : X → List (PV U)
 | .c3 x0 x1 x2 => stOf 32 [(0, .sl 5 x0), (3, .int .i64 x1), (4, .int .i64 x2)]
def begin (a0 : List Int) : Tr X A :=
 .jump (.c3 a0 (wr ((98347 : Int) + (List.length a0 : Int))) (0 : Int))
def tree : X → Tr X A
 | .c3 x0 x1 x2 =>
 .ite (decide (x2 < (List.length x0 : Int)))
  (.ite (decide (x2 < (4000 : Int)))
   (.need ((0 : Int) ≤ x2 ∧ x2 < (List.length x0 : Int)) (.val ((bitAnd .i64 (wr ((wr ((wr (x1 * (131 : Int))) + (wr (rdI x0 x2)))) + (7 : Int))) (1073741823 : Int)) : Int) fun v1 => .jump (.c3 x0 v1 (wr (x2 + (1 : Int))))))
   (.ret (x0, (0 : Int), x1)))
  (.ret (x0, (0 : Int), x1))
def f (a0 : List Int) : Option A := (begin a0).run (lp tree)
def Q : Plan C := { PL with cuts := [(3, [0, 3, 4])] }
theorem e : CutEq Pg C Q Tryd.f8 0 id st v o tree := fun J K x => by cases x <;> kernel_rfl
def told (a0 : List Int) : YtpndhhellhfegaaDoorEv.Told A := ⟨f a0, fun r => SoundCall Pg C 8 (S a0) 0 (v r) (o r), fun r h => sdCut v o Tryd.func8 rfl (of_decide_eq_true (by kernel_rfl)) (by rfl) (fun _ => rfl) e (fun J K => by kernel_rfl) h⟩
end spec_l01New
/-! #### loop.example/g00983/spec.l01Byte (45) -/
namespace spec_l01Byte
def S (a0 : List Int) (a1 a2 : Int) : List (PV U) := YtpndhhellhfegaaDoorEv.start C 58 [.ptr 58 0] [.box [.sl 5 a0, .int .i64 a1, .int .i64 a2]]
inductive X where
 | c3 (x0 : Int) (x1 : List Int) (x2 x3 : Int)
def id : X → Nat
 | .c3 .. => 3
def st : X → List (PV U)
 | .c3 x0 x1 x2 x3 => stOf 59 [(0, .ptr 58 0), (3, .int .i64 x0), (58, .box [.sl 5 x1, .int .i64 x2, .int .i64 x3])]
def begin (a0 : List Int) (a1 a2 : Int) : Tr X A :=
 let u0_0 : Tr X A := (.need ((0 : Int) ≤ (33 : Int)) (.val ((shiftDown .i64 (wr ((wr (a2 * (6364136223846793005 : Int))) + (1442695040888963407 : Int))) (33 : Int)) : Int) fun v1 => .last (.need ((0 : Int) ≤ (45 : Int)) (.val ((shiftDown .i64 (wr ((wr (a2 * (6364136223846793005 : Int))) + (1442695040888963407 : Int))) (45 : Int)) : Int) fun v2 => .jump (.c3 (bitAnd .i64 (bitXor .i64 v1 v2) (255 : Int)) a0 a1 (wr ((wr (a2 * (6364136223846793005 : Int))) + (1442695040888963407 : Int)))))))); let u0_1 : Tr X A := (.last (.need ((0 : Int) ≤ (45 : Int)) (.val ((shiftDown .i64 (wr ((wr (a2 * (6364136223846793005 : Int))) + (1442695040888963407 : Int))) (45 : Int)) : Int) fun v1 => .last (.need ((0 : Int) ≤ (33 : Int)) (.val ((shiftDown .i64 (wr ((wr (a2 * (6364136223846793005 : Int))) + (1442695040888963407 : Int))) (33 : Int)) : Int) fun v2 => .jump (.c3 (bitAnd .i64 (bitXor .i64 v2 v1) (255 : Int)) a0 a1 (wr ((wr (a2 * (6364136223846793005 : Int))) + (1442695040888963407 : Int))))))))); let u0_2 : Tr X A := (.both (u0_0) (u0_1)); .both (.both (u0_0)
   (.last (u0_2)))
  (.last (.both (u0_2)
   (u0_1)))
def tree : X → Tr X A
 | .c3 x0 x1 x2 x3 =>
 .ite (decide (x2 < (List.length x1 : Int)))
  (.need ((0 : Int) ≤ x2 ∧ x2 < (List.length x1 : Int)) (.last (.ret ((bitAnd .i64 (wr (x0 + (wr (rdI x1 x2)))) (255 : Int)), x1, (wr (x2 + (1 : Int))), x3))))
  (.ret (x0, x1, x2, x3))
def f (a0 : List Int) (a1 a2 : Int) : Option A := (begin a0 a1 a2).run (lp tree)
def Q : Plan C := { PL with cuts := [(3, [0, 3, 58])], ords := [(2, [4, 9], (.take 0 [] (.take 1 [] (.take 2 [] (.take 5 [] (.take 6 [] (.take 7 [] (.alt 3 (.alt 4 (.take 8 [0, 1, 2, 3, 4, 5, 6, 7] (.alt 9 (.take 10 [] (.take 11 [] (.take 12 [] .done))) .nil)) (.alt 8 (.alt 4 (.alt 9 (.take 10 [] (.take 11 [] (.take 12 [] .done))) .nil) (.alt 9 (.alt 4 (.take 10 [] (.take 11 [] (.take 12 [] .done))) .nil) .nil)) .nil)) (.alt 8 (.alt 3 (.alt 4 (.alt 9 (.take 10 [] (.take 11 [] (.take 12 [] .done))) .nil) (.alt 9 (.alt 4 (.take 10 [] (.take 11 [] (.take 12 [] .done))) .nil) .nil)) (.alt 9 (.take 3 [0, 1, 2, 5, 6, 7, 8, 9] (.alt 4 (.take 10 [] (.take 11 [] (.take 12 [] .done))) .nil)) .nil)) .nil))))))))), (3, [], (.take 0 [] (.take 1 [] (.take 2 [] (.take 4 [] (.take 5 [] (.take 6 [] (.take 3 [0, 1, 2, 4, 5, 6, 7, 8] (.take 7 [0, 1, 2, 3, 4, 5, 6] (.take 8 [] (.take 9 [] .done))))))))))), (4, [11], (.take 0 [] (.take 1 [] (.take 2 [] (.take 3 [] (.take 5 [] (.take 6 [] (.take 7 [] (.take 4 [0, 1, 2, 3, 5, 6, 7, 8] (.take 8 [0, 1, 2, 3, 4, 5, 6, 7] (.take 9 [] (.take 10 [0, 1, 2, 3, 4, 5, 6, 7, 8, 9] (.alt 11 (.take 12 [] (.take 13 [] (.take 14 [] .done))) .nil)))))))))))))] }
theorem e : CutEq Pg C Q Tryd.f45 1 id st v o tree := fun J K x => by cases x <;> kernel_rfl
def told (a0 : List Int) (a1 a2 : Int) : YtpndhhellhfegaaDoorEv.Told A := ⟨f a0 a1 a2, fun r => SoundCall Pg C 45 (S a0 a1 a2) 1 (v r) (o r), fun r h => sdCut v o Tryd.func45 rfl (of_decide_eq_true (by kernel_rfl)) (by rfl) (fun _ => rfl) e (fun J K => by kernel_rfl) h⟩
end spec_l01Byte
/-! #### loop.example/g00983/spec.l01Below (22) -/
namespace spec_l01Below
def S (a0 : Int) (a1 : List Int) (a2 a3 : Int) : List (PV U) := YtpndhhellhfegaaDoorEv.start C 37 [.ptr 37 0, .int .i64 a0] [.box [.sl 5 a1, .int .i64 a2, .int .i64 a3]]
def begin (a0 : Int) (a1 : List Int) (a2 a3 : Int) : Tr Empty A :=
 .ite (decide (a0 ≤ (0 : Int)))
  (.ret ((0 : Int), a1, a2, a3))
  (.ite (decide (a0 ≤ (256 : Int)))
   (.call (spec_l01Byte.told a1 a2 a3) fun t1 => .need (a0 ≠ 0) (.ret ((Int.tmod t1.1 a0), t1.2.1, t1.2.2.1, t1.2.2.2)))
   (.call (spec_l01Byte.told a1 a2 a3) fun t1 => .call (spec_l01Byte.told t1.2.1 t1.2.2.1 t1.2.2.2) fun t2 => .call (spec_l01Byte.told t2.2.1 t2.2.2.1 t2.2.2.2) fun t3 => .call (spec_l01Byte.told t3.2.1 t3.2.2.1 t3.2.2.2) fun t4 => .val ((wr ((wr ((wr (t1.1 * (16777216 : Int))) + (wr (t2.1 * (65536 : Int))))) + (wr (t3.1 * (256 : Int))))) : Int) fun v5 => .need (a0 ≠ 0) (.ret ((Int.tmod (wr (v5 + t4.1)) a0), t4.2.1, t4.2.2.1, t4.2.2.2))))
def f (a0 : Int) (a1 : List Int) (a2 a3 : Int) : Option A := (begin a0 a1 a2 a3).run (lp noTree)
def told (a0 : Int) (a1 : List Int) (a2 a3 : Int) : YtpndhhellhfegaaDoorEv.Told A := ⟨f a0 a1 a2 a3, fun r => SoundCall Pg C 22 (S a0 a1 a2 a3) 1 (v r) (o r), fun r h => sdFlat (Q := PL) v o Tryd.func22 rfl (of_decide_eq_true (by kernel_rfl)) (by rfl) (fun _ => rfl) (fun J K => by kernel_rfl) h⟩
end spec_l01Below
/-! #### loop.example/g00983/spec.l01Once (64) -/
namespace spec_l01Once
def S (a0 : Int) (a1 : List Int) (a2 a3 : Int) : List (PV U) := YtpndhhellhfegaaDoorEv.start C 9 [.ptr 9 0, .int .i64 a0] [.box [.sl 5 a1, .int .i64 a2, .int .i64 a3]]
def begin (a0 : Int) (a1 : List Int) (a2 a3 : Int) : Tr Empty A :=
 .call (spec_l01Below.told a0 a1 a2 a3) fun t1 => .ret ((decide (t1.1 = (0 : Int))), t1.2.1, t1.2.2.1, t1.2.2.2)
def f (a0 : Int) (a1 : List Int) (a2 a3 : Int) : Option A := (begin a0 a1 a2 a3).run (lp noTree)
def told (a0 : Int) (a1 : List Int) (a2 a3 : Int) : YtpndhhellhfegaaDoorEv.Told A := ⟨f a0 a1 a2 a3, fun r => SoundCall Pg C 64 (S a0 a1 a2 a3) 1 (v r) (o r), fun r h => sdFlat (Q := PL) v o Tryd.func64 rfl (of_decide_eq_true (by kernel_rfl)) (by rfl) (fun _ => rfl) (fun J K => by kernel_rfl) h⟩
end spec_l01Once
/-! #### loop.example/g00983/spec.l01PickInt (30) -/
namespace spec_l01PickInt
def S (a0 a1 : List Int) (a2 a3 : Int) : List (PV U) := YtpndhhellhfegaaDoorEv.start C 12 [.ptr 12 0, .sl 3 a0] [.box [.sl 5 a1, .int .i64 a2, .int .i64 a3]]
def begin (a0 a1 : List Int) (a2 a3 : Int) : Tr Empty A :=
 .call (spec_l01Below.told (List.length a0 : Int) a1 a2 a3) fun t1 => .need ((0 : Int) ≤ t1.1 ∧ t1.1 < (List.length a0 : Int)) (.ret ((rdI a0 t1.1), t1.2.1, t1.2.2.1, t1.2.2.2))
def f (a0 a1 : List Int) (a2 a3 : Int) : Option A := (begin a0 a1 a2 a3).run (lp noTree)
def told (a0 a1 : List Int) (a2 a3 : Int) : YtpndhhellhfegaaDoorEv.Told A := ⟨f a0 a1 a2 a3, fun r => SoundCall Pg C 30 (S a0 a1 a2 a3) 1 (v r) (o r), fun r h => sdFlat (Q := PL) v o Tryd.func30 rfl (of_decide_eq_true (by kernel_rfl)) (by rfl) (fun _ => rfl) (fun J K => by kernel_rfl) h⟩
end spec_l01PickInt
/-! #### loop.example/g00983/spec.l03Operand (47) -/
namespace spec_l03Operand
def S (a0 : List Int) (a1 a2 : Int) : List (PV U) := YtpndhhellhfegaaDoorEv.start C 11 [.ptr 11 0] [.box [.sl 5 a0, .int .i64 a1, .int .i64 a2]]
def begin (a0 : List Int) (a1 a2 : Int) : Tr Empty A :=
 .call (spec_l01Once.told (2 : Int) a0 a1 a2) fun t1 => .ite t1.1
  (.call (spec_l01Below.told (5 : Int) t1.2.1 t1.2.2.1 t1.2.2.2) fun t2 => .ret ((wr ((-1 : Int) - t2.1)), t2.2.1, t2.2.2.1, t2.2.2.2))
  (.call (spec_l01PickInt.told ([(0 : Int), (1 : Int), (2 : Int), (3 : Int), (10 : Int), (999 : Int)]) t1.2.1 t1.2.2.1 t1.2.2.2) fun t2 => .ret (t2.1, t2.2.1, t2.2.2.1, t2.2.2.2))
def f (a0 : List Int) (a1 a2 : Int) : Option A := (begin a0 a1 a2).run (lp noTree)
def told (a0 : List Int) (a1 a2 : Int) : YtpndhhellhfegaaDoorEv.Told A := ⟨f a0 a1 a2, fun r => SoundCall Pg C 47 (S a0 a1 a2) 1 (v r) (o r), fun r h => sdFlat (Q := PL) v o Tryd.func47 rfl (of_decide_eq_true (by kernel_rfl)) (by rfl) (fun _ => rfl) (fun J K => by kernel_rfl) h⟩
end spec_l03Operand
/-! #### loop.example/g00983/spec.l03Expr (24) -/
namespace spec_l03Expr
def S (a0 : List Int) (a1 a2 : Int) : List (PV U) := YtpndhhellhfegaaDoorEv.start C 11 [.ptr 11 0] [.box [.sl 5 a0, .int .i64 a1, .int .i64 a2]]
def begin (a0 : List Int) (a1 a2 : Int) : Tr Empty A :=
 .call (spec_l01Below.told (7 : Int) a0 a1 a2) fun t1 => .call (spec_l03Operand.told t1.2.1 t1.2.2.1 t1.2.2.2) fun t2 => .call (spec_l03Operand.told t2.2.1 t2.2.2.1 t2.2.2.2) fun t3 => .ret ((wr ((1 : Int) + t1.1)), t2.1, t3.1, t3.2.1, t3.2.2.1, t3.2.2.2)
def f (a0 : List Int) (a1 a2 : Int) : Option A := (begin a0 a1 a2).run (lp noTree)
def told (a0 : List Int) (a1 a2 : Int) : YtpndhhellhfegaaDoorEv.Told A := ⟨f a0 a1 a2, fun r => SoundCall Pg C 24 (S a0 a1 a2) 1 (v r) (o r), fun r h => sdFlat (Q := PL) v o Tryd.func24 rfl (of_decide_eq_true (by kernel_rfl)) (by rfl) (fun _ => rfl) (fun J K => by kernel_rfl) h⟩
end spec_l03Expr
/-! #### loop.example/g00983/spec.l04Stmt (65) -/
namespace spec_l04Stmt
def S (a0 : List Int) (a1 a2 : Int) : List (PV U) := YtpndhhellhfegaaDoorEv.start C 23 [.ptr 23 0] [.box [.sl 5 a0, .int .i64 a1, .int .i64 a2]]
def begin (a0 : List Int) (a1 a2 : Int) : Tr Empty A :=
 .call (spec_l01Below.told (7 : Int) a0 a1 a2) fun t1 => let u1_0 : Tr Empty A := (.call (spec_l01Below.told (5 : Int) t1.2.1 t1.2.2.1 t1.2.2.2) fun t2 => .call (spec_l01Below.told (4 : Int) t2.2.1 t2.2.2.1 t2.2.2.2) fun t3 => .ret ((2 : Int), t2.1, t3.1, (0 : Int), (0 : Int), (0 : Int), t3.2.1, t3.2.2.1, t3.2.2.2)); let u1_1 : Tr Empty A := (.ite (decide (t1.1 = (2 : Int))) (.call (spec_l03Expr.told t1.2.1 t1.2.2.1 t1.2.2.2) fun t2 => .ret ((3 : Int), (0 : Int), (0 : Int), t2.1, t2.2.1, t2.2.2.1, t2.2.2.2.1, t2.2.2.2.2.1, t2.2.2.2.2.2)) (.call (spec_l01Below.told (5 : Int) t1.2.1 t1.2.2.1 t1.2.2.2) fun t2 => .call (spec_l03Expr.told t2.2.1 t2.2.2.1 t2.2.2.2) fun t3 => .ret ((1 : Int), t2.1, (0 : Int), t3.1, t3.2.1, t3.2.2.1, t3.2.2.2.1, t3.2.2.2.2.1, t3.2.2.2.2.2))); .ite (decide (t1.1 = (0 : Int)))
  (.ite (decide (t1.1 = (0 : Int)))
   (u1_0)
   (u1_1))
  (.ite (decide (t1.1 = (1 : Int)))
   (u1_0)
   (u1_1))
def f (a0 : List Int) (a1 a2 : Int) : Option A := (begin a0 a1 a2).run (lp noTree)
def told (a0 : List Int) (a1 a2 : Int) : YtpndhhellhfegaaDoorEv.Told A := ⟨f a0 a1 a2, fun r => SoundCall Pg C 65 (S a0 a1 a2) 1 (v r) (o r), fun r h => sdFlat (Q := PL) v o Tryd.func65 rfl (of_decide_eq_true (by kernel_rfl)) (by rfl) (fun _ => rfl) (fun J K => by kernel_rfl) h⟩
end spec_l04Stmt
/-! #### loop.example/g00983/spec.l05Block (46) -/
namespace spec_l05Block
def S (a0 a1 : Int) (a2 : List Int) (a3 a4 : Int) : List (PV U) := YtpndhhellhfegaaDoorEv.start C 59 [.ptr 59 0, .int .i64 a0, .int .i64 a1] [.box [.sl 5 a2, .int .i64 a3, .int .i64 a4]]
abbrev I := Int × Int × (List Int) × Int × Int
abbrev K : I → A → Prop := fun i_ r => SoundCall Pg C 46 (S i_.1 i_.2.1 i_.2.2.1 i_.2.2.2.1 i_.2.2.2.2) 1 (v r) (o r)
inductive X where
 | c3 (x0 x1 : Int) (x2 : List S115) (x3 : Int) (x4 : List Int) (x5 x6 : Int)
def id : X → Nat
 | .c3 .. => 3
def st : X → List (PV U)
 | .c3 x0 x1 x2 x3 x4 x5 x6 => stOf 60 [(0, .ptr 59 0), (1, .int .i64 x0), (2, .int .i64 x1), (7, .own true 116 x2), (8, .int .i64 x3), (59, .box [.sl 5 x4, .int .i64 x5, .int .i64 x6])]
def begin (self_ : Self I A K) (a0 a1 : Int) (a2 : List Int) (a3 a4 : Int) : Tr X A :=
 .jump (.c3 a0 a1 ([] : List S115) (0 : Int) a2 a3 a4)
def tree (self_ : Self I A K) : X → Tr X A
 | .c3 x0 x1 x2 x3 x4 x5 x6 =>
 let u0_0 : Tr X A := (.call (spec_l04Stmt.told x4 x5 x6) fun t1 => .val ([(⟨t1.1, t1.2.1, t1.2.2.1, (⟨t1.2.2.2.1, t1.2.2.2.2.1, t1.2.2.2.2.2.1⟩ : S72)⟩ : S115)] : List S115) fun v2 => .need (((List.length x2 : Int) + (List.length v2 : Int)) * (48 : Nat) ≤ room) (.jump (.c3 x0 x1 (x2 ++ v2) (wr (x3 + (1 : Int))) t1.2.2.2.2.2.2.1 t1.2.2.2.2.2.2.2.1 t1.2.2.2.2.2.2.2.2))); .ite (decide (x3 < x0))
  (.ite (decide (x1 < (2 : Int)))
   (.ite (decide ((List.length x2 : Int) < (6 : Int)))
    (.call (spec_l01Once.told (5 : Int) x4 x5 x6) fun t1 => .ite t1.1
     (.call (spec_l01Below.told (3 : Int) t1.2.1 t1.2.2.1 t1.2.2.2) fun t2 => .call (spec_l01Once.told (2 : Int) t2.2.1 t2.2.2.1 t2.2.2.2) fun t3 => .ite t3.1
      (.call (spec_l03Expr.told t3.2.1 t3.2.2.1 t3.2.2.2) fun t4 => .need (((List.length x2 : Int) + (List.length ([(⟨(4 : Int), (0 : Int), (0 : Int), (⟨t4.1, t4.2.1, t4.2.2.1⟩ : S72)⟩ : S115)]) : Int)) * (48 : Nat) ≤ room) (.call (spec_l01Below.told (2 : Int) t4.2.2.2.1 t4.2.2.2.2.1 t4.2.2.2.2.2) fun t5 => .call (self_.told ((wr ((1 : Int) + t5.1)), (wr (x1 + (1 : Int))), t5.2.1, t5.2.2.1, t5.2.2.2)) fun t6 => .need (((List.length (x2 ++ [(⟨(4 : Int), (0 : Int), (0 : Int), (⟨t4.1, t4.2.1, t4.2.2.1⟩ : S72)⟩ : S115)]) : Int) + (List.length t6.1 : Int)) * (48 : Nat) ≤ room) (.val (((x2 ++ [(⟨(4 : Int), (0 : Int), (0 : Int), (⟨t4.1, t4.2.1, t4.2.2.1⟩ : S72)⟩ : S115)]) ++ t6.1) : List S115) fun v7 => .need (((List.length v7 : Int) + (List.length ([(⟨(6 : Int), (0 : Int), (0 : Int), (⟨(0 : Int), (0 : Int), (0 : Int)⟩ : S72)⟩ : S115)]) : Int)) * (48 : Nat) ≤ room) (.val ((v7 ++ [(⟨(6 : Int), (0 : Int), (0 : Int), (⟨(0 : Int), (0 : Int), (0 : Int)⟩ : S72)⟩ : S115)]) : List S115) fun v8 => .jump (.c3 x0 x1 v8 (wr (x3 + (1 : Int))) t6.2.1 t6.2.2.1 t6.2.2.2)))))
      (.val ([(⟨(5 : Int), (0 : Int), (wr ((1 : Int) + t2.1)), (⟨(0 : Int), (0 : Int), (0 : Int)⟩ : S72)⟩ : S115)] : List S115) fun v4 => .need (((List.length x2 : Int) + (List.length v4 : Int)) * (48 : Nat) ≤ room) (.call (spec_l01Below.told (2 : Int) t3.2.1 t3.2.2.1 t3.2.2.2) fun t5 => .call (self_.told ((wr ((1 : Int) + t5.1)), (wr (x1 + (1 : Int))), t5.2.1, t5.2.2.1, t5.2.2.2)) fun t6 => .need (((List.length (x2 ++ v4) : Int) + (List.length t6.1 : Int)) * (48 : Nat) ≤ room) (.need (((List.length ((x2 ++ v4) ++ t6.1) : Int) + (List.length ([(⟨(6 : Int), (0 : Int), (0 : Int), (⟨(0 : Int), (0 : Int), (0 : Int)⟩ : S72)⟩ : S115)]) : Int)) * (48 : Nat) ≤ room) (.val ((((x2 ++ v4) ++ t6.1) ++ [(⟨(6 : Int), (0 : Int), (0 : Int), (⟨(0 : Int), (0 : Int), (0 : Int)⟩ : S72)⟩ : S115)]) : List S115) fun v7 => .jump (.c3 x0 x1 v7 (wr (x3 + (1 : Int))) t6.2.1 t6.2.2.1 t6.2.2.2))))))
     (.call (spec_l04Stmt.told t1.2.1 t1.2.2.1 t1.2.2.2) fun t2 => .val ([(⟨t2.1, t2.2.1, t2.2.2.1, (⟨t2.2.2.2.1, t2.2.2.2.2.1, t2.2.2.2.2.2.1⟩ : S72)⟩ : S115)] : List S115) fun v3 => .need (((List.length x2 : Int) + (List.length v3 : Int)) * (48 : Nat) ≤ room) (.jump (.c3 x0 x1 (x2 ++ v3) (wr (x3 + (1 : Int))) t2.2.2.2.2.2.2.1 t2.2.2.2.2.2.2.2.1 t2.2.2.2.2.2.2.2.2))))
    (u0_0))
   (u0_0))
  (.ret (x2, x4, x5, x6))
def Q : Plan C := { PL with cuts := [(3, [0, 1, 2, 7, 8, 59])] }
theorem e (self_ : Self I A K) : CutEq Pg C Q Tryd.f46 1 id st v o (tree self_) := fun J K x => by cases x <;> kernel_rfl
theorem b (self_ : Self I A K) (a0 a1 : Int) (a2 : List Int) (a3 a4 : Int) : BegEq Pg C Q Tryd.f46 1 id st v o (S a0 a1 a2 a3 a4) (begin self_ a0 a1 a2 a3 a4) := fun J K => by kernel_rfl
def step (self_ : Self I A K) : Self I A K := ⟨fun i_ => (begin self_ i_.1 i_.2.1 i_.2.2.1 i_.2.2.2.1 i_.2.2.2.2).run (lp (tree self_)), fun i_ r h => soundCall_of_tree G mixed Q Tryd.func46 rfl (of_decide_eq_true (by kernel_rfl)) (by rfl) id st v o (fun _ => rfl) (tree self_) (e self_) (begin self_ i_.1 i_.2.1 i_.2.2.1 i_.2.2.2.1 i_.2.2.2.2) (b self_ i_.1 i_.2.1 i_.2.2.1 i_.2.2.2.1 i_.2.2.2.2) h⟩
def f (a0 a1 : Int) (a2 : List Int) (a3 a4 : Int) : Option A := (Self.iter step 8).f (a0, a1, a2, a3, a4)
def told (a0 a1 : Int) (a2 : List Int) (a3 a4 : Int) : YtpndhhellhfegaaDoorEv.Told A := ⟨f a0 a1 a2 a3 a4, fun r => SoundCall Pg C 46 (S a0 a1 a2 a3 a4) 1 (v r) (o r), fun r h => (Self.iter step 8).ok (a0, a1, a2, a3, a4) r h⟩
end spec_l05Block
/-! #### loop.example/g00983/spec.l05Case (23) -/
namespace spec_l05Case
def S (a0 : List Int) (a1 a2 : Int) : List (PV U) := YtpndhhellhfegaaDoorEv.start C 7 [.ptr 7 0] [.box [.sl 5 a0, .int .i64 a1, .int .i64 a2]]
def begin (a0 : List Int) (a1 a2 : Int) : Tr Empty A :=
 .call (spec_l01Below.told (6 : Int) a0 a1 a2) fun t1 => .call (spec_l05Block.told t1.1 (0 : Int) t1.2.1 t1.2.2.1 t1.2.2.2) fun t2 => .ret (t2.1, t2.2.1, t2.2.2.1, t2.2.2.2)
def f (a0 : List Int) (a1 a2 : Int) : Option A := (begin a0 a1 a2).run (lp noTree)
def told (a0 : List Int) (a1 a2 : Int) : YtpndhhellhfegaaDoorEv.Told A := ⟨f a0 a1 a2, fun r => SoundCall Pg C 23 (S a0 a1 a2) 1 (v r) (o r), fun r h => sdFlat (Q := PL) v o Tryd.func23 rfl (of_decide_eq_true (by kernel_rfl)) (by rfl) (fun _ => rfl) (fun J K => by kernel_rfl) h⟩
end spec_l05Case
/-! #### loop.example/g00983/spec.l06Program (9) -/
namespace spec_l06Program
def S (a0 : List Int) (a1 a2 : Int) : List (PV U) := YtpndhhellhfegaaDoorEv.start C 24 [.ptr 24 0] [.box [.sl 5 a0, .int .i64 a1, .int .i64 a2]]
inductive X where
 | c3 (x0 x1 : List S75) (x2 : Int) (x3 : List Int) (x4 x5 : Int)
def id : X → Nat
 | .c3 .. => 3
def st : X → List (PV U)
 | .c3 x0 x1 x2 x3 x4 x5 => stOf 25 [(0, .ptr 24 0), (2, .box [.own true 76 x0]), (3, .box [.own true 76 x1]), (4, .int .i64 x2), (24, .box [.sl 5 x3, .int .i64 x4, .int .i64 x5])]
def begin (a0 : List Int) (a1 a2 : Int) : Tr X A :=
 .jump (.c3 ([] : List S75) ([] : List S75) (0 : Int) a0 a1 a2)
def tree : X → Tr X A
 | .c3 x0 x1 x2 x3 x4 x5 =>
 .call (spec_l01Below.told (3 : Int) x3 x4 x5) fun t1 => .ite (decide (x2 < (wr ((1 : Int) + t1.1))))
  (.both (.last (.call (spec_l05Case.told t1.2.1 t1.2.2.1 t1.2.2.2) fun t2 => .last (.call (spec_l03Expr.told t2.2.1 t2.2.2.1 t2.2.2.2) fun t3 => .last (.last (.last (.need (((List.length x1 : Int) + (List.length ([(⟨t2.1, (⟨t3.1, t3.2.1, t3.2.2.1⟩ : S72)⟩ : S75)]) : Int)) * (48 : Nat) ≤ room) (.last (.jump (.c3 x0 (x1 ++ [(⟨t2.1, (⟨t3.1, t3.2.1, t3.2.2.1⟩ : S72)⟩ : S75)]) (wr (x2 + (1 : Int))) t3.2.2.2.1 t3.2.2.2.2.1 t3.2.2.2.2.2)))))))))
   (.last (.call (spec_l05Case.told t1.2.1 t1.2.2.1 t1.2.2.2) fun t2 => .both (.last (.call (spec_l03Expr.told t2.2.1 t2.2.2.1 t2.2.2.2) fun t3 => .last (.last (.last (.need (((List.length x1 : Int) + (List.length ([(⟨t2.1, (⟨t3.1, t3.2.1, t3.2.2.1⟩ : S72)⟩ : S75)]) : Int)) * (48 : Nat) ≤ room) (.last (.jump (.c3 x0 (x1 ++ [(⟨t2.1, (⟨t3.1, t3.2.1, t3.2.2.1⟩ : S72)⟩ : S75)]) (wr (x2 + (1 : Int))) t3.2.2.2.1 t3.2.2.2.2.1 t3.2.2.2.2.2))))))))
    (.last (.call (spec_l03Expr.told t2.2.1 t2.2.2.1 t2.2.2.2) fun t3 => let u3_0 : Tr X A := (.last (.last (.need (((List.length x1 : Int) + (List.length ([(⟨t2.1, (⟨t3.1, t3.2.1, t3.2.2.1⟩ : S72)⟩ : S75)]) : Int)) * (48 : Nat) ≤ room) (.last (.jump (.c3 x0 (x1 ++ [(⟨t2.1, (⟨t3.1, t3.2.1, t3.2.2.1⟩ : S72)⟩ : S75)]) (wr (x2 + (1 : Int))) t3.2.2.2.1 t3.2.2.2.2.1 t3.2.2.2.2.2)))))); .both (.last (u3_0))
     (.last (.both (u3_0)
      (u3_0))))))))
  (.ret (x1, t1.2.1, t1.2.2.1, t1.2.2.2))
def f (a0 : List Int) (a1 a2 : Int) : Option A := (begin a0 a1 a2).run (lp tree)
def Q : Plan C := { PL with cuts := [(3, [0, 2, 3, 4, 24])], ords := [(5, [3, 5, 6, 7, 8, 10], (.take 0 [] (.take 2 [] (.take 4 [] (.alt 1 (.alt 3 (.alt 5 (.alt 6 (.alt 7 (.alt 8 (.take 9 [] (.alt 10 .done .nil)) .nil) .nil) .nil) .nil) .nil) (.alt 3 (.alt 1 (.alt 5 (.alt 6 (.alt 7 (.alt 8 (.take 9 [] (.alt 10 .done .nil)) .nil) .nil) .nil) .nil) (.alt 5 (.alt 1 (.alt 6 (.alt 7 (.alt 8 (.take 9 [] (.alt 10 .done .nil)) .nil) .nil) .nil) (.alt 6 (.alt 1 (.alt 7 (.alt 8 (.take 9 [] (.alt 10 .done .nil)) .nil) .nil) (.alt 7 (.take 1 [0, 2, 3, 4, 5, 6, 7] (.alt 8 (.take 9 [] (.alt 10 .done .nil)) .nil)) .nil)) .nil)) .nil)) .nil))))))] }
theorem e : CutEq Pg C Q Tryd.f9 1 id st v o tree := fun J K x => by cases x <;> kernel_rfl
def told (a0 : List Int) (a1 a2 : Int) : YtpndhhellhfegaaDoorEv.Told A := ⟨f a0 a1 a2, fun r => SoundCall Pg C 9 (S a0 a1 a2) 1 (v r) (o r), fun r h => sdCut v o Tryd.func9 rfl (of_decide_eq_true (by kernel_rfl)) (by rfl) (fun _ => rfl) e (fun J K => by kernel_rfl) h⟩
end spec_l06Program
/-! #### loop.example/g00983/spec.l03Vars (11) -/
namespace spec_l03Vars
def S (a0 : List Int) (a1 a2 : Int) : List (PV U) := YtpndhhellhfegaaDoorEv.start C 20 [.ptr 20 0] [.box [.sl 5 a0, .int .i64 a1, .int .i64 a2]]
inductive X where
 | c3 (x0 : List Int) (x1 : Int) (x2 : List Int) (x3 x4 : Int)
def id : X → Nat
 | .c3 .. => 3
def st : X → List (PV U)
 | .c3 x0 x1 x2 x3 x4 => stOf 21 [(0, .ptr 20 0), (3, .own true 3 x0), (4, .int .i64 x1), (20, .box [.sl 5 x2, .int .i64 x3, .int .i64 x4])]
def begin (a0 : List Int) (a1 a2 : Int) : Tr X A :=
 .jump (.c3 ([] : List Int) (0 : Int) a0 a1 a2)
def tree : X → Tr X A
 | .c3 x0 x1 x2 x3 x4 =>
 .ite (decide (x1 < (8 : Int)))
  (.call (spec_l01Below.told (2000 : Int) x2 x3 x4) fun t1 => .call (spec_l01PickInt.told ([(0 : Int), (1 : Int), (2 : Int), (5 : Int), (wr (t1.1 - (1000 : Int))), (1000000 : Int)]) t1.2.1 t1.2.2.1 t1.2.2.2) fun t2 => .need (((List.length x0 : Int) + (List.length ([t2.1]) : Int)) * (8 : Nat) ≤ room) (.jump (.c3 (x0 ++ [t2.1]) (wr (x1 + (1 : Int))) t2.2.1 t2.2.2.1 t2.2.2.2)))
  (.ret (x0, x2, x3, x4))
def f (a0 : List Int) (a1 a2 : Int) : Option A := (begin a0 a1 a2).run (lp tree)
def Q : Plan C := { PL with cuts := [(3, [0, 3, 4, 20])] }
theorem e : CutEq Pg C Q Tryd.f11 1 id st v o tree := fun J K x => by cases x <;> kernel_rfl
def told (a0 : List Int) (a1 a2 : Int) : YtpndhhellhfegaaDoorEv.Told A := ⟨f a0 a1 a2, fun r => SoundCall Pg C 11 (S a0 a1 a2) 1 (v r) (o r), fun r h => sdCut v o Tryd.func11 rfl (of_decide_eq_true (by kernel_rfl)) (by rfl) (fun _ => rfl) e (fun J K => by kernel_rfl) h⟩
end spec_l03Vars
/-! #### loop.example/g00983/spec.l12Readings (12) -/
namespace spec_l12Readings
def S (a0 : List Int) (a1 a2 : Int) : List (PV U) := YtpndhhellhfegaaDoorEv.start C 20 [.ptr 20 0] [.box [.sl 5 a0, .int .i64 a1, .int .i64 a2]]
inductive X where
 | c3 (x0 : List Int) (x1 : Int) (x2 : List Int) (x3 x4 : Int)
def id : X → Nat
 | .c3 .. => 3
def st : X → List (PV U)
 | .c3 x0 x1 x2 x3 x4 => stOf 21 [(0, .ptr 20 0), (3, .own true 3 x0), (4, .int .i64 x1), (20, .box [.sl 5 x2, .int .i64 x3, .int .i64 x4])]
def begin (a0 : List Int) (a1 a2 : Int) : Tr X A :=
 .jump (.c3 ([] : List Int) (0 : Int) a0 a1 a2)
def tree : X → Tr X A
 | .c3 x0 x1 x2 x3 x4 =>
 .call (spec_l01Below.told (9 : Int) x2 x3 x4) fun t1 => .ite (decide (x1 < (wr ((1 : Int) + t1.1))))
  (.call (spec_l01Below.told (800 : Int) t1.2.1 t1.2.2.1 t1.2.2.2) fun t2 => .need (((List.length x0 : Int) + (List.length ([(wr (t2.1 - (200 : Int)))]) : Int)) * (8 : Nat) ≤ room) (.jump (.c3 (x0 ++ [(wr (t2.1 - (200 : Int)))]) (wr (x1 + (1 : Int))) t2.2.1 t2.2.2.1 t2.2.2.2)))
  (.ret (x0, t1.2.1, t1.2.2.1, t1.2.2.2))
def f (a0 : List Int) (a1 a2 : Int) : Option A := (begin a0 a1 a2).run (lp tree)
def Q : Plan C := { PL with cuts := [(3, [0, 3, 4, 20])] }
theorem e : CutEq Pg C Q Tryd.f12 1 id st v o tree := fun J K x => by cases x <;> kernel_rfl
def told (a0 : List Int) (a1 a2 : Int) : YtpndhhellhfegaaDoorEv.Told A := ⟨f a0 a1 a2, fun r => SoundCall Pg C 12 (S a0 a1 a2) 1 (v r) (o r), fun r h => sdCut v o Tryd.func12 rfl (of_decide_eq_true (by kernel_rfl)) (by rfl) (fun _ => rfl) e (fun J K => by kernel_rfl) h⟩
end spec_l12Readings
/-! #### loop.example/g00983/spec.l19Store (13) -/
namespace spec_l19Store
def S (a0 : List Int) (a1 a2 : Int) : List (PV U) := YtpndhhellhfegaaDoorEv.start C 23 [.ptr 23 0] [.box [.sl 5 a0, .int .i64 a1, .int .i64 a2]]
def begin (a0 : List Int) (a1 a2 : Int) : Tr Empty A :=
 .call (spec_l01Below.told (400 : Int) a0 a1 a2) fun t1 => .call (spec_l01Below.told (4 : Int) t1.2.1 t1.2.2.1 t1.2.2.2) fun t2 => .call (spec_l01Below.told (wr ((wr ((20 : Int) + t1.1)) + (1 : Int))) t2.2.1 t2.2.2.1 t2.2.2.2) fun t3 => .call (spec_l01Below.told (wr ((20 : Int) + t1.1)) t3.2.1 t3.2.2.1 t3.2.2.2) fun t4 => .ret (t3.1, (wr ((20 : Int) + t1.1)), (wr ((1 : Int) + t4.1)), t2.1, t4.2.1, t4.2.2.1, t4.2.2.2)
def f (a0 : List Int) (a1 a2 : Int) : Option A := (begin a0 a1 a2).run (lp noTree)
def told (a0 : List Int) (a1 a2 : Int) : YtpndhhellhfegaaDoorEv.Told A := ⟨f a0 a1 a2, fun r => SoundCall Pg C 13 (S a0 a1 a2) 1 (v r) (o r), fun r h => sdFlat (Q := PL) v o Tryd.func13 rfl (of_decide_eq_true (by kernel_rfl)) (by rfl) (fun _ => rfl) (fun J K => by kernel_rfl) h⟩
end spec_l19Store
/-! #### loop.example/g00983/spec.l01In (51) -/
namespace spec_l01In
def S (a0 a1 a2 : Int) : List (PV U) := YtpndhhellhfegaaDoorEv.start C 15 [.int .i64 a0, .int .i64 a1, .int .i64 a2] []
def begin (a0 a1 a2 : Int) : Tr Empty A :=
 .ite (decide (a0 ≥ a1))
  (.ret ((decide (a0 ≤ a2))))
  (.ret false)
def f (a0 a1 a2 : Int) : Option A := (begin a0 a1 a2).run (lp noTree)
def told (a0 a1 a2 : Int) : YtpndhhellhfegaaDoorEv.Told A := ⟨f a0 a1 a2, fun r => SoundCall Pg C 51 (S a0 a1 a2) 0 (v r) (o r), fun r h => sdFlat (Q := PL) v o Tryd.func51 rfl (of_decide_eq_true (by kernel_rfl)) (by rfl) (fun _ => rfl) (fun J K => by kernel_rfl) h⟩
end spec_l01In
/-! #### loop.example/g00983/spec.IsValue (52) -/
namespace spec_IsValue
def S (a0 : Int) : List (PV U) := YtpndhhellhfegaaDoorEv.start C 5 [.int .i64 a0] []
def begin (a0 : Int) : Tr Empty A :=
 .call (spec_l01In.told a0 (-1000000 : Int) (1000000 : Int)) fun t1 => .ret t1
def f (a0 : Int) : Option A := (begin a0).run (lp noTree)
def told (a0 : Int) : YtpndhhellhfegaaDoorEv.Told A := ⟨f a0, fun r => SoundCall Pg C 52 (S a0) 0 (v r) (o r), fun r h => sdFlat (Q := PL) v o Tryd.func52 rfl (of_decide_eq_true (by kernel_rfl)) (by rfl) (fun _ => rfl) (fun J K => by kernel_rfl) h⟩
end spec_IsValue
/-! #### loop.example/g00983/spec.VarsOk (48) -/
namespace spec_VarsOk
def S (a0 : List Int) : List (PV U) := YtpndhhellhfegaaDoorEv.start C 19 [.sl 3 a0] []
inductive X where
 | c2 (x0 : List Int) (x1 : Int)
def id : X → Nat
 | .c2 .. => 2
def st : X → List (PV U)
 | .c2 x0 x1 => stOf 19 [(0, .sl 3 x0), (3, .int .i64 x1)]
def begin (a0 : List Int) : Tr X A :=
 .jump (.c2 a0 (0 : Int))
def tree : X → Tr X A
 | .c2 x0 x1 =>
 .ite (decide (x1 < (List.length x0 : Int)))
  (.need ((0 : Int) ≤ x1 ∧ x1 < (List.length x0 : Int)) (.call (spec_IsValue.told (rdI x0 x1)) fun t1 => .ite (!t1)
   (.ret false)
   (.jump (.c2 x0 (wr (x1 + (1 : Int)))))))
  (.ret ((decide ((List.length x0 : Int) = (8 : Int)))))
def f (a0 : List Int) : Option A := (begin a0).run (lp tree)
def Q : Plan C := { PL with cuts := [(2, [0, 3])] }
theorem e : CutEq Pg C Q Tryd.f48 0 id st v o tree := fun J K x => by cases x <;> kernel_rfl
def told (a0 : List Int) : YtpndhhellhfegaaDoorEv.Told A := ⟨f a0, fun r => SoundCall Pg C 48 (S a0) 0 (v r) (o r), fun r h => sdCut v o Tryd.func48 rfl (of_decide_eq_true (by kernel_rfl)) (by rfl) (fun _ => rfl) e (fun J K => by kernel_rfl) h⟩
end spec_VarsOk
/-! #### loop.example/g00983/spec.MemNew (25) -/
namespace spec_MemNew
def S (a0 : List Int) : List (PV U) := YtpndhhellhfegaaDoorEv.start C 14 [.sl 3 a0] []
def begin (a0 : List Int) : Tr Empty A :=
 .call (spec_VarsOk.told a0) fun t1 => .ite (!t1)
  (.ret (([] : List Int), false))
  (.need (((List.length ([] : List Int) : Int) + (List.length a0 : Int)) * (8 : Nat) ≤ room) (.need ((0 : Int) ≤ (41 : Int) ∧ ((List.length (([] : List Int) ++ a0) : Int) + (41 : Int)) * (8 : Nat) ≤ room) (.ret (((([] : List Int) ++ a0) ++ List.replicate (Int.toNat (41 : Int)) (0 : Int)), true))))
def f (a0 : List Int) : Option A := (begin a0).run (lp noTree)
def told (a0 : List Int) : YtpndhhellhfegaaDoorEv.Told A := ⟨f a0, fun r => SoundCall Pg C 25 (S a0) 0 (v r) (o r), fun r h => sdFlat (Q := PL) v o Tryd.func25 rfl (of_decide_eq_true (by kernel_rfl)) (by rfl) (fun _ => rfl) (fun J K => by kernel_rfl) h⟩
end spec_MemNew
/-! #### loop.example/g00983/spec.l04Plain (75) -/
namespace spec_l04Plain
def S (a0 a1 a2 a3 a4 a5 : Int) : List (PV U) := YtpndhhellhfegaaDoorEv.start C 37 [.agg [.int .i64 a0, .int .i64 a1, .int .i64 a2, .int .i64 a3, .int .i64 a4, .int .i64 a5]] []
inductive X where
 | c14 (x0 x1 x2 x3 x4 x5 x6 x7 x8 x9 x10 x11 : Int)
def id : X → Nat
 | .c14 .. => 14
def st : X → List (PV U)
 | .c14 x0 x1 x2 x3 x4 x5 x6 x7 x8 x9 x10 x11 => stOf 37 [(2, .box [.int .i64 x0, .int .i64 x1, .int .i64 x2, .int .i64 x3, .int .i64 x4, .int .i64 x5]), (3, .box [.int .i64 x6, .int .i64 x7, .int .i64 x8, .int .i64 x9, .int .i64 x10, .int .i64 x11])]
def begin (a0 a1 a2 a3 a4 a5 : Int) : Tr X A :=
 let u0_0 : Tr X A := (.jump (.c14 (0 : Int) (0 : Int) (0 : Int) (0 : Int) (0 : Int) (0 : Int) a0 (0 : Int) (0 : Int) a3 a4 a5)); let u0_1 : Tr X A := (.ite (decide (a0 = (5 : Int))) (.jump (.c14 (0 : Int) (0 : Int) (0 : Int) (0 : Int) (0 : Int) (0 : Int) a0 (0 : Int) a2 (0 : Int) (0 : Int) (0 : Int))) (.jump (.c14 (0 : Int) (0 : Int) (0 : Int) (0 : Int) (0 : Int) (0 : Int) a0 (0 : Int) (0 : Int) (0 : Int) (0 : Int) (0 : Int)))); .ite (decide (a0 = (1 : Int)))
  (.jump (.c14 (0 : Int) (0 : Int) (0 : Int) (0 : Int) (0 : Int) (0 : Int) a0 a1 (0 : Int) a3 a4 a5))
  (.ite (decide (a0 = (2 : Int)))
   (.jump (.c14 (0 : Int) (0 : Int) (0 : Int) (0 : Int) (0 : Int) (0 : Int) a0 a1 a2 (0 : Int) (0 : Int) (0 : Int)))
   (.ite (decide (a0 = (3 : Int)))
    (.ite (decide (a0 = (3 : Int)))
     (u0_0)
     (u0_1))
    (.ite (decide (a0 = (4 : Int)))
     (u0_0)
     (u0_1))))
def tree : X → Tr X A
 | .c14 x0 x1 x2 x3 x4 x5 x6 x7 x8 x9 x10 x11 =>
 .ret (x6, x7, x8, x9, x10, x11)
def f (a0 a1 a2 a3 a4 a5 : Int) : Option A := (begin a0 a1 a2 a3 a4 a5).run (lp tree)
def Q : Plan C := { PL with cuts := [(14, [2, 3])] }
theorem e : CutEq Pg C Q Tryd.f75 0 id st v o tree := fun J K x => by cases x <;> kernel_rfl
def told (a0 a1 a2 a3 a4 a5 : Int) : YtpndhhellhfegaaDoorEv.Told A := ⟨f a0 a1 a2 a3 a4 a5, fun r => SoundCall Pg C 75 (S a0 a1 a2 a3 a4 a5) 0 (v r) (o r), fun r h => sdCut v o Tryd.func75 rfl (of_decide_eq_true (by kernel_rfl)) (by rfl) (fun _ => rfl) e (fun J K => by kernel_rfl) h⟩
end spec_l04Plain
/-! #### loop.example/g00983/spec.OperandOk (67) -/
namespace spec_OperandOk
def S (a0 : Int) : List (PV U) := YtpndhhellhfegaaDoorEv.start C 5 [.int .i64 a0] []
def begin (a0 : Int) : Tr Empty A :=
 .call (spec_l01In.told a0 (-8 : Int) (999 : Int)) fun t1 => .ret t1
def f (a0 : Int) : Option A := (begin a0).run (lp noTree)
def told (a0 : Int) : YtpndhhellhfegaaDoorEv.Told A := ⟨f a0, fun r => SoundCall Pg C 67 (S a0) 0 (v r) (o r), fun r h => sdFlat (Q := PL) v o Tryd.func67 rfl (of_decide_eq_true (by kernel_rfl)) (by rfl) (fun _ => rfl) (fun J K => by kernel_rfl) h⟩
end spec_OperandOk
/-! #### loop.example/g00983/spec.ExprOk (50) -/
namespace spec_ExprOk
def S (a0 a1 a2 : Int) : List (PV U) := YtpndhhellhfegaaDoorEv.start C 16 [.agg [.int .i64 a0, .int .i64 a1, .int .i64 a2]] []
def begin (a0 a1 a2 : Int) : Tr Empty A :=
 .call (spec_l01In.told a0 (1 : Int) (7 : Int)) fun t1 => .ite t1
  (.call (spec_OperandOk.told a1) fun t2 => .ite t2
   (.call (spec_OperandOk.told a2) fun t3 => .ret t3)
   (.ret false))
  (.ret false)
def f (a0 a1 a2 : Int) : Option A := (begin a0 a1 a2).run (lp noTree)
def told (a0 a1 a2 : Int) : YtpndhhellhfegaaDoorEv.Told A := ⟨f a0 a1 a2, fun r => SoundCall Pg C 50 (S a0 a1 a2) 0 (v r) (o r), fun r h => sdFlat (Q := PL) v o Tryd.func50 rfl (of_decide_eq_true (by kernel_rfl)) (by rfl) (fun _ => rfl) (fun J K => by kernel_rfl) h⟩
end spec_ExprOk
/-! #### loop.example/g00983/spec.StmtOk (66) -/
namespace spec_StmtOk
def S (a0 a1 a2 a3 a4 a5 : Int) : List (PV U) := YtpndhhellhfegaaDoorEv.start C 43 [.agg [.int .i64 a0, .int .i64 a1, .int .i64 a2, .int .i64 a3, .int .i64 a4, .int .i64 a5]] []
def begin (a0 a1 a2 a3 a4 a5 : Int) : Tr Empty A :=
 .last (.call (spec_l04Plain.told a0 a1 a2 a3 a4 a5) fun t1 => .last (.val ((!(decide (a0 = t1.1) && (decide (a1 = t1.2.1) && (decide (a2 = t1.2.2.1) && (decide (a3 = t1.2.2.2.1) && (decide (a4 = t1.2.2.2.2.1) && (decide (a5 = t1.2.2.2.2.2) && true))))))) : Bool) fun v2 => let u2_0 : Tr Empty A := (.call (spec_ExprOk.told a3 a4 a5) fun t3 => .ret t3); let u2_1 : Tr Empty A := (.ite (decide (a0 = (5 : Int))) (.call (spec_l01In.told a2 (1 : Int) (5 : Int)) fun t3 => .ret t3) (.ret ((decide (a0 = (6 : Int)))))); .ite v2
  (.ret false)
  (.ite (decide (a0 = (1 : Int)))
   (.call (spec_l01In.told a1 (0 : Int) (7 : Int)) fun t3 => .ite t3
    (.call (spec_ExprOk.told a3 a4 a5) fun t4 => .ret t4)
    (.ret false))
   (.ite (decide (a0 = (2 : Int)))
    (.call (spec_l01In.told a1 (0 : Int) (7 : Int)) fun t3 => .ite t3
     (.call (spec_l01In.told a2 (0 : Int) (3 : Int)) fun t4 => .ret t4)
     (.ret false))
    (.ite (decide (a0 = (3 : Int)))
     (.ite (decide (a0 = (3 : Int)))
      (u2_0)
      (u2_1))
     (.ite (decide (a0 = (4 : Int)))
      (u2_0)
      (u2_1)))))))
def f (a0 a1 a2 a3 a4 a5 : Int) : Option A := (begin a0 a1 a2 a3 a4 a5).run (lp noTree)
def Q : Plan C := { PL with ords := [(1, [], (.take 0 [1, 2] (.take 1 [0] (.alt 2 (.alt 3 .done .nil) .nil))))] }
def told (a0 a1 a2 a3 a4 a5 : Int) : YtpndhhellhfegaaDoorEv.Told A := ⟨f a0 a1 a2 a3 a4 a5, fun r => SoundCall Pg C 66 (S a0 a1 a2 a3 a4 a5) 0 (v r) (o r), fun r h => sdFlat (Q := Q) v o Tryd.func66 rfl (of_decide_eq_true (by kernel_rfl)) (by rfl) (fun _ => rfl) (fun J K => by kernel_rfl) h⟩
end spec_StmtOk
/-! #### loop.example/g00983/spec.BlockOk (49) -/
namespace spec_BlockOk
def S (a0 : List S115) : List (PV U) := YtpndhhellhfegaaDoorEv.start C 41 [.sl 116 a0] []
inductive X where
 | c3 (x0 : List S115) (x1 x2 : Int)
def id : X → Nat
 | .c3 .. => 3
def st : X → List (PV U)
 | .c3 x0 x1 x2 => stOf 41 [(0, .sl 116 x0), (3, .int .i64 x1), (4, .int .i64 x2)]
def begin (a0 : List S115) : Tr X A :=
 .jump (.c3 a0 (0 : Int) (0 : Int))
def tree : X → Tr X A
 | .c3 x0 x1 x2 =>
 .ite (decide (x2 < (List.length x0 : Int)))
  (.need ((0 : Int) ≤ x2 ∧ x2 < (List.length x0 : Int)) (.call (spec_StmtOk.told ((rdS115 x0 x2).f0) ((rdS115 x0 x2).f1) ((rdS115 x0 x2).f2) ((rdS115 x0 x2).f3.f0) ((rdS115 x0 x2).f3.f1) ((rdS115 x0 x2).f3.f2)) fun t1 => let u1_0 : Tr X A := (.call (spec_l01In.told (wr (x1 + (1 : Int))) (0 : Int) (3 : Int)) fun t2 => .ite (!t2) (.ret false) (.jump (.c3 x0 (wr (x1 + (1 : Int))) (wr (x2 + (1 : Int)))))); let u1_1 : Tr X A := (.ite (decide ((rdS115 x0 x2).f0 = (6 : Int))) (.call (spec_l01In.told (wr (x1 - (1 : Int))) (0 : Int) (3 : Int)) fun t2 => .ite (!t2) (.ret false) (.jump (.c3 x0 (wr (x1 - (1 : Int))) (wr (x2 + (1 : Int)))))) (.call (spec_l01In.told x1 (0 : Int) (3 : Int)) fun t2 => .ite (!t2) (.ret false) (.jump (.c3 x0 x1 (wr (x2 + (1 : Int))))))); .ite (!t1)
   (.ret false)
   (.need ((0 : Int) ≤ x2 ∧ x2 < (List.length x0 : Int)) (.ite (decide ((rdS115 x0 x2).f0 = (4 : Int)))
    (.ite (decide ((rdS115 x0 x2).f0 = (4 : Int)))
     (u1_0)
     (u1_1))
    (.ite (decide ((rdS115 x0 x2).f0 = (5 : Int)))
     (u1_0)
     (u1_1))))))
  (.ite (decide (x1 = (0 : Int)))
   (.ret ((decide ((List.length x0 : Int) ≤ (24 : Int)))))
   (.ret false))
def f (a0 : List S115) : Option A := (begin a0).run (lp tree)
def Q : Plan C := { PL with cuts := [(3, [0, 3, 4, 37, 38, 39])] }
theorem e : CutEq Pg C Q Tryd.f49 0 id st v o tree := fun J K x => by cases x <;> kernel_rfl
def told (a0 : List S115) : YtpndhhellhfegaaDoorEv.Told A := ⟨f a0, fun r => SoundCall Pg C 49 (S a0) 0 (v r) (o r), fun r h => sdCut v o Tryd.func49 rfl (of_decide_eq_true (by kernel_rfl)) (by rfl) (fun _ => rfl) e (fun J K => by kernel_rfl) h⟩
end spec_BlockOk
/-! #### loop.example/g00983/spec.ProgramOk (26) -/
namespace spec_ProgramOk
def S (a0 : List S75) : List (PV U) := YtpndhhellhfegaaDoorEv.start C 33 [.agg [.sl 76 a0]] []
inductive X where
 | c2 (x0 : List S75) (x1 : Int)
def id : X → Nat
 | .c2 .. => 2
def st : X → List (PV U)
 | .c2 x0 x1 => stOf 33 [(1, .box [.sl 76 x0]), (3, .int .i64 x1)]
def begin (a0 : List S75) : Tr X A :=
 .jump (.c2 a0 (0 : Int))
def tree : X → Tr X A
 | .c2 x0 x1 =>
 .ite (decide (x1 < (List.length x0 : Int)))
  (.need ((0 : Int) ≤ x1 ∧ x1 < (List.length x0 : Int)) (.call (spec_BlockOk.told ((rdS75 x0 x1).f0)) fun t1 => .ite (!t1)
   (.ret false)
   (.need ((0 : Int) ≤ x1 ∧ x1 < (List.length x0 : Int)) (.call (spec_ExprOk.told ((rdS75 x0 x1).f1.f0) ((rdS75 x0 x1).f1.f1) ((rdS75 x0 x1).f1.f2)) fun t2 => .ite (!t2)
    (.ret false)
    (.jump (.c2 x0 (wr (x1 + (1 : Int)))))))))
  (.call (spec_l01In.told (List.length x0 : Int) (1 : Int) (6 : Int)) fun t1 => .ret t1)
def f (a0 : List S75) : Option A := (begin a0).run (lp tree)
def Q : Plan C := { PL with cuts := [(2, [1, 3])] }
theorem e : CutEq Pg C Q Tryd.f26 0 id st v o tree := fun J K x => by cases x <;> kernel_rfl
def told (a0 : List S75) : YtpndhhellhfegaaDoorEv.Told A := ⟨f a0, fun r => SoundCall Pg C 26 (S a0) 0 (v r) (o r), fun r h => sdCut v o Tryd.func26 rfl (of_decide_eq_true (by kernel_rfl)) (by rfl) (fun _ => rfl) e (fun J K => by kernel_rfl) h⟩
end spec_ProgramOk
/-! #### loop.example/g00983/spec.StoreOk (27) -/
namespace spec_StoreOk
def S (a0 a1 a2 a3 : Int) : List (PV U) := YtpndhhellhfegaaDoorEv.start C 25 [.agg [.int .i64 a0, .int .i64 a1, .int .i64 a2, .int .i64 a3]] []
def begin (a0 a1 a2 a3 : Int) : Tr Empty A :=
 .call (spec_l01In.told a1 (1 : Int) (5000 : Int)) fun t1 => .ite t1
  (.call (spec_l01In.told a0 (0 : Int) a1) fun t2 => .ite t2
   (.call (spec_l01In.told a2 (1 : Int) a1) fun t3 => .ite t3
    (.call (spec_l01In.told a3 (0 : Int) (100 : Int)) fun t4 => .ret t4)
    (.ret false))
   (.ret false))
  (.ret false)
def f (a0 a1 a2 a3 : Int) : Option A := (begin a0 a1 a2 a3).run (lp noTree)
def told (a0 a1 a2 a3 : Int) : YtpndhhellhfegaaDoorEv.Told A := ⟨f a0 a1 a2 a3, fun r => SoundCall Pg C 27 (S a0 a1 a2 a3) 0 (v r) (o r), fun r h => sdFlat (Q := PL) v o Tryd.func27 rfl (of_decide_eq_true (by kernel_rfl)) (by rfl) (fun _ => rfl) (fun J K => by kernel_rfl) h⟩
end spec_StoreOk
/-! #### loop.example/g00983/spec.l09Values (28) -/
namespace spec_l09Values
def S (a0 : List Int) : List (PV U) := YtpndhhellhfegaaDoorEv.start C 16 [.sl 3 a0] []
inductive X where
 | c2 (x0 : List Int) (x1 : Int)
def id : X → Nat
 | .c2 .. => 2
def st : X → List (PV U)
 | .c2 x0 x1 => stOf 16 [(0, .sl 3 x0), (3, .int .i64 x1)]
def begin (a0 : List Int) : Tr X A :=
 .jump (.c2 a0 (0 : Int))
def tree : X → Tr X A
 | .c2 x0 x1 =>
 .ite (decide (x1 < (List.length x0 : Int)))
  (.need ((0 : Int) ≤ x1 ∧ x1 < (List.length x0 : Int)) (.call (spec_IsValue.told (rdI x0 x1)) fun t1 => .ite (!t1)
   (.ret false)
   (.jump (.c2 x0 (wr (x1 + (1 : Int)))))))
  (.ret true)
def f (a0 : List Int) : Option A := (begin a0).run (lp tree)
def Q : Plan C := { PL with cuts := [(2, [0, 3])] }
theorem e : CutEq Pg C Q Tryd.f28 0 id st v o tree := fun J K x => by cases x <;> kernel_rfl
def told (a0 : List Int) : YtpndhhellhfegaaDoorEv.Told A := ⟨f a0, fun r => SoundCall Pg C 28 (S a0) 0 (v r) (o r), fun r h => sdCut v o Tryd.func28 rfl (of_decide_eq_true (by kernel_rfl)) (by rfl) (fun _ => rfl) e (fun J K => by kernel_rfl) h⟩
end spec_l09Values
/-! #### loop.example/g00983/spec.l06Copy (29) -/
namespace spec_l06Copy
def S (a0 : List S75) : List (PV U) := YtpndhhellhfegaaDoorEv.start C 34 [.agg [.sl 76 a0]] []
inductive X where
 | c3 (x0 x1 x2 : List S75) (x3 : Int)
 | c4 (x0 x1 x2 : List S75) (x3 : Int)
def id : X → Nat
 | .c3 .. => 3
 | .c4 .. => 4
def st : X → List (PV U)
 | .c3 x0 x1 x2 x3 => stOf 34 [(1, .box [.sl 76 x0]), (2, .box [.own true 76 x1]), (3, .box [.own true 76 x2]), (4, .int .i64 x3)]
 | .c4 x0 x1 x2 x3 => stOf 34 [(1, .box [.sl 76 x0]), (2, .box [.own true 76 x1]), (3, .box [.own true 76 x2]), (4, .int .i64 x3)]
def begin (a0 : List S75) : Tr X A :=
 .jump (.c3 a0 ([] : List S75) ([] : List S75) (0 : Int))
def tree : X → Tr X A
 | .c3 x0 x1 x2 x3 =>
 let u0_0 : Tr X A := (.last (.val ([(⟨(([] : List S115) ++ (rdS75 x0 x3).f0), (⟨(rdS75 x0 x3).f1.f0, (rdS75 x0 x3).f1.f1, (rdS75 x0 x3).f1.f2⟩ : S72)⟩ : S75)] : List S75) fun v1 => .last (.need (((List.length x2 : Int) + (List.length v1 : Int)) * (48 : Nat) ≤ room) (.last (.jump (.c4 x0 x1 (x2 ++ v1) x3)))))); let u0_1 : Tr X A := (.last (u0_0)); let u0_2 : Tr X A := (.need (((List.length ([] : List S115) : Int) + (List.length ((rdS75 x0 x3).f0) : Int)) * (48 : Nat) ≤ room) (u0_1)); let u0_3 : Tr X A := (.last (u0_2)); let u0_4 : Tr X A := (.last (u0_3)); let u0_5 : Tr X A := (.both (u0_2) (u0_4)); let u0_6 : Tr X A := (.both (u0_1) (.last (.both (u0_0) (u0_0)))); let u0_7 : Tr X A := (.need (((List.length ([] : List S115) : Int) + (List.length ((rdS75 x0 x3).f0) : Int)) * (48 : Nat) ≤ room) (u0_6)); let u0_8 : Tr X A := (.both (u0_5) (.last (u0_4))); let u0_9 : Tr X A := (.both (.need (((List.length ([] : List S115) : Int) + (List.length ((rdS75 x0 x3).f0) : Int)) * (48 : Nat) ≤ room) (.need ((0 : Int) ≤ x3 ∧ x3 < (List.length x0 : Int)) (u0_1))) (.last (.need ((0 : Int) ≤ x3 ∧ x3 < (List.length x0 : Int)) (u0_5)))); let u0_10 : Tr X A := (.last (.both (u0_3) (.last (u0_7)))); let u0_11 : Tr X A := (.both (u0_5) (.both (u0_7) (u0_10))); .ite (decide (x3 < (List.length x0 : Int)))
  (.need ((0 : Int) ≤ x3 ∧ x3 < (List.length x0 : Int)) (.both (.both (u0_9)
    (.last (.need ((0 : Int) ≤ x3 ∧ x3 < (List.length x0 : Int)) (u0_8))))
   (.both (.both (u0_9)
     (.both (.need (((List.length ([] : List S115) : Int) + (List.length ((rdS75 x0 x3).f0) : Int)) * (48 : Nat) ≤ room) (.need ((0 : Int) ≤ x3 ∧ x3 < (List.length x0 : Int)) (u0_6)))
      (.last (.need ((0 : Int) ≤ x3 ∧ x3 < (List.length x0 : Int)) (u0_11)))))
    (.last (.need ((0 : Int) ≤ x3 ∧ x3 < (List.length x0 : Int)) (.both (u0_8)
     (.both (u0_11)
      (.last (.both (u0_4)
       (u0_10))))))))))
  (.ret x2)
 | .c4 x0 x1 x2 x3 =>
 .jump (.c3 x0 x1 x2 (wr (x3 + (1 : Int))))
def f (a0 : List S75) : Option A := (begin a0).run (lp tree)
def Q : Plan C := { PL with cuts := [(3, [1, 2, 3, 4]), (4, [1, 2, 3, 4])], ords := [(5, [9, 16, 17, 18, 20], (.take 0 [] (.take 3 [] (.take 5 [] (.take 10 [] (.take 12 [] (.take 4 [0, 1, 2, 3, 5, 10, 11, 12, 13, 14, 15] (.take 6 [] (.take 7 [] (.take 8 [0, 1, 2, 3, 4, 5, 6, 7, 10, 11, 12, 13, 14, 15] (.alt 1 (.alt 2 (.alt 9 (.take 11 [0, 1, 2, 3, 4, 5, 6, 7, 8, 9, 10, 12] (.take 13 [] (.take 14 [] (.take 15 [0, 1, 2, 3, 4, 5, 6, 7, 8, 9, 10, 11, 12, 13, 14] (.alt 16 (.alt 17 (.alt 18 (.take 19 [] (.alt 20 .done .nil)) .nil) .nil) .nil))))) (.alt 11 (.take 13 [] (.take 14 [] (.alt 9 (.take 15 [0, 1, 2, 3, 4, 5, 6, 7, 8, 9, 10, 11, 12, 13, 14] (.alt 16 (.alt 17 (.alt 18 (.take 19 [] (.alt 20 .done .nil)) .nil) .nil) .nil)) (.alt 15 (.alt 9 (.alt 16 (.alt 17 (.alt 18 (.take 19 [] (.alt 20 .done .nil)) .nil) .nil) .nil) .nil) .nil)))) .nil)) (.alt 11 (.take 13 [] (.take 14 [] (.alt 2 (.alt 9 (.take 15 [0, 1, 2, 3, 4, 5, 6, 7, 8, 9, 10, 11, 12, 13, 14] (.alt 16 (.alt 17 (.alt 18 (.take 19 [] (.alt 20 .done .nil)) .nil) .nil) .nil)) (.alt 15 (.alt 9 (.alt 16 (.alt 17 (.alt 18 (.take 19 [] (.alt 20 .done .nil)) .nil) .nil) .nil) .nil) .nil)) (.alt 15 (.alt 2 (.alt 9 (.alt 16 (.alt 17 (.alt 18 (.take 19 [] (.alt 20 .done .nil)) .nil) .nil) .nil) .nil) .nil) .nil)))) .nil)) (.alt 2 (.alt 1 (.alt 9 (.take 11 [0, 1, 2, 3, 4, 5, 6, 7, 8, 9, 10, 12] (.take 13 [] (.take 14 [] (.take 15 [0, 1, 2, 3, 4, 5, 6, 7, 8, 9, 10, 11, 12, 13, 14] (.alt 16 (.alt 17 (.alt 18 (.take 19 [] (.alt 20 .done .nil)) .nil) .nil) .nil))))) (.alt 11 (.take 13 [] (.take 14 [] (.alt 9 (.take 15 [0, 1, 2, 3, 4, 5, 6, 7, 8, 9, 10, 11, 12, 13, 14] (.alt 16 (.alt 17 (.alt 18 (.take 19 [] (.alt 20 .done .nil)) .nil) .nil) .nil)) (.alt 15 (.alt 9 (.alt 16 (.alt 17 (.alt 18 (.take 19 [] (.alt 20 .done .nil)) .nil) .nil) .nil) .nil) .nil)))) .nil)) (.alt 9 (.take 11 [0, 1, 2, 3, 4, 5, 6, 7, 8, 9, 10, 12] (.take 13 [] (.take 14 [] (.take 15 [0, 1, 2, 3, 4, 5, 6, 7, 8, 9, 10, 11, 12, 13, 14] (.alt 1 (.alt 16 (.alt 17 (.alt 18 (.take 19 [] (.alt 20 .done .nil)) .nil) .nil) .nil) (.alt 16 (.alt 1 (.alt 17 (.alt 18 (.take 19 [] (.alt 20 .done .nil)) .nil) .nil) (.alt 17 (.take 1 [0, 2, 3, 4, 5, 6, 7, 8, 9, 10, 11, 12, 13, 14, 15, 16, 17] (.alt 18 (.take 19 [] (.alt 20 .done .nil)) .nil)) .nil)) .nil)))))) (.alt 11 (.take 13 [] (.take 14 [] (.alt 1 (.alt 9 (.take 15 [0, 1, 2, 3, 4, 5, 6, 7, 8, 9, 10, 11, 12, 13, 14] (.alt 16 (.alt 17 (.alt 18 (.take 19 [] (.alt 20 .done .nil)) .nil) .nil) .nil)) (.alt 15 (.alt 9 (.alt 16 (.alt 17 (.alt 18 (.take 19 [] (.alt 20 .done .nil)) .nil) .nil) .nil) .nil) .nil)) (.alt 9 (.take 15 [0, 1, 2, 3, 4, 5, 6, 7, 8, 9, 10, 11, 12, 13, 14] (.alt 1 (.alt 16 (.alt 17 (.alt 18 (.take 19 [] (.alt 20 .done .nil)) .nil) .nil) .nil) (.alt 16 (.alt 1 (.alt 17 (.alt 18 (.take 19 [] (.alt 20 .done .nil)) .nil) .nil) (.alt 17 (.take 1 [0, 2, 3, 4, 5, 6, 7, 8, 9, 10, 11, 12, 13, 14, 15, 16, 17] (.alt 18 (.take 19 [] (.alt 20 .done .nil)) .nil)) .nil)) .nil))) (.alt 15 (.alt 1 (.alt 9 (.alt 16 (.alt 17 (.alt 18 (.take 19 [] (.alt 20 .done .nil)) .nil) .nil) .nil) .nil) (.alt 9 (.alt 1 (.alt 16 (.alt 17 (.alt 18 (.take 19 [] (.alt 20 .done .nil)) .nil) .nil) .nil) (.alt 16 (.alt 1 (.alt 17 (.alt 18 (.take 19 [] (.alt 20 .done .nil)) .nil) .nil) (.alt 17 (.take 1 [0, 2, 3, 4, 5, 6, 7, 8, 9, 10, 11, 12, 13, 14, 15, 16, 17] (.alt 18 (.take 19 [] (.alt 20 .done .nil)) .nil)) .nil)) .nil)) .nil)) .nil))))) .nil))) (.alt 11 (.take 13 [] (.take 14 [] (.alt 1 (.alt 2 (.alt 9 (.take 15 [0, 1, 2, 3, 4, 5, 6, 7, 8, 9, 10, 11, 12, 13, 14] (.alt 16 (.alt 17 (.alt 18 (.take 19 [] (.alt 20 .done .nil)) .nil) .nil) .nil)) (.alt 15 (.alt 9 (.alt 16 (.alt 17 (.alt 18 (.take 19 [] (.alt 20 .done .nil)) .nil) .nil) .nil) .nil) .nil)) (.alt 15 (.alt 2 (.alt 9 (.alt 16 (.alt 17 (.alt 18 (.take 19 [] (.alt 20 .done .nil)) .nil) .nil) .nil) .nil) .nil) .nil)) (.alt 2 (.alt 1 (.alt 9 (.take 15 [0, 1, 2, 3, 4, 5, 6, 7, 8, 9, 10, 11, 12, 13, 14] (.alt 16 (.alt 17 (.alt 18 (.take 19 [] (.alt 20 .done .nil)) .nil) .nil) .nil)) (.alt 15 (.alt 9 (.alt 16 (.alt 17 (.alt 18 (.take 19 [] (.alt 20 .done .nil)) .nil) .nil) .nil) .nil) .nil)) (.alt 9 (.take 15 [0, 1, 2, 3, 4, 5, 6, 7, 8, 9, 10, 11, 12, 13, 14] (.alt 1 (.alt 16 (.alt 17 (.alt 18 (.take 19 [] (.alt 20 .done .nil)) .nil) .nil) .nil) (.alt 16 (.alt 1 (.alt 17 (.alt 18 (.take 19 [] (.alt 20 .done .nil)) .nil) .nil) (.alt 17 (.take 1 [0, 2, 3, 4, 5, 6, 7, 8, 9, 10, 11, 12, 13, 14, 15, 16, 17] (.alt 18 (.take 19 [] (.alt 20 .done .nil)) .nil)) .nil)) .nil))) (.alt 15 (.alt 1 (.alt 9 (.alt 16 (.alt 17 (.alt 18 (.take 19 [] (.alt 20 .done .nil)) .nil) .nil) .nil) .nil) (.alt 9 (.alt 1 (.alt 16 (.alt 17 (.alt 18 (.take 19 [] (.alt 20 .done .nil)) .nil) .nil) .nil) (.alt 16 (.alt 1 (.alt 17 (.alt 18 (.take 19 [] (.alt 20 .done .nil)) .nil) .nil) (.alt 17 (.take 1 [0, 2, 3, 4, 5, 6, 7, 8, 9, 10, 11, 12, 13, 14, 15, 16, 17] (.alt 18 (.take 19 [] (.alt 20 .done .nil)) .nil)) .nil)) .nil)) .nil)) .nil))) (.alt 15 (.alt 1 (.alt 2 (.alt 9 (.alt 16 (.alt 17 (.alt 18 (.take 19 [] (.alt 20 .done .nil)) .nil) .nil) .nil) .nil) .nil) (.alt 2 (.alt 1 (.alt 9 (.alt 16 (.alt 17 (.alt 18 (.take 19 [] (.alt 20 .done .nil)) .nil) .nil) .nil) .nil) (.alt 9 (.alt 1 (.alt 16 (.alt 17 (.alt 18 (.take 19 [] (.alt 20 .done .nil)) .nil) .nil) .nil) (.alt 16 (.alt 1 (.alt 17 (.alt 18 (.take 19 [] (.alt 20 .done .nil)) .nil) .nil) (.alt 17 (.take 1 [0, 2, 3, 4, 5, 6, 7, 8, 9, 10, 11, 12, 13, 14, 15, 16, 17] (.alt 18 (.take 19 [] (.alt 20 .done .nil)) .nil)) .nil)) .nil)) .nil)) .nil)) .nil))))) .nil)))))))))))))] }
theorem e : CutEq Pg C Q Tryd.f29 0 id st v o tree := fun J K x => by cases x <;> kernel_rfl
def told (a0 : List S75) : YtpndhhellhfegaaDoorEv.Told A := ⟨f a0, fun r => SoundCall Pg C 29 (S a0) 0 (v r) (o r), fun r h => sdCut v o Tryd.func29 rfl (of_decide_eq_true (by kernel_rfl)) (by rfl) (fun _ => rfl) e (fun J K => by kernel_rfl) h⟩
end spec_l06Copy
/-! #### loop.example/g00983/spec.NodeNew (10) -/
namespace spec_NodeNew
def S (a0 : List S75) (a1 a2 : List Int) (a3 a4 a5 a6 : Int) : List (PV U) := YtpndhhellhfegaaDoorEv.start C 43 [.agg [.sl 76 a0], .sl 3 a1, .sl 3 a2, .agg [.int .i64 a3, .int .i64 a4, .int .i64 a5, .int .i64 a6]] []
def begin (a0 : List S75) (a1 a2 : List Int) (a3 a4 a5 a6 : Int) : Tr Empty A :=
 .call (spec_MemNew.told a1) fun t1 => .ite (!t1.2)
  (.ret (([] : List S75), ([] : List Int), ([] : List Int), (0 : Int), (0 : Int), (0 : Int), (0 : Int), (0 : Int), (0 : Int), (0 : Int), (0 : Int), ([] : List Int), (0 : Int), false))
  (.call (spec_ProgramOk.told a0) fun t2 => .ite (!t2)
   (.ret (([] : List S75), ([] : List Int), ([] : List Int), (0 : Int), (0 : Int), (0 : Int), (0 : Int), (0 : Int), (0 : Int), (0 : Int), (0 : Int), ([] : List Int), (0 : Int), false))
   (.call (spec_StoreOk.told a3 a4 a5 a6) fun t3 => .ite (!t3)
    (.ret (([] : List S75), ([] : List Int), ([] : List Int), (0 : Int), (0 : Int), (0 : Int), (0 : Int), (0 : Int), (0 : Int), (0 : Int), (0 : Int), ([] : List Int), (0 : Int), false))
    (.call (spec_l09Values.told a2) fun t4 => let u4_0 : Tr Empty A := (.last (.last (.call (spec_l06Copy.told a0) fun t5 => .last (.need (((List.length ([] : List Int) : Int) + (List.length a2 : Int)) * (8 : Nat) ≤ room) (.last (.last (.ret (t5, t1.1, (([] : List Int) ++ a2), (0 : Int), a3, a4, a5, a6, (0 : Int), (0 : Int), (0 : Int), ([] : List Int), (0 : Int), true)))))))); .ite (!t4)
     (.ret (([] : List S75), ([] : List Int), ([] : List Int), (0 : Int), (0 : Int), (0 : Int), (0 : Int), (0 : Int), (0 : Int), (0 : Int), (0 : Int), ([] : List Int), (0 : Int), false))
     (.both (.call (spec_l06Copy.told a0) fun t5 => let u5_0 : Tr Empty A := (.need (((List.length ([] : List Int) : Int) + (List.length a2 : Int)) * (8 : Nat) ≤ room) (.last (.last (.ret (t5, t1.1, (([] : List Int) ++ a2), (0 : Int), a3, a4, a5, a6, (0 : Int), (0 : Int), (0 : Int), ([] : List Int), (0 : Int), true))))); let u5_1 : Tr Empty A := (.last (.last (u5_0))); .both (.both (u5_0)
        (u5_1))
       (.last (u5_1)))
      (.both (.both (.call (spec_l06Copy.told a0) fun t5 => let u5_0 : Tr Empty A := (.need (((List.length ([] : List Int) : Int) + (List.length a2 : Int)) * (8 : Nat) ≤ room) (.last (.last (.ret (t5, t1.1, (([] : List Int) ++ a2), (0 : Int), a3, a4, a5, a6, (0 : Int), (0 : Int), (0 : Int), ([] : List Int), (0 : Int), true))))); .both (u5_0)
         (.last (.last (u5_0))))
        (u4_0))
       (.last (.both (.call (spec_l06Copy.told a0) fun t5 => .last (.last (.need (((List.length ([] : List Int) : Int) + (List.length a2 : Int)) * (8 : Nat) ≤ room) (.last (.last (.ret (t5, t1.1, (([] : List Int) ++ a2), (0 : Int), a3, a4, a5, a6, (0 : Int), (0 : Int), (0 : Int), ([] : List Int), (0 : Int), true)))))))
        (u4_0))))))))
def f (a0 : List S75) (a1 a2 : List Int) (a3 a4 a5 a6 : Int) : Option A := (begin a0 a1 a2 a3 a4 a5 a6).run (lp noTree)
def Q : Plan C := { PL with ords := [(4, [5, 7, 8], (.take 2 [] (.take 4 [] (.take 0 [2, 3, 4, 6] (.alt 1 (.alt 3 (.alt 5 (.take 6 [0, 1, 2, 3, 4, 5] (.alt 7 (.alt 8 (.take 9 [] .done) .nil) .nil)) (.alt 6 (.alt 5 (.alt 7 (.alt 8 (.take 9 [] .done) .nil) .nil) .nil) .nil)) (.alt 6 (.alt 3 (.alt 5 (.alt 7 (.alt 8 (.take 9 [] .done) .nil) .nil) .nil) .nil) .nil)) (.alt 3 (.alt 1 (.alt 5 (.take 6 [0, 1, 2, 3, 4, 5] (.alt 7 (.alt 8 (.take 9 [] .done) .nil) .nil)) (.alt 6 (.alt 5 (.alt 7 (.alt 8 (.take 9 [] .done) .nil) .nil) .nil) .nil)) (.alt 6 (.alt 1 (.alt 5 (.alt 7 (.alt 8 (.take 9 [] .done) .nil) .nil) .nil) .nil) .nil)) (.alt 6 (.alt 1 (.alt 3 (.alt 5 (.alt 7 (.alt 8 (.take 9 [] .done) .nil) .nil) .nil) .nil) (.alt 3 (.alt 1 (.alt 5 (.alt 7 (.alt 8 (.take 9 [] .done) .nil) .nil) .nil) .nil) .nil)) .nil)))))))] }
def told (a0 : List S75) (a1 a2 : List Int) (a3 a4 a5 a6 : Int) : YtpndhhellhfegaaDoorEv.Told A := ⟨f a0 a1 a2 a3 a4 a5 a6, fun r => SoundCall Pg C 10 (S a0 a1 a2 a3 a4 a5 a6) 0 (v r) (o r), fun r h => sdFlat (Q := Q) v o Tryd.func10 rfl (of_decide_eq_true (by kernel_rfl)) (by rfl) (fun _ => rfl) (fun J K => by kernel_rfl) h⟩
end spec_NodeNew
/-! #### loop.example/g00983/spec.l38Act (31) -/
namespace spec_l38Act
def S (a0 : List Int) (a1 a2 : Int) : List (PV U) := YtpndhhellhfegaaDoorEv.start C 48 [.ptr 48 0] [.box [.sl 5 a0, .int .i64 a1, .int .i64 a2]]
def begin (a0 : List Int) (a1 a2 : Int) : Tr Empty A :=
 .call (spec_l01Below.told (7 : Int) a0 a1 a2) fun t1 => let u1_0 : Tr Empty A := (.call (spec_l01Below.told (5 : Int) t1.2.1 t1.2.2.1 t1.2.2.2) fun t2 => .call (spec_l01Below.told (2 : Int) t2.2.1 t2.2.2.1 t2.2.2.2) fun t3 => .ret ((3 : Int), t2.1, t3.1, t3.2.1, t3.2.2.1, t3.2.2.2)); let u1_1 : Tr Empty A := (.ite (decide (t1.1 = (3 : Int))) (.call (spec_l01Below.told (60 : Int) t1.2.1 t1.2.2.1 t1.2.2.2) fun t2 => .call (spec_l01Below.told (40 : Int) t2.2.1 t2.2.2.1 t2.2.2.2) fun t3 => .ret ((4 : Int), t2.1, (wr (t2.1 + t3.1)), t3.2.1, t3.2.2.1, t3.2.2.2)) (.ite (decide (t1.1 = (4 : Int))) (.call (spec_l01Below.told (900 : Int) t1.2.1 t1.2.2.1 t1.2.2.2) fun t2 => .ret ((5 : Int), (wr (t2.1 - (200 : Int))), (0 : Int), t2.2.1, t2.2.2.1, t2.2.2.2)) (.call (spec_l01Below.told (6 : Int) t1.2.1 t1.2.2.1 t1.2.2.2) fun t2 => .call (spec_l01PickInt.told ([(0 : Int), (10 : Int), (60 : Int), (300 : Int)]) t2.2.1 t2.2.2.1 t2.2.2.2) fun t3 => .ret ((1 : Int), (wr ((1 : Int) + t2.1)), t3.1, t3.2.1, t3.2.2.1, t3.2.2.2)))); .ite (decide (t1.1 = (0 : Int)))
  (.call (spec_l01Below.told (20 : Int) t1.2.1 t1.2.2.1 t1.2.2.2) fun t2 => .call (spec_l01Below.told (9 : Int) t2.2.1 t2.2.2.1 t2.2.2.2) fun t3 => .ret ((2 : Int), t2.1, (wr (t2.1 + t3.1)), t3.2.1, t3.2.2.1, t3.2.2.2))
  (.ite (decide (t1.1 = (1 : Int)))
   (.ite (decide (t1.1 = (1 : Int)))
    (u1_0)
    (u1_1))
   (.ite (decide (t1.1 = (2 : Int)))
    (u1_0)
    (u1_1)))
def f (a0 : List Int) (a1 a2 : Int) : Option A := (begin a0 a1 a2).run (lp noTree)
def told (a0 : List Int) (a1 a2 : Int) : YtpndhhellhfegaaDoorEv.Told A := ⟨f a0 a1 a2, fun r => SoundCall Pg C 31 (S a0 a1 a2) 1 (v r) (o r), fun r h => sdFlat (Q := PL) v o Tryd.func31 rfl (of_decide_eq_true (by kernel_rfl)) (by rfl) (fun _ => rfl) (fun J K => by kernel_rfl) h⟩
end spec_l38Act
/-! #### loop.example/g00983/spec.l38Acts (14) -/
namespace spec_l38Acts
def S (a0 : List Int) (a1 a2 : Int) : List (PV U) := YtpndhhellhfegaaDoorEv.start C 18 [.ptr 18 0] [.box [.sl 5 a0, .int .i64 a1, .int .i64 a2]]
inductive X where
 | c3 (x0 : List S43) (x1 : Int) (x2 : List Int) (x3 x4 : Int)
def id : X → Nat
 | .c3 .. => 3
def st : X → List (PV U)
 | .c3 x0 x1 x2 x3 x4 => stOf 19 [(0, .ptr 18 0), (3, .own true 44 x0), (4, .int .i64 x1), (18, .box [.sl 5 x2, .int .i64 x3, .int .i64 x4])]
def begin (a0 : List Int) (a1 a2 : Int) : Tr X A :=
 .jump (.c3 ([] : List S43) (0 : Int) a0 a1 a2)
def tree : X → Tr X A
 | .c3 x0 x1 x2 x3 x4 =>
 .call (spec_l01Below.told (7 : Int) x2 x3 x4) fun t1 => .ite (decide (x1 < t1.1))
  (.call (spec_l38Act.told t1.2.1 t1.2.2.1 t1.2.2.2) fun t2 => .need (((List.length x0 : Int) + (List.length ([(⟨t2.1, t2.2.1, t2.2.2.1⟩ : S43)]) : Int)) * (24 : Nat) ≤ room) (.jump (.c3 (x0 ++ [(⟨t2.1, t2.2.1, t2.2.2.1⟩ : S43)]) (wr (x1 + (1 : Int))) t2.2.2.2.1 t2.2.2.2.2.1 t2.2.2.2.2.2)))
  (.ret (x0, t1.2.1, t1.2.2.1, t1.2.2.2))
def f (a0 : List Int) (a1 a2 : Int) : Option A := (begin a0 a1 a2).run (lp tree)
def Q : Plan C := { PL with cuts := [(3, [0, 3, 4, 18])] }
theorem e : CutEq Pg C Q Tryd.f14 1 id st v o tree := fun J K x => by cases x <;> kernel_rfl
def told (a0 : List Int) (a1 a2 : Int) : YtpndhhellhfegaaDoorEv.Told A := ⟨f a0 a1 a2, fun r => SoundCall Pg C 14 (S a0 a1 a2) 1 (v r) (o r), fun r h => sdCut v o Tryd.func14 rfl (of_decide_eq_true (by kernel_rfl)) (by rfl) (fun _ => rfl) e (fun J K => by kernel_rfl) h⟩
end spec_l38Acts
end
end Go.Proofs.YtpndhhellhfegaaDoor.Ev
