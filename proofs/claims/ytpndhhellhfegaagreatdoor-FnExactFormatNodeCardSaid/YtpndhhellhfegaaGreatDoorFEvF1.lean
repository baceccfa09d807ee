/- Functions as trees, with their contracts. No conditions. -/
import Derived.Test.YtpndhhellhfegaaGreatDoorFEvF0
namespace Go.Proofs.YtpndhhellhfegaaGreatDoor.Ev
open Go.Proofs.YtpndhhellhfegaaGreatDoorEv Go.RowKit
set_option linter.unusedVariables false
set_option maxRecDepth 100000
noncomputable section
/-! #### loop.example/g00983/impl.ProgramOk$1 (117) -/
namespace impl_ProgramOk_1
def S (a0 : List S121) (a1 a2 a3 : Int) : List (PV U) := YtpndhhellhfegaaGreatDoorEv.start C 6 [.agg [.sl 122 a0, .int .i64 a1, .int .i64 a2, .int .i64 a3]] []
def begin (a0 : List S121) (a1 a2 a3 : Int) : Tr Empty A :=
 .call (impl_taskOk.told a0 a1 a2 a3) fun t1 => .ret ((!t1))
def f (a0 : List S121) (a1 a2 a3 : Int) : Option A := (begin a0 a1 a2 a3).run (lp noTree)
def told (a0 : List S121) (a1 a2 a3 : Int) : YtpndhhellhfegaaGreatDoorEv.Told A := ⟨f a0 a1 a2 a3, fun r => SoundCall Pg C 117 (S a0 a1 a2 a3) 0 (v r) (o r), fun r h => sdFlat (Q := PL) v o Tryz.func117 rfl (of_decide_eq_true (by kernel_rfl)) (by rfl) (fun _ => rfl) (fun J K => by kernel_rfl) h⟩
end impl_ProgramOk_1
/-! #### slices.IndexFunc[[]loop.example/g00983/impl.Task,loop.example/g00983/impl.Task] (138) -/
namespace slices_IndexFunc_impl_Task_ProgramOk_1
def S (a0 : List S87) : List (PV U) := YtpndhhellhfegaaGreatDoorEv.start C 19 [.sl 88 a0, .fn 117 []] []
inductive X where
 | c2 (x0 : List S87) (x1 x2 : Int)
def id : X → Nat
 | .c2 .. => 2
def st : X → List (PV U)
 | .c2 x0 x1 x2 => stOf 19 [(0, .sl 88 x0), (1, .fn 117 []), (7, .int .i64 x1), (8, .int .i64 x2)]
def begin (a0 : List S87) : Tr X A :=
 .jump (.c2 a0 (List.length a0 : Int) (0 : Int))
def tree : X → Tr X A
 | .c2 x0 x1 x2 =>
 .ite (decide (x2 < x1))
  (.need ((0 : Int) ≤ x2 ∧ x2 < (List.length x0 : Int)) (.call (impl_ProgramOk_1.told ((rdS87 x0 x2).f0) ((rdS87 x0 x2).f1.f0) ((rdS87 x0 x2).f1.f1) ((rdS87 x0 x2).f1.f2)) fun t1 => .ite t1
   (.ret x2)
   (.jump (.c2 x0 x1 (wr (x2 + (1 : Int)))))))
  (.ret ((-1 : Int)))
def f (a0 : List S87) : Option A := (begin a0).run (lp tree)
def Q : Plan C := { PL with cuts := [(2, [0, 1, 7, 8])] }
theorem e : CutEq Pg C Q Tryz.f138 0 id st v o tree := fun J K x => by cases x <;> kernel_rfl
def told (a0 : List S87) : YtpndhhellhfegaaGreatDoorEv.Told A := ⟨f a0, fun r => SoundCall Pg C 138 (S a0) 0 (v r) (o r), fun r h => sdCut v o Tryz.func138 rfl (of_decide_eq_true (by kernel_rfl)) (by rfl) (fun _ => rfl) e (fun J K => by kernel_rfl) h⟩
end slices_IndexFunc_impl_Task_ProgramOk_1
/-! #### slices.ContainsFunc[[]loop.example/g00983/impl.Task,loop.example/g00983/impl.Task] (116) -/
namespace slices_ContainsFunc_impl_Task_ProgramOk_1
def S (a0 : List S87) : List (PV U) := YtpndhhellhfegaaGreatDoorEv.start C 9 [.sl 88 a0, .fn 117 []] []
def begin (a0 : List S87) : Tr Empty A :=
 .call (slices_IndexFunc_impl_Task_ProgramOk_1.told a0) fun t1 => .ret ((decide (t1 ≥ (0 : Int))))
def f (a0 : List S87) : Option A := (begin a0).run (lp noTree)
def told (a0 : List S87) : YtpndhhellhfegaaGreatDoorEv.Told A := ⟨f a0, fun r => SoundCall Pg C 116 (S a0) 0 (v r) (o r), fun r h => sdFlat (Q := PL) v o Tryz.func116 rfl (of_decide_eq_true (by kernel_rfl)) (by rfl) (fun _ => rfl) (fun J K => by kernel_rfl) h⟩
end slices_ContainsFunc_impl_Task_ProgramOk_1
/-! #### loop.example/g00983/impl.ProgramOk (94) -/
namespace impl_ProgramOk
def S (a0 : List S87) : List (PV U) := YtpndhhellhfegaaGreatDoorEv.start C 13 [.agg [.sl 88 a0]] []
def begin (a0 : List S87) : Tr Empty A :=
 .call (impl_within.told (List.length a0 : Int) (1 : Int) (6 : Int)) fun t1 => .ite t1
  (.call (slices_ContainsFunc_impl_Task_ProgramOk_1.told a0) fun t2 => .ret ((!t2)))
  (.ret false)
def f (a0 : List S87) : Option A := (begin a0).run (lp noTree)
def told (a0 : List S87) : YtpndhhellhfegaaGreatDoorEv.Told A := ⟨f a0, fun r => SoundCall Pg C 94 (S a0) 0 (v r) (o r), fun r h => sdFlat (Q := PL) v o Tryz.func94 rfl (of_decide_eq_true (by kernel_rfl)) (by rfl) (fun _ => rfl) (fun J K => by kernel_rfl) h⟩
end impl_ProgramOk
/-! #### loop.example/g00983/impl.IsValue (96) -/
namespace impl_IsValue
def S (a0 : Int) : List (PV U) := YtpndhhellhfegaaGreatDoorEv.start C 5 [.int .i64 a0] []
def begin (a0 : Int) : Tr Empty A :=
 .call (impl_within.told a0 (-1000000 : Int) (1000000 : Int)) fun t1 => .ret t1
def f (a0 : Int) : Option A := (begin a0).run (lp noTree)
def told (a0 : Int) : YtpndhhellhfegaaGreatDoorEv.Told A := ⟨f a0, fun r => SoundCall Pg C 96 (S a0) 0 (v r) (o r), fun r h => sdFlat (Q := PL) v o Tryz.func96 rfl (of_decide_eq_true (by kernel_rfl)) (by rfl) (fun _ => rfl) (fun J K => by kernel_rfl) h⟩
end impl_IsValue
/-! #### loop.example/g00983/impl.areValues$1 (98) -/
namespace impl_areValues_1
def S (a0 : Int) : List (PV U) := YtpndhhellhfegaaGreatDoorEv.start C 6 [.int .i64 a0] []
def begin (a0 : Int) : Tr Empty A :=
 .call (impl_IsValue.told a0) fun t1 => .ret ((!t1))
def f (a0 : Int) : Option A := (begin a0).run (lp noTree)
def told (a0 : Int) : YtpndhhellhfegaaGreatDoorEv.Told A := ⟨f a0, fun r => SoundCall Pg C 98 (S a0) 0 (v r) (o r), fun r h => sdFlat (Q := PL) v o Tryz.func98 rfl (of_decide_eq_true (by kernel_rfl)) (by rfl) (fun _ => rfl) (fun J K => by kernel_rfl) h⟩
end impl_areValues_1
/-! #### slices.IndexFunc[[]int,int] (119) -/
namespace slices_IndexFunc_int_areValues_1
def S (a0 : List Int) : List (PV U) := YtpndhhellhfegaaGreatDoorEv.start C 19 [.sl 3 a0, .fn 98 []] []
inductive X where
 | c2 (x0 : List Int) (x1 x2 : Int)
def id : X → Nat
 | .c2 .. => 2
def st : X → List (PV U)
 | .c2 x0 x1 x2 => stOf 19 [(0, .sl 3 x0), (1, .fn 98 []), (7, .int .i64 x1), (8, .int .i64 x2)]
def begin (a0 : List Int) : Tr X A :=
 .jump (.c2 a0 (List.length a0 : Int) (0 : Int))
def tree : X → Tr X A
 | .c2 x0 x1 x2 =>
 .ite (decide (x2 < x1))
  (.need ((0 : Int) ≤ x2 ∧ x2 < (List.length x0 : Int)) (.call (impl_areValues_1.told (rdI x0 x2)) fun t1 => .ite t1
   (.ret x2)
   (.jump (.c2 x0 x1 (wr (x2 + (1 : Int)))))))
  (.ret ((-1 : Int)))
def f (a0 : List Int) : Option A := (begin a0).run (lp tree)
def Q : Plan C := { PL with cuts := [(2, [0, 1, 7, 8])] }
theorem e : CutEq Pg C Q Tryz.f119 0 id st v o tree := fun J K x => by cases x <;> kernel_rfl
def told (a0 : List Int) : YtpndhhellhfegaaGreatDoorEv.Told A := ⟨f a0, fun r => SoundCall Pg C 119 (S a0) 0 (v r) (o r), fun r h => sdCut v o Tryz.func119 rfl (of_decide_eq_true (by kernel_rfl)) (by rfl) (fun _ => rfl) e (fun J K => by kernel_rfl) h⟩
end slices_IndexFunc_int_areValues_1
/-! #### slices.ContainsFunc[[]int,int] (97) -/
namespace slices_ContainsFunc_int_areValues_1
def S (a0 : List Int) : List (PV U) := YtpndhhellhfegaaGreatDoorEv.start C 9 [.sl 3 a0, .fn 98 []] []
def begin (a0 : List Int) : Tr Empty A :=
 .call (slices_IndexFunc_int_areValues_1.told a0) fun t1 => .ret ((decide (t1 ≥ (0 : Int))))
def f (a0 : List Int) : Option A := (begin a0).run (lp noTree)
def told (a0 : List Int) : YtpndhhellhfegaaGreatDoorEv.Told A := ⟨f a0, fun r => SoundCall Pg C 97 (S a0) 0 (v r) (o r), fun r h => sdFlat (Q := PL) v o Tryz.func97 rfl (of_decide_eq_true (by kernel_rfl)) (by rfl) (fun _ => rfl) (fun J K => by kernel_rfl) h⟩
end slices_ContainsFunc_int_areValues_1
/-! #### loop.example/g00983/impl.areValues (66) -/
namespace impl_areValues
def S (a0 : List Int) : List (PV U) := YtpndhhellhfegaaGreatDoorEv.start C 6 [.sl 3 a0] []
def begin (a0 : List Int) : Tr Empty A :=
 .call (slices_ContainsFunc_int_areValues_1.told a0) fun t1 => .ret ((!t1))
def f (a0 : List Int) : Option A := (begin a0).run (lp noTree)
def told (a0 : List Int) : YtpndhhellhfegaaGreatDoorEv.Told A := ⟨f a0, fun r => SoundCall Pg C 66 (S a0) 0 (v r) (o r), fun r h => sdFlat (Q := PL) v o Tryz.func66 rfl (of_decide_eq_true (by kernel_rfl)) (by rfl) (fun _ => rfl) (fun J K => by kernel_rfl) h⟩
end impl_areValues
/-! #### loop.example/g00983/impl.PackControl (70) -/
namespace impl_PackControl
def S (a0 a1 a2 : Int) : List (PV U) := YtpndhhellhfegaaGreatDoorEv.start C 27 [.int .i64 a0, .int .i64 a1, .int .i64 a2] []
def begin (a0 a1 a2 : Int) : Tr Empty A :=
 .call (impl_within.told a0 (0 : Int) (5 : Int)) fun t1 => .ite (!t1)
  (.ret ((-1 : Int)))
  (.call (impl_within.told a1 (0 : Int) (8 : Int)) fun t2 => .ite (!t2)
   (.ret ((-1 : Int)))
   (.call (impl_within.told a2 (0 : Int) (24 : Int)) fun t3 => .ite (!t3)
    (.ret ((-1 : Int)))
    (.ret ((wr (a0 + (wr ((8 : Int) * (wr (a1 + (wr ((16 : Int) * a2))))))))))))
def f (a0 a1 a2 : Int) : Option A := (begin a0 a1 a2).run (lp noTree)
def told (a0 a1 a2 : Int) : YtpndhhellhfegaaGreatDoorEv.Told A := ⟨f a0 a1 a2, fun r => SoundCall Pg C 70 (S a0 a1 a2) 0 (v r) (o r), fun r h => sdFlat (Q := PL) v o Tryz.func70 rfl (of_decide_eq_true (by kernel_rfl)) (by rfl) (fun _ => rfl) (fun J K => by kernel_rfl) h⟩
end impl_PackControl
/-! #### loop.example/g00983/impl.UnpackControl (33) -/
namespace impl_UnpackControl
def S (a0 : Int) : List (PV U) := YtpndhhellhfegaaGreatDoorEv.start C 28 [.int .i64 a0] []
def begin (a0 : Int) : Tr Empty A :=
 .need ((8 : Int) ≠ 0) (.need ((8 : Int) ≠ 0) (.need ((16 : Int) ≠ 0) (.need ((128 : Int) ≠ 0) (.ite (decide (a0 < (0 : Int)))
  (.ret ((-1 : Int), (-1 : Int), (-1 : Int)))
  (.call (impl_PackControl.told (Int.tmod a0 (8 : Int)) (Int.tmod (wr (Int.tdiv a0 (8 : Int))) (16 : Int)) (wr (Int.tdiv a0 (128 : Int)))) fun t1 => .ite (!decide (t1 = a0))
   (.ret ((-1 : Int), (-1 : Int), (-1 : Int)))
   (.ret ((Int.tmod a0 (8 : Int)), (Int.tmod (wr (Int.tdiv a0 (8 : Int))) (16 : Int)), (wr (Int.tdiv a0 (128 : Int))))))))))
def f (a0 : Int) : Option A := (begin a0).run (lp noTree)
def told (a0 : Int) : YtpndhhellhfegaaGreatDoorEv.Told A := ⟨f a0, fun r => SoundCall Pg C 33 (S a0) 0 (v r) (o r), fun r h => sdFlat (Q := PL) v o Tryz.func33 rfl (of_decide_eq_true (by kernel_rfl)) (by rfl) (fun _ => rfl) (fun J K => by kernel_rfl) h⟩
end impl_UnpackControl
/-! #### loop.example/g00983/impl.MemOk (64) -/
namespace impl_MemOk
def S (a0 : List S87) (a1 : List Int) : List (PV U) := YtpndhhellhfegaaGreatDoorEv.start C 72 [.agg [.sl 88 a0], .sl 3 a1] []
inductive X where
 | c7 (x0 : List Int) (x1 x2 : Int)
def id : X → Nat
 | .c7 .. => 7
def st : X → List (PV U)
 | .c7 x0 x1 x2 => stOf 72 [(1, .sl 3 x0), (48, .int .i64 x1), (49, .int .i64 x2)]
def begin (a0 : List S87) (a1 : List Int) : Tr X A :=
 .call (impl_ProgramOk.told a0) fun t1 => .ite (!t1)
  (.ret false)
  (.ite (!decide ((List.length a1 : Int) = (49 : Int)))
   (.ret false)
   (.need ((0 : Int) ≤ (0 : Int) ∧ (0 : Int) ≤ (8 : Int) ∧ (8 : Int) ≤ (List.length a1 : Int)) (.call (impl_areValues.told (List.take (Int.toNat (8 : Int)) a1)) fun t2 => .ite (!t2)
    (.ret false)
    (.need ((0 : Int) ≤ (8 : Int) ∧ (8 : Int) < (List.length a1 : Int)) (.call (impl_UnpackControl.told (rdI a1 (8 : Int))) fun t3 => .ite (decide (t3.1 < (0 : Int)))
     (.ret false)
     (.ite (decide (t3.1 ≥ (List.length a0 : Int)))
      (.ret false)
      (.need ((0 : Int) ≤ (25 : Int) ∧ (25 : Int) ≤ (wr ((25 : Int) + t3.2.2)) ∧ (wr ((25 : Int) + t3.2.2)) ≤ (List.length a1 : Int)) (.call (impl_areValues.told (List.drop (Int.toNat (25 : Int)) (List.take (Int.toNat (wr ((25 : Int) + t3.2.2))) a1))) fun t4 => .ite (!t4)
       (.ret false)
       (.jump (.c7 a1 t3.2.1 (0 : Int)))))))))))
def tree : X → Tr X A
 | .c7 x0 x1 x2 =>
 .ite (decide (x2 < x1))
  (.need ((0 : Int) ≤ (wr ((9 : Int) + (wr ((2 : Int) * x2)))) ∧ (wr ((9 : Int) + (wr ((2 : Int) * x2)))) < (List.length x0 : Int)) (.call (impl_isVar.told (rdI x0 (wr ((9 : Int) + (wr ((2 : Int) * x2)))))) fun t1 => .ite (!t1)
   (.ret false)
   (.need ((0 : Int) ≤ (wr ((wr ((9 : Int) + (wr ((2 : Int) * x2)))) + (1 : Int))) ∧ (wr ((wr ((9 : Int) + (wr ((2 : Int) * x2)))) + (1 : Int))) < (List.length x0 : Int)) (.call (impl_IsValue.told (rdI x0 (wr ((wr ((9 : Int) + (wr ((2 : Int) * x2)))) + (1 : Int))))) fun t2 => .ite (!t2)
    (.ret false)
    (.jump (.c7 x0 x1 (wr (x2 + (1 : Int)))))))))
  (.ret true)
def f (a0 : List S87) (a1 : List Int) : Option A := (begin a0 a1).run (lp tree)
def Q : Plan C := { PL with cuts := [(7, [1, 48, 49])] }
theorem e : CutEq Pg C Q Tryz.f64 0 id st v o tree := fun J K x => by cases x <;> kernel_rfl
def told (a0 : List S87) (a1 : List Int) : YtpndhhellhfegaaGreatDoorEv.Told A := ⟨f a0 a1, fun r => SoundCall Pg C 64 (S a0 a1) 0 (v r) (o r), fun r h => sdCut v o Tryz.func64 rfl (of_decide_eq_true (by kernel_rfl)) (by rfl) (fun _ => rfl) e (fun J K => by kernel_rfl) h⟩
end impl_MemOk
/-! #### loop.example/g00983/impl.StoreOk (65) -/
namespace impl_StoreOk
def S (a0 a1 a2 a3 : Int) : List (PV U) := YtpndhhellhfegaaGreatDoorEv.start C 25 [.agg [.int .i64 a0, .int .i64 a1, .int .i64 a2, .int .i64 a3]] []
def begin (a0 a1 a2 a3 : Int) : Tr Empty A :=
 .call (impl_within.told a1 (1 : Int) (5000 : Int)) fun t1 => .ite t1
  (.call (impl_within.told a0 (0 : Int) a1) fun t2 => .ite t2
   (.call (impl_within.told a2 (1 : Int) a1) fun t3 => .ite t3
    (.call (impl_within.told a3 (0 : Int) (100 : Int)) fun t4 => .ret t4)
    (.ret false))
   (.ret false))
  (.ret false)
def f (a0 a1 a2 a3 : Int) : Option A := (begin a0 a1 a2 a3).run (lp noTree)
def told (a0 a1 a2 a3 : Int) : YtpndhhellhfegaaGreatDoorEv.Told A := ⟨f a0 a1 a2 a3, fun r => SoundCall Pg C 65 (S a0 a1 a2 a3) 0 (v r) (o r), fun r h => sdFlat (Q := PL) v o Tryz.func65 rfl (of_decide_eq_true (by kernel_rfl)) (by rfl) (fun _ => rfl) (fun J K => by kernel_rfl) h⟩
end impl_StoreOk
/-! #### loop.example/g00983/impl.SpanOk (68) -/
namespace impl_SpanOk
def S (a0 a1 : Int) : List (PV U) := YtpndhhellhfegaaGreatDoorEv.start C 18 [.agg [.int .i64 a0, .int .i64 a1]] []
def begin (a0 a1 : Int) : Tr Empty A :=
 .ite (decide (a0 ≥ (0 : Int)))
  (.ite (decide (a0 ≤ a1))
   (.ret ((decide (a1 ≤ (1000000 : Int)))))
   (.ret false))
  (.ret false)
def f (a0 a1 : Int) : Option A := (begin a0 a1).run (lp noTree)
def told (a0 a1 : Int) : YtpndhhellhfegaaGreatDoorEv.Told A := ⟨f a0 a1, fun r => SoundCall Pg C 68 (S a0 a1) 0 (v r) (o r), fun r h => sdFlat (Q := PL) v o Tryz.func68 rfl (of_decide_eq_true (by kernel_rfl)) (by rfl) (fun _ => rfl) (fun J K => by kernel_rfl) h⟩
end impl_SpanOk
/-! #### slices.Clone[[]int,int] (51) -/
namespace slices_Clone_int
def S (a0 : List Int) : List (PV U) := YtpndhhellhfegaaGreatDoorEv.start C 8 [.sl 3 a0] []
def begin (a0 : List Int) : Tr Empty A :=
 .nilq a0
  (.ret (([] : List Int)))
  (.need (((List.length ([] : List Int) : Int) + (List.length a0 : Int)) * (8 : Nat) ≤ room) (.ret ((([] : List Int) ++ a0))))
def f (a0 : List Int) : Option A := (begin a0).run (lp noTree)
def told (a0 : List Int) : YtpndhhellhfegaaGreatDoorEv.Told A := ⟨f a0, fun r => SoundCall Pg C 51 (S a0) 0 (v r) (o r), fun r h => sdFlat (Q := PL) v o Tryz.func51 rfl (of_decide_eq_true (by kernel_rfl)) (by rfl) (fun _ => rfl) (fun J K => by kernel_rfl) h⟩
end slices_Clone_int
/-! #### loop.example/g00983/impl.MemSent (47) -/
namespace impl_MemSent
def S (a0 : List Int) : List (PV U) := YtpndhhellhfegaaGreatDoorEv.start C 24 [.sl 3 a0] []
def begin (a0 : List Int) : Tr Empty A :=
 .ite (!decide ((List.length a0 : Int) = (49 : Int)))
  (.ret (([] : List Int)))
  (.need ((0 : Int) ≤ (8 : Int) ∧ (8 : Int) < (List.length a0 : Int)) (.call (impl_UnpackControl.told (rdI a0 (8 : Int))) fun t1 => .ite (decide (t1.2.2 < (0 : Int)))
   (.ret (([] : List Int)))
   (.need ((0 : Int) ≤ (25 : Int) ∧ (25 : Int) ≤ (wr ((25 : Int) + t1.2.2)) ∧ (wr ((25 : Int) + t1.2.2)) ≤ (List.length a0 : Int)) (.call (slices_Clone_int.told (List.drop (Int.toNat (25 : Int)) (List.take (Int.toNat (wr ((25 : Int) + t1.2.2))) a0))) fun t2 => .ret t2))))
def f (a0 : List Int) : Option A := (begin a0).run (lp noTree)
def told (a0 : List Int) : YtpndhhellhfegaaGreatDoorEv.Told A := ⟨f a0, fun r => SoundCall Pg C 47 (S a0) 0 (v r) (o r), fun r h => sdFlat (Q := PL) v o Tryz.func47 rfl (of_decide_eq_true (by kernel_rfl)) (by rfl) (fun _ => rfl) (fun J K => by kernel_rfl) h⟩
end impl_MemSent
/-! #### slices.Equal[[]int,int] (50) -/
namespace slices_Equal_int
def S (a0 a1 : List Int) : List (PV U) := YtpndhhellhfegaaGreatDoorEv.start C 26 [.sl 3 a0, .sl 3 a1] []
inductive X where
 | c4 (x0 x1 : List Int) (x2 x3 : Int)
def id : X → Nat
 | .c4 .. => 4
def st : X → List (PV U)
 | .c4 x0 x1 x2 x3 => stOf 26 [(0, .sl 3 x0), (1, .sl 3 x1), (12, .int .i64 x2), (13, .int .i64 x3)]
def begin (a0 a1 : List Int) : Tr X A :=
 .ite (!decide ((List.length a0 : Int) = (List.length a1 : Int)))
  (.ret false)
  (.jump (.c4 a0 a1 (List.length a0 : Int) (0 : Int)))
def tree : X → Tr X A
 | .c4 x0 x1 x2 x3 =>
 .ite (decide (x3 < x2))
  (.need ((0 : Int) ≤ x3 ∧ x3 < (List.length x0 : Int)) (.need ((0 : Int) ≤ x3 ∧ x3 < (List.length x1 : Int)) (.ite (!decide ((rdI x0 x3) = (rdI x1 x3)))
   (.ret false)
   (.jump (.c4 x0 x1 x2 (wr (x3 + (1 : Int))))))))
  (.ret true)
def f (a0 a1 : List Int) : Option A := (begin a0 a1).run (lp tree)
def Q : Plan C := { PL with cuts := [(4, [0, 1, 12, 13])], ords := [(6, [], (.take 0 [] (.take 1 [] (.take 2 [] (.take 4 [] (.take 5 [] (.take 6 [] (.take 3 [0, 1, 2, 4, 5, 6, 7] (.take 7 [0, 1, 2, 3, 4, 5, 6] (.take 8 [] .done))))))))))] }
theorem e : CutEq Pg C Q Tryz.f50 0 id st v o tree := fun J K x => by cases x <;> kernel_rfl
def told (a0 a1 : List Int) : YtpndhhellhfegaaGreatDoorEv.Told A := ⟨f a0 a1, fun r => SoundCall Pg C 50 (S a0 a1) 0 (v r) (o r), fun r h => sdCut v o Tryz.func50 rfl (of_decide_eq_true (by kernel_rfl)) (by rfl) (fun _ => rfl) e (fun J K => by kernel_rfl) h⟩
end slices_Equal_int
/-! #### loop.example/g00983/impl.IsPrefixOf (99) -/
namespace impl_IsPrefixOf
def S (a0 a1 : List Int) : List (PV U) := YtpndhhellhfegaaGreatDoorEv.start C 18 [.sl 3 a0, .sl 3 a1] []
def begin (a0 a1 : List Int) : Tr Empty A :=
 .ite (decide ((List.length a0 : Int) ≤ (List.length a1 : Int)))
  (.need ((0 : Int) ≤ (0 : Int) ∧ (0 : Int) ≤ (List.length a0 : Int) ∧ (List.length a0 : Int) ≤ (List.length a1 : Int)) (.call (slices_Equal_int.told a0 (List.take (Int.toNat (List.length a0 : Int)) a1)) fun t1 => .ret t1))
  (.ret false)
def f (a0 a1 : List Int) : Option A := (begin a0 a1).run (lp noTree)
def told (a0 a1 : List Int) : YtpndhhellhfegaaGreatDoorEv.Told A := ⟨f a0 a1, fun r => SoundCall Pg C 99 (S a0 a1) 0 (v r) (o r), fun r h => sdFlat (Q := PL) v o Tryz.func99 rfl (of_decide_eq_true (by kernel_rfl)) (by rfl) (fun _ => rfl) (fun J K => by kernel_rfl) h⟩
end impl_IsPrefixOf
/-! #### loop.example/g00983/impl.LinkOk (69) -/
namespace impl_LinkOk
def S (a0 : List Int) (a1 : Int) (a2 : List Int) : List (PV U) := YtpndhhellhfegaaGreatDoorEv.start C 20 [.sl 3 a0, .agg [.int .i64 a1, .sl 3 a2]] []
def begin (a0 : List Int) (a1 : Int) (a2 : List Int) : Tr Empty A :=
 .last (.call (impl_within.told a1 (0 : Int) (List.length a2 : Int)) fun t1 => .ite t1
  (.last (.call (impl_MemSent.told a0) fun t2 => .last (.call (impl_IsPrefixOf.told a2 t2) fun t3 => .ret t3)))
  (.last (.last (.ret false))))
def f (a0 : List Int) (a1 : Int) (a2 : List Int) : Option A := (begin a0 a1 a2).run (lp noTree)
def Q : Plan C := { PL with ords := [(1, [], (.take 0 [] (.take 2 [] (.take 3 [] (.take 1 [0, 2, 3, 4, 5] (.take 4 [0, 1, 2, 3] (.take 5 [] (.alt 6 (.take 7 [] (.take 8 [] (.take 9 [] (.take 11 [] (.take 10 [0, 1, 2, 3, 4, 5, 6, 7, 8, 9, 11, 12] (.alt 12 (.alt 13 (.take 14 [] (.take 15 [] .done)) .nil) .nil)))))) .nil))))))))] }
def told (a0 : List Int) (a1 : Int) (a2 : List Int) : YtpndhhellhfegaaGreatDoorEv.Told A := ⟨f a0 a1 a2, fun r => SoundCall Pg C 69 (S a0 a1 a2) 0 (v r) (o r), fun r h => sdFlat (Q := Q) v o Tryz.func69 rfl (of_decide_eq_true (by kernel_rfl)) (by rfl) (fun _ => rfl) (fun J K => by kernel_rfl) h⟩
end impl_LinkOk
/-! #### loop.example/g00983/impl.NodeOk (32) -/
namespace impl_NodeOk
def S (a0 : List S87) (a1 a2 : List Int) (a3 a4 a5 a6 a7 a8 a9 a10 : Int) (a11 : List Int) (a12 : Int) : List (PV U) := YtpndhhellhfegaaGreatDoorEv.start C 40 [.agg [.sl 88 a0, .sl 3 a1, .sl 3 a2, .int .i64 a3, .int .i64 a4, .int .i64 a5, .int .i64 a6, .int .i64 a7, .int .i64 a8, .int .i64 a9, .int .i64 a10, .sl 3 a11, .int .i64 a12]] []
def begin (a0 : List S87) (a1 a2 : List Int) (a3 a4 a5 a6 a7 a8 a9 a10 : Int) (a11 : List Int) (a12 : Int) : Tr Empty A :=
 .call (impl_MemOk.told a0 a1) fun t1 => .ite t1
  (.call (impl_StoreOk.told a4 a5 a6 a7) fun t2 => .ite t2
   (.call (impl_areValues.told a2) fun t3 => .ite t3
    (.call (impl_within.told a3 (0 : Int) (400000 : Int)) fun t4 => .ite t4
     (.call (impl_SpanOk.told a8 a9) fun t5 => .ite t5
      (.call (impl_LinkOk.told a1 a10 a11) fun t6 => .ite t6
       (.call (impl_within.told a12 (0 : Int) (100000 : Int)) fun t7 => .ret t7)
       (.ret false))
      (.ret false))
     (.ret false))
    (.ret false))
   (.ret false))
  (.ret false)
def f (a0 : List S87) (a1 a2 : List Int) (a3 a4 a5 a6 a7 a8 a9 a10 : Int) (a11 : List Int) (a12 : Int) : Option A := (begin a0 a1 a2 a3 a4 a5 a6 a7 a8 a9 a10 a11 a12).run (lp noTree)
def told (a0 : List S87) (a1 a2 : List Int) (a3 a4 a5 a6 a7 a8 a9 a10 : Int) (a11 : List Int) (a12 : Int) : YtpndhhellhfegaaGreatDoorEv.Told A := ⟨f a0 a1 a2 a3 a4 a5 a6 a7 a8 a9 a10 a11 a12, fun r => SoundCall Pg C 32 (S a0 a1 a2 a3 a4 a5 a6 a7 a8 a9 a10 a11 a12) 0 (v r) (o r), fun r h => sdFlat (Q := PL) v o Tryz.func32 rfl (of_decide_eq_true (by kernel_rfl)) (by rfl) (fun _ => rfl) (fun J K => by kernel_rfl) h⟩
end impl_NodeOk
/-! #### strconv.Itoa (46) -/
namespace strconv_Itoa
def S (a0 : Int) : List (PV U) := YtpndhhellhfegaaGreatDoorEv.start C 1 [.int .i64 a0] []
def f (a0 : Int) : Option A := if -9223372036854775808 ≤ a0 ∧ a0 ≤ 9223372036854775807 then some ⟨(Lib.itoa a0).toArray⟩ else none
def told (a0 : Int) : YtpndhhellhfegaaGreatDoorEv.Told A := ⟨f a0, fun r => SoundCall Pg C 46 (S a0) 0 (v r) (o r), fun r h => by
  unfold f at h
  split at h
  · rename_i hc
    cases h
    exact text_sound (C := C) ⟨_, Tryz.func46, rfl, rfl⟩ (fun w ht => (Go.Proofs.Tryz.strconv_Itoa a0 hc.1 hc.2 w ht.pow).mono (by rintro e w' ⟨rfl, k, os, rfl⟩; exact ⟨rfl, Lib.below_grow _ _ (Nat.le_refl _) _ _⟩))
  · cases h⟩
end strconv_Itoa
/-! #### loop.example/g00983/impl.FormatInt (16) -/
namespace impl_FormatInt
def S (a0 : Int) : List (PV U) := YtpndhhellhfegaaGreatDoorEv.start C 5 [.int .i64 a0] []
def begin (a0 : Int) : Tr Empty A :=
 .call (strconv_Itoa.told a0) fun t1 => .ret t1
def f (a0 : Int) : Option A := (begin a0).run (lp noTree)
def told (a0 : Int) : YtpndhhellhfegaaGreatDoorEv.Told A := ⟨f a0, fun r => SoundCall Pg C 16 (S a0) 0 (v r) (o r), fun r h => sdFlat (Q := PL) v o Tryz.func16 rfl (of_decide_eq_true (by kernel_rfl)) (by rfl) (fun _ => rfl) (fun J K => by kernel_rfl) h⟩
end impl_FormatInt
/-! #### loop.example/g00983/impl.spaced (34) -/
namespace impl_spaced
def S (a0 : ByteArray) (a1 : List Int) : List (PV U) := YtpndhhellhfegaaGreatDoorEv.start C 22 [.str a0, .sl 3 a1] []
inductive X where
 | c3 (x0 : ByteArray) (x1 : List Int) (x2 x3 : Int)
def id : X → Nat
 | .c3 .. => 3
def st : X → List (PV U)
 | .c3 x0 x1 x2 x3 => stOf 22 [(5, .str x0), (9, .sl 3 x1), (10, .int .i64 x2), (11, .int .i64 x3)]
def begin (a0 : ByteArray) (a1 : List Int) : Tr X A :=
 .jump (.c3 a0 a1 (List.length a1 : Int) (0 : Int))
def tree : X → Tr X A
 | .c3 x0 x1 x2 x3 =>
 .ite (decide (x3 < x2))
  (.need ((0 : Int) ≤ x3 ∧ x3 < (List.length x1 : Int)) (.call (impl_FormatInt.told (rdI x1 x3)) fun t1 => .need (((⟨#[32]⟩ : ByteArray).size : Int) + t1.size ≤ room) (.need ((x0.size : Int) + ((⟨#[32]⟩ : ByteArray) ++ t1).size ≤ room) (.jump (.c3 (x0 ++ ((⟨#[32]⟩ : ByteArray) ++ t1)) x1 x2 (wr (x3 + (1 : Int))))))))
  (.ret x0)
def f (a0 : ByteArray) (a1 : List Int) : Option A := (begin a0 a1).run (lp tree)
def Q : Plan C := { PL with cuts := [(3, [5, 9, 10, 11])] }
theorem e : CutEq Pg C Q Tryz.f34 0 id st v o tree := fun J K x => by cases x <;> kernel_rfl
def told (a0 : ByteArray) (a1 : List Int) : YtpndhhellhfegaaGreatDoorEv.Told A := ⟨f a0 a1, fun r => SoundCall Pg C 34 (S a0 a1) 0 (v r) (o r), fun r h => sdCut v o Tryz.func34 rfl (of_decide_eq_true (by kernel_rfl)) (by rfl) (fun _ => rfl) e (fun J K => by kernel_rfl) h⟩
end impl_spaced
/-! #### loop.example/g00983/impl.SentBy (17) -/
namespace impl_SentBy
def S (a0 : List S87) (a1 a2 : List Int) (a3 a4 a5 a6 a7 a8 a9 a10 : Int) (a11 : List Int) (a12 : Int) : List (PV U) := YtpndhhellhfegaaGreatDoorEv.start C 9 [.agg [.sl 88 a0, .sl 3 a1, .sl 3 a2, .int .i64 a3, .int .i64 a4, .int .i64 a5, .int .i64 a6, .int .i64 a7, .int .i64 a8, .int .i64 a9, .int .i64 a10, .sl 3 a11, .int .i64 a12]] []
def begin (a0 : List S87) (a1 a2 : List Int) (a3 a4 a5 a6 a7 a8 a9 a10 : Int) (a11 : List Int) (a12 : Int) : Tr Empty A :=
 .call (impl_NodeOk.told a0 a1 a2 a3 a4 a5 a6 a7 a8 a9 a10 a11 a12) fun t1 => .ite (!t1)
  (.ret (([] : List Int)))
  (.call (impl_MemSent.told a1) fun t2 => .ret t2)
def f (a0 : List S87) (a1 a2 : List Int) (a3 a4 a5 a6 a7 a8 a9 a10 : Int) (a11 : List Int) (a12 : Int) : Option A := (begin a0 a1 a2 a3 a4 a5 a6 a7 a8 a9 a10 a11 a12).run (lp noTree)
def told (a0 : List S87) (a1 a2 : List Int) (a3 a4 a5 a6 a7 a8 a9 a10 : Int) (a11 : List Int) (a12 : Int) : YtpndhhellhfegaaGreatDoorEv.Told A := ⟨f a0 a1 a2 a3 a4 a5 a6 a7 a8 a9 a10 a11 a12, fun r => SoundCall Pg C 17 (S a0 a1 a2 a3 a4 a5 a6 a7 a8 a9 a10 a11 a12) 0 (v r) (o r), fun r h => sdFlat (Q := PL) v o Tryz.func17 rfl (of_decide_eq_true (by kernel_rfl)) (by rfl) (fun _ => rfl) (fun J K => by kernel_rfl) h⟩
end impl_SentBy
/-! #### loop.example/g00983/impl.FormatNode (8) -/
namespace impl_FormatNode
def S (a0 : List S87) (a1 a2 : List Int) (a3 a4 a5 a6 a7 a8 a9 a10 : Int) (a11 : List Int) (a12 : Int) : List (PV U) := YtpndhhellhfegaaGreatDoorEv.start C 59 [.agg [.sl 88 a0, .sl 3 a1, .sl 3 a2, .int .i64 a3, .int .i64 a4, .int .i64 a5, .int .i64 a6, .int .i64 a7, .int .i64 a8, .int .i64 a9, .int .i64 a10, .sl 3 a11, .int .i64 a12]] []
def begin (a0 : List S87) (a1 a2 : List Int) (a3 a4 a5 a6 a7 a8 a9 a10 : Int) (a11 : List Int) (a12 : Int) : Tr Empty A :=
 .call (impl_NodeOk.told a0 a1 a2 a3 a4 a5 a6 a7 a8 a9 a10 a11 a12) fun t1 => .ite (!t1)
  (.ret (([] : List ByteArray)))
  (.need ((0 : Int) ≤ (8 : Int) ∧ (8 : Int) < (List.length a1 : Int)) (.call (impl_UnpackControl.told (rdI a1 (8 : Int))) fun t2 => .need (true = true) (.call (impl_spaced.told (⟨#[116, 97, 115, 107]⟩ : ByteArray) ([t2.1])) fun t3 => .need (true = true) (.need (true = true) (.call (impl_spaced.told (⟨#[100, 111, 110, 101]⟩ : ByteArray) ([a12])) fun t4 => .need (true = true) (.call (impl_SentBy.told a0 a1 a2 a3 a4 a5 a6 a7 a8 a9 a10 a11 a12) fun t5 => .need (true = true) (.need (true = true) (.need (true = true) (.call (impl_spaced.told (⟨#[115, 101, 110, 116]⟩ : ByteArray) ([(List.length t5 : Int)])) fun t6 => .need (true = true) (.need (true = true) (.call (impl_spaced.told (⟨#[103, 111, 116]⟩ : ByteArray) ([(List.length a11 : Int)])) fun t7 => .need (true = true) (.need (true = true) (.call (impl_spaced.told (⟨#[97, 99, 107, 101, 100]⟩ : ByteArray) ([a10])) fun t8 => .need (true = true) (.need (true = true) (.call (impl_spaced.told (⟨#[99, 104, 97, 114, 103, 101]⟩ : ByteArray) ([a4])) fun t9 => .need (true = true) (.call (impl_FormatInt.told a8) fun t10 => .need (true = true) (.need (((⟨#[99, 108, 111, 99, 107, 32]⟩ : ByteArray).size : Int) + t10.size ≤ room) (.need (true = true) (.need ((((⟨#[99, 108, 111, 99, 107, 32]⟩ : ByteArray) ++ t10).size : Int) + (⟨#[46, 46]⟩ : ByteArray).size ≤ room) (.need (true = true) (.call (impl_FormatInt.told a9) fun t11 => .need (true = true) (.need (((((⟨#[99, 108, 111, 99, 107, 32]⟩ : ByteArray) ++ t10) ++ (⟨#[46, 46]⟩ : ByteArray)).size : Int) + t11.size ≤ room) (.val (((((⟨#[99, 108, 111, 99, 107, 32]⟩ : ByteArray) ++ t10) ++ (⟨#[46, 46]⟩ : ByteArray)) ++ t11) : ByteArray) fun v12 => .need (true = true) (.need (true = true) (.ret ([t3, t4, t6, t7, t8, t9, v12]))))))))))))))))))))))))))
def f (a0 : List S87) (a1 a2 : List Int) (a3 a4 a5 a6 a7 a8 a9 a10 : Int) (a11 : List Int) (a12 : Int) : Option A := (begin a0 a1 a2 a3 a4 a5 a6 a7 a8 a9 a10 a11 a12).run (lp noTree)
def Q : Plan C := { PL with ords := [(4, [], (.take 0 [] (.take 3 [] (.take 12 [] (.take 13 [] (.take 14 [] (.take 19 [] (.take 20 [] (.take 24 [] (.take 25 [] (.take 29 [] (.take 30 [] (.take 35 [] (.take 36 [] (.take 4 [0, 1, 2, 3, 7, 12, 13, 14, 15, 16, 17, 19, 20, 21, 22, 24, 25, 26, 27, 29, 30, 31, 35, 36, 37] (.take 7 [0, 1, 2, 3, 4, 5, 6, 12, 13, 14, 15, 16, 17, 19, 20, 21, 22, 24, 25, 26, 27, 29, 30, 31, 35, 36, 37] (.take 15 [0, 1, 2, 3, 4, 5, 6, 7, 8, 9, 10, 11, 12, 13, 14, 19, 20, 21, 22, 24, 25, 26, 27, 29, 30, 31, 35, 36, 37] (.take 16 [] (.take 21 [0, 1, 2, 3, 4, 5, 6, 7, 8, 9, 10, 11, 12, 13, 14, 15, 16, 17, 18, 19, 20, 24, 25, 26, 27, 29, 30, 31, 35, 36, 37] (.take 26 [0, 1, 2, 3, 4, 5, 6, 7, 8, 9, 10, 11, 12, 13, 14, 15, 16, 17, 18, 19, 20, 21, 22, 23, 24, 25, 29, 30, 31, 35, 36, 37] (.take 31 [0, 1, 2, 3, 4, 5, 6, 7, 8, 9, 10, 11, 12, 13, 14, 15, 16, 17, 18, 19, 20, 21, 22, 23, 24, 25, 26, 27, 28, 29, 30, 35, 36, 37] (.take 37 [0, 1, 2, 3, 4, 5, 6, 7, 8, 9, 10, 11, 12, 13, 14, 15, 16, 17, 18, 19, 20, 21, 22, 23, 24, 25, 26, 27, 28, 29, 30, 31, 32, 33, 34, 35, 36] (.batch [1, 2, 5, 6, 8, 9, 10, 11, 17, 18, 22, 23, 27, 28, 32, 33, 34, 38, 39, 40] (.take 41 [] .done))))))))))))))))))))))))] }
def told (a0 : List S87) (a1 a2 : List Int) (a3 a4 a5 a6 a7 a8 a9 a10 : Int) (a11 : List Int) (a12 : Int) : YtpndhhellhfegaaGreatDoorEv.Told A := ⟨f a0 a1 a2 a3 a4 a5 a6 a7 a8 a9 a10 a11 a12, fun r => SoundCall Pg C 8 (S a0 a1 a2 a3 a4 a5 a6 a7 a8 a9 a10 a11 a12) 0 (v r) (o r), fun r h => sdFlat (Q := Q) v o Tryz.func8 rfl (of_decide_eq_true (by kernel_rfl)) (by rfl) (fun _ => rfl) (fun J K => by kernel_rfl) h⟩
end impl_FormatNode
/-! #### loop.example/g00983/laws.eqStringS (9) -/
namespace laws_eqStringS
def S (a0 a1 : List ByteArray) : List (PV U) := YtpndhhellhfegaaGreatDoorEv.start C 26 [.sl 9 a0, .sl 9 a1] []
inductive X where
 | c4 (x0 x1 : List ByteArray) (x2 : Int)
def id : X → Nat
 | .c4 .. => 4
def st : X → List (PV U)
 | .c4 x0 x1 x2 => stOf 26 [(0, .sl 9 x0), (1, .sl 9 x1), (5, .int .i64 x2)]
def begin (a0 a1 : List ByteArray) : Tr X A :=
 .ite (!decide ((List.length a0 : Int) = (List.length a1 : Int)))
  (.ret false)
  (.jump (.c4 a0 a1 (0 : Int)))
def tree : X → Tr X A
 | .c4 x0 x1 x2 =>
 .ite (decide (x2 < (List.length x0 : Int)))
  (.need ((0 : Int) ≤ x2 ∧ x2 < (List.length x0 : Int)) (.need ((0 : Int) ≤ x2 ∧ x2 < (List.length x1 : Int)) (.ite ((rdY x0 x2) != (rdY x1 x2))
   (.ret false)
   (.jump (.c4 x0 x1 (wr (x2 + (1 : Int))))))))
  (.ret true)
def f (a0 a1 : List ByteArray) : Option A := (begin a0 a1).run (lp tree)
def Q : Plan C := { PL with cuts := [(4, [0, 1, 5])], ords := [(6, [], (.take 0 [] (.take 1 [] (.take 2 [] (.take 4 [] (.take 5 [] (.take 6 [] (.take 3 [0, 1, 2, 4, 5, 6, 7] (.take 7 [0, 1, 2, 3, 4, 5, 6] (.take 8 [] .done))))))))))] }
theorem e : CutEq Pg C Q Tryz.f9 0 id st v o tree := fun J K x => by cases x <;> kernel_rfl
def told (a0 a1 : List ByteArray) : YtpndhhellhfegaaGreatDoorEv.Told A := ⟨f a0 a1, fun r => SoundCall Pg C 9 (S a0 a1) 0 (v r) (o r), fun r h => sdCut v o Tryz.func9 rfl (of_decide_eq_true (by kernel_rfl)) (by rfl) (fun _ => rfl) e (fun J K => by kernel_rfl) h⟩
end laws_eqStringS
/-! #### loop.example/g00983/laws.eqExpr (121) -/
namespace laws_eqExpr
def S (a0 a1 a2 a3 a4 a5 : Int) : List (PV U) := YtpndhhellhfegaaGreatDoorEv.start C 20 [.agg [.int .i64 a0, .int .i64 a1, .int .i64 a2], .agg [.int .i64 a3, .int .i64 a4, .int .i64 a5]] []
def begin (a0 a1 a2 a3 a4 a5 : Int) : Tr Empty A :=
 .ite (!decide (a0 = a3))
  (.ret false)
  (.ite (!decide (a1 = a4))
   (.ret false)
   (.ite (!decide (a2 = a5))
    (.ret false)
    (.ret true)))
def f (a0 a1 a2 a3 a4 a5 : Int) : Option A := (begin a0 a1 a2 a3 a4 a5).run (lp noTree)
def told (a0 a1 a2 a3 a4 a5 : Int) : YtpndhhellhfegaaGreatDoorEv.Told A := ⟨f a0 a1 a2 a3 a4 a5, fun r => SoundCall Pg C 121 (S a0 a1 a2 a3 a4 a5) 0 (v r) (o r), fun r h => sdFlat (Q := PL) v o Tryz.func121 rfl (of_decide_eq_true (by kernel_rfl)) (by rfl) (fun _ => rfl) (fun J K => by kernel_rfl) h⟩
end laws_eqExpr
/-! #### loop.example/g00983/laws.eqStmt (141) -/
namespace laws_eqStmt
def S (a0 a1 a2 a3 a4 a5 a6 a7 a8 a9 a10 a11 : Int) : List (PV U) := YtpndhhellhfegaaGreatDoorEv.start C 26 [.agg [.int .i64 a0, .int .i64 a1, .int .i64 a2, .int .i64 a3, .int .i64 a4, .int .i64 a5], .agg [.int .i64 a6, .int .i64 a7, .int .i64 a8, .int .i64 a9, .int .i64 a10, .int .i64 a11]] []
def begin (a0 a1 a2 a3 a4 a5 a6 a7 a8 a9 a10 a11 : Int) : Tr Empty A :=
 .ite (!decide (a0 = a6))
  (.ret false)
  (.ite (!decide (a1 = a7))
   (.ret false)
   (.ite (!decide (a2 = a8))
    (.ret false)
    (.call (laws_eqExpr.told a3 a4 a5 a9 a10 a11) fun t1 => .ite (!t1)
     (.ret false)
     (.ret true))))
def f (a0 a1 a2 a3 a4 a5 a6 a7 a8 a9 a10 a11 : Int) : Option A := (begin a0 a1 a2 a3 a4 a5 a6 a7 a8 a9 a10 a11).run (lp noTree)
def told (a0 a1 a2 a3 a4 a5 a6 a7 a8 a9 a10 a11 : Int) : YtpndhhellhfegaaGreatDoorEv.Told A := ⟨f a0 a1 a2 a3 a4 a5 a6 a7 a8 a9 a10 a11, fun r => SoundCall Pg C 141 (S a0 a1 a2 a3 a4 a5 a6 a7 a8 a9 a10 a11) 0 (v r) (o r), fun r h => sdFlat (Q := PL) v o Tryz.func141 rfl (of_decide_eq_true (by kernel_rfl)) (by rfl) (fun _ => rfl) (fun J K => by kernel_rfl) h⟩
end laws_eqStmt
/-! #### loop.example/g00983/laws.eqStmtS (120) -/
namespace laws_eqStmtS
def S (a0 a1 : List S121) : List (PV U) := YtpndhhellhfegaaGreatDoorEv.start C 27 [.sl 122 a0, .sl 122 a1] []
inductive X where
 | c4 (x0 x1 : List S121) (x2 : Int)
def id : X → Nat
 | .c4 .. => 4
def st : X → List (PV U)
 | .c4 x0 x1 x2 => stOf 27 [(0, .sl 122 x0), (1, .sl 122 x1), (5, .int .i64 x2)]
def begin (a0 a1 : List S121) : Tr X A :=
 .ite (!decide ((List.length a0 : Int) = (List.length a1 : Int)))
  (.ret false)
  (.jump (.c4 a0 a1 (0 : Int)))
def tree : X → Tr X A
 | .c4 x0 x1 x2 =>
 .ite (decide (x2 < (List.length x0 : Int)))
  (.need ((0 : Int) ≤ x2 ∧ x2 < (List.length x0 : Int)) (.need ((0 : Int) ≤ x2 ∧ x2 < (List.length x1 : Int)) (.last (.call (laws_eqStmt.told ((rdS121 x0 x2).f0) ((rdS121 x0 x2).f1) ((rdS121 x0 x2).f2) ((rdS121 x0 x2).f3.f0) ((rdS121 x0 x2).f3.f1) ((rdS121 x0 x2).f3.f2) ((rdS121 x1 x2).f0) ((rdS121 x1 x2).f1) ((rdS121 x1 x2).f2) ((rdS121 x1 x2).f3.f0) ((rdS121 x1 x2).f3.f1) ((rdS121 x1 x2).f3.f2)) fun t1 => .ite (!t1)
   (.ret false)
   (.jump (.c4 x0 x1 (wr (x2 + (1 : Int)))))))))
  (.ret true)
def f (a0 a1 : List S121) : Option A := (begin a0 a1).run (lp tree)
def Q : Plan C := { PL with cuts := [(4, [0, 1, 5])], ords := [(6, [], (.take 0 [] (.take 1 [] (.take 2 [] (.take 4 [] (.take 5 [] (.take 6 [] (.take 3 [0, 1, 2, 4, 5, 6, 7] (.take 7 [0, 1, 2, 3, 4, 5, 6] (.alt 8 (.take 9 [] .done) .nil))))))))))] }
theorem e : CutEq Pg C Q Tryz.f120 0 id st v o tree := fun J K x => by cases x <;> kernel_rfl
def told (a0 a1 : List S121) : YtpndhhellhfegaaGreatDoorEv.Told A := ⟨f a0 a1, fun r => SoundCall Pg C 120 (S a0 a1) 0 (v r) (o r), fun r h => sdCut v o Tryz.func120 rfl (of_decide_eq_true (by kernel_rfl)) (by rfl) (fun _ => rfl) e (fun J K => by kernel_rfl) h⟩
end laws_eqStmtS
/-! #### loop.example/g00983/laws.eqTask (100) -/
namespace laws_eqTask
def S (a0 : List S121) (a1 a2 a3 : Int) (a4 : List S121) (a5 a6 a7 : Int) : List (PV U) := YtpndhhellhfegaaGreatDoorEv.start C 17 [.agg [.sl 122 a0, .int .i64 a1, .int .i64 a2, .int .i64 a3], .agg [.sl 122 a4, .int .i64 a5, .int .i64 a6, .int .i64 a7]] []
def begin (a0 : List S121) (a1 a2 a3 : Int) (a4 : List S121) (a5 a6 a7 : Int) : Tr Empty A :=
 .call (laws_eqStmtS.told a0 a4) fun t1 => .ite (!t1)
  (.ret false)
  (.call (laws_eqExpr.told a1 a2 a3 a5 a6 a7) fun t2 => .ite (!t2)
   (.ret false)
   (.ret true))
def f (a0 : List S121) (a1 a2 a3 : Int) (a4 : List S121) (a5 a6 a7 : Int) : Option A := (begin a0 a1 a2 a3 a4 a5 a6 a7).run (lp noTree)
def told (a0 : List S121) (a1 a2 a3 : Int) (a4 : List S121) (a5 a6 a7 : Int) : YtpndhhellhfegaaGreatDoorEv.Told A := ⟨f a0 a1 a2 a3 a4 a5 a6 a7, fun r => SoundCall Pg C 100 (S a0 a1 a2 a3 a4 a5 a6 a7) 0 (v r) (o r), fun r h => sdFlat (Q := PL) v o Tryz.func100 rfl (of_decide_eq_true (by kernel_rfl)) (by rfl) (fun _ => rfl) (fun J K => by kernel_rfl) h⟩
end laws_eqTask
/-! #### loop.example/g00983/laws.eqTaskS (71) -/
namespace laws_eqTaskS
def S (a0 a1 : List S87) : List (PV U) := YtpndhhellhfegaaGreatDoorEv.start C 27 [.sl 88 a0, .sl 88 a1] []
inductive X where
 | c4 (x0 x1 : List S87) (x2 : Int)
def id : X → Nat
 | .c4 .. => 4
def st : X → List (PV U)
 | .c4 x0 x1 x2 => stOf 27 [(0, .sl 88 x0), (1, .sl 88 x1), (5, .int .i64 x2)]
def begin (a0 a1 : List S87) : Tr X A :=
 .ite (!decide ((List.length a0 : Int) = (List.length a1 : Int)))
  (.ret false)
  (.jump (.c4 a0 a1 (0 : Int)))
def tree : X → Tr X A
 | .c4 x0 x1 x2 =>
 .ite (decide (x2 < (List.length x0 : Int)))
  (.need ((0 : Int) ≤ x2 ∧ x2 < (List.length x0 : Int)) (.need ((0 : Int) ≤ x2 ∧ x2 < (List.length x1 : Int)) (.last (.call (laws_eqTask.told ((rdS87 x0 x2).f0) ((rdS87 x0 x2).f1.f0) ((rdS87 x0 x2).f1.f1) ((rdS87 x0 x2).f1.f2) ((rdS87 x1 x2).f0) ((rdS87 x1 x2).f1.f0) ((rdS87 x1 x2).f1.f1) ((rdS87 x1 x2).f1.f2)) fun t1 => .ite (!t1)
   (.ret false)
   (.jump (.c4 x0 x1 (wr (x2 + (1 : Int)))))))))
  (.ret true)
def f (a0 a1 : List S87) : Option A := (begin a0 a1).run (lp tree)
def Q : Plan C := { PL with cuts := [(4, [0, 1, 5])], ords := [(6, [], (.take 0 [] (.take 1 [] (.take 2 [] (.take 4 [] (.take 5 [] (.take 6 [] (.take 3 [0, 1, 2, 4, 5, 6, 7] (.take 7 [0, 1, 2, 3, 4, 5, 6] (.alt 8 (.take 9 [] .done) .nil))))))))))] }
theorem e : CutEq Pg C Q Tryz.f71 0 id st v o tree := fun J K x => by cases x <;> kernel_rfl
def told (a0 a1 : List S87) : YtpndhhellhfegaaGreatDoorEv.Told A := ⟨f a0 a1, fun r => SoundCall Pg C 71 (S a0 a1) 0 (v r) (o r), fun r h => sdCut v o Tryz.func71 rfl (of_decide_eq_true (by kernel_rfl)) (by rfl) (fun _ => rfl) e (fun J K => by kernel_rfl) h⟩
end laws_eqTaskS
/-! #### loop.example/g00983/laws.eqProgram (35) -/
namespace laws_eqProgram
def S (a0 a1 : List S87) : List (PV U) := YtpndhhellhfegaaGreatDoorEv.start C 11 [.agg [.sl 88 a0], .agg [.sl 88 a1]] []
def begin (a0 a1 : List S87) : Tr Empty A :=
 .call (laws_eqTaskS.told a0 a1) fun t1 => .ite (!t1)
  (.ret false)
  (.ret true)
def f (a0 a1 : List S87) : Option A := (begin a0 a1).run (lp noTree)
def told (a0 a1 : List S87) : YtpndhhellhfegaaGreatDoorEv.Told A := ⟨f a0 a1, fun r => SoundCall Pg C 35 (S a0 a1) 0 (v r) (o r), fun r h => sdFlat (Q := PL) v o Tryz.func35 rfl (of_decide_eq_true (by kernel_rfl)) (by rfl) (fun _ => rfl) (fun J K => by kernel_rfl) h⟩
end laws_eqProgram
/-! #### loop.example/g00983/laws.eqIntS (36) -/
namespace laws_eqIntS
def S (a0 a1 : List Int) : List (PV U) := YtpndhhellhfegaaGreatDoorEv.start C 26 [.sl 3 a0, .sl 3 a1] []
inductive X where
 | c4 (x0 x1 : List Int) (x2 : Int)
def id : X → Nat
 | .c4 .. => 4
def st : X → List (PV U)
 | .c4 x0 x1 x2 => stOf 26 [(0, .sl 3 x0), (1, .sl 3 x1), (5, .int .i64 x2)]
def begin (a0 a1 : List Int) : Tr X A :=
 .ite (!decide ((List.length a0 : Int) = (List.length a1 : Int)))
  (.ret false)
  (.jump (.c4 a0 a1 (0 : Int)))
def tree : X → Tr X A
 | .c4 x0 x1 x2 =>
 .ite (decide (x2 < (List.length x0 : Int)))
  (.need ((0 : Int) ≤ x2 ∧ x2 < (List.length x0 : Int)) (.need ((0 : Int) ≤ x2 ∧ x2 < (List.length x1 : Int)) (.ite (!decide ((rdI x0 x2) = (rdI x1 x2)))
   (.ret false)
   (.jump (.c4 x0 x1 (wr (x2 + (1 : Int))))))))
  (.ret true)
def f (a0 a1 : List Int) : Option A := (begin a0 a1).run (lp tree)
def Q : Plan C := { PL with cuts := [(4, [0, 1, 5])], ords := [(6, [], (.take 0 [] (.take 1 [] (.take 2 [] (.take 4 [] (.take 5 [] (.take 6 [] (.take 3 [0, 1, 2, 4, 5, 6, 7] (.take 7 [0, 1, 2, 3, 4, 5, 6] (.take 8 [] .done))))))))))] }
theorem e : CutEq Pg C Q Tryz.f36 0 id st v o tree := fun J K x => by cases x <;> kernel_rfl
def told (a0 a1 : List Int) : YtpndhhellhfegaaGreatDoorEv.Told A := ⟨f a0 a1, fun r => SoundCall Pg C 36 (S a0 a1) 0 (v r) (o r), fun r h => sdCut v o Tryz.func36 rfl (of_decide_eq_true (by kernel_rfl)) (by rfl) (fun _ => rfl) e (fun J K => by kernel_rfl) h⟩
end laws_eqIntS
/-! #### loop.example/g00983/laws.eqStore (37) -/
namespace laws_eqStore
def S (a0 a1 a2 a3 a4 a5 a6 a7 : Int) : List (PV U) := YtpndhhellhfegaaGreatDoorEv.start C 25 [.agg [.int .i64 a0, .int .i64 a1, .int .i64 a2, .int .i64 a3], .agg [.int .i64 a4, .int .i64 a5, .int .i64 a6, .int .i64 a7]] []
def begin (a0 a1 a2 a3 a4 a5 a6 a7 : Int) : Tr Empty A :=
 .ite (!decide (a0 = a4))
  (.ret false)
  (.ite (!decide (a1 = a5))
   (.ret false)
   (.ite (!decide (a2 = a6))
    (.ret false)
    (.ite (!decide (a3 = a7))
     (.ret false)
     (.ret true))))
def f (a0 a1 a2 a3 a4 a5 a6 a7 : Int) : Option A := (begin a0 a1 a2 a3 a4 a5 a6 a7).run (lp noTree)
def told (a0 a1 a2 a3 a4 a5 a6 a7 : Int) : YtpndhhellhfegaaGreatDoorEv.Told A := ⟨f a0 a1 a2 a3 a4 a5 a6 a7, fun r => SoundCall Pg C 37 (S a0 a1 a2 a3 a4 a5 a6 a7) 0 (v r) (o r), fun r h => sdFlat (Q := PL) v o Tryz.func37 rfl (of_decide_eq_true (by kernel_rfl)) (by rfl) (fun _ => rfl) (fun J K => by kernel_rfl) h⟩
end laws_eqStore
/-! #### loop.example/g00983/laws.eqSpan (38) -/
namespace laws_eqSpan
def S (a0 a1 a2 a3 : Int) : List (PV U) := YtpndhhellhfegaaGreatDoorEv.start C 15 [.agg [.int .i64 a0, .int .i64 a1], .agg [.int .i64 a2, .int .i64 a3]] []
def begin (a0 a1 a2 a3 : Int) : Tr Empty A :=
 .ite (!decide (a0 = a2))
  (.ret false)
  (.ite (!decide (a1 = a3))
   (.ret false)
   (.ret true))
def f (a0 a1 a2 a3 : Int) : Option A := (begin a0 a1 a2 a3).run (lp noTree)
def told (a0 a1 a2 a3 : Int) : YtpndhhellhfegaaGreatDoorEv.Told A := ⟨f a0 a1 a2 a3, fun r => SoundCall Pg C 38 (S a0 a1 a2 a3) 0 (v r) (o r), fun r h => sdFlat (Q := PL) v o Tryz.func38 rfl (of_decide_eq_true (by kernel_rfl)) (by rfl) (fun _ => rfl) (fun J K => by kernel_rfl) h⟩
end laws_eqSpan
/-! #### loop.example/g00983/laws.eqGateway (72) -/
namespace laws_eqGateway
def S (a0 a1 : List Int) : List (PV U) := YtpndhhellhfegaaGreatDoorEv.start C 11 [.agg [.sl 3 a0], .agg [.sl 3 a1]] []
def begin (a0 a1 : List Int) : Tr Empty A :=
 .call (laws_eqIntS.told a0 a1) fun t1 => .ite (!t1)
  (.ret false)
  (.ret true)
def f (a0 a1 : List Int) : Option A := (begin a0 a1).run (lp noTree)
def told (a0 a1 : List Int) : YtpndhhellhfegaaGreatDoorEv.Told A := ⟨f a0 a1, fun r => SoundCall Pg C 72 (S a0 a1) 0 (v r) (o r), fun r h => sdFlat (Q := PL) v o Tryz.func72 rfl (of_decide_eq_true (by kernel_rfl)) (by rfl) (fun _ => rfl) (fun J K => by kernel_rfl) h⟩
end laws_eqGateway
/-! #### loop.example/g00983/laws.eqLink (39) -/
namespace laws_eqLink
def S (a0 : Int) (a1 : List Int) (a2 : Int) (a3 : List Int) : List (PV U) := YtpndhhellhfegaaGreatDoorEv.start C 16 [.agg [.int .i64 a0, .sl 3 a1], .agg [.int .i64 a2, .sl 3 a3]] []
def begin (a0 : Int) (a1 : List Int) (a2 : Int) (a3 : List Int) : Tr Empty A :=
 .ite (!decide (a0 = a2))
  (.ret false)
  (.call (laws_eqGateway.told a1 a3) fun t1 => .ite (!t1)
   (.ret false)
   (.ret true))
def f (a0 : Int) (a1 : List Int) (a2 : Int) (a3 : List Int) : Option A := (begin a0 a1 a2 a3).run (lp noTree)
def told (a0 : Int) (a1 : List Int) (a2 : Int) (a3 : List Int) : YtpndhhellhfegaaGreatDoorEv.Told A := ⟨f a0 a1 a2 a3, fun r => SoundCall Pg C 39 (S a0 a1 a2 a3) 0 (v r) (o r), fun r h => sdFlat (Q := PL) v o Tryz.func39 rfl (of_decide_eq_true (by kernel_rfl)) (by rfl) (fun _ => rfl) (fun J K => by kernel_rfl) h⟩
end laws_eqLink
/-! #### loop.example/g00983/laws.eqNode (10) -/
namespace laws_eqNode
def S (a0 : List S87) (a1 a2 : List Int) (a3 a4 a5 a6 a7 a8 a9 a10 : Int) (a11 : List Int) (a12 : Int) (a13 : List S87) (a14 a15 : List Int) (a16 a17 a18 a19 a20 a21 a22 a23 : Int) (a24 : List Int) (a25 : Int) : List (PV U) := YtpndhhellhfegaaGreatDoorEv.start C 51 [.agg [.sl 88 a0, .sl 3 a1, .sl 3 a2, .int .i64 a3, .int .i64 a4, .int .i64 a5, .int .i64 a6, .int .i64 a7, .int .i64 a8, .int .i64 a9, .int .i64 a10, .sl 3 a11, .int .i64 a12], .agg [.sl 88 a13, .sl 3 a14, .sl 3 a15, .int .i64 a16, .int .i64 a17, .int .i64 a18, .int .i64 a19, .int .i64 a20, .int .i64 a21, .int .i64 a22, .int .i64 a23, .sl 3 a24, .int .i64 a25]] []
def begin (a0 : List S87) (a1 a2 : List Int) (a3 a4 a5 a6 a7 a8 a9 a10 : Int) (a11 : List Int) (a12 : Int) (a13 : List S87) (a14 a15 : List Int) (a16 a17 a18 a19 a20 a21 a22 a23 : Int) (a24 : List Int) (a25 : Int) : Tr Empty A :=
 .call (laws_eqProgram.told a0 a13) fun t1 => .ite (!t1)
  (.ret false)
  (.call (laws_eqIntS.told a1 a14) fun t2 => .ite (!t2)
   (.ret false)
   (.call (laws_eqIntS.told a2 a15) fun t3 => .ite (!t3)
    (.ret false)
    (.ite (!decide (a3 = a16))
     (.ret false)
     (.call (laws_eqStore.told a4 a5 a6 a7 a17 a18 a19 a20) fun t4 => .ite (!t4)
      (.ret false)
      (.call (laws_eqSpan.told a8 a9 a21 a22) fun t5 => .ite (!t5)
       (.ret false)
       (.call (laws_eqLink.told a10 a11 a23 a24) fun t6 => .ite (!t6)
        (.ret false)
        (.ite (!decide (a12 = a25))
         (.ret false)
         (.ret true))))))))
def f (a0 : List S87) (a1 a2 : List Int) (a3 a4 a5 a6 a7 a8 a9 a10 : Int) (a11 : List Int) (a12 : Int) (a13 : List S87) (a14 a15 : List Int) (a16 a17 a18 a19 a20 a21 a22 a23 : Int) (a24 : List Int) (a25 : Int) : Option A := (begin a0 a1 a2 a3 a4 a5 a6 a7 a8 a9 a10 a11 a12 a13 a14 a15 a16 a17 a18 a19 a20 a21 a22 a23 a24 a25).run (lp noTree)
def told (a0 : List S87) (a1 a2 : List Int) (a3 a4 a5 a6 a7 a8 a9 a10 : Int) (a11 : List Int) (a12 : Int) (a13 : List S87) (a14 a15 : List Int) (a16 a17 a18 a19 a20 a21 a22 a23 : Int) (a24 : List Int) (a25 : Int) : YtpndhhellhfegaaGreatDoorEv.Told A := ⟨f a0 a1 a2 a3 a4 a5 a6 a7 a8 a9 a10 a11 a12 a13 a14 a15 a16 a17 a18 a19 a20 a21 a22 a23 a24 a25, fun r => SoundCall Pg C 10 (S a0 a1 a2 a3 a4 a5 a6 a7 a8 a9 a10 a11 a12 a13 a14 a15 a16 a17 a18 a19 a20 a21 a22 a23 a24 a25) 0 (v r) (o r), fun r h => sdFlat (Q := PL) v o Tryz.func10 rfl (of_decide_eq_true (by kernel_rfl)) (by rfl) (fun _ => rfl) (fun J K => by kernel_rfl) h⟩
end laws_eqNode
/-! #### loop.example/g00983/laws.markStmtS (101) -/
namespace laws_markStmtS
def S (a0 : Int) (a1 : List S121) : List (PV U) := YtpndhhellhfegaaGreatDoorEv.start C 58 [.ali (58, []), .int .i64 a0] [.own true 122 a1]
inductive X where
 | c2 (x0 x1 : Int) (x2 : List S121)
def id : X → Nat
 | .c2 .. => 2
def st : X → List (PV U)
 | .c2 x0 x1 x2 => stOf 59 [(0, .ali (58, [])), (1, .int .i64 x0), (5, .int .i64 x1), (58, .own true 122 x2)]
def begin (a0 : Int) (a1 : List S121) : Tr X A :=
 .jump (.c2 a0 (0 : Int) a1)
def tree : X → Tr X A
 | .c2 x0 x1 x2 =>
 .ite (decide (x1 < (List.length x2 : Int)))
  (.need ((0 : Int) ≤ x1 ∧ x1 < (List.length x2 : Int)) (.val ((List.set x2 (Int.toNat x1) (⟨x0, (rdS121 x2 x1).f1, (rdS121 x2 x1).f2, (⟨(rdS121 x2 x1).f3.f0, (rdS121 x2 x1).f3.f1, (rdS121 x2 x1).f3.f2⟩ : S85)⟩ : S121)) : List S121) fun v1 => .need ((0 : Int) ≤ x1 ∧ x1 < (List.length v1 : Int)) (.val ((List.set v1 (Int.toNat x1) (⟨(rdS121 v1 x1).f0, (wr (x0 + (1 : Int))), (rdS121 v1 x1).f2, (⟨(rdS121 v1 x1).f3.f0, (rdS121 v1 x1).f3.f1, (rdS121 v1 x1).f3.f2⟩ : S85)⟩ : S121)) : List S121) fun v2 => .need ((0 : Int) ≤ x1 ∧ x1 < (List.length v2 : Int)) (.val ((List.set v2 (Int.toNat x1) (⟨(rdS121 v2 x1).f0, (rdS121 v2 x1).f1, (wr ((wr (x0 + (1 : Int))) + (1 : Int))), (⟨(rdS121 v2 x1).f3.f0, (rdS121 v2 x1).f3.f1, (rdS121 v2 x1).f3.f2⟩ : S85)⟩ : S121)) : List S121) fun v3 => .need ((0 : Int) ≤ x1 ∧ x1 < (List.length v3 : Int)) (.val ((List.set v3 (Int.toNat x1) (⟨(rdS121 v3 x1).f0, (rdS121 v3 x1).f1, (rdS121 v3 x1).f2, (⟨(wr ((wr ((wr (x0 + (1 : Int))) + (1 : Int))) + (1 : Int))), (rdS121 v3 x1).f3.f1, (rdS121 v3 x1).f3.f2⟩ : S85)⟩ : S121)) : List S121) fun v4 => .need ((0 : Int) ≤ x1 ∧ x1 < (List.length v4 : Int)) (.val ((List.set v4 (Int.toNat x1) (⟨(rdS121 v4 x1).f0, (rdS121 v4 x1).f1, (rdS121 v4 x1).f2, (⟨(rdS121 v4 x1).f3.f0, (wr ((wr ((wr ((wr (x0 + (1 : Int))) + (1 : Int))) + (1 : Int))) + (1 : Int))), (rdS121 v4 x1).f3.f2⟩ : S85)⟩ : S121)) : List S121) fun v5 => .val ((wr ((wr ((wr ((wr ((wr (x0 + (1 : Int))) + (1 : Int))) + (1 : Int))) + (1 : Int))) + (1 : Int))) : Int) fun v6 => .need ((0 : Int) ≤ x1 ∧ x1 < (List.length v5 : Int)) (.val ((List.set v5 (Int.toNat x1) (⟨(rdS121 v5 x1).f0, (rdS121 v5 x1).f1, (rdS121 v5 x1).f2, (⟨(rdS121 v5 x1).f3.f0, (rdS121 v5 x1).f3.f1, v6⟩ : S85)⟩ : S121)) : List S121) fun v7 => .jump (.c2 (wr (v6 + (1 : Int))) (wr (x1 + (1 : Int))) v7))))))))
  (.ret (x0, x2))
def f (a0 : Int) (a1 : List S121) : Option A := (begin a0 a1).run (lp tree)
def Q : Plan C := { PL with cuts := [(2, [0, 1, 5, 58])] }
theorem e : CutEq Pg C Q Tryz.f101 1 id st v o tree := fun J K x => by cases x <;> kernel_rfl
def told (a0 : Int) (a1 : List S121) : YtpndhhellhfegaaGreatDoorEv.Told A := ⟨f a0 a1, fun r => SoundCall Pg C 101 (S a0 a1) 1 (v r) (o r), fun r h => sdCut v o Tryz.func101 rfl (of_decide_eq_true (by kernel_rfl)) (by rfl) (fun _ => rfl) e (fun J K => by kernel_rfl) h⟩
end laws_markStmtS
/-! #### loop.example/g00983/laws.markTaskS (73) -/
namespace laws_markTaskS
def S (a0 : Int) (a1 : List S87) : List (PV U) := YtpndhhellhfegaaGreatDoorEv.start C 44 [.ali (44, []), .int .i64 a0] [.own true 88 a1]
inductive X where
 | c2 (x0 x1 : Int) (x2 : List S87)
def id : X → Nat
 | .c2 .. => 2
def st : X → List (PV U)
 | .c2 x0 x1 x2 => stOf 45 [(0, .ali (44, [])), (1, .int .i64 x0), (5, .int .i64 x1), (44, .own true 88 x2)]
def begin (a0 : Int) (a1 : List S87) : Tr X A :=
 .jump (.c2 a0 (0 : Int) a1)
def tree : X → Tr X A
 | .c2 x0 x1 x2 =>
 .ite (decide (x1 < (List.length x2 : Int)))
  (.need ((0 : Int) ≤ x1 ∧ x1 < (List.length x2 : Int)) (.call (laws_markStmtS.told x0 ((rdS87 x2 x1).f0)) fun t1 => .need ((0 : Int) ≤ x1 ∧ x1 < (List.length (List.set x2 (Int.toNat x1) (⟨t1.2, (⟨(rdS87 x2 x1).f1.f0, (rdS87 x2 x1).f1.f1, (rdS87 x2 x1).f1.f2⟩ : S85)⟩ : S87)) : Int)) (.val ((List.set (List.set x2 (Int.toNat x1) (⟨t1.2, (⟨(rdS87 x2 x1).f1.f0, (rdS87 x2 x1).f1.f1, (rdS87 x2 x1).f1.f2⟩ : S85)⟩ : S87)) (Int.toNat x1) (⟨(rdS87 (List.set x2 (Int.toNat x1) (⟨t1.2, (⟨(rdS87 x2 x1).f1.f0, (rdS87 x2 x1).f1.f1, (rdS87 x2 x1).f1.f2⟩ : S85)⟩ : S87)) x1).f0, (⟨t1.1, (rdS87 (List.set x2 (Int.toNat x1) (⟨t1.2, (⟨(rdS87 x2 x1).f1.f0, (rdS87 x2 x1).f1.f1, (rdS87 x2 x1).f1.f2⟩ : S85)⟩ : S87)) x1).f1.f1, (rdS87 (List.set x2 (Int.toNat x1) (⟨t1.2, (⟨(rdS87 x2 x1).f1.f0, (rdS87 x2 x1).f1.f1, (rdS87 x2 x1).f1.f2⟩ : S85)⟩ : S87)) x1).f1.f2⟩ : S85)⟩ : S87)) : List S87) fun v2 => .need ((0 : Int) ≤ x1 ∧ x1 < (List.length v2 : Int)) (.val ((List.set v2 (Int.toNat x1) (⟨(rdS87 v2 x1).f0, (⟨(rdS87 v2 x1).f1.f0, (wr (t1.1 + (1 : Int))), (rdS87 v2 x1).f1.f2⟩ : S85)⟩ : S87)) : List S87) fun v3 => .need ((0 : Int) ≤ x1 ∧ x1 < (List.length v3 : Int)) (.val ((List.set v3 (Int.toNat x1) (⟨(rdS87 v3 x1).f0, (⟨(rdS87 v3 x1).f1.f0, (rdS87 v3 x1).f1.f1, (wr ((wr (t1.1 + (1 : Int))) + (1 : Int)))⟩ : S85)⟩ : S87)) : List S87) fun v4 => .jump (.c2 (wr ((wr ((wr (t1.1 + (1 : Int))) + (1 : Int))) + (1 : Int))) (wr (x1 + (1 : Int))) v4))))))
  (.ret (x0, x2))
def f (a0 : Int) (a1 : List S87) : Option A := (begin a0 a1).run (lp tree)
def Q : Plan C := { PL with cuts := [(2, [0, 1, 5, 44])] }
theorem e : CutEq Pg C Q Tryz.f73 1 id st v o tree := fun J K x => by cases x <;> kernel_rfl
def told (a0 : Int) (a1 : List S87) : YtpndhhellhfegaaGreatDoorEv.Told A := ⟨f a0 a1, fun r => SoundCall Pg C 73 (S a0 a1) 1 (v r) (o r), fun r h => sdCut v o Tryz.func73 rfl (of_decide_eq_true (by kernel_rfl)) (by rfl) (fun _ => rfl) e (fun J K => by kernel_rfl) h⟩
end laws_markTaskS
/-! #### loop.example/g00983/laws.markProgram (40) -/
namespace laws_markProgram
def S (a0 : Int) (a1 : List S87) : List (PV U) := YtpndhhellhfegaaGreatDoorEv.start C 10 [.agg [.ali (10, [])], .int .i64 a0] [.own true 88 a1]
def begin (a0 : Int) (a1 : List S87) : Tr Empty A :=
 .call (laws_markTaskS.told a0 a1) fun t1 => .ret (t1.1, t1.2)
def f (a0 : Int) (a1 : List S87) : Option A := (begin a0 a1).run (lp noTree)
def told (a0 : Int) (a1 : List S87) : YtpndhhellhfegaaGreatDoorEv.Told A := ⟨f a0 a1, fun r => SoundCall Pg C 40 (S a0 a1) 1 (v r) (o r), fun r h => sdFlat (Q := PL) v o Tryz.func40 rfl (of_decide_eq_true (by kernel_rfl)) (by rfl) (fun _ => rfl) (fun J K => by kernel_rfl) h⟩
end laws_markProgram
/-! #### loop.example/g00983/laws.markIntS (41) -/
namespace laws_markIntS
def S (a0 : Int) (a1 : List Int) : List (PV U) := YtpndhhellhfegaaGreatDoorEv.start C 19 [.ali (19, []), .int .i64 a0] [.own true 3 a1]
inductive X where
 | c2 (x0 x1 : Int) (x2 : List Int)
def id : X → Nat
 | .c2 .. => 2
def st : X → List (PV U)
 | .c2 x0 x1 x2 => stOf 20 [(0, .ali (19, [])), (1, .int .i64 x0), (5, .int .i64 x1), (19, .own true 3 x2)]
def begin (a0 : Int) (a1 : List Int) : Tr X A :=
 .jump (.c2 a0 (0 : Int) a1)
def tree : X → Tr X A
 | .c2 x0 x1 x2 =>
 .ite (decide (x1 < (List.length x2 : Int)))
  (.need ((0 : Int) ≤ x1 ∧ x1 < (List.length x2 : Int)) (.jump (.c2 (wr (x0 + (1 : Int))) (wr (x1 + (1 : Int))) (List.set x2 (Int.toNat x1) x0))))
  (.ret (x0, x2))
def f (a0 : Int) (a1 : List Int) : Option A := (begin a0 a1).run (lp tree)
def Q : Plan C := { PL with cuts := [(2, [0, 1, 5, 19])] }
theorem e : CutEq Pg C Q Tryz.f41 1 id st v o tree := fun J K x => by cases x <;> kernel_rfl
def told (a0 : Int) (a1 : List Int) : YtpndhhellhfegaaGreatDoorEv.Told A := ⟨f a0 a1, fun r => SoundCall Pg C 41 (S a0 a1) 1 (v r) (o r), fun r h => sdCut v o Tryz.func41 rfl (of_decide_eq_true (by kernel_rfl)) (by rfl) (fun _ => rfl) e (fun J K => by kernel_rfl) h⟩
end laws_markIntS
/-! #### loop.example/g00983/laws.markGateway (74) -/
namespace laws_markGateway
def S (a0 : Int) (a1 : List Int) : List (PV U) := YtpndhhellhfegaaGreatDoorEv.start C 10 [.agg [.ali (10, [])], .int .i64 a0] [.own true 3 a1]
def begin (a0 : Int) (a1 : List Int) : Tr Empty A :=
 .call (laws_markIntS.told a0 a1) fun t1 => .ret (t1.1, t1.2)
def f (a0 : Int) (a1 : List Int) : Option A := (begin a0 a1).run (lp noTree)
def told (a0 : Int) (a1 : List Int) : YtpndhhellhfegaaGreatDoorEv.Told A := ⟨f a0 a1, fun r => SoundCall Pg C 74 (S a0 a1) 1 (v r) (o r), fun r h => sdFlat (Q := PL) v o Tryz.func74 rfl (of_decide_eq_true (by kernel_rfl)) (by rfl) (fun _ => rfl) (fun J K => by kernel_rfl) h⟩
end laws_markGateway
/-! #### loop.example/g00983/laws.markLink (42) -/
namespace laws_markLink
def S (a0 a1 : Int) (a2 : List Int) : List (PV U) := YtpndhhellhfegaaGreatDoorEv.start C 10 [.agg [.int .i64 a0, .ali (10, [])], .int .i64 a1] [.own true 3 a2]
def begin (a0 a1 : Int) (a2 : List Int) : Tr Empty A :=
 .call (laws_markGateway.told a1 a2) fun t1 => .ret (t1.1, t1.2)
def f (a0 a1 : Int) (a2 : List Int) : Option A := (begin a0 a1 a2).run (lp noTree)
def told (a0 a1 : Int) (a2 : List Int) : YtpndhhellhfegaaGreatDoorEv.Told A := ⟨f a0 a1 a2, fun r => SoundCall Pg C 42 (S a0 a1 a2) 1 (v r) (o r), fun r h => sdFlat (Q := PL) v o Tryz.func42 rfl (of_decide_eq_true (by kernel_rfl)) (by rfl) (fun _ => rfl) (fun J K => by kernel_rfl) h⟩
end laws_markLink
/-! #### loop.example/g00983/laws.markNode (11) -/
namespace laws_markNode
def S (a0 a1 a2 a3 a4 a5 a6 a7 a8 a9 : Int) (a10 : List S87) (a11 a12 a13 : List Int) : List (PV U) := YtpndhhellhfegaaGreatDoorEv.start C 22 [.agg [.ali (22, []), .ali (23, []), .ali (24, []), .int .i64 a0, .int .i64 a1, .int .i64 a2, .int .i64 a3, .int .i64 a4, .int .i64 a5, .int .i64 a6, .int .i64 a7, .ali (25, []), .int .i64 a8], .int .i64 a9] [.own true 88 a10, .own true 3 a11, .own true 3 a12, .own true 3 a13]
def begin (a0 a1 a2 a3 a4 a5 a6 a7 a8 a9 : Int) (a10 : List S87) (a11 a12 a13 : List Int) : Tr Empty A :=
 .call (laws_markProgram.told a9 a10) fun t1 => .call (laws_markIntS.told t1.1 a11) fun t2 => .call (laws_markIntS.told t2.1 a12) fun t3 => .call (laws_markLink.told a7 t3.1 a13) fun t4 => .ret (t4.1, t1.2, t2.2, t3.2, t4.2)
def f (a0 a1 a2 a3 a4 a5 a6 a7 a8 a9 : Int) (a10 : List S87) (a11 a12 a13 : List Int) : Option A := (begin a0 a1 a2 a3 a4 a5 a6 a7 a8 a9 a10 a11 a12 a13).run (lp noTree)
def told (a0 a1 a2 a3 a4 a5 a6 a7 a8 a9 : Int) (a10 : List S87) (a11 a12 a13 : List Int) : YtpndhhellhfegaaGreatDoorEv.Told A := ⟨f a0 a1 a2 a3 a4 a5 a6 a7 a8 a9 a10 a11 a12 a13, fun r => SoundCall Pg C 11 (S a0 a1 a2 a3 a4 a5 a6 a7 a8 a9 a10 a11 a12 a13) 4 (v r) (o r), fun r h => sdFlat (Q := PL) v o Tryz.func11 rfl (of_decide_eq_true (by kernel_rfl)) (by rfl) (fun _ => rfl) (fun J K => by kernel_rfl) h⟩
end laws_markNode
/-! #### loop.example/g00983/laws.markText (43) -/
namespace laws_markText
def S (a0 : Int) : List (PV U) := YtpndhhellhfegaaGreatDoorEv.start C 20 [.int .i64 a0] []
inductive X where
 | c4 (x0 : Int) (x1 : ByteArray)
def id : X → Nat
 | .c4 .. => 4
def st : X → List (PV U)
 | .c4 x0 x1 => stOf 20 [(0, .int .i64 x0), (3, .str x1)]
def begin (a0 : Int) : Tr X A :=
 .ite (decide (a0 ≤ (0 : Int)))
  (.ret ((⟨#[109, 48]⟩ : ByteArray)))
  (.jump (.c4 a0 (⟨#[]⟩ : ByteArray)))
def tree : X → Tr X A
 | .c4 x0 x1 =>
 .ite (decide (x0 > (0 : Int)))
  (.need ((10 : Int) ≠ 0) (.need (∀ x_ ∈ [(IntKind.wrap .u8 (wr ((48 : Int) + (Int.tmod x0 (10 : Int)))))], isByte (PV.int .u8 x_ : PV U)) (.need (((strOfNums ([(IntKind.wrap .u8 (wr ((48 : Int) + (Int.tmod x0 (10 : Int)))))])).size : Int) + x1.size ≤ room) (.need ((10 : Int) ≠ 0) (.jump (.c4 (wr (Int.tdiv x0 (10 : Int))) ((strOfNums ([(IntKind.wrap .u8 (wr ((48 : Int) + (Int.tmod x0 (10 : Int)))))])) ++ x1)))))))
  (.need (((⟨#[109]⟩ : ByteArray).size : Int) + x1.size ≤ room) (.ret (((⟨#[109]⟩ : ByteArray) ++ x1))))
def f (a0 : Int) : Option A := (begin a0).run (lp tree)
def Q : Plan C := { PL with cuts := [(4, [0, 3])] }
theorem e : CutEq Pg C Q Tryz.f43 0 id st v o tree := fun J K x => by cases x <;> kernel_rfl
def told (a0 : Int) : YtpndhhellhfegaaGreatDoorEv.Told A := ⟨f a0, fun r => SoundCall Pg C 43 (S a0) 0 (v r) (o r), fun r h => sdCut v o Tryz.func43 rfl (of_decide_eq_true (by kernel_rfl)) (by rfl) (fun _ => rfl) e (fun J K => by kernel_rfl) h⟩
end laws_markText
/-! #### loop.example/g00983/laws.markStringS (12) -/
namespace laws_markStringS
def S (a0 : Int) (a1 : List ByteArray) : List (PV U) := YtpndhhellhfegaaGreatDoorEv.start C 20 [.ali (20, []), .int .i64 a0] [.own true 9 a1]
inductive X where
 | c2 (x0 x1 : Int) (x2 : List ByteArray)
def id : X → Nat
 | .c2 .. => 2
def st : X → List (PV U)
 | .c2 x0 x1 x2 => stOf 21 [(0, .ali (20, [])), (1, .int .i64 x0), (5, .int .i64 x1), (20, .own true 9 x2)]
def begin (a0 : Int) (a1 : List ByteArray) : Tr X A :=
 .jump (.c2 a0 (0 : Int) a1)
def tree : X → Tr X A
 | .c2 x0 x1 x2 =>
 .ite (decide (x1 < (List.length x2 : Int)))
  (.call (laws_markText.told x0) fun t1 => .need ((0 : Int) ≤ x1 ∧ x1 < (List.length x2 : Int)) (.jump (.c2 (wr (x0 + (1 : Int))) (wr (x1 + (1 : Int))) (List.set x2 (Int.toNat x1) t1))))
  (.ret (x0, x2))
def f (a0 : Int) (a1 : List ByteArray) : Option A := (begin a0 a1).run (lp tree)
def Q : Plan C := { PL with cuts := [(2, [0, 1, 5, 20])] }
theorem e : CutEq Pg C Q Tryz.f12 1 id st v o tree := fun J K x => by cases x <;> kernel_rfl
def told (a0 : Int) (a1 : List ByteArray) : YtpndhhellhfegaaGreatDoorEv.Told A := ⟨f a0 a1, fun r => SoundCall Pg C 12 (S a0 a1) 1 (v r) (o r), fun r h => sdCut v o Tryz.func12 rfl (of_decide_eq_true (by kernel_rfl)) (by rfl) (fun _ => rfl) e (fun J K => by kernel_rfl) h⟩
end laws_markStringS
/-! #### loop.example/g00983/laws.heldStringS (13) -/
namespace laws_heldStringS
def S (a0 : List ByteArray) (a1 : Int) : List (PV U) := YtpndhhellhfegaaGreatDoorEv.start C 22 [.sl 9 a0, .int .i64 a1] []
inductive X where
 | c2 (x0 : List ByteArray) (x1 x2 : Int)
def id : X → Nat
 | .c2 .. => 2
def st : X → List (PV U)
 | .c2 x0 x1 x2 => stOf 22 [(0, .sl 9 x0), (1, .int .i64 x1), (5, .int .i64 x2)]
def begin (a0 : List ByteArray) (a1 : Int) : Tr X A :=
 .jump (.c2 a0 a1 (0 : Int))
def tree : X → Tr X A
 | .c2 x0 x1 x2 =>
 let u0_0 : Tr X A := (.last (.call (laws_markText.told x1) fun t1 => .ite ((rdY x0 x2) != t1) (.ret ((-1 : Int))) (.jump (.c2 x0 (wr (x1 + (1 : Int))) (wr (x2 + (1 : Int))))))); .ite (decide (x2 < (List.length x0 : Int)))
  (.need ((0 : Int) ≤ x2 ∧ x2 < (List.length x0 : Int)) (.both (u0_0)
   (u0_0)))
  (.ret x1)
def f (a0 : List ByteArray) (a1 : Int) : Option A := (begin a0 a1).run (lp tree)
def Q : Plan C := { PL with cuts := [(2, [0, 1, 5])], ords := [(4, [5], (.take 0 [] (.take 1 [] (.take 2 [] (.take 4 [] (.alt 3 (.alt 5 (.take 6 [] .done) .nil) (.alt 5 (.take 3 [0, 1, 2, 4, 5] (.take 6 [] .done)) .nil)))))))] }
theorem e : CutEq Pg C Q Tryz.f13 0 id st v o tree := fun J K x => by cases x <;> kernel_rfl
def told (a0 : List ByteArray) (a1 : Int) : YtpndhhellhfegaaGreatDoorEv.Told A := ⟨f a0 a1, fun r => SoundCall Pg C 13 (S a0 a1) 0 (v r) (o r), fun r h => sdCut v o Tryz.func13 rfl (of_decide_eq_true (by kernel_rfl)) (by rfl) (fun _ => rfl) e (fun J K => by kernel_rfl) h⟩
end laws_heldStringS
end
end Go.Proofs.YtpndhhellhfegaaGreatDoor.Ev
