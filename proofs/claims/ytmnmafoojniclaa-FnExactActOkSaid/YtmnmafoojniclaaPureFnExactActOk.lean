/- The law FnExactActOk in plain numbers: the program and the reference accept the same acts. Conditions: none beside those of the row. -/
import Derived.Test.YtmnmafoojniclaaPFnExactActOkxL
namespace Go.Proofs.Ytmnmafoojniclaa.Pure
open Go.RowKit Go.Proofs.Ytmnmafoojniclaa.PFnExactActOk Go.Proofs.YtmnmafoojniclaaW.PrintWords
set_option linter.unusedSimpArgs false

theorem within_in (a b c : Int) : impl_within.f a b c = spec_l01In.f a b c := rfl
theorem in_some (a b c : Int) : spec_l01In.f a b c = some (decide (b ≤ a ∧ a ≤ c)) := by
  unfold spec_l01In.f
  by_cases h : a ≥ b
  · rw [if_pos h]
    simp [show b ≤ a from h]
  · rw [if_neg h]
    simp [show ¬ b ≤ a from h]
theorem span_some (a b : Int) : spec_SpanOk.f a b = some (decide (0 ≤ a ∧ a ≤ b ∧ b ≤ 1000000)) := by
  unfold spec_SpanOk.f
  by_cases h : a ≥ 0
  · by_cases h2 : a ≤ b
    · rw [if_pos h, if_pos h2]; simp [show 0 ≤ a from h, h2]
    · rw [if_pos h, if_neg h2]; simp [h2]
  · rw [if_neg h]; simp [show ¬ 0 ≤ a from h]
theorem act_same (a b c : Int) : impl_ActOk.f a b c = spec_ActOk.f a b c := by
  have hs : impl_SpanOk.f b c = spec_SpanOk.f b c := rfl
  simp only [impl_ActOk.f, spec_ActOk.f, within_in, impl_isHarvest.f, impl_IsValue.f, spec_IsValue.f, hs, in_some, Option.bind_some]
  by_cases h1 : a = 1
  · rw [if_pos h1, if_pos h1]
  · rw [if_neg h1, if_neg h1]
    by_cases h2 : a = 2
    · rw [if_pos h2, if_pos h2]
      by_cases g1 : b ≥ 0
      · by_cases g2 : b ≤ c
        · rw [if_pos g1, if_pos g2]
          by_cases g3 : c ≤ 10000
          · rw [if_pos (decide_eq_true (by omega)), decide_eq_true g3, decide_eq_true (by omega)]
          · rw [if_neg (by rw [decide_eq_false (by omega)]; decide), decide_eq_false g3]
        · rw [if_pos g1, if_neg g2]
          split
          · rw [decide_eq_false (by omega)]
          · rfl
      · rw [if_neg g1]
        split
        · rw [decide_eq_false (by omega)]
        · rfl
    · rw [if_neg h2, if_neg h2]
theorem act_some (a b c : Int) : ∃ v, spec_ActOk.f a b c = some v := by
  simp only [spec_ActOk.f, in_some, span_some, spec_IsValue.f, Option.bind_some]
  repeat' split
  all_goals exact ⟨_, rfl⟩
theorem FnExactActOk : laws_FnExactActOk.Pure := by
  intro a b c _
  obtain ⟨v, hv⟩ := act_some a b c
  simp only [laws_FnExactActOk.f, laws_toAct.f, Option.bind_some, act_same, hv, bne_self_eq_false, Bool.false_eq_true, ↓reduceIte]

end Go.Proofs.Ytmnmafoojniclaa.Pure
