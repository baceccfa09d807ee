/- The law FnExactBestWorth in plain lists: the worth of the program's best set of plans is that of the reference's, and the arguments are left as they were. Conditions: none beside those of the row. -/
import Derived.Test.YtkjlpledjnidfaaHelpFnExactBestWorth
namespace Go.Proofs.Ytkjlpledjnidfaa.Pure
open Go.RowKit Go.Proofs.Ytkjlpledjnidfaa.PFnExactBestWorth Go.Proofs.Ytkjlpledjnidfaa.XPure Go.Proofs.Ytkjlpledjnidfaa.PureFnExactBestWorth Go.Proofs.YtkjlpledjnidfaaW.PrintWords
set_option linter.unusedSimpArgs false

theorem own_zero (l : List S148) : own l 0 = ([], 0, 0) := by
  have a1 : setOf 0 l.length = [] := by
    have := setOf_past 0 0 (by decide) l.length
    rw [Nat.zero_add] at this
    exact this
  unfold own
  rw [a1, sumB_zero, sumB_zero]
theorem sameWorth_f (l : List S148) (hl : l.length ≤ 1048576) (e : Int) (k : Nat) (hk : 2 ^ l.length + l.length + 26 < k) : ∃ r : Int, spec_BestWorth.f k l e = some r ∧ impl_BestWorth.f k l e = some r := by
  have hp : 1 ≤ 2 ^ l.length := Nat.one_le_two_pow
  obtain ⟨q, rfl⟩ : ∃ q, k = q + 1 := ⟨k - 1, by omega⟩
  have hok : spec_PlansOk.f (q + 1) l = some (okS l) := by rw [specPlans_f l hl (q + 1) (by omega)]; rfl
  by_cases h : okS l = true ∧ 0 ≤ e
  · have h10 := (small_of h.1).1
    refine ⟨(run l e (2 ^ l.length - 1)).2.2, ?_, ?_⟩
    · obtain ⟨b, hb⟩ : ∃ b, run l e (2 ^ l.length - 1) = own l b := by
        rcases run_is l e (2 ^ l.length - 1) with h1 | ⟨b, _, h1⟩
        · exact ⟨0, h1.trans (own_zero l).symm⟩
        · exact ⟨b, h1⟩
      have hw := specOwn_f l h.1 b q (by omega)
      have hc := specBest_f l h.1 e h.2 q (by omega)
      rw [hb] at hc ⊢
      simp only [own] at hc ⊢
      have hd : ¬ e < 0 := by omega
      simp only [spec_BestWorth.f, hok, spec_BestWorth.j0, h.1, hd, decide_false, hc, hw, Option.bind_some, ↓reduceIte, Bool.false_eq_true]
    · simp only [impl_BestWorth.f, best_f l h.1 e h.2 (q + 1) (by omega), Option.bind_some, ↓reduceIte]
  · have h2 : okS l = false ∨ e < 0 := by
      by_cases h1 : okS l = true
      · exact Or.inr (Int.lt_of_not_ge fun h3 => h ⟨h1, h3⟩)
      · exact Or.inl (Bool.eq_false_iff.2 h1)
    refine ⟨-1, ?_, ?_⟩
    · simp only [spec_BestWorth.f, hok, spec_BestWorth.j0, Option.bind_some]
      rcases h2 with h2 | h2
      · rw [h2]
        rfl
      · rw [decide_eq_true h2]
        cases okS l <;> rfl
    · simp only [impl_BestWorth.f, best_no l hl e h2 q (by omega), Option.bind_some, Bool.false_eq_true, ↓reduceIte]
theorem FnExactBestWorth : laws_FnExactBestWorth.Pure := by
  intro l e hG hE
  have hl : l.length ≤ 9223372036854775807 := hG.1
  have hw : wrap64 (1048576 - (l.length : Int)) = 1048576 - (l.length : Int) := wrap_in (by omega) (by omega)
  by_cases h : (1048576 - (l.length : Int)) < 0
  · refine ⟨0, ?_⟩
    simp only [laws_FnExactBestWorth.f, laws_szPlanS.f, hw, h, Option.bind_some, ↓reduceIte, Int.reduceNeg, Int.reduceLT]
  have e1 := toPlanS_f l (by omega)
  generalize hl2 : (l.map fun x => (⟨x.f0, x.f1⟩ : S148)) = l2 at e1
  have hlen : l2.length = l.length := by rw [← hl2]; simp
  obtain ⟨K, hK⟩ : ∃ K, K = 2 ^ l2.length + l2.length + 27 := ⟨_, rfl⟩
  have hp : 1 ≤ 2 ^ l2.length := Nat.one_le_two_pow
  obtain ⟨r, e3, e4⟩ := sameWorth_f l2 (by omega) e K (by omega)
  generalize 2 ^ l2.length = P at hK hp
  refine ⟨K, ?_⟩
  have e2 := eqPlanS_f l2 (by omega)
  simp (disch := omega) only [laws_FnExactBestWorth.f, laws_szPlanS.f, hw, h, e1, e2, e3, e4, Option.bind_some, ↓reduceIte, eq_self, Bool.false_eq_true]

end Go.Proofs.Ytkjlpledjnidfaa.Pure
