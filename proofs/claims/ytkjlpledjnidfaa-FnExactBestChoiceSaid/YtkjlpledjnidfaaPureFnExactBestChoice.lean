/- The law FnExactBestChoice in plain lists: the program's best set of plans, sought bit set by bit set, is the reference's, again at a second call, and shares no memory with the arguments. Conditions: none beside those of the row. -/
import Derived.Test.YtkjlpledjnidfaaHelpFnExactBestChoice
namespace Go.Proofs.Ytkjlpledjnidfaa.Pure
open Go.RowKit Go.Proofs.Ytkjlpledjnidfaa.PFnExactBestChoice Go.Proofs.Ytkjlpledjnidfaa.XPure Go.Proofs.Ytkjlpledjnidfaa.PureFnExactBestChoice Go.Proofs.YtkjlpledjnidfaaW.PrintWords
set_option linter.unusedSimpArgs false

theorem sameBest_f (l : List S148) (hl : l.length ≤ 1048576) (e : Int) : ∃ r : List Int, r.length ≤ l.length ∧ ∀ k, 2 ^ l.length + l.length + 25 < k → spec_BestChoice.f k l e = some r ∧ impl_BestChoice.f k l e = some r := by
  by_cases h : okS l = true ∧ 0 ≤ e
  · refine ⟨(run l e (2 ^ l.length - 1)).1, run_length l e _, fun k hk => ⟨specBest_f l h.1 e h.2 k (by omega), ?_⟩⟩
    simp only [impl_BestChoice.f, best_f l h.1 e h.2 k (by omega), Option.bind_some]
  · have h2 : okS l = false ∨ e < 0 := by
      by_cases h1 : okS l = true
      · exact Or.inr (Int.lt_of_not_ge fun h3 => h ⟨h1, h3⟩)
      · exact Or.inl (Bool.eq_false_iff.2 h1)
    refine ⟨[], Nat.zero_le _, fun k hk => ?_⟩
    have hp : 1 ≤ 2 ^ l.length := Nat.one_le_two_pow
    obtain ⟨q, rfl⟩ : ∃ q, k = q + 1 := ⟨k - 1, by omega⟩
    refine ⟨specBest_no l hl e h2 q (by omega), ?_⟩
    simp only [impl_BestChoice.f, best_no l hl e h2 q (by omega), Option.bind_some]
theorem FnExactBestChoice : laws_FnExactBestChoice.Pure := by
  intro l e hG hE
  have hl : l.length ≤ 9223372036854775807 := hG.1
  have hw : wrap64 (1048576 - (l.length : Int)) = 1048576 - (l.length : Int) := wrap_in (by omega) (by omega)
  by_cases h : (1048576 - (l.length : Int)) < 0
  · refine ⟨0, ?_⟩
    simp only [laws_FnExactBestChoice.f, laws_szPlanS.f, hw, h, Option.bind_some, ↓reduceIte, Int.reduceNeg, Int.reduceLT]
  have e1 := toPlanS_f l (by omega)
  generalize hl2 : (l.map fun x => (⟨x.f0, x.f1⟩ : S148)) = l2 at e1
  have hlen : l2.length = l.length := by rw [← hl2]; simp
  obtain ⟨r, hr, hB⟩ := sameBest_f l2 (by omega) e
  generalize 2 ^ l2.length = P at hB
  obtain ⟨K, hK⟩ : ∃ K, K = P + l2.length + 26 := ⟨_, rfl⟩
  refine ⟨K + 1, ?_⟩
  have e2 := eqPlanS_f l2 (by omega)
  have e3 := (hB (K + 1) (by omega)).1
  have e4 := (hB (K + 1) (by omega)).2
  have e4b := (hB K (by omega)).2
  have e7 := eqIntS_f r (by omega)
  have m2 := markIntS_g r 1
  have m3 := heldIntS_g r.length 1
  obtain ⟨l3, m4⟩ := markPlanS_g l2 1 (K + 1) (by omega) (by omega) (by omega) (by omega)
  have n1 : ¬ (1 + 2 * (l2.length : Int)) < 0 := by omega
  have n2 : ¬ (1 + (r.length : Int)) < 0 := by omega
  simp (disch := omega) only [laws_FnExactBestChoice.f, laws_szPlanS.f, hw, h, e1, e3, e4, e7, e2, m4, n1, Option.bind_some, ↓reduceIte, eq_self, Bool.not_true, Bool.false_eq_true]
  simp (disch := omega) only [laws_FnExactBestChoice.j0, m2, m3, e1, e4b, e7, n2, Option.bind_some, ↓reduceIte, Bool.false_eq_true, eq_self]

end Go.Proofs.Ytkjlpledjnidfaa.Pure
