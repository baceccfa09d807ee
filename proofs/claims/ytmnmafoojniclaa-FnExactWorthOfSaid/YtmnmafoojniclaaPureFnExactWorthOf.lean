/- The law FnExactWorthOf in plain lists: the program's sums over a choice of plans, told by bits, are the reference's, and the arguments are left as they were. Conditions: none beside those of the row. -/
import Derived.Test.YtmnmafoojniclaaHelpFnExactWorthOf
namespace Go.Proofs.Ytmnmafoojniclaa.Pure
open Go.RowKit Go.Proofs.Ytmnmafoojniclaa.PFnExactWorthOf Go.Proofs.Ytmnmafoojniclaa.XPure Go.Proofs.Ytmnmafoojniclaa.PureFnExactWorthOf Go.Proofs.YtmnmafoojniclaaW.PrintWords
set_option linter.unusedSimpArgs false

theorem same_f (l : List S114) (hl : l.length ≤ 1048576) (c : List Int) (hc : c.length ≤ 1048576) (k : Nat) (hk : c.length + l.length + 1 < k) :
    ∃ r, spec_WorthOf.f k l c = some r ∧ impl_WorthOf.f k l c = some r := by
  cases h : okS l with
  | true =>
    classical
    obtain ⟨m, h1, h2, h3⟩ := first_not (up c l.length) c.length
    exact ⟨_, specWorth_f l h c hc m h1 h2 h3 k (by omega), implWorth_f l h c hc m h1 h2 h3 k (by omega)⟩
  | false =>
    obtain ⟨q, rfl⟩ : ∃ q, k = q + 1 := ⟨k - 1, by omega⟩
    exact ⟨_, specWorth_no l hl h c hc q (by omega), implWorth_no l hl h c hc q (by omega)⟩
theorem FnExactWorthOf : laws_FnExactWorthOf.Pure := by
  intro l c hG hC
  have hl : l.length ≤ 9223372036854775807 := hG.1
  by_cases hcl : (c.length : Int) > 1048576
  · refine ⟨0, ?_⟩
    unfold laws_FnExactWorthOf.f
    rw [if_pos hcl]
  have hw : wrap64 (1048576 - (l.length : Int)) = 1048576 - (l.length : Int) := wrap_in (by omega) (by omega)
  by_cases h : (1048576 - (l.length : Int)) < 0
  · refine ⟨0, ?_⟩
    simp only [laws_FnExactWorthOf.f, laws_szPlanS.f, hcl, hw, h, Option.bind_some, ↓reduceIte, Int.reduceNeg, Int.reduceLT]
  obtain ⟨K, hK⟩ : ∃ K, K = c.length + l.length + 2 := ⟨_, rfl⟩
  refine ⟨K + 1, ?_⟩
  have e1 := toPlanS_f l (by omega)
  generalize hl2 : (l.map fun x => (⟨x.f0, x.f1⟩ : S114)) = l2 at e1
  have hlen : l2.length = l.length := by rw [← hl2]; simp
  have e2 := eqPlanS_f l2 (by omega)
  have e3 := toIntS_f c (by omega)
  have e4 := eqIntS_f c (by omega)
  obtain ⟨r, e5, e6⟩ := same_f l2 (by omega) c (by omega) (K + 1) (by omega)
  simp (disch := omega) only [laws_FnExactWorthOf.f, laws_FnExactWorthOf.j0, laws_szPlanS.f, hcl, hw, h, e1, e2, e3, e4, e5, e6, Option.bind_some, ↓reduceIte, bne_self_eq_false, Bool.false_eq_true]

end Go.Proofs.Ytmnmafoojniclaa.Pure
