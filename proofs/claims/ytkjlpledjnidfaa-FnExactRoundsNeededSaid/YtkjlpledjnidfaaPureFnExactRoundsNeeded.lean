/- The law FnExactRoundsNeeded in plain lists: the program's answer is the reference's, and the arguments are left as they were. Conditions: none beside those of the row. -/
import Derived.Test.YtkjlpledjnidfaaHelpFnExactRoundsNeeded
namespace Go.Proofs.Ytkjlpledjnidfaa.Pure
open Go.RowKit Go.Proofs.Ytkjlpledjnidfaa.PFnExactRoundsNeeded Go.Proofs.Ytkjlpledjnidfaa.XPure Go.Proofs.Ytkjlpledjnidfaa.PureFnExactRoundsNeeded Go.Proofs.YtkjlpledjnidfaaW.PrintWords
set_option linter.unusedSimpArgs false

theorem FnExactRoundsNeeded : laws_FnExactRoundsNeeded.Pure := by
  intro m a g hM hG
  have hx : m.getD 8 0 ≤ 9223372036854775807 := getD_wf hM.2 8
  have hl : g.length ≤ 9223372036854775807 := hG.2.1
  by_cases hm : (m.length : Int) > 1048576
  · refine ⟨0, ?_⟩
    unfold laws_FnExactRoundsNeeded.f
    rw [if_pos hm]
  have hw : wrap64 (1048576 - (g.length : Int)) = 1048576 - (g.length : Int) := wrap_in (by omega) (by omega)
  by_cases h : (1048576 - (g.length : Int)) < 0
  · refine ⟨0, ?_⟩
    simp only [laws_FnExactRoundsNeeded.f, laws_szLink.f, laws_szGateway.f, laws_szIntS.f, hm, hw, h, Option.bind_some, ↓reduceIte, Int.reduceNeg, Int.reduceLT]
  · obtain ⟨k, hkm, hkg⟩ : ∃ k, m.length < k ∧ g.length < k := ⟨m.length + g.length + 1, by omega, by omega⟩
    refine ⟨k, ?_⟩
    have e1 := toIntS_f m (by omega) k hkm
    have e2 := eqIntS_f m (by omega) k hkm
    have e3 := toIntS_f g (by omega) k hkg
    have e4 := eqIntS_f g (by omega) k hkg
    have e7 : ∃ v, spec_RoundsNeeded.f k m a g = some v ∧ impl_RoundsNeeded.f k m a g = some v := by
      simp only [spec_RoundsNeeded.f, impl_RoundsNeeded.f, specLink_f m a g hx (by omega) k hkg, implLink_f m a g hx (by omega) k hkg, specSent_f m hx k (by omega), implSent_f m hx, spec_l03Bit.f, impl_bit.f, Option.bind_some]
      cases hL : linkOk m a g with
      | false => exact ⟨-1, rfl, rfl⟩
      | true =>
        have := linkOk_le hL
        simp only [↓reduceIte]
        by_cases he : a < ((sentOf m).length : Int)
        · rw [decide_eq_true he, bne_iff_ne.2 (by omega)]
          exact ⟨1, rfl, rfl⟩
        · rw [decide_eq_false he, show (a != ((sentOf m).length : Int)) = false from by rw [bne_eq_false_iff_eq]; omega]
          exact ⟨0, rfl, rfl⟩
    obtain ⟨v, e5, e6⟩ := e7
    simp only [laws_FnExactRoundsNeeded.f, laws_szLink.f, laws_szGateway.f, laws_szIntS.f, laws_toLink.f, laws_toGateway.f, laws_eqLink.f, laws_eqGateway.f, hm, hw, h, e1, e2, e3, e4, e5, e6, Option.bind_some, ↓reduceIte, bne_self_eq_false, Bool.false_eq_true]

end Go.Proofs.Ytkjlpledjnidfaa.Pure
