/- The law FnExactLinkOk in plain lists: the program's answer is the reference's, and the arguments are left as they were. Conditions: none beside those of the row. -/
import Derived.Test.YtmnmafoojniclaaHelpFnExactLinkOk
namespace Go.Proofs.Ytmnmafoojniclaa.Pure
open Go.RowKit Go.Proofs.Ytmnmafoojniclaa.PFnExactLinkOk Go.Proofs.Ytmnmafoojniclaa.XPure Go.Proofs.Ytmnmafoojniclaa.PureFnExactLinkOk Go.Proofs.YtmnmafoojniclaaW.PrintWords
set_option linter.unusedSimpArgs false

theorem FnExactLinkOk : laws_FnExactLinkOk.Pure := by
  intro m a g hM hG
  have hx : m.getD 8 0 ≤ 9223372036854775807 := getD_wf hM.2 8
  have hl : g.length ≤ 9223372036854775807 := hG.2.1
  by_cases hm : (m.length : Int) > 1048576
  · refine ⟨0, ?_⟩
    unfold laws_FnExactLinkOk.f
    rw [if_pos hm]
  have hw : wrap64 (1048576 - (g.length : Int)) = 1048576 - (g.length : Int) := wrap_in (by omega) (by omega)
  by_cases h : (1048576 - (g.length : Int)) < 0
  · refine ⟨0, ?_⟩
    simp only [laws_FnExactLinkOk.f, laws_szLink.f, laws_szGateway.f, laws_szIntS.f, hm, hw, h, Option.bind_some, ↓reduceIte, Int.reduceNeg, Int.reduceLT]
  · obtain ⟨k, hkm, hkg⟩ : ∃ k, m.length < k ∧ g.length < k := ⟨m.length + g.length + 1, by omega, by omega⟩
    refine ⟨k, ?_⟩
    have e1 := toIntS_f m (by omega) k hkm
    have e2 := eqIntS_f m (by omega) k hkm
    have e3 := toIntS_f g (by omega) k hkg
    have e4 := eqIntS_f g (by omega) k hkg
    have e5 := specLink_f m a g hx (by omega) k hkg
    have e6 := implLink_f m a g hx (by omega) k hkg
    simp only [laws_FnExactLinkOk.f, laws_szLink.f, laws_szGateway.f, laws_szIntS.f, laws_toLink.f, laws_toGateway.f, laws_eqLink.f, laws_eqGateway.f, hm, hw, h, e1, e2, e3, e4, e5, e6, Option.bind_some, ↓reduceIte, bne_self_eq_false, Bool.false_eq_true]

end Go.Proofs.Ytmnmafoojniclaa.Pure
