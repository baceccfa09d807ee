/- The law FnExactBankOk in plain lists: the program and the reference accept the same banks, and the argument is left as it was. Conditions: none beside those of the row. -/
import Derived.Test.YtmnmafoojniclaaHelpFnExactBankOk
namespace Go.Proofs.Ytmnmafoojniclaa.Pure
open Go.RowKit Go.Proofs.Ytmnmafoojniclaa.PFnExactBankOk Go.Proofs.Ytmnmafoojniclaa.XPure Go.Proofs.Ytmnmafoojniclaa.PureFnExactBankOk Go.Proofs.YtmnmafoojniclaaW.PrintWords
set_option linter.unusedSimpArgs false

theorem bank_same (v : Int) (l : List Int) (s : Int) (hl : l.length ≤ 1048576) (k : Nat) (hk : l.length < k) : ∃ b, spec_BankOk.f k v l s = some b ∧ impl_BankOk.f k v l s = some b := by
  have e1 := specValues_f l (by omega) k hk
  have e2 := implValues_f l (by omega) k hk
  have e3 := specSum_f v l (by omega) k hk
  have e4 := implSum_f v l (by omega) k hk
  simp only [spec_BankOk.f, impl_BankOk.f, in_f, within_f, spec_l35Words.f, impl_areBankWords.f, e1, e2, e3, e4, Option.bind_some]
  cases inB v 1 1000 with
  | false => exact ⟨false, rfl, rfl⟩
  | true =>
    simp only [↓reduceIte]
    by_cases h8 : (l.length : Int) = 8
    · rw [if_pos h8]
      simp only [Option.bind_some]
      cases allV l with
      | false => exact ⟨false, rfl, rfl⟩
      | true => exact ⟨_, rfl, rfl⟩
    · rw [if_neg h8]
      exact ⟨false, rfl, rfl⟩
theorem FnExactBankOk : laws_FnExactBankOk.Pure := by
  intro v l s hG
  have hl : l.length ≤ 9223372036854775807 := hG.2.1.1
  have hw : wrap64 (1048576 - (l.length : Int)) = 1048576 - (l.length : Int) := wrap_in (by omega) (by omega)
  by_cases h : (1048576 - (l.length : Int)) < 0
  · refine ⟨0, ?_⟩
    simp only [laws_FnExactBankOk.f, laws_szBank.f, laws_szIntS.f, hw, h, Option.bind_some, ↓reduceIte, Int.reduceNeg, Int.reduceLT]
  · refine ⟨l.length + 1, ?_⟩
    have hk : l.length < l.length + 1 := by omega
    have e1 := toIntS_f l (by omega) _ hk
    have e2 := eqIntS_f l (by omega) _ hk
    obtain ⟨b, e3, e4⟩ := bank_same v l s (by omega) _ hk
    simp only [laws_FnExactBankOk.f, laws_szBank.f, laws_szIntS.f, laws_toBank.f, laws_eqBank.f, hw, h, e1, e2, e3, e4, Option.bind_some, ↓reduceIte, bne_self_eq_false, Bool.false_eq_true]

end Go.Proofs.Ytmnmafoojniclaa.Pure
