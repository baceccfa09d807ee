/- The law FnExactUpdateSteps in plain lists: the program's number of steps is the reference's, and the arguments are left as they were. Conditions: none beside those of the row. -/
import Derived.Test.YtefbmfgifjphfaaHelpFnExactUpdateSteps
namespace Go.Proofs.Ytefbmfgifjphfaa.Pure
open Go.RowKit Go.Proofs.Ytefbmfgifjphfaa.PFnExactUpdateSteps Go.Proofs.Ytefbmfgifjphfaa.XPure Go.Proofs.Ytefbmfgifjphfaa.PureFnExactUpdateSteps Go.Proofs.YtefbmfgifjphfaaW.PrintWords Go.Proofs.YtefbmfgifjphfaaW.PrintLast Go.Proofs.YtefbmfgifjphfaaW.PrintMore
set_option linter.unusedSimpArgs false
set_option linter.unusedVariables false

theorem bank_same (v : Int) (l : List Int) (s : Int) (hl : l.length ≤ 1048576) (k : Nat) (hk : l.length < k) : ∃ b, spec_BankOk.f k v l s = some b ∧ impl_BankOk.f k v l s = some b := by
  have e1 := specValues_f l (by omega) k hk
  have e2 := implValues_f l (by omega) k hk
  have e3 := specSum_f v l (by omega) k hk
  have e4 := implSum_f v l (by omega) k hk
  simp only [spec_BankOk.f, impl_BankOk.f, in_f, within_f, spec_l35Words.f, impl_areBankWords.f, e1, e2, e3, e4, Option.bind_some]
  cases inB v 1 1000 with
  | false => exact ⟨false, rfl, rfl⟩
  | true =>
    simp only [↓reduceIte]
    by_cases h8 : (l.length : Int) = 8
    · rw [if_pos h8]
      simp only [Option.bind_some]
      cases allV l with
      | false => exact ⟨false, rfl, rfl⟩
      | true => exact ⟨_, rfl, rfl⟩
    · rw [if_neg h8]
      exact ⟨false, rfl, rfl⟩
theorem banks_same (a v1 : Int) (l1 : List Int) (s1 v2 : Int) (l2 : List Int) (s2 : Int) (h1 : l1.length ≤ 1048576) (h2 : l2.length ≤ 1048576) (k : Nat) (k1 : l1.length < k) (k2 : l2.length < k) :
    ∃ b, spec_BanksOk.f k a v1 l1 s1 v2 l2 s2 = some b ∧ impl_BanksOk.f k a v1 l1 s1 v2 l2 s2 = some b ∧ (b = true → a = 0 ∨ a = 1) := by
  obtain ⟨b1, e1, e2⟩ := bank_same v1 l1 s1 h1 k k1
  obtain ⟨b2, e3, e4⟩ := bank_same v2 l2 s2 h2 k k2
  unfold spec_BanksOk.f impl_BanksOk.f
  rw [in_f, within_f]
  simp only [Option.bind_some]
  by_cases h : inB a 0 1 = true
  · rw [if_pos h, if_pos h]
    have hc : a = 0 ∨ a = 1 := by
      simp only [inB, Bool.and_eq_true, decide_eq_true_eq] at h
      omega
    rcases hc with rfl | rfl
    · simp only [show ¬ ((0 : Int) = 1) from by decide, ↓reduceIte, Option.bind_some, e1, e2]
      exact ⟨b1, rfl, rfl, by simp⟩
    · simp only [show ¬ ((1 : Int) = 0) from by decide, ↓reduceIte, Option.bind_some, e3, e4]
      exact ⟨b2, rfl, rfl, by simp⟩
  · rw [if_neg h, if_neg h]
    exact ⟨false, rfl, rfl, fun h => absurd h (by decide)⟩
theorem szBanks_f (a v1 : Int) (l1 : List Int) (s1 v2 : Int) (l2 : List Int) (s2 : Int) (h1 : l1.length ≤ 9223372036854775807) (h2 : l2.length ≤ 9223372036854775807) :
    (∃ r, laws_szBanks.f a v1 l1 s1 v2 l2 s2 1048576 = some r ∧ r < 0) ∨ (l1.length + l2.length ≤ 1048576 ∧ ∃ r, laws_szBanks.f a v1 l1 s1 v2 l2 s2 1048576 = some r ∧ ¬ r < 0) := by
  have w1 : wrap64 (1048576 - (l1.length : Int)) = 1048576 - (l1.length : Int) := wrap_in (by omega) (by omega)
  simp only [laws_szBanks.f, laws_szBank.f, laws_szIntS.f, w1, Option.bind_some]
  by_cases c1 : 1048576 - (l1.length : Int) < 0
  · refine Or.inl ⟨-1, ?_, by decide⟩
    simp only [c1, ↓reduceIte, Option.bind_some, show ((-1 : Int) < 0) from by decide]
  · have b1 : -9223372036854775808 ≤ 1048576 - (l1.length : Int) - (l2.length : Int) := by clear w1; omega
    have b2 : 1048576 - (l1.length : Int) - (l2.length : Int) ≤ 9223372036854775807 := by clear w1; omega
    have w2 : wrap64 (1048576 - (l1.length : Int) - (l2.length : Int)) = 1048576 - (l1.length : Int) - (l2.length : Int) := wrap_in b1 b2
    simp only [c1, ↓reduceIte, Option.bind_some, w2]
    by_cases c2 : 1048576 - (l1.length : Int) - (l2.length : Int) < 0
    · refine Or.inl ⟨-1, ?_, by decide⟩
      simp only [c2, ↓reduceIte, Option.bind_some, show ((-1 : Int) < 0) from by decide]
    · refine Or.inr ⟨by clear w1 w2; omega, 1048576 - (l1.length : Int) - (l2.length : Int), ?_, c2⟩
      simp only [c2, ↓reduceIte, Option.bind_some]
theorem toBanks_f (a v1 : Int) (l1 : List Int) (s1 v2 : Int) (l2 : List Int) (s2 : Int) (h1 : l1.length ≤ 1048576) (h2 : l2.length ≤ 1048576) (k : Nat) (k1 : l1.length < k) (k2 : l2.length < k) :
    laws_toBanks.f k a v1 l1 s1 v2 l2 s2 = some (a, v1, l1, s1, v2, l2, s2) := by
  simp only [laws_toBanks.f, laws_toBank.f, toIntS_f l1 (by omega) k k1, toIntS_f l2 (by omega) k k2, Option.bind_some]
theorem eqBank_f (v : Int) (l : List Int) (s : Int) (h : l.length ≤ 1048576) (k : Nat) (hk : l.length < k) : laws_eqBank.f k v l s v l s = some true := by
  simp only [laws_eqBank.f, eqIntS_f l (by omega) k hk, Option.bind_some, ↓reduceIte]
theorem eqBanks_f (a v1 : Int) (l1 : List Int) (s1 v2 : Int) (l2 : List Int) (s2 : Int) (h1 : l1.length ≤ 1048576) (h2 : l2.length ≤ 1048576) (k : Nat) (k1 : l1.length < k) (k2 : l2.length < k) :
    laws_eqBanks.f k a v1 l1 s1 v2 l2 s2 a v1 l1 s1 v2 l2 s2 = some true := by
  simp only [laws_eqBanks.f, eqBank_f v1 l1 s1 h1 k k1, eqBank_f v2 l2 s2 h2 k k2, Option.bind_some, ↓reduceIte]
def wordsB (l : List Int) : Bool := decide ((l.length : Int) = 8) && allV l
theorem specWords_f (l : List Int) (h : l.length ≤ 1048576) (k : Nat) (hk : l.length < k) : spec_l35Words.f k l = some (wordsB l) := by
  unfold spec_l35Words.f wordsB
  rw [specValues_f l (by omega) k hk]
  by_cases h8 : (l.length : Int) = 8
  · rw [if_pos h8, decide_eq_true h8]
    rfl
  · rw [if_neg h8, decide_eq_false h8]
    rfl
theorem implWords_f (l : List Int) (h : l.length ≤ 1048576) (k : Nat) (hk : l.length < k) : impl_areBankWords.f k l = some (wordsB l) := by
  unfold impl_areBankWords.f wordsB
  rw [implValues_f l (by omega) k hk]
  by_cases h8 : (l.length : Int) = 8
  · rw [if_pos h8, decide_eq_true h8]
    rfl
  · rw [if_neg h8, decide_eq_false h8]
    rfl
theorem steps_same (a v1 : Int) (l1 : List Int) (s1 v2 : Int) (l2 : List Int) (s2 v : Int) (ws : List Int) (h1 : l1.length ≤ 1048576) (h2 : l2.length ≤ 1048576) (h3 : ws.length ≤ 1048576) (k : Nat) (k1 : l1.length < k) (k2 : l2.length < k) (k3 : ws.length < k) :
    ∃ r, spec_UpdateSteps.f k a v1 l1 s1 v2 l2 s2 v ws = some r ∧ impl_UpdateSteps.f k a v1 l1 s1 v2 l2 s2 v ws = some r := by
  obtain ⟨b, e1, e2, hb⟩ := banks_same a v1 l1 s1 v2 l2 s2 h1 h2 k k1 k2
  unfold spec_UpdateSteps.f impl_UpdateSteps.f
  rw [e1, e2]
  simp only [Option.bind_some]
  cases b with
  | false => exact ⟨(0, false), rfl, rfl⟩
  | true =>
    rw [specWords_f ws h3 k k3, implWords_f ws h3 k k3]
    rcases hb rfl with rfl | rfl
    · simp only [show ¬ ((0 : Int) = 1) from by decide, ↓reduceIte, Option.bind_some, in_f, within_f]
      cases wordsB ws <;> cases inB v (wrap64 (v1 + 1)) 1000 <;> exact ⟨_, rfl, rfl⟩
    · simp only [show ¬ ((1 : Int) = 0) from by decide, ↓reduceIte, Option.bind_some, in_f, within_f]
      cases wordsB ws <;> cases inB v (wrap64 (v2 + 1)) 1000 <;> exact ⟨_, rfl, rfl⟩
theorem FnExactUpdateSteps : laws_FnExactUpdateSteps.Pure := by
  intro a v1 l1 s1 v2 l2 s2 v ws hG _ hW
  have h1 : l1.length ≤ 9223372036854775807 := hG.2.1.2.1.1
  have h2 : l2.length ≤ 9223372036854775807 := hG.2.2.2.1.1
  refine ⟨l1.length + l2.length + ws.length + 1 + 1, ?_⟩
  unfold laws_FnExactUpdateSteps.f
  by_cases hw : (ws.length : Int) > 1048576
  · rw [if_pos hw]
  rw [if_neg hw]
  rcases szBanks_f a v1 l1 s1 v2 l2 s2 h1 h2 with ⟨r, e, hr⟩ | ⟨hs, r, e, hr⟩
  · rw [e]
    simp only [Option.bind_some]
    rw [if_pos hr]
  · rw [e]
    simp only [Option.bind_some]
    rw [if_neg hr]
    obtain ⟨q, hq⟩ : ∃ q, q = l1.length + l2.length + ws.length + 1 := ⟨_, rfl⟩
    rw [← hq]
    have a1 := fun k (hk : l1.length + l2.length + ws.length < k) => toBanks_f a v1 l1 s1 v2 l2 s2 (by omega) (by omega) k (by omega) (by omega)
    have a2 := fun k (hk : l1.length + l2.length + ws.length < k) => eqBanks_f a v1 l1 s1 v2 l2 s2 (by omega) (by omega) k (by omega) (by omega)
    have a3 := fun k (hk : l1.length + l2.length + ws.length < k) => toIntS_f ws (by omega) k (by omega)
    have a4 := fun k (hk : l1.length + l2.length + ws.length < k) => eqIntS_f ws (by omega) k (by omega)
    obtain ⟨⟨n, b⟩, e1, e2⟩ := steps_same a v1 l1 s1 v2 l2 s2 v ws (by omega) (by omega) (by omega) (q + 1) (by omega) (by omega) (by omega)
    rw [a1 _ (by omega), a3 _ (by omega)]
    simp only [Option.bind_some]
    rw [e1, e2]
    simp only [Option.bind_some, ↓reduceIte, laws_FnExactUpdateSteps.j0, bne_self_eq_false, Bool.false_eq_true]
    rw [a1 _ (by omega)]
    simp only [Option.bind_some]
    rw [a2 _ (by omega), a3 _ (by omega)]
    simp only [Option.bind_some, ↓reduceIte]
    rw [a4 _ (by omega)]
    simp only [Option.bind_some, ↓reduceIte]

end Go.Proofs.Ytefbmfgifjphfaa.Pure
