/- The law FnExactActiveBank in plain lists: the program's active bank is the reference's, again at a second call, and shares no memory with the argument. Conditions: none beside those of the row. -/
import Derived.Test.YtefbmfgifjphfaaHelpFnExactActiveBank
namespace Go.Proofs.Ytefbmfgifjphfaa.Pure
open Go.RowKit Go.Proofs.Ytefbmfgifjphfaa.PFnExactActiveBank Go.Proofs.Ytefbmfgifjphfaa.XPure Go.Proofs.Ytefbmfgifjphfaa.PureFnExactActiveBank Go.Proofs.YtefbmfgifjphfaaW.PrintWords Go.Proofs.YtefbmfgifjphfaaW.PrintLast Go.Proofs.YtefbmfgifjphfaaW.PrintMore
set_option linter.unusedSimpArgs false
set_option linter.unusedVariables false

theorem bank_same (v : Int) (l : List Int) (s : Int) (hl : l.length ≤ 1048576) (k : Nat) (hk : l.length < k) : ∃ b, spec_BankOk.f k v l s = some b ∧ impl_BankOk.f k v l s = some b := by
  have e1 := specValues_f l (by omega) k hk
  have e2 := implValues_f l (by omega) k hk
  have e3 := specSum_f v l (by omega) k hk
  have e4 := implSum_f v l (by omega) k hk
  simp only [spec_BankOk.f, impl_BankOk.f, in_f, within_f, spec_l35Words.f, impl_areBankWords.f, e1, e2, e3, e4, Option.bind_some]
  cases inB v 1 1000 with
  | false => exact ⟨false, rfl, rfl⟩
  | true =>
    simp only [↓reduceIte]
    by_cases h8 : (l.length : Int) = 8
    · rw [if_pos h8]
      simp only [Option.bind_some]
      cases allV l with
      | false => exact ⟨false, rfl, rfl⟩
      | true => exact ⟨_, rfl, rfl⟩
    · rw [if_neg h8]
      exact ⟨false, rfl, rfl⟩
theorem banks_same (a v1 : Int) (l1 : List Int) (s1 v2 : Int) (l2 : List Int) (s2 : Int) (h1 : l1.length ≤ 1048576) (h2 : l2.length ≤ 1048576) (k : Nat) (k1 : l1.length < k) (k2 : l2.length < k) :
    ∃ b, spec_BanksOk.f k a v1 l1 s1 v2 l2 s2 = some b ∧ impl_BanksOk.f k a v1 l1 s1 v2 l2 s2 = some b ∧ (b = true → a = 0 ∨ a = 1) := by
  obtain ⟨b1, e1, e2⟩ := bank_same v1 l1 s1 h1 k k1
  obtain ⟨b2, e3, e4⟩ := bank_same v2 l2 s2 h2 k k2
  unfold spec_BanksOk.f impl_BanksOk.f
  rw [in_f, within_f]
  simp only [Option.bind_some]
  by_cases h : inB a 0 1 = true
  · rw [if_pos h, if_pos h]
    have hc : a = 0 ∨ a = 1 := by
      simp only [inB, Bool.and_eq_true, decide_eq_true_eq] at h
      omega
    rcases hc with rfl | rfl
    · simp only [show ¬ ((0 : Int) = 1) from by decide, ↓reduceIte, Option.bind_some, e1, e2]
      exact ⟨b1, rfl, rfl, by simp⟩
    · simp only [show ¬ ((1 : Int) = 0) from by decide, ↓reduceIte, Option.bind_some, e3, e4]
      exact ⟨b2, rfl, rfl, by simp⟩
  · rw [if_neg h, if_neg h]
    exact ⟨false, rfl, rfl, fun h => absurd h (by decide)⟩
theorem szBanks_f (a v1 : Int) (l1 : List Int) (s1 v2 : Int) (l2 : List Int) (s2 : Int) (h1 : l1.length ≤ 9223372036854775807) (h2 : l2.length ≤ 9223372036854775807) :
    (∃ r, laws_szBanks.f a v1 l1 s1 v2 l2 s2 1048576 = some r ∧ r < 0) ∨ (l1.length + l2.length ≤ 1048576 ∧ ∃ r, laws_szBanks.f a v1 l1 s1 v2 l2 s2 1048576 = some r ∧ ¬ r < 0) := by
  have w1 : wrap64 (1048576 - (l1.length : Int)) = 1048576 - (l1.length : Int) := wrap_in (by omega) (by omega)
  simp only [laws_szBanks.f, laws_szBank.f, laws_szIntS.f, w1, Option.bind_some]
  by_cases c1 : 1048576 - (l1.length : Int) < 0
  · refine Or.inl ⟨-1, ?_, by decide⟩
    simp only [c1, ↓reduceIte, Option.bind_some, show ((-1 : Int) < 0) from by decide]
  · have b1 : -9223372036854775808 ≤ 1048576 - (l1.length : Int) - (l2.length : Int) := by clear w1; omega
    have b2 : 1048576 - (l1.length : Int) - (l2.length : Int) ≤ 9223372036854775807 := by clear w1; omega
    have w2 : wrap64 (1048576 - (l1.length : Int) - (l2.length : Int)) = 1048576 - (l1.length : Int) - (l2.length : Int) := wrap_in b1 b2
    simp only [c1, ↓reduceIte, Option.bind_some, w2]
    by_cases c2 : 1048576 - (l1.length : Int) - (l2.length : Int) < 0
    · refine Or.inl ⟨-1, ?_, by decide⟩
      simp only [c2, ↓reduceIte, Option.bind_some, show ((-1 : Int) < 0) from by decide]
    · refine Or.inr ⟨by clear w1 w2; omega, 1048576 - (l1.length : Int) - (l2.length : Int), ?_, c2⟩
      simp only [c2, ↓reduceIte, Option.bind_some]
theorem toBanks_f (a v1 : Int) (l1 : List Int) (s1 v2 : Int) (l2 : List Int) (s2 : Int) (h1 : l1.length ≤ 1048576) (h2 : l2.length ≤ 1048576) (k : Nat) (k1 : l1.length < k) (k2 : l2.length < k) :
    laws_toBanks.f k a v1 l1 s1 v2 l2 s2 = some (a, v1, l1, s1, v2, l2, s2) := by
  simp only [laws_toBanks.f, laws_toBank.f, toIntS_f l1 (by omega) k k1, toIntS_f l2 (by omega) k k2, Option.bind_some]
theorem eqBank_f (v : Int) (l : List Int) (s : Int) (h : l.length ≤ 1048576) (k : Nat) (hk : l.length < k) : laws_eqBank.f k v l s v l s = some true := by
  simp only [laws_eqBank.f, eqIntS_f l (by omega) k hk, Option.bind_some, ↓reduceIte]
theorem eqBanks_f (a v1 : Int) (l1 : List Int) (s1 v2 : Int) (l2 : List Int) (s2 : Int) (h1 : l1.length ≤ 1048576) (h2 : l2.length ≤ 1048576) (k : Nat) (k1 : l1.length < k) (k2 : l2.length < k) :
    laws_eqBanks.f k a v1 l1 s1 v2 l2 s2 a v1 l1 s1 v2 l2 s2 = some true := by
  simp only [laws_eqBanks.f, eqBank_f v1 l1 s1 h1 k k1, eqBank_f v2 l2 s2 h2 k k2, Option.bind_some, ↓reduceIte]
theorem specCopy_f (v : Int) (l : List Int) (s : Int) (h : l.length ≤ 1048576) : spec_l35Copy.f v l s = some (v, l, s) := by
  unfold spec_l35Copy.f
  simp only [Option.bind_some, List.nil_append, List.length_nil]
  rw [if_pos (by omega)]
theorem copyBanks_f (a v1 : Int) (l1 : List Int) (s1 v2 : Int) (l2 : List Int) (s2 : Int) (h1 : l1.length ≤ 1048576) (h2 : l2.length ≤ 1048576) : impl_copyBanks.f a v1 l1 s1 v2 l2 s2 = some (a, v1, l1, s1, v2, l2, s2) := by
  unfold impl_copyBanks.f
  rw [clone_f l1 (by omega), clone_f l2 (by omega)]
  simp only [Option.bind_some]
theorem active_same (a v1 : Int) (l1 : List Int) (s1 v2 : Int) (l2 : List Int) (s2 : Int) (h1 : l1.length ≤ 1048576) (h2 : l2.length ≤ 1048576) :
    ∃ (v : Int) (l : List Int) (s : Int) (b : Bool), (∀ k, l1.length < k → l2.length < k → spec_ActiveBank.f k a v1 l1 s1 v2 l2 s2 = some (v, l, s, b) ∧ impl_ActiveBank.f k a v1 l1 s1 v2 l2 s2 = some (v, l, s, b)) ∧ l.length ≤ l1.length + l2.length := by
  have hm : ∀ k, l1.length < k → l2.length < k → ∃ b, spec_BanksOk.f k a v1 l1 s1 v2 l2 s2 = some b ∧ impl_BanksOk.f k a v1 l1 s1 v2 l2 s2 = some b ∧ (b = true → a = 0 ∨ a = 1) := fun k k1 k2 => banks_same a v1 l1 s1 v2 l2 s2 h1 h2 k k1 k2
  obtain ⟨b0, e0, _, hb0⟩ := hm (l1.length + l2.length + 1) (by omega) (by omega)
  have hall : ∀ k, l1.length < k → l2.length < k → spec_BanksOk.f k a v1 l1 s1 v2 l2 s2 = some b0 ∧ impl_BanksOk.f k a v1 l1 s1 v2 l2 s2 = some b0 := by
    intro k k1 k2
    obtain ⟨b, e, e', _⟩ := hm k k1 k2
    have hb : b = b0 := by
      rcases Nat.le_total k (l1.length + l2.length + 1) with h | h
      · have := at_rounds (g := fun k => spec_BanksOk.f k a v1 l1 s1 v2 l2 s2) (fun k => spec_BanksOk.mono a v1 l1 s1 v2 l2 s2 k) h e
        rw [e0] at this
        exact (Option.some.inj this).symm
      · have := at_rounds (g := fun k => spec_BanksOk.f k a v1 l1 s1 v2 l2 s2) (fun k => spec_BanksOk.mono a v1 l1 s1 v2 l2 s2 k) h e0
        rw [e] at this
        exact Option.some.inj this
    exact ⟨hb ▸ e, hb ▸ e'⟩
  cases b0 with
  | false =>
    refine ⟨0, [], 0, false, fun k k1 k2 => ?_, Nat.zero_le _⟩
    obtain ⟨x1, x2⟩ := hall k k1 k2
    unfold spec_ActiveBank.f impl_ActiveBank.f
    rw [x1, x2]
    exact ⟨rfl, rfl⟩
  | true =>
    rcases hb0 rfl with h | h
    · refine ⟨v1, l1, s1, true, fun k k1 k2 => ?_, by omega⟩
      obtain ⟨x1, x2⟩ := hall k k1 k2
      unfold spec_ActiveBank.f impl_ActiveBank.f
      rw [x1, x2, copyBanks_f a v1 l1 s1 v2 l2 s2 h1 h2, specCopy_f v1 l1 s1 h1, h]
      exact ⟨rfl, rfl⟩
    · refine ⟨v2, l2, s2, true, fun k k1 k2 => ?_, by omega⟩
      obtain ⟨x1, x2⟩ := hall k k1 k2
      unfold spec_ActiveBank.f impl_ActiveBank.f
      rw [x1, x2, copyBanks_f a v1 l1 s1 v2 l2 s2 h1 h2, specCopy_f v2 l2 s2 h2, h]
      exact ⟨rfl, rfl⟩
theorem FnExactActiveBank : laws_FnExactActiveBank.Pure := by
  intro a v1 l1 s1 v2 l2 s2 hG
  have h1 : l1.length ≤ 9223372036854775807 := hG.2.1.2.1.1
  have h2 : l2.length ≤ 9223372036854775807 := hG.2.2.2.1.1
  refine ⟨l1.length + l2.length + 1 + 1 + 1 + 1, ?_⟩
  unfold laws_FnExactActiveBank.f
  rcases szBanks_f a v1 l1 s1 v2 l2 s2 h1 h2 with ⟨r, e, hr⟩ | ⟨hs, r, e, hr⟩
  · rw [e]
    simp only [Option.bind_some]
    rw [if_pos hr]
  · rw [e]
    simp only [Option.bind_some]
    rw [if_neg hr]
    obtain ⟨q, hq⟩ : ∃ q, q = l1.length + l2.length + 1 := ⟨_, rfl⟩
    rw [← hq]
    have a1 := fun k (hk : l1.length + l2.length < k) => toBanks_f a v1 l1 s1 v2 l2 s2 (by omega) (by omega) k (by omega) (by omega)
    have a2 := fun k (hk : l1.length + l2.length < k) => eqBanks_f a v1 l1 s1 v2 l2 s2 (by omega) (by omega) k (by omega) (by omega)
    obtain ⟨v, l, s, b, hsame, hl⟩ := active_same a v1 l1 s1 v2 l2 s2 (by omega) (by omega)
    have a3 := fun k (hk : l1.length + l2.length < k) => (hsame k (by omega) (by omega)).1
    have a4 := fun k (hk : l1.length + l2.length < k) => (hsame k (by omega) (by omega)).2
    have a5 := fun k (hk : l1.length + l2.length < k) => eqBank_f v l s (by omega) k (by omega)
    have m1 := fun k (hk : l1.length + l2.length < k) => markIntS_g l1 1 k (by omega) (by omega) (by omega) (by omega)
    have m2 := fun k (hk : l1.length + l2.length < k) => markIntS_g l2 (1 + (l1.length : Int)) k (by omega) (by omega) (by omega) (by omega)
    have m3 := fun k (hk : l1.length + l2.length < k) => markIntS_g l 1 k (by omega) (by omega) (by omega) (by omega)
    have m4 := fun k (hk : l1.length + l2.length < k) => heldIntS_g l.length 1 k (by omega) (by omega) (by omega) (by omega)
    have n1 : ¬ (1 + (l1.length : Int) + (l2.length : Int)) < 0 := by omega
    have n2 : ¬ (1 + (l.length : Int)) < 0 := by omega
    have q0 : l1.length + l2.length < q := by omega
    have q1 : l1.length + l2.length < q + 1 := by omega
    have q2 : l1.length + l2.length < q + 1 + 1 := by omega
    have q3 : l1.length + l2.length < q + 1 + 1 + 1 := by omega
    clear hq hs
    rw [a1 _ q3]
    simp only [Option.bind_some]
    rw [a3 _ q3, a4 _ q3]
    simp only [Option.bind_some]
    rw [a5 _ q3]
    simp only [Option.bind_some, ↓reduceIte, laws_FnExactActiveBank.j0, bne_self_eq_false, Bool.false_eq_true]
    rw [a1 _ q2]
    simp only [Option.bind_some]
    rw [a2 _ q2]
    simp only [Option.bind_some, ↓reduceIte, laws_markBanks.f, laws_markBank.f]
    rw [m1 _ q2]
    simp only [Option.bind_some]
    rw [m2 _ q2]
    simp only [Option.bind_some]
    rw [if_neg n1, a5 _ q2]
    simp only [Option.bind_some, ↓reduceIte, laws_FnExactActiveBank.j1, Bool.false_eq_true, laws_markBank.f, laws_heldBank.f]
    rw [m3 _ q1]
    simp only [Option.bind_some]
    rw [m4 _ q1]
    simp only [Option.bind_some]
    rw [if_neg n2]
    simp only [Option.bind_some]
    rw [if_neg n2]
    simp only [↓reduceIte]
    rw [a1 _ q1]
    simp only [Option.bind_some]
    rw [a4 _ q1]
    simp only [Option.bind_some]
    rw [a5 _ q1]
    simp only [Option.bind_some, ↓reduceIte, laws_FnExactActiveBank.j2, bne_self_eq_false, Bool.false_eq_true, laws_heldBank.f]
    rw [m4 _ q0]
    simp only [Option.bind_some]
    rw [if_neg n2]
    simp only [Option.bind_some]
    rw [if_neg n2]
    simp only [↓reduceIte]

end Go.Proofs.Ytefbmfgifjphfaa.Pure
