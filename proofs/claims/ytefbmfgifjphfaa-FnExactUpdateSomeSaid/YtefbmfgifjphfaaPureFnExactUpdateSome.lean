/- The law FnExactUpdateSome in plain lists: the program's first steps of an update leave what the reference's leave, again at a second call, and share no memory with the arguments. Conditions: none beside those of the row. -/
import Derived.Test.YtefbmfgifjphfaaHelpFnExactUpdateSome
namespace Go.Proofs.Ytefbmfgifjphfaa.Pure
open Go.RowKit Go.Proofs.Ytefbmfgifjphfaa.PFnExactUpdateSome Go.Proofs.Ytefbmfgifjphfaa.XPure Go.Proofs.Ytefbmfgifjphfaa.PureFnExactUpdateSome Go.Proofs.YtefbmfgifjphfaaW.PrintWords Go.Proofs.YtefbmfgifjphfaaW.PrintLast Go.Proofs.YtefbmfgifjphfaaW.PrintMore
set_option linter.unusedSimpArgs false
set_option linter.unusedVariables false

theorem bank_same (v : Int) (l : List Int) (s : Int) (hl : l.length ≤ 1048576) (k : Nat) (hk : l.length < k) : ∃ b, spec_BankOk.f k v l s = some b ∧ impl_BankOk.f k v l s = some b := by
  have e1 := specValues_f l (by omega) k hk
  have e2 := implValues_f l (by omega) k hk
  have e3 := specSum_f v l (by omega) k hk
  have e4 := implSum_f v l (by omega) k hk
  simp only [spec_BankOk.f, impl_BankOk.f, in_f, within_f, spec_l35Words.f, impl_areBankWords.f, e1, e2, e3, e4, Option.bind_some]
  cases inB v 1 1000 with
  | false => exact ⟨false, rfl, rfl⟩
  | true =>
    simp only [↓reduceIte]
    by_cases h8 : (l.length : Int) = 8
    · rw [if_pos h8]
      simp only [Option.bind_some]
      cases allV l with
      | false => exact ⟨false, rfl, rfl⟩
      | true => exact ⟨_, rfl, rfl⟩
    · rw [if_neg h8]
      exact ⟨false, rfl, rfl⟩
theorem banks_same (a v1 : Int) (l1 : List Int) (s1 v2 : Int) (l2 : List Int) (s2 : Int) (h1 : l1.length ≤ 1048576) (h2 : l2.length ≤ 1048576) (k : Nat) (k1 : l1.length < k) (k2 : l2.length < k) :
    ∃ b, spec_BanksOk.f k a v1 l1 s1 v2 l2 s2 = some b ∧ impl_BanksOk.f k a v1 l1 s1 v2 l2 s2 = some b ∧ (b = true → a = 0 ∨ a = 1) := by
  obtain ⟨b1, e1, e2⟩ := bank_same v1 l1 s1 h1 k k1
  obtain ⟨b2, e3, e4⟩ := bank_same v2 l2 s2 h2 k k2
  unfold spec_BanksOk.f impl_BanksOk.f
  rw [in_f, within_f]
  simp only [Option.bind_some]
  by_cases h : inB a 0 1 = true
  · rw [if_pos h, if_pos h]
    have hc : a = 0 ∨ a = 1 := by
      simp only [inB, Bool.and_eq_true, decide_eq_true_eq] at h
      omega
    rcases hc with rfl | rfl
    · simp only [show ¬ ((0 : Int) = 1) from by decide, ↓reduceIte, Option.bind_some, e1, e2]
      exact ⟨b1, rfl, rfl, by simp⟩
    · simp only [show ¬ ((1 : Int) = 0) from by decide, ↓reduceIte, Option.bind_some, e3, e4]
      exact ⟨b2, rfl, rfl, by simp⟩
  · rw [if_neg h, if_neg h]
    exact ⟨false, rfl, rfl, fun h => absurd h (by decide)⟩
theorem szBanks_f (a v1 : Int) (l1 : List Int) (s1 v2 : Int) (l2 : List Int) (s2 : Int) (h1 : l1.length ≤ 9223372036854775807) (h2 : l2.length ≤ 9223372036854775807) :
    (∃ r, laws_szBanks.f a v1 l1 s1 v2 l2 s2 1048576 = some r ∧ r < 0) ∨ (l1.length + l2.length ≤ 1048576 ∧ ∃ r, laws_szBanks.f a v1 l1 s1 v2 l2 s2 1048576 = some r ∧ ¬ r < 0) := by
  have w1 : wrap64 (1048576 - (l1.length : Int)) = 1048576 - (l1.length : Int) := wrap_in (by omega) (by omega)
  simp only [laws_szBanks.f, laws_szBank.f, laws_szIntS.f, w1, Option.bind_some]
  by_cases c1 : 1048576 - (l1.length : Int) < 0
  · refine Or.inl ⟨-1, ?_, by decide⟩
    simp only [c1, ↓reduceIte, Option.bind_some, show ((-1 : Int) < 0) from by decide]
  · have b1 : -9223372036854775808 ≤ 1048576 - (l1.length : Int) - (l2.length : Int) := by clear w1; omega
    have b2 : 1048576 - (l1.length : Int) - (l2.length : Int) ≤ 9223372036854775807 := by clear w1; omega
    have w2 : wrap64 (1048576 - (l1.length : Int) - (l2.length : Int)) = 1048576 - (l1.length : Int) - (l2.length : Int) := wrap_in b1 b2
    simp only [c1, ↓reduceIte, Option.bind_some, w2]
    by_cases c2 : 1048576 - (l1.length : Int) - (l2.length : Int) < 0
    · refine Or.inl ⟨-1, ?_, by decide⟩
      simp only [c2, ↓reduceIte, Option.bind_some, show ((-1 : Int) < 0) from by decide]
    · refine Or.inr ⟨by clear w1 w2; omega, 1048576 - (l1.length : Int) - (l2.length : Int), ?_, c2⟩
      simp only [c2, ↓reduceIte, Option.bind_some]
theorem toBanks_f (a v1 : Int) (l1 : List Int) (s1 v2 : Int) (l2 : List Int) (s2 : Int) (h1 : l1.length ≤ 1048576) (h2 : l2.length ≤ 1048576) (k : Nat) (k1 : l1.length < k) (k2 : l2.length < k) :
    laws_toBanks.f k a v1 l1 s1 v2 l2 s2 = some (a, v1, l1, s1, v2, l2, s2) := by
  simp only [laws_toBanks.f, laws_toBank.f, toIntS_f l1 (by omega) k k1, toIntS_f l2 (by omega) k k2, Option.bind_some]
theorem eqBank_f (v : Int) (l : List Int) (s : Int) (h : l.length ≤ 1048576) (k : Nat) (hk : l.length < k) : laws_eqBank.f k v l s v l s = some true := by
  simp only [laws_eqBank.f, eqIntS_f l (by omega) k hk, Option.bind_some, ↓reduceIte]
theorem eqBanks_f (a v1 : Int) (l1 : List Int) (s1 v2 : Int) (l2 : List Int) (s2 : Int) (h1 : l1.length ≤ 1048576) (h2 : l2.length ≤ 1048576) (k : Nat) (k1 : l1.length < k) (k2 : l2.length < k) :
    laws_eqBanks.f k a v1 l1 s1 v2 l2 s2 a v1 l1 s1 v2 l2 s2 = some true := by
  simp only [laws_eqBanks.f, eqBank_f v1 l1 s1 h1 k k1, eqBank_f v2 l2 s2 h2 k k2, Option.bind_some, ↓reduceIte]
def wordsB (l : List Int) : Bool := decide ((l.length : Int) = 8) && allV l
theorem specWords_f (l : List Int) (h : l.length ≤ 1048576) (k : Nat) (hk : l.length < k) : spec_l35Words.f k l = some (wordsB l) := by
  unfold spec_l35Words.f wordsB
  rw [specValues_f l (by omega) k hk]
  by_cases h8 : (l.length : Int) = 8
  · rw [if_pos h8, decide_eq_true h8]
    rfl
  · rw [if_neg h8, decide_eq_false h8]
    rfl
theorem implWords_f (l : List Int) (h : l.length ≤ 1048576) (k : Nat) (hk : l.length < k) : impl_areBankWords.f k l = some (wordsB l) := by
  unfold impl_areBankWords.f wordsB
  rw [implValues_f l (by omega) k hk]
  by_cases h8 : (l.length : Int) = 8
  · rw [if_pos h8, decide_eq_true h8]
    rfl
  · rw [if_neg h8, decide_eq_false h8]
    rfl
theorem steps_same (a v1 : Int) (l1 : List Int) (s1 v2 : Int) (l2 : List Int) (s2 v : Int) (ws : List Int) (h1 : l1.length ≤ 1048576) (h2 : l2.length ≤ 1048576) (h3 : ws.length ≤ 1048576) (k : Nat) (k1 : l1.length < k) (k2 : l2.length < k) (k3 : ws.length < k) :
    ∃ r, spec_UpdateSteps.f k a v1 l1 s1 v2 l2 s2 v ws = some r ∧ impl_UpdateSteps.f k a v1 l1 s1 v2 l2 s2 v ws = some r := by
  obtain ⟨b, e1, e2, hb⟩ := banks_same a v1 l1 s1 v2 l2 s2 h1 h2 k k1 k2
  unfold spec_UpdateSteps.f impl_UpdateSteps.f
  rw [e1, e2]
  simp only [Option.bind_some]
  cases b with
  | false => exact ⟨(0, false), rfl, rfl⟩
  | true =>
    rw [specWords_f ws h3 k k3, implWords_f ws h3 k k3]
    rcases hb rfl with rfl | rfl
    · simp only [show ¬ ((0 : Int) = 1) from by decide, ↓reduceIte, Option.bind_some, in_f, within_f]
      cases wordsB ws <;> cases inB v (wrap64 (v1 + 1)) 1000 <;> exact ⟨_, rfl, rfl⟩
    · simp only [show ¬ ((1 : Int) = 0) from by decide, ↓reduceIte, Option.bind_some, in_f, within_f]
      cases wordsB ws <;> cases inB v (wrap64 (v2 + 1)) 1000 <;> exact ⟨_, rfl, rfl⟩
theorem ubind {α β : Type} {x : Option α} {f : α → Option β} {a : α} {r : Option β} (h : x = some a) (h2 : f a = r) : x.bind f = r := by rw [h]; exact h2
theorem uelse {α : Type} {c : Prop} [Decidable c] {t e r : α} (hc : ¬ c) (h : e = r) : (if c then t else e) = r := by rw [if_neg hc]; exact h
theorem uthen {α : Type} {c : Prop} [Decidable c] {t e r : α} (hc : c) (h : t = r) : (if c then t else e) = r := by rw [if_pos hc]; exact h
/-- Eight words: the list's own, or zeros. -/
def base8 (l : List Int) : List Int := if l.length = 8 then l else List.replicate 8 0
theorem base8_length (l : List Int) : (base8 l).length = 8 := by
  unfold base8
  split
  · assumption
  · exact List.length_replicate
/-- The first n words written over. -/
def putW (ws l : List Int) : Nat → List Int
  | 0 => l
  | n + 1 => (putW ws l n).set n (ws.getD n 0)
theorem putW_length (ws l : List Int) (n : Nat) : (putW ws l n).length = l.length := by
  induction n with
  | zero => rfl
  | succ n ih =>
    show ((putW ws l n).set n _).length = _
    rw [List.length_set]
    exact ih
def stA (a n : Int) (i : Nat) : Int := if i ≥ 11 then n else a
def stV (v ver : Int) (i : Nat) : Int := if i ≥ 10 then ver else if i ≥ 1 then 0 else v
def stL (l ws : List Int) (i : Nat) : List Int := if i ≥ 2 then putW ws (base8 l) (min (i - 1) 8) else l
def stS (s sum : Int) (i : Nat) : Int := if i ≥ 10 then sum else s
theorem stL_length (l ws : List Int) (i : Nat) : (stL l ws i).length ≤ l.length + 8 := by
  unfold stL
  split
  · rw [putW_length, base8_length]
    omega
  · omega
theorem stL_mid (l ws : List Int) (i : Nat) (h2 : 2 ≤ i) (h8 : i ≤ 9) : stL l ws i = putW ws (base8 l) (i - 1) := by
  unfold stL
  rw [if_pos h2, show min (i - 1) 8 = i - 1 from by omega]
theorem stL_end (l ws : List Int) (i : Nat) (h : 9 ≤ i) : stL l ws i = putW ws (base8 l) 8 := by
  unfold stL
  rw [if_pos (by omega), show min (i - 1) 8 = 8 from by omega]
/-- A step of the update, on the bank that is written. -/
theorem upd_step (L : Nat → Int → Int → Int → List Int → Int → Option (Int × Int × List Int × Int × Int × List Int × Int × Bool)) (ver : Int) (ws : List Int) (n : Int) (m M : Nat) (a v : Int) (l : List Int) (s sum : Int) (hw : ws.length = 8) (hm : m ≤ 11) (hM : 20 ≤ M)
    (hsum : ∀ k, 8 < k → impl_bankSum.f k ver ws = some sum)
    (hL : ∀ k (i : Int) a v l s, L (k + 1) i a v l s = if i < (m : Int) then (if i = 0 then L k (wrap64 (i + 1)) a 0 l s else (if i ≤ 8 then (if i = 1 then (if (l.length : Int) = 8 then (if 0 ≤ (wrap64 (i - 1)) then (if (wrap64 (i - 1)) < (ws.length : Int) then (if (wrap64 (i - 1)) < (l.length : Int) then L k (wrap64 (i + 1)) a v (l.set ((wrap64 (i - 1)) : Int).toNat (rd ws (wrap64 (i - 1)))) s else none) else none) else none) else (if 8 ≤ 35184372088832 then ((some (List.replicate 8 0 : List Int)).bind fun y => (if 0 ≤ (wrap64 (i - 1)) then (if (wrap64 (i - 1)) < (ws.length : Int) then (if (wrap64 (i - 1)) < (y.length : Int) then L k (wrap64 (i + 1)) a v (y.set ((wrap64 (i - 1)) : Int).toNat (rd ws (wrap64 (i - 1)))) s else none) else none) else none)) else none)) else (if 0 ≤ (wrap64 (i - 1)) then (if (wrap64 (i - 1)) < (ws.length : Int) then (if (wrap64 (i - 1)) < (l.length : Int) then L k (wrap64 (i + 1)) a v (l.set ((wrap64 (i - 1)) : Int).toNat (rd ws (wrap64 (i - 1)))) s else none) else none) else none)) else (if i = 9 then ((impl_bankSum.f k ver ws).bind fun t => L k (wrap64 (i + 1)) a ver l t) else L k (wrap64 (i + 1)) n v l s))) else L (k + 1) i a v l s)
    (k i : Nat) (hi : i < m) :
    L (k + M + 1) (i : Int) (stA a n i) (stV v ver i) (stL l ws i) (stS s sum i) = L (k + M) ((i + 1 : Nat) : Int) (stA a n (i + 1)) (stV v ver (i + 1)) (stL l ws (i + 1)) (stS s sum (i + 1)) := by
  have hi11 : i < 11 := by omega
  have w1 : wrap64 ((i : Int) + 1) = ((i + 1 : Nat) : Int) := wrap_next hi11 (by decide)
  have c0 : (i : Int) < (m : Int) := by clear w1; omega
  rw [hL (k + M)]
  refine uthen c0 ?_
  rw [w1]
  clear c0
  by_cases h0 : i = 0
  · subst h0
    exact uthen rfl rfl
  have n0 : ¬ (i : Int) = 0 := by clear w1; omega
  refine uelse n0 ?_
  by_cases h8 : i ≤ 8
  · have c8 : (i : Int) ≤ 8 := by clear w1; omega
    refine uthen c8 ?_
    have w2 : wrap64 ((i : Int) - 1) = ((i - 1 : Nat) : Int) := by
      clear w1
      have x1 : -9223372036854775808 ≤ (i : Int) - 1 := by omega
      have x2 : (i : Int) - 1 ≤ 9223372036854775807 := by omega
      rw [wrap_in x1 x2]
      omega
    have d1 : 0 ≤ ((i - 1 : Nat) : Int) := by clear w1 w2; omega
    have d2 : ((i - 1 : Nat) : Int) < (ws.length : Int) := by clear w1 w2; omega
    have er : rd ws ((i - 1 : Nat) : Int) = ws.getD (i - 1) 0 := rfl
    have eA : stA a n (i + 1) = stA a n i := by
      unfold stA
      rw [if_neg (by clear w1 w2; omega), if_neg (by clear w1 w2; omega)]
    have eV : stV v ver (i + 1) = stV v ver i := by
      unfold stV
      rw [if_neg (by clear w1 w2; omega), if_pos (by clear w1 w2; omega), if_neg (by clear w1 w2; omega), if_pos (by clear w1 w2; omega)]
    have eS : stS s sum (i + 1) = stS s sum i := by
      unfold stS
      rw [if_neg (by clear w1 w2; omega), if_neg (by clear w1 w2; omega)]
    have eL : stL l ws (i + 1) = (putW ws (base8 l) (i - 1)).set (i - 1) (ws.getD (i - 1) 0) := by
      rw [stL_mid _ _ _ (by clear w1 w2; omega) (by clear w1 w2; omega)]
      obtain ⟨j, rfl⟩ : ∃ j, i = j + 1 := ⟨i - 1, by clear w1 w2; omega⟩
      rfl
    rw [eA, eV, eS, eL, w2, er, Int.toNat_natCast]
    by_cases h1 : i = 1
    · subst h1
      refine uthen rfl ?_
      by_cases hl : l.length = 8
      · have hb : base8 l = l := by unfold base8; rw [if_pos hl]
        have d3 : ((1 - 1 : Nat) : Int) < ((stL l ws 1).length : Int) := by
          show ((0 : Nat) : Int) < (l.length : Int)
          clear w1 w2
          omega
        refine uthen (show ((stL l ws 1).length : Int) = 8 from by show (l.length : Int) = 8; clear w1 w2; omega) (uthen d1 (uthen d2 (uthen d3 ?_)))
        rw [hb]
        rfl
      · have hb : base8 l = List.replicate 8 0 := by unfold base8; rw [if_neg hl]
        refine uelse (show ¬ ((stL l ws 1).length : Int) = 8 from by show ¬ (l.length : Int) = 8; clear w1 w2; omega) (uthen (by decide) (ubind rfl (uthen d1 (uthen d2 (uthen (by rw [List.length_replicate]; decide) ?_)))))
        rw [hb]
        rfl
    · have n1 : ¬ (i : Int) = 1 := by clear w1 w2; omega
      have hp : stL l ws i = putW ws (base8 l) (i - 1) := stL_mid _ _ _ (by clear w1 w2; omega) (by clear w1 w2; omega)
      have d3 : ((i - 1 : Nat) : Int) < ((putW ws (base8 l) (i - 1)).length : Int) := by
        rw [putW_length, base8_length]
        clear w1 w2
        omega
      rw [hp]
      exact uelse n1 (uthen d1 (uthen d2 (uthen d3 rfl)))
  · have n8 : ¬ (i : Int) ≤ 8 := by clear w1; omega
    refine uelse n8 ?_
    have eL : stL l ws (i + 1) = stL l ws i := by
      rw [stL_end _ _ _ (by clear w1; omega), stL_end _ _ _ (by clear w1; omega)]
    rw [eL]
    by_cases h9 : i = 9
    · subst h9
      exact uthen rfl (ubind (hsum _ (by clear w1; omega)) rfl)
    · have n9 : ¬ (i : Int) = 9 := by clear w1; omega
      obtain rfl : i = 10 := by clear w1; omega
      exact uelse n9 rfl
/-- The reference's steps. -/
theorem specWrite_f (v : Int) (l : List Int) (s ver : Int) (ws : List Int) (c : Int) (sum : Int) (hw : ws.length = 8) (hc0 : 0 ≤ c) (hsum : ∀ k, 8 < k → spec_l35Sum.f k ver ws = some sum) (k : Nat) (hk : 40 < k) :
    spec_l35Write.f k v l s ver ws c = some (stV v ver (min c 11).toNat, stL l ws (min c 11).toNat, stS s sum (min c 11).toNat) := by
  obtain ⟨m, hm⟩ : ∃ m : Nat, (min c 11).toNat = m := ⟨_, rfl⟩
  have hm11 : m ≤ 11 := by omega
  rw [hm]
  have k1 : 40 < k := hk
  -- the loop over the words
  have loop : ∀ (d i k : Nat) (v' : Int) (g : List Int) (t : Int), 8 - i = d → i ≤ 8 → d + 9 < k → g.length = 8 → (2 ≤ c ∨ i = 0) → (i = 0 ∨ (i : Int) + 1 ≤ c) →
      spec_l35Write.l0 k ver ws c (i : Int) v' (putW ws g i) t = (if c ≥ 10 then some (ver, putW ws g 8, sum) else some (v', putW ws g (max i (min (c - 1).toNat 8)), t)) ∨ c < 2 := by
    intro d
    induction d with
    | zero =>
      intro i k v' g t h1 h2 h3 h4 h5 h6
      obtain ⟨q, rfl⟩ : ∃ q, k = q + 1 := ⟨k - 1, by omega⟩
      obtain rfl : i = 8 := by omega
      left
      have hs := hsum q (by omega)
      simp only [spec_l35Write.l0]
      rw [if_neg (show ¬ ((8 : Nat) : Int) < 8 from by decide)]
      by_cases hc : c ≥ 10
      · rw [if_pos hc, if_pos hc, hs]
        rfl
      · rw [if_neg hc, if_neg hc, show max 8 (min (c - 1).toNat 8) = 8 from by omega]
    | succ d ih =>
      intro i k v' g t h1 h2 h3 h4 h5 h6
      by_cases hc2 : c < 2
      · exact Or.inr hc2
      left
      obtain ⟨q, rfl⟩ : ∃ q, k = q + 1 := ⟨k - 1, by omega⟩
      have hs := hsum q (by omega)
      have c1 : (i : Int) < 8 := by omega
      have hi8 : i < 8 := by omega
      have x1 : -9223372036854775808 ≤ (i : Int) + 2 := by omega
      have x2 : (i : Int) + 2 ≤ 9223372036854775807 := by omega
      have d1 : 0 ≤ (i : Int) := by omega
      have d2 : (i : Int) < (ws.length : Int) := by omega
      have d3 : (i : Int) < ((putW ws g i).length : Int) := by rw [putW_length]; omega
      by_cases hin : (i : Int) + 2 ≤ c
      · have r := ih (i + 1) q v' g t (by omega) (by omega) (by omega) h4 (Or.inl (by omega)) (Or.inr (by omega))
        have r' := r.resolve_right hc2
        have hmax : ¬ c ≥ 10 → max i (min (c - 1).toNat 8) = max (i + 1) (min (c - 1).toNat 8) := fun _ => by omega
        have w1 : wrap64 ((i : Int) + 1) = ((i + 1 : Nat) : Int) := wrap_next hi8 (by decide)
        have w2 : wrap64 ((i : Int) + 2) = (i : Int) + 2 := wrap_in x1 x2
        simp only [spec_l35Write.l0]
        rw [if_pos c1, w2, if_pos hin, if_pos d1, if_pos d2, if_pos d3, w1, Int.toNat_natCast]
        show spec_l35Write.l0 q ver ws c ((i + 1 : Nat) : Int) v' (putW ws g (i + 1)) t = _
        rw [r']
        by_cases hc : c ≥ 10
        · rw [if_pos hc, if_pos hc]
        · rw [if_neg hc, if_neg hc, hmax hc]
      · have hc : ¬ c ≥ 10 := by omega
        have hmax : max i (min (c - 1).toNat 8) = i := by omega
        have w2 : wrap64 ((i : Int) + 2) = (i : Int) + 2 := wrap_in x1 x2
        simp only [spec_l35Write.l0]
        rw [if_pos c1, w2, if_neg hin, if_neg hc, if_neg hc, hmax]
  -- with one step at most nothing is written
  have short : ∀ (k : Nat) (v' : Int) (g : List Int) (t : Int), 10 < k → c < 2 → spec_l35Write.l0 k ver ws c 0 v' g t = some (v', g, t) := by
    intro k v' g t hk hc
    obtain ⟨q, rfl⟩ : ∃ q, k = q + 1 := ⟨k - 1, by omega⟩
    have hw2 : wrap64 ((0 : Int) + 2) = 2 := wrap_in (x := (0 : Int) + 2) (by decide) (by decide)
    simp only [spec_l35Write.l0]
    rw [if_pos (show (0 : Int) < 8 from by decide), hw2, if_neg (by omega), if_neg (by omega)]
  have tail : ∀ (k : Nat) (v' : Int), 30 < k → spec_l35Write.j0 k ver ws c v' l s = some (if c ≥ 10 then ver else v', stL l ws m, stS s sum m) := by
    intro k v' hk
    obtain ⟨q, rfl⟩ : ∃ q, k = q + 1 + 1 + 1 := ⟨k - 3, by omega⟩
    by_cases hc2 : c ≥ 2
    · have hn : ¬ c < 2 := by omega
      have key : spec_l35Write.l0 q ver ws c 0 v' (base8 l) s = some (if c ≥ 10 then ver else v', stL l ws m, stS s sum m) := by
        have r := (loop 8 0 q v' (base8 l) s rfl (by omega) (by omega) (base8_length l) (Or.inr rfl) (Or.inl rfl)).resolve_right hn
        have r' : spec_l35Write.l0 q ver ws c 0 v' (base8 l) s = _ := r
        rw [r']
        by_cases hc : c ≥ 10
        · rw [if_pos hc, if_pos hc, stL_end _ _ _ (by omega)]
          unfold stS
          rw [if_pos (by omega)]
        · rw [if_neg hc, if_neg hc, stL_mid _ _ _ (by omega) (by omega), show max 0 (min (c - 1).toNat 8) = m - 1 from by omega]
          unfold stS
          rw [if_neg (by omega)]
      simp only [spec_l35Write.j0]
      rw [if_pos hc2]
      simp only [spec_l35Write.j1, spec_l35Write.j2]
      by_cases hl : l.length = 8
      · have hb : base8 l = l := by unfold base8; rw [if_pos hl]
        rw [hb] at key
        rw [if_neg (by rw [bne_iff_ne]; intro h; exact h (by omega))]
        exact key
      · have hb : base8 l = List.replicate 8 0 := by unfold base8; rw [if_neg hl]
        rw [hb] at key
        rw [if_pos (by rw [bne_iff_ne]; omega), if_pos (by decide)]
        exact key
    · have hn : c < 2 := by omega
      simp only [spec_l35Write.j0]
      rw [if_neg hc2]
      simp only [spec_l35Write.j1, spec_l35Write.j2, Bool.false_eq_true, ↓reduceIte]
      rw [short q v' l s (by omega) hn, if_neg (by omega)]
      unfold stL stS
      rw [if_neg (by omega), if_neg (by omega)]
  unfold spec_l35Write.f
  by_cases hc1 : c ≥ 1
  · rw [if_pos hc1, tail k 0 (by omega)]
    unfold stV
    by_cases hc : c ≥ 10
    · rw [if_pos hc, if_pos (by omega)]
    · rw [if_neg hc, if_neg (by omega), if_pos (by omega)]
  · rw [if_neg hc1, tail k v (by omega), if_neg (by omega)]
    unfold stV
    rw [if_neg (by omega), if_neg (by omega)]
theorem banks_all (a v1 : Int) (l1 : List Int) (s1 v2 : Int) (l2 : List Int) (s2 : Int) (h1 : l1.length ≤ 1048576) (h2 : l2.length ≤ 1048576) :
    ∃ b, (∀ k, l1.length < k → l2.length < k → spec_BanksOk.f k a v1 l1 s1 v2 l2 s2 = some b ∧ impl_BanksOk.f k a v1 l1 s1 v2 l2 s2 = some b) ∧ (b = true → a = 0 ∨ a = 1) := by
  have hm : ∀ k, l1.length < k → l2.length < k → ∃ b, spec_BanksOk.f k a v1 l1 s1 v2 l2 s2 = some b ∧ impl_BanksOk.f k a v1 l1 s1 v2 l2 s2 = some b ∧ (b = true → a = 0 ∨ a = 1) := fun k k1 k2 => banks_same a v1 l1 s1 v2 l2 s2 h1 h2 k k1 k2
  obtain ⟨b0, e0, _, hb0⟩ := hm (l1.length + l2.length + 1) (by omega) (by omega)
  refine ⟨b0, fun k k1 k2 => ?_, hb0⟩
  obtain ⟨b, e, e', _⟩ := hm k k1 k2
  have hb : b = b0 := by
    rcases Nat.le_total k (l1.length + l2.length + 1) with h | h
    · have := at_rounds (g := fun k => spec_BanksOk.f k a v1 l1 s1 v2 l2 s2) (fun k => spec_BanksOk.mono a v1 l1 s1 v2 l2 s2 k) h e
      rw [e0] at this
      exact (Option.some.inj this).symm
    · have := at_rounds (g := fun k => spec_BanksOk.f k a v1 l1 s1 v2 l2 s2) (fun k => spec_BanksOk.mono a v1 l1 s1 v2 l2 s2 k) h e0
      rw [e] at this
      exact Option.some.inj this
  exact ⟨hb ▸ e, hb ▸ e'⟩
theorem steps_all (a v1 : Int) (l1 : List Int) (s1 v2 : Int) (l2 : List Int) (s2 v : Int) (ws : List Int) (h1 : l1.length ≤ 1048576) (h2 : l2.length ≤ 1048576) (h3 : ws.length ≤ 1048576) :
    ∃ b : Bool, (∀ k, l1.length + l2.length + ws.length < k → spec_UpdateSteps.f k a v1 l1 s1 v2 l2 s2 v ws = some (if b = true then 11 else 0, b) ∧ impl_UpdateSteps.f k a v1 l1 s1 v2 l2 s2 v ws = some (if b = true then 11 else 0, b)) ∧ (b = true → ws.length = 8 ∧ (a = 0 ∨ a = 1)) := by
  obtain ⟨b, hb, ha⟩ := banks_all a v1 l1 s1 v2 l2 s2 h1 h2
  cases b with
  | false =>
    refine ⟨false, fun k hk => ?_, fun h => absurd h (by decide)⟩
    obtain ⟨e1, e2⟩ := hb k (by omega) (by omega)
    unfold spec_UpdateSteps.f impl_UpdateSteps.f
    rw [e1, e2]
    exact ⟨rfl, rfl⟩
  | true =>
    have hlen : wordsB ws = true → ws.length = 8 := by
      intro h
      unfold wordsB at h
      rw [Bool.and_eq_true, decide_eq_true_eq] at h
      omega
    rcases ha rfl with rfl | rfl
    · refine ⟨wordsB ws && inB v (wrap64 (v1 + 1)) 1000, fun k hk => ?_, fun h => ⟨hlen (by rw [Bool.and_eq_true] at h; exact h.1), Or.inl rfl⟩⟩
      obtain ⟨e1, e2⟩ := hb k (by omega) (by omega)
      unfold spec_UpdateSteps.f impl_UpdateSteps.f
      rw [e1, e2, specWords_f ws h3 k (by omega), implWords_f ws h3 k (by omega)]
      simp only [show ¬ ((0 : Int) = 1) from by decide, ↓reduceIte, Option.bind_some, in_f, within_f]
      cases wordsB ws <;> cases inB v (wrap64 (v1 + 1)) 1000 <;> exact ⟨rfl, rfl⟩
    · refine ⟨wordsB ws && inB v (wrap64 (v2 + 1)) 1000, fun k hk => ?_, fun h => ⟨hlen (by rw [Bool.and_eq_true] at h; exact h.1), Or.inr rfl⟩⟩
      obtain ⟨e1, e2⟩ := hb k (by omega) (by omega)
      unfold spec_UpdateSteps.f impl_UpdateSteps.f
      rw [e1, e2, specWords_f ws h3 k (by omega), implWords_f ws h3 k (by omega)]
      simp only [show ¬ ((1 : Int) = 0) from by decide, ↓reduceIte, Option.bind_some, in_f, within_f]
      cases wordsB ws <;> cases inB v (wrap64 (v2 + 1)) 1000 <;> exact ⟨rfl, rfl⟩
theorem ucopy_f (v : Int) (l : List Int) (s : Int) (h : l.length ≤ 1048576) : spec_l35Copy.f v l s = some (v, l, s) := by
  unfold spec_l35Copy.f
  simp only [Option.bind_some, List.nil_append, List.length_nil]
  rw [if_pos (by omega)]
theorem both_f (a v1 : Int) (l1 : List Int) (s1 v2 : Int) (l2 : List Int) (s2 : Int) (h1 : l1.length ≤ 1048576) (h2 : l2.length ≤ 1048576) : spec_l35Both.f a v1 l1 s1 v2 l2 s2 = some (a, v1, l1, s1, v2, l2, s2) := by
  unfold spec_l35Both.f
  exact ubind (ucopy_f v1 l1 s1 h1) (ubind (ucopy_f v2 l2 s2 h2) rfl)
theorem copies_f (a v1 : Int) (l1 : List Int) (s1 v2 : Int) (l2 : List Int) (s2 : Int) (h1 : l1.length ≤ 1048576) (h2 : l2.length ≤ 1048576) : impl_copyBanks.f a v1 l1 s1 v2 l2 s2 = some (a, v1, l1, s1, v2, l2, s2) := by
  unfold impl_copyBanks.f
  exact ubind (clone_f l1 (by omega)) (ubind (clone_f l2 (by omega)) rfl)
theorem impl_loopA (ver : Int) (ws : List Int) (n : Int) (m : Nat) (a v : Int) (l : List Int) (s sum v2 : Int) (l2 : List Int) (s2 : Int) (hw : ws.length = 8) (hm : m ≤ 11) (hsum : ∀ k, 8 < k → impl_bankSum.f k ver ws = some sum) (k : Nat) (hk : 40 < k) :
    impl_UpdateSome.l0 k ver ws n (m : Int) 0 a v l s v2 l2 s2 = some (stA a n m, stV v ver m, stL l ws m, stS s sum m, v2, l2, s2, true) := by
  obtain ⟨q, rfl⟩ : ∃ q, k = q + 20 := ⟨k - 20, by omega⟩
  refine loop_up m (fun k (z : Int × Int × Int × List Int × Int) => impl_UpdateSome.l0 (k + 20) ver ws n (m : Int) z.1 z.2.1 z.2.2.1 z.2.2.2.1 z.2.2.2.2 v2 l2 s2) (fun i => ((i : Int), stA a n i, stV v ver i, stL l ws i, stS s sum i)) _ (fun k i hi => ?_) (fun k => ?_) q (by omega)
  · rw [show k + 1 + 20 = k + 20 + 1 from by omega]
    exact upd_step (fun k i a v l s => impl_UpdateSome.l0 k ver ws n (m : Int) i a v l s v2 l2 s2) ver ws n m 20 a v l s sum hw hm (by omega) hsum (fun k i a v l s => by
      by_cases h : i < (m : Int)
      · rw [if_pos h]
        simp only [impl_UpdateSome.l0]
        rw [if_pos h]
      · rw [if_neg h]) k i hi
  · rw [show k + 1 + 20 = k + 20 + 1 from by omega]
    generalize k + 20 = z
    dsimp only
    simp only [impl_UpdateSome.l0]
    rw [if_neg (Int.lt_irrefl _)]
theorem impl_loopB (ver : Int) (ws : List Int) (n : Int) (m : Nat) (a v : Int) (l : List Int) (s sum v1 : Int) (l1 : List Int) (s1 : Int) (hw : ws.length = 8) (hm : m ≤ 11) (hsum : ∀ k, 8 < k → impl_bankSum.f k ver ws = some sum) (k : Nat) (hk : 40 < k) :
    impl_UpdateSome.l100 k ver ws n (m : Int) 0 a v1 l1 s1 v l s = some (stA a n m, v1, l1, s1, stV v ver m, stL l ws m, stS s sum m, true) := by
  obtain ⟨q, rfl⟩ : ∃ q, k = q + 20 := ⟨k - 20, by omega⟩
  refine loop_up m (fun k (z : Int × Int × Int × List Int × Int) => impl_UpdateSome.l100 (k + 20) ver ws n (m : Int) z.1 z.2.1 v1 l1 s1 z.2.2.1 z.2.2.2.1 z.2.2.2.2) (fun i => ((i : Int), stA a n i, stV v ver i, stL l ws i, stS s sum i)) _ (fun k i hi => ?_) (fun k => ?_) q (by omega)
  · rw [show k + 1 + 20 = k + 20 + 1 from by omega]
    exact upd_step (fun k i a v l s => impl_UpdateSome.l100 k ver ws n (m : Int) i a v1 l1 s1 v l s) ver ws n m 20 a v l s sum hw hm (by omega) hsum (fun k i a v l s => by
      by_cases h : i < (m : Int)
      · rw [if_pos h]
        simp only [impl_UpdateSome.l100]
        rw [if_pos h]
      · rw [if_neg h]) k i hi
  · rw [show k + 1 + 20 = k + 20 + 1 from by omega]
    generalize k + 20 = z
    dsimp only
    simp only [impl_UpdateSome.l100]
    rw [if_neg (Int.lt_irrefl _)]
theorem mn_min (c : Int) (h : 0 ≤ c) : mn c 11 = (((min c 11).toNat : Nat) : Int) := by
  unfold mn
  split <;> omega
/-- Both answer alike. -/
theorem update_all (a v1 : Int) (l1 : List Int) (s1 v2 : Int) (l2 : List Int) (s2 ver : Int) (ws : List Int) (c : Int) (h1 : l1.length ≤ 1048576) (h2 : l2.length ≤ 1048576) (h3 : ws.length ≤ 1048576) :
    ∃ (A V1 : Int) (L1 : List Int) (S1 V2 : Int) (L2 : List Int) (S2 : Int) (b : Bool), (∀ k, l1.length + l2.length + ws.length + 100 < k → spec_UpdateSome.f k a v1 l1 s1 v2 l2 s2 ver ws c = some (A, V1, L1, S1, V2, L2, S2, b) ∧ impl_UpdateSome.f k a v1 l1 s1 v2 l2 s2 ver ws c = some (A, V1, L1, S1, V2, L2, S2, b)) ∧ L1.length ≤ l1.length + 8 ∧ L2.length ≤ l2.length + 8 := by
  obtain ⟨b, hb, hws⟩ := steps_all a v1 l1 s1 v2 l2 s2 ver ws h1 h2 h3
  have hfail : (b = false ∨ c < 0) → ∀ k, l1.length + l2.length + ws.length + 100 < k → spec_UpdateSome.f k a v1 l1 s1 v2 l2 s2 ver ws c = some (a, v1, l1, s1, v2, l2, s2, false) ∧ impl_UpdateSome.f k a v1 l1 s1 v2 l2 s2 ver ws c = some (a, v1, l1, s1, v2, l2, s2, false) := by
    intro hf k hk
    obtain ⟨q, rfl⟩ : ∃ q, k = q + 1 := ⟨k - 1, by omega⟩
    obtain ⟨e1, e2⟩ := hb (q + 1) (by omega)
    unfold spec_UpdateSome.f impl_UpdateSome.f
    rw [both_f a v1 l1 s1 v2 l2 s2 h1 h2, copies_f a v1 l1 s1 v2 l2 s2 h1 h2, e1, e2]
    simp only [Option.bind_some]
    cases b with
    | false => exact ⟨by simp only [Bool.false_eq_true, ↓reduceIte, spec_UpdateSome.j0], by simp only [Bool.false_eq_true, ↓reduceIte, impl_UpdateSome.j0]⟩
    | true =>
      have hc : c < 0 := hf.resolve_left (by decide)
      exact ⟨by simp only [↓reduceIte, spec_UpdateSome.j0, decide_eq_true hc], by simp only [↓reduceIte, impl_UpdateSome.j0, decide_eq_true hc]⟩
  by_cases hf : b = false ∨ c < 0
  · exact ⟨a, v1, l1, s1, v2, l2, s2, false, hfail hf, by omega, by omega⟩
  obtain rfl : b = true := by
    cases b with
    | false => exact absurd (Or.inl rfl) hf
    | true => rfl
  have hc : ¬ c < 0 := fun h => hf (Or.inr h)
  obtain ⟨hw8, ha⟩ := hws rfl
  have hs1 : ∀ k, 8 < k → spec_l35Sum.f k ver ws = some (mod65 (sumW ver ws ws.length)) := fun k hk => specSum_f ver ws (by omega) k (by omega)
  have hs2 : ∀ k, 8 < k → impl_bankSum.f k ver ws = some (mod65 (sumW ver ws ws.length)) := fun k hk => implSum_f ver ws (by omega) k (by omega)
  generalize mod65 (sumW ver ws ws.length) = sum at hs1 hs2
  obtain ⟨m, hm⟩ : ∃ m, m = (min c 11).toNat := ⟨_, rfl⟩
  have hm11 : m ≤ 11 := by omega
  have hmn := mn_min c (by omega)
  rw [← hm] at hmn
  have hl1 := stL_length l1 ws m
  have hl2 := stL_length l2 ws m
  have hge : (m ≥ 11) = (c ≥ 11) := propext ⟨fun h => by omega, fun h => by omega⟩
  rcases ha with rfl | rfl
  · refine ⟨stA 0 1 m, v1, l1, s1, stV v2 ver m, stL l2 ws m, stS s2 sum m, true, fun k hk => ?_, by omega, hl2⟩
    obtain ⟨q, rfl⟩ : ∃ q, k = q + 1 := ⟨k - 1, by omega⟩
    obtain ⟨e1, e2⟩ := hb (q + 1) (by omega)
    have ew := specWrite_f v2 l2 s2 ver ws c sum hw8 (by omega) hs1 q (by omega)
    rw [← hm] at ew
    have ei := impl_loopB ver ws 1 m 0 v2 l2 s2 sum v1 l1 s1 hw8 hm11 hs2 q (by omega)
    have w1 : wrap64 ((1 : Int) - 0) = 1 := wrap_in (x := (1 : Int) - 0) (by decide) (by decide)
    unfold spec_UpdateSome.f impl_UpdateSome.f
    rw [both_f 0 v1 l1 s1 v2 l2 s2 h1 h2, copies_f 0 v1 l1 s1 v2 l2 s2 h1 h2, e1, e2]
    simp only [Option.bind_some, ↓reduceIte, spec_UpdateSome.j0, impl_UpdateSome.j0, decide_eq_false hc, Bool.false_eq_true, w1, show ¬ ((1 : Int) = 0) from by decide, hmn]
    rw [ew, ei]
    simp only [Option.bind_some]
    refine ⟨?_, trivial⟩
    unfold stA
    simp only [hge]
    split <;> rfl
  · refine ⟨stA 1 0 m, stV v1 ver m, stL l1 ws m, stS s1 sum m, v2, l2, s2, true, fun k hk => ?_, hl1, by omega⟩
    obtain ⟨q, rfl⟩ : ∃ q, k = q + 1 := ⟨k - 1, by omega⟩
    obtain ⟨e1, e2⟩ := hb (q + 1) (by omega)
    have ew := specWrite_f v1 l1 s1 ver ws c sum hw8 (by omega) hs1 q (by omega)
    rw [← hm] at ew
    have ei := impl_loopA ver ws 0 m 1 v1 l1 s1 sum v2 l2 s2 hw8 hm11 hs2 q (by omega)
    have w1 : wrap64 ((1 : Int) - 1) = 0 := wrap_in (x := (1 : Int) - 1) (by decide) (by decide)
    unfold spec_UpdateSome.f impl_UpdateSome.f
    rw [both_f 1 v1 l1 s1 v2 l2 s2 h1 h2, copies_f 1 v1 l1 s1 v2 l2 s2 h1 h2, e1, e2]
    simp only [Option.bind_some, ↓reduceIte, spec_UpdateSome.j0, impl_UpdateSome.j0, decide_eq_false hc, Bool.false_eq_true, w1, show ¬ ((1 : Int) = 0) from by decide, hmn]
    rw [ew, ei]
    simp only [Option.bind_some]
    refine ⟨?_, trivial⟩
    unfold stA
    simp only [hge]
    split <;> rfl
theorem eqBanks_g (a v1 : Int) (l1 : List Int) (s1 v2 : Int) (l2 : List Int) (s2 : Int) (h1 : l1.length ≤ 1048600) (h2 : l2.length ≤ 1048600) (k : Nat) (k1 : l1.length < k) (k2 : l2.length < k) :
    laws_eqBanks.f k a v1 l1 s1 v2 l2 s2 a v1 l1 s1 v2 l2 s2 = some true := by
  unfold laws_eqBanks.f laws_eqBank.f
  exact uthen rfl (ubind (uthen rfl (ubind (eqIntS_f l1 (by omega) k k1) (uthen rfl (uthen rfl rfl)))) (uthen rfl (ubind (uthen rfl (ubind (eqIntS_f l2 (by omega) k k2) (uthen rfl (uthen rfl rfl)))) (uthen rfl rfl))))
theorem FnExactUpdateSome : laws_FnExactUpdateSome.Pure := by
  intro a v1 l1 s1 v2 l2 s2 ver ws c hG _ hW _
  have h1 : l1.length ≤ 9223372036854775807 := hG.2.1.2.1.1
  have h2 : l2.length ≤ 9223372036854775807 := hG.2.2.2.1.1
  refine ⟨l1.length + l2.length + ws.length + 130 + 1 + 1 + 1, ?_⟩
  unfold laws_FnExactUpdateSome.f
  by_cases hws : (ws.length : Int) > 1048576
  · exact uthen hws rfl
  refine uelse hws ?_
  rcases szBanks_f a v1 l1 s1 v2 l2 s2 h1 h2 with ⟨r, e, hr⟩ | ⟨hs, r, e, hr⟩
  · exact ubind e (uthen hr rfl)
  refine ubind e (uelse hr ?_)
  obtain ⟨q, hq⟩ : ∃ q, q = l1.length + l2.length + ws.length + 130 := ⟨_, rfl⟩
  rw [← hq]
  have a1 := fun k (hk : l1.length + l2.length + ws.length + 120 < k) => toBanks_f a v1 l1 s1 v2 l2 s2 (by omega) (by omega) k (by omega) (by omega)
  have a2 := fun k (hk : l1.length + l2.length + ws.length + 120 < k) => eqBanks_f a v1 l1 s1 v2 l2 s2 (by omega) (by omega) k (by omega) (by omega)
  have a3 := fun k (hk : l1.length + l2.length + ws.length + 120 < k) => toIntS_f ws (by omega) k (by omega)
  have a4 := fun k (hk : l1.length + l2.length + ws.length + 120 < k) => eqIntS_f ws (by omega) k (by omega)
  obtain ⟨A, V1, L1, S1, V2, L2, S2, b, hsame, hL1, hL2⟩ := update_all a v1 l1 s1 v2 l2 s2 ver ws c (by omega) (by omega) (by omega)
  have b1 := fun k (hk : l1.length + l2.length + ws.length + 120 < k) => (hsame k (by omega)).1
  have b2 := fun k (hk : l1.length + l2.length + ws.length + 120 < k) => (hsame k (by omega)).2
  have b3 := fun k (hk : l1.length + l2.length + ws.length + 120 < k) => eqBanks_g A V1 L1 S1 V2 L2 S2 (by omega) (by omega) k (by omega) (by omega)
  have m1 := fun k (hk : l1.length + l2.length + ws.length + 120 < k) => markIntS_g l1 1 k (by omega) (by omega) (by omega) (by omega)
  have m2 := fun k (hk : l1.length + l2.length + ws.length + 120 < k) => markIntS_g l2 (1 + (l1.length : Int)) k (by omega) (by omega) (by omega) (by omega)
  have m3 := fun k (hk : l1.length + l2.length + ws.length + 120 < k) => markIntS_g ws (1 + (l1.length : Int) + (l2.length : Int)) k (by omega) (by omega) (by omega) (by omega)
  have m4 := fun k (hk : l1.length + l2.length + ws.length + 120 < k) => markIntS_g L1 1 k (by omega) (by omega) (by omega) (by omega)
  have m5 := fun k (hk : l1.length + l2.length + ws.length + 120 < k) => markIntS_g L2 (1 + (L1.length : Int)) k (by omega) (by omega) (by omega) (by omega)
  have m6 := fun k (hk : l1.length + l2.length + ws.length + 120 < k) => heldIntS_g L1.length 1 k (by omega) (by omega) (by omega) (by omega)
  have m7 := fun k (hk : l1.length + l2.length + ws.length + 120 < k) => heldIntS_g L2.length (1 + (L1.length : Int)) k (by omega) (by omega) (by omega) (by omega)
  have n1 : ¬ (1 + (l1.length : Int) + (l2.length : Int) + (ws.length : Int)) < 0 := by omega
  have n2 : ¬ (1 + (L1.length : Int)) < 0 := by omega
  have n3 : ¬ (1 + (L1.length : Int) + (L2.length : Int)) < 0 := by omega
  have q0 : l1.length + l2.length + ws.length + 120 < q := by omega
  have q1 : l1.length + l2.length + ws.length + 120 < q + 1 := by omega
  have q2 : l1.length + l2.length + ws.length + 120 < q + 1 + 1 := by omega
  have q3 : l1.length + l2.length + ws.length + 120 < q + 1 + 1 + 1 := by omega
  clear hq hs hsame hL1 hL2 hws hr e
  have held : ∀ k, l1.length + l2.length + ws.length + 120 < k → laws_heldBanks.f k A V1 ((List.range L1.length).map fun j : Nat => 1 + (j : Int)) S1 V2 ((List.range L2.length).map fun j : Nat => 1 + (L1.length : Int) + (j : Int)) S2 1 = some (1 + (L1.length : Int) + (L2.length : Int)) := by
    intro k hk
    unfold laws_heldBanks.f laws_heldBank.f
    exact ubind (ubind (m6 k hk) (uelse n2 rfl)) (uelse n2 (ubind (ubind (m7 k hk) (uelse n3 rfl)) (uelse n3 rfl)))
  have markO : ∀ k, l1.length + l2.length + ws.length + 120 < k → laws_markBanks.f k A V1 L1 S1 V2 L2 S2 1 = some (1 + (L1.length : Int) + (L2.length : Int), (List.range L1.length).map fun j : Nat => 1 + (j : Int), (List.range L2.length).map fun j : Nat => 1 + (L1.length : Int) + (j : Int)) := by
    intro k hk
    unfold laws_markBanks.f laws_markBank.f
    exact ubind (ubind (m4 k hk) rfl) (ubind (ubind (m5 k hk) rfl) rfl)
  have markI : ∀ k, l1.length + l2.length + ws.length + 120 < k → laws_markBanks.f k a v1 l1 s1 v2 l2 s2 1 = some (1 + (l1.length : Int) + (l2.length : Int), (List.range l1.length).map fun j : Nat => 1 + (j : Int), (List.range l2.length).map fun j : Nat => 1 + (l1.length : Int) + (j : Int)) := by
    intro k hk
    unfold laws_markBanks.f laws_markBank.f
    exact ubind (ubind (m1 k hk) rfl) (ubind (ubind (m2 k hk) rfl) rfl)
  have hbb : (b != b) = false := by simp
  refine ubind (a1 _ q3) (ubind (a3 _ q3) (ubind (b1 _ q3) (ubind (a1 _ q3) (ubind (a3 _ q3) (ubind (b2 _ q3) (ubind (b3 _ q3) (uthen rfl ?_)))))))
  show laws_FnExactUpdateSome.j0 (q + 1 + 1 + 1) ver ws c b ws b (b != b) a v1 l1 s1 v2 l2 s2 A V1 L1 S1 V2 L2 S2 a v1 l1 s1 v2 l2 s2 A V1 L1 S1 V2 L2 S2 = some true
  rw [hbb]
  simp only [laws_FnExactUpdateSome.j0]
  refine uelse (by decide) (ubind (a1 _ q2) (ubind (a2 _ q2) (uthen rfl (ubind (a3 _ q2) (ubind (a4 _ q2) (uthen rfl (ubind (markI _ q2) (ubind (m3 _ q2) (uelse n1 (ubind (b3 _ q2) (uthen rfl ?_)))))))))))
  rw [hbb]
  simp only [laws_FnExactUpdateSome.j1]
  refine uelse (by decide) (ubind (markO _ q1) (ubind (held _ q1) (uelse n3 (uthen rfl (ubind (a1 _ q1) (ubind (a3 _ q1) (ubind (b2 _ q1) (ubind (b3 _ q1) (uthen rfl ?_)))))))))
  show laws_FnExactUpdateSome.j2 (q + 1) _ (b != b) A V1 _ S1 V2 _ S2 = some true
  rw [hbb]
  simp only [laws_FnExactUpdateSome.j2]
  exact uelse (by decide) (ubind (held _ q0) (uelse n3 (uthen rfl rfl)))

end Go.Proofs.Ytefbmfgifjphfaa.Pure
