/- The law FnBanks in plain lists: a bank with one changed word is not valid. Conditions: none beside those of the row. -/
import Derived.Test.YtefbmfgifjphfaaHelpFnBanks
namespace Go.Proofs.Ytefbmfgifjphfaa.Pure
open Go.RowKit Go.Proofs.Ytefbmfgifjphfaa.PFnBanks Go.Proofs.Ytefbmfgifjphfaa.XPure Go.Proofs.Ytefbmfgifjphfaa.PureFnBanks Go.Proofs.YtefbmfgifjphfaaW.PrintWords Go.Proofs.YtefbmfgifjphfaaW.PrintLast Go.Proofs.YtefbmfgifjphfaaW.PrintMore
set_option linter.unusedSimpArgs false
set_option linter.unusedVariables false

theorem bind_of {α β : Type} {x : Option α} {f : α → Option β} {a : α} {r : Option β} (h : x = some a) (h2 : f a = r) : x.bind f = r := by rw [h]; exact h2
theorem if_else {α : Type} {c : Prop} [Decidable c] {t e r : α} (hc : ¬ c) (h : e = r) : (if c then t else e) = r := by rw [if_neg hc]; exact h
theorem if_then {α : Type} {c : Prop} [Decidable c] {t e r : α} (hc : c) (h : t = r) : (if c then t else e) = r := by rw [if_pos hc]; exact h
theorem getD_left {α : Type} (g : List α) (x z : α) {i : Nat} (h : i < g.length) : (g ++ [x]).getD i z = g.getD i z := by
  rw [List.getD_eq_getElem?_getD, List.getElem?_append_left h, ← List.getD_eq_getElem?_getD]
theorem getD_end {α : Type} (g : List α) (x z : α) : (g ++ [x]).getD g.length z = x := by
  rw [List.getD_eq_getElem?_getD, List.getElem?_append_right (Nat.le_refl _), Nat.sub_self]
  rfl
theorem getD_put {α : Type} (l : List α) (i j : Nat) (x z : α) (hi : i < l.length) : (l.set i x).getD j z = if i = j then x else l.getD j z := by
  rw [List.getD_eq_getElem?_getD, List.getElem?_set]
  by_cases h : i = j
  · rw [if_pos h, if_pos h, if_pos hi]
    rfl
  · rw [if_neg h, if_neg h, ← List.getD_eq_getElem?_getD]
/-- Eight words between -300 and 600. -/
def goodW (l : List Int) : Prop := l.length = 8 ∧ ∀ j, -300 ≤ l.getD j 0 ∧ l.getD j 0 ≤ 600
theorem drawList_f (c : List Int) (hc : c.length ≤ 1048576) (k : Nat) (p s : Int) (h0 : 0 ≤ p) (hk : 8 < k) : ∃ (l : List Int) (p' s' : Int), spec_l35List.f k c p s = some (l, p', s') ∧ goodW l ∧ 0 ≤ p' := by
  have key : ∀ d i k (g : List Int) (p s : Int), 8 - i = d → i ≤ 8 → d < k → 0 ≤ p → g.length = i → (∀ j, -300 ≤ g.getD j 0 ∧ g.getD j 0 ≤ 600) → ∃ (r : List Int) (p' s' : Int), spec_l35List.l0 k g (i : Int) c p s = some (r, p', s') ∧ goodW r ∧ 0 ≤ p' := by
    intro d
    induction d with
    | zero =>
      intro i k g p s h1 h2 h3 h4 h5 h6
      obtain ⟨q, rfl⟩ : ∃ q, k = q + 1 := ⟨k - 1, by omega⟩
      have n1 : ¬ (i : Int) < 8 := by omega
      simp only [spec_l35List.l0]
      rw [if_neg n1]
      exact ⟨g, _, _, rfl, ⟨by omega, h6⟩, h4⟩
    | succ d ih =>
      intro i k g p s h1 h2 h3 h4 h5 h6
      obtain ⟨q, rfl⟩ : ∃ q, k = q + 1 := ⟨k - 1, by omega⟩
      obtain ⟨v, p1, s1, e1, a1, a2, a3⟩ := drawBelow_f c hc p s h4 900 (by decide)
      have n1 : (i : Int) < 8 := by omega
      have n2 : g.length < 17592186044416 := by omega
      have hi : i < 8 := by omega
      have b1 : -9223372036854775808 ≤ v - 300 := by omega
      have b2 : v - 300 ≤ 9223372036854775807 := by omega
      have hg : ∀ j, -300 ≤ (g ++ [v - 300]).getD j 0 ∧ (g ++ [v - 300]).getD j 0 ≤ 600 := by
        intro j
        rcases Nat.lt_trichotomy j g.length with h | h | h
        · rw [getD_left _ _ _ h]
          exact h6 j
        · rw [h, getD_end]
          omega
        · rw [List.getD_eq_getElem?_getD, List.getElem?_eq_none (by rw [List.length_append, List.length_singleton]; omega)]
          exact ⟨by decide, by decide⟩
      have r := ih (i + 1) q (g ++ [v - 300]) p1 s1 (by omega) (by omega) (by omega) a3 (by rw [List.length_append, List.length_singleton]; omega) hg
      have w1 : wrap64 (v - 300) = v - 300 := wrap_in b1 b2
      have w2 := wrap_next hi (show 8 ≤ 140737488355328 from by decide)
      simp only [spec_l35List.l0, e1, Option.bind_some]
      rw [if_pos n1, if_pos n2, w1, w2]
      exact r
  exact key 8 0 k [] p s rfl (by omega) (by omega) h0 rfl (fun j => by rw [List.getD_nil]; exact ⟨by decide, by decide⟩)
/-- A bank that was drawn. -/
def goodB (v : Int) (l : List Int) (s : Int) : Prop := 1 ≤ v ∧ v ≤ 20 ∧ goodW l ∧ s = mod65 (sumW v l 8)
theorem drawBank_f (c : List Int) (hc : c.length ≤ 1048576) (k : Nat) (p s : Int) (h0 : 0 ≤ p) (hk : 20 < k) : ∃ (v : Int) (l : List Int) (m p' s' : Int), spec_l35Bank.f k c p s = some (v, l, m, p', s') ∧ goodB v l m ∧ 0 ≤ p' := by
  obtain ⟨v, p1, s1, e1, a1, a2, a3⟩ := drawBelow_f c hc p s h0 20 (by decide)
  obtain ⟨l, p2, s2, e2, b1, b2⟩ := drawList_f c hc k p1 s1 a3 (by omega)
  have hl := b1.1
  have c1 : -9223372036854775808 ≤ 1 + v := by omega
  have c2 : 1 + v ≤ 9223372036854775807 := by omega
  have d1 : 1 ≤ 1 + v := by omega
  have d2 : 1 + v ≤ 20 := by omega
  have e3 := specSum_f (1 + v) l (by omega) k (by omega)
  rw [hl] at e3
  have w1 : wrap64 (1 + v) = 1 + v := wrap_in c1 c2
  refine ⟨1 + v, l, mod65 (sumW (1 + v) l 8), p2, s2, ?_, ⟨d1, d2, b1, rfl⟩, b2⟩
  unfold spec_l35Bank.f
  rw [e1]
  simp only [Option.bind_some, w1]
  rw [e2]
  simp only [Option.bind_some]
  rw [e3]
  rfl
/-- Banks that were drawn: the active one is good. -/
def goodX (a v1 : Int) (l1 : List Int) (s1 v2 : Int) (l2 : List Int) (s2 : Int) : Prop := (a = 0 ∧ goodB v1 l1 s1 ∨ a = 1 ∧ goodB v2 l2 s2) ∧ l1.length ≤ 8 ∧ l2.length ≤ 8
theorem drawBanks_f (c : List Int) (hc : c.length ≤ 1048576) (k : Nat) (p s : Int) (h0 : 0 ≤ p) (hk : 20 < k) : ∃ (a v1 : Int) (l1 : List Int) (s1 v2 : Int) (l2 : List Int) (s2 p' s' : Int), spec_l35Banks.f k c p s = some (a, v1, l1, s1, v2, l2, s2, p', s') ∧ goodX a v1 l1 s1 v2 l2 s2 ∧ 0 ≤ p' := by
  obtain ⟨a, p1, z1, e1, a1, a2, a3⟩ := drawBelow_f c hc p s h0 2 (by decide)
  obtain ⟨v1, l1, s1, p2, z2, e2, b1, b2⟩ := drawBank_f c hc k p1 z1 a3 hk
  obtain ⟨v2, l2, s2, p3, z3, e3, c1, c2⟩ := drawBank_f c hc k p2 z2 b2 hk
  obtain ⟨o, p4, z4, e4, d1, d2, d3⟩ := drawBelow_f c hc p3 z3 c2 3 (by decide)
  have hl1 := b1.2.2.1.1
  have hl2 := c1.2.2.1.1
  have ha : a = 0 ∨ a = 1 := by omega
  have eo : spec_l01Once.f c p3 z3 3 = some (o == 0, p4, z4) := by
    unfold spec_l01Once.f
    rw [e4]
    rfl
  unfold spec_l35Banks.f
  rw [e1]
  simp only [Option.bind_some]
  rw [e2]
  simp only [Option.bind_some]
  rw [e3]
  simp only [Option.bind_some]
  rw [eo]
  simp only [Option.bind_some]
  by_cases ho : (o == 0) = true
  · rw [if_pos ho]
    rcases ha with h | h
    · rw [if_pos h]
      exact ⟨_, _, _, _, _, _, _, _, _, rfl, ⟨Or.inl ⟨h, b1⟩, by omega, by rw [List.length_nil]; omega⟩, d3⟩
    · rw [if_neg (by omega)]
      exact ⟨_, _, _, _, _, _, _, _, _, rfl, ⟨Or.inr ⟨h, c1⟩, by rw [List.length_nil]; omega, by omega⟩, d3⟩
  · rw [if_neg ho]
    rcases ha with h | h
    · exact ⟨_, _, _, _, _, _, _, _, _, rfl, ⟨Or.inl ⟨h, b1⟩, by omega, by omega⟩, d3⟩
    · exact ⟨_, _, _, _, _, _, _, _, _, rfl, ⟨Or.inr ⟨h, c1⟩, by omega, by omega⟩, d3⟩
/-- An update that was drawn: the version is greater than the active one's. -/
theorem drawUpdate_f (c : List Int) (hc : c.length ≤ 1048576) (k : Nat) (hk : c.length + 30 < k) : ∃ (a v1 : Int) (l1 : List Int) (s1 v2 : Int) (l2 : List Int) (s2 v : Int) (ws : List Int), spec_DrawUpdate.f k c = some (a, v1, l1, s1, v2, l2, s2, v, ws) ∧ goodX a v1 l1 s1 v2 l2 s2 ∧ goodW ws ∧ (a = 0 → v1 < v ∧ v ≤ v1 + 9) ∧ (a = 1 → v2 < v ∧ v ≤ v2 + 9) := by
  obtain ⟨s, hs⟩ := drawNew_f c hc k (by omega)
  obtain ⟨a, v1, l1, s1, v2, l2, s2, p1, z1, e1, hx, b1⟩ := drawBanks_f c hc k 0 s (Int.le_refl _) (by omega)
  obtain ⟨d, p2, z2, e2, a1, a2, a3⟩ := drawBelow_f c hc p1 z1 b1 9 (by decide)
  obtain ⟨ws, p3, z3, e3, hw, c3⟩ := drawList_f c hc k p2 z2 a3 (by omega)
  have hin : ∀ v : Int, 1 ≤ v → v ≤ 20 → wrap64 (wrap64 (v + 1) + d) = v + 1 + d := by
    intro v q1 q2
    have x1 : -9223372036854775808 ≤ v + 1 := by omega
    have x2 : v + 1 ≤ 9223372036854775807 := by omega
    have x3 : -9223372036854775808 ≤ v + 1 + d := by omega
    have x4 : v + 1 + d ≤ 9223372036854775807 := by omega
    rw [wrap_in x1 x2, wrap_in x3 x4]
  unfold spec_DrawUpdate.f
  rw [hs]
  simp only [Option.bind_some]
  rw [e1]
  simp only [Option.bind_some]
  rcases hx.1 with ⟨h, hb⟩ | ⟨h, hb⟩
  · rw [if_neg (by omega), e2]
    simp only [Option.bind_some]
    rw [e3]
    simp only [Option.bind_some]
    rw [hin v1 hb.1 hb.2.1]
    exact ⟨_, _, _, _, _, _, _, _, _, rfl, hx, hw, fun _ => by omega, fun h' => by omega⟩
  · rw [if_pos h, e2]
    simp only [Option.bind_some]
    rw [e3]
    simp only [Option.bind_some]
    rw [hin v2 hb.1 hb.2.1]
    exact ⟨_, _, _, _, _, _, _, _, _, rfl, hx, hw, fun h' => by omega, fun _ => by omega⟩
theorem allV_of (l : List Int) (h : ∀ j, -1000000 ≤ l.getD j 0 ∧ l.getD j 0 ≤ 1000000) : allV l = true := by
  unfold allV
  rw [endsAt_true]
  intro j _ _
  have := h j
  unfold inB
  rw [Bool.and_eq_true, decide_eq_true_eq, decide_eq_true_eq]
  omega
/-- The program's answer on a bank of eight words. -/
theorem bankOk_f (v : Int) (l : List Int) (s : Int) (hv : 1 ≤ v ∧ v ≤ 1000) (hl : l.length = 8) (h : ∀ j, -1000000 ≤ l.getD j 0 ∧ l.getD j 0 ≤ 1000000) (k : Nat) (hk : 8 < k) : impl_BankOk.f k v l s = some (s == mod65 (sumW v l 8)) := by
  have e1 := implValues_f l (by omega) k (by omega)
  rw [allV_of l h] at e1
  have e2 := implSum_f v l (by omega) k (by omega)
  rw [hl] at e2
  have e3 : impl_areBankWords.f k l = some true := by
    unfold impl_areBankWords.f
    exact if_then (by omega) (bind_of e1 rfl)
  have e4 : inB v 1 1000 = true := by
    unfold inB
    rw [Bool.and_eq_true, decide_eq_true_eq, decide_eq_true_eq]
    omega
  unfold impl_BankOk.f
  exact bind_of (within_f v 1 1000) (if_then e4 (bind_of e3 (if_then rfl (bind_of e2 rfl))))
theorem bankOk_good (v : Int) (l : List Int) (s : Int) (h : goodB v l s) (k : Nat) (hk : 8 < k) : impl_BankOk.f k v l s = some true := by
  obtain ⟨h1, h2, ⟨h3, h4⟩, h5⟩ := h
  rw [bankOk_f v l s ⟨h1, by omega⟩ h3 (fun j => by have := h4 j; omega) k hk, h5, beq_self_eq_true]
theorem banksOk_good (a v1 : Int) (l1 : List Int) (s1 v2 : Int) (l2 : List Int) (s2 : Int) (h : goodX a v1 l1 s1 v2 l2 s2) (k : Nat) (hk : 8 < k) : impl_BanksOk.f k a v1 l1 s1 v2 l2 s2 = some true := by
  unfold impl_BanksOk.f
  have e4 : inB a 0 1 = true := by
    unfold inB
    rw [Bool.and_eq_true, decide_eq_true_eq, decide_eq_true_eq]
    rcases h.1 with ⟨h, _⟩ | ⟨h, _⟩ <;> omega
  refine bind_of (within_f a 0 1) (if_then e4 ?_)
  rcases h.1 with ⟨h, hb⟩ | ⟨h, hb⟩
  · exact if_then h (bind_of (bankOk_good v1 l1 s1 hb k hk) rfl)
  · exact if_else (by omega) (bind_of (bankOk_good v2 l2 s2 hb k hk) rfl)
/-- The active bank of drawn banks. -/
theorem active_good (a v1 : Int) (l1 : List Int) (s1 v2 : Int) (l2 : List Int) (s2 : Int) (h : goodX a v1 l1 s1 v2 l2 s2) : ∃ (v : Int) (l : List Int) (s : Int), (∀ k, 8 < k → impl_ActiveBank.f k a v1 l1 s1 v2 l2 s2 = some (v, l, s, true)) ∧ goodB v l s ∧ (a = 0 → v = v1 ∧ l = l1 ∧ s = s1) ∧ (a = 1 → v = v2 ∧ l = l2 ∧ s = s2) := by
  have hl := h.2
  have hcopy : impl_copyBanks.f a v1 l1 s1 v2 l2 s2 = some (a, v1, l1, s1, v2, l2, s2) := by
    unfold impl_copyBanks.f
    exact bind_of (clone_f l1 (by omega)) (bind_of (clone_f l2 (by omega)) rfl)
  rcases h.1 with ⟨h0, hb⟩ | ⟨h0, hb⟩
  · refine ⟨v1, l1, s1, fun k hk => ?_, hb, fun _ => ⟨rfl, rfl, rfl⟩, fun h' => by omega⟩
    unfold impl_ActiveBank.f
    exact bind_of (banksOk_good a v1 l1 s1 v2 l2 s2 h k hk) (if_then rfl (bind_of hcopy (if_then h0 rfl)))
  · refine ⟨v2, l2, s2, fun k hk => ?_, hb, fun h' => by omega, fun _ => ⟨rfl, rfl, rfl⟩⟩
    unfold impl_ActiveBank.f
    exact bind_of (banksOk_good a v1 l1 s1 v2 l2 s2 h k hk) (if_then rfl (bind_of hcopy (if_else (by omega) rfl)))
theorem big_f (c : List Int) : laws_big.f c = some (decide ((c.length : Int) > 1048576)) := rfl
/-- The sum behind a changed word. -/
theorem sumW_set (v : Int) (l : List Int) (k : Nat) (x : Int) (hv : 1 ≤ v ∧ v ≤ 20) (hl : goodW l) (hx : 0 ≤ x ∧ x ≤ 10001) (hk : k < l.length) : ∀ i : Nat, i ≤ 8 → (-1000 * (i : Int) ≤ sumW v l i ∧ sumW v l i ≤ 20 + 1000 * (i : Int)) ∧ sumW v (l.set k (l.getD k 0 + x)) i = sumW v l i + if k < i then x else 0 := by
  intro i
  induction i with
  | zero =>
    intro _
    refine ⟨⟨?_, ?_⟩, ?_⟩
    · show _ ≤ v
      omega
    · show v ≤ _
      omega
    · show v = v + _
      rw [if_neg (by omega)]
      omega
  | succ i ih =>
    intro hi
    obtain ⟨⟨h1, h2⟩, h3⟩ := ih (by omega)
    have hg := hl.2 i
    have b1 : -9223372036854775808 ≤ sumW v l i + l.getD i 0 := by omega
    have b2 : sumW v l i + l.getD i 0 ≤ 9223372036854775807 := by omega
    have e1 : sumW v l (i + 1) = sumW v l i + l.getD i 0 := wrap_in b1 b2
    have e2 : sumW v (l.set k (l.getD k 0 + x)) (i + 1) = wrap64 (sumW v (l.set k (l.getD k 0 + x)) i + (l.set k (l.getD k 0 + x)).getD i 0) := rfl
    rw [h3, getD_put _ _ _ _ _ hk] at e2
    refine ⟨⟨by omega, by omega⟩, ?_⟩
    rw [e2, e1]
    by_cases c1 : k = i
    · rw [if_pos c1, c1, if_neg (Nat.lt_irrefl i), if_pos (by omega)]
      have x1 : -9223372036854775808 ≤ sumW v l i + 0 + (l.getD i 0 + x) := by omega
      have x2 : sumW v l i + 0 + (l.getD i 0 + x) ≤ 9223372036854775807 := by omega
      rw [wrap_in x1 x2]
      omega
    · rw [if_neg c1]
      by_cases c2 : k < i
      · rw [if_pos c2, if_pos (by omega)]
        have x1 : -9223372036854775808 ≤ sumW v l i + x + l.getD i 0 := by omega
        have x2 : sumW v l i + x + l.getD i 0 ≤ 9223372036854775807 := by omega
        rw [wrap_in x1 x2]
        omega
      · rw [if_neg c2, if_neg (by omega)]
        have x1 : -9223372036854775808 ≤ sumW v l i + 0 + l.getD i 0 := by omega
        have x2 : sumW v l i + 0 + l.getD i 0 ≤ 9223372036854775807 := by omega
        rw [wrap_in x1 x2]
        omega
theorem mod65_emod (s : Int) : mod65 s = s % 65521 := by
  have h1 := Int.lt_tmod_of_pos s (by decide : (0 : Int) < 65521)
  have h2 := Int.tmod_lt_of_pos s (by decide : (0 : Int) < 65521)
  have h3 := Int.tmod_add_mul_tdiv s 65521
  unfold mod65
  generalize Int.tmod s 65521 = t at h1 h2 h3 ⊢
  generalize Int.tdiv s 65521 = q at h3
  split
  · have x1 : -9223372036854775808 ≤ t + 65521 := by omega
    have x2 : t + 65521 ≤ 9223372036854775807 := by omega
    rw [wrap_in x1 x2]
    omega
  · omega
theorem FnBanks : laws_FnBanks.Pure := by
  intro c hc
  refine ⟨c.length + 100, ?_⟩
  unfold laws_FnBanks.f
  refine bind_of (big_f c) ?_
  by_cases hb : decide ((c.length : Int) > 1048576) = true
  · exact if_then hb rfl
  · refine if_else hb ?_
    rw [decide_eq_true_eq] at hb
    have hc1 : c.length ≤ 1048576 := by omega
    clear hb hc
    obtain ⟨K, hK⟩ : ∃ K, K = c.length + 100 := ⟨_, rfl⟩
    rw [← hK]
    have hk1 : c.length + 30 < K := by omega
    have hk2 : 8 < K := by omega
    have hk3 : c.length + 12 < K := by omega
    clear hK
    obtain ⟨a, v1, l1, s1, v2, l2, s2, v, ws, e1, hx, _, _, _⟩ := drawUpdate_f c hc1 K hk1
    obtain ⟨p, e2, hp, hpj⟩ := drawPlaces_f c hc1 K hk3
    obtain ⟨av, al, as_, e3, hg, _, _⟩ := active_good a v1 l1 s1 v2 l2 s2 hx
    have hg' := hg
    obtain ⟨g1, g2, ⟨g3, g4⟩, g5⟩ := hg
    have p0 := hpj 0 (by omega)
    have p1 := hpj 1 (by omega)
    have r0 : rd p 0 = p.getD 0 0 := rfl
    have r1 : rd p 1 = p.getD 1 0 := rfl
    generalize p.getD 0 0 = q0 at p0 r0
    generalize p.getD 1 0 = q1 at p1 r1
    obtain ⟨j, hj, hj8⟩ : ∃ j : Nat, Int.tmod q0 8 = (j : Int) ∧ j < 8 := by
      have x1 := Int.tmod_nonneg (a := q0) 8 p0.1
      have x2 := Int.tmod_lt_of_pos q0 (show (0 : Int) < 8 from by decide)
      exact ⟨(Int.tmod q0 8).toNat, by omega, by omega⟩
    have n1 : (al.length : Int) = 8 := by omega
    have n2 : 0 < (p.length : Int) := by omega
    have n3 : 0 ≤ (j : Int) := by omega
    have n4 : (j : Int) < (al.length : Int) := by omega
    have n5 : 1 < (p.length : Int) := by omega
    have gj := g4 j
    have hset := sumW_set av al j (1 + q1) ⟨g1, g2⟩ ⟨g3, g4⟩ (by omega) (by omega) 8 (by omega)
    rw [if_pos (by omega)] at hset
    have y1 : -9223372036854775808 ≤ al.getD j 0 + 1 := by omega
    have y2 : al.getD j 0 + 1 ≤ 9223372036854775807 := by omega
    have y3 : -9223372036854775808 ≤ al.getD j 0 + 1 + q1 := by omega
    have y4 : al.getD j 0 + 1 + q1 ≤ 9223372036854775807 := by omega
    have hb : ∀ i, -1000000 ≤ (al.set j (al.getD j 0 + (1 + q1))).getD i 0 ∧ (al.set j (al.getD j 0 + (1 + q1))).getD i 0 ≤ 1000000 := by
      intro i
      rw [getD_put _ _ _ _ _ (by omega)]
      have := g4 i
      split <;> omega
    have e6 := bankOk_f av (al.set j (al.getD j 0 + (1 + q1))) as_ ⟨g1, by omega⟩ (by rw [List.length_set]; exact g3) hb K hk2
    have hne : (as_ == mod65 (sumW av (al.set j (al.getD j 0 + (1 + q1))) 8)) = false := by
      rw [beq_eq_false_iff_ne, g5, hset.2, mod65_emod, mod65_emod]
      have := hset.1
      omega
    rw [hne] at e6
    have w1 : wrap64 (wrap64 (al.getD j 0 + 1) + q1) = al.getD j 0 + (1 + q1) := by
      rw [wrap_in y1 y2, wrap_in y3 y4]
      exact Int.add_assoc _ _ _
    rw [← w1] at e6
    have ej : Int.tmod (rd p 0) 8 = (j : Int) := by rw [r0, hj]
    have ej2 : (Int.tmod (rd p 0) 8).toNat = j := by rw [ej]; exact Int.toNat_natCast j
    have er : rd al (Int.tmod (rd p 0) 8) = al.getD j 0 := by rw [ej]; rfl
    refine bind_of e1 (bind_of e2 (bind_of (e3 K hk2) (if_then rfl (bind_of (bankOk_good av al as_ hg' K hk2) (if_then rfl (bind_of (banksOk_good a v1 l1 s1 v2 l2 s2 hx K hk2) (if_then rfl (if_then n1 (if_then n2 (if_then (by rw [ej]; exact n3) (if_then (by rw [ej]; exact n4) (if_then n5 (bind_of (a := false) ?_ rfl)))))))))))))
    dsimp only
    rw [ej2, er, r1]
    exact e6

end Go.Proofs.Ytefbmfgifjphfaa.Pure
