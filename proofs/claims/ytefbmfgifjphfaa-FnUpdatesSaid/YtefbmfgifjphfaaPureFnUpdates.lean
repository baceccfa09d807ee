/- The law FnUpdates in plain lists: if an update ends anywhere, the old program is still active, or, after the last step, the new one. Conditions: none beside those of the row. -/
import Derived.Test.YtefbmfgifjphfaaHelpFnUpdates
namespace Go.Proofs.Ytefbmfgifjphfaa.Pure
open Go.RowKit Go.Proofs.Ytefbmfgifjphfaa.PFnUpdates Go.Proofs.Ytefbmfgifjphfaa.XPure Go.Proofs.Ytefbmfgifjphfaa.PureFnUpdates Go.Proofs.YtefbmfgifjphfaaW.PrintWords Go.Proofs.YtefbmfgifjphfaaW.PrintLast Go.Proofs.YtefbmfgifjphfaaW.PrintMore
set_option linter.unusedSimpArgs false
set_option linter.unusedVariables false

theorem bind_of {α β : Type} {x : Option α} {f : α → Option β} {a : α} {r : Option β} (h : x = some a) (h2 : f a = r) : x.bind f = r := by rw [h]; exact h2
theorem if_else {α : Type} {c : Prop} [Decidable c] {t e r : α} (hc : ¬ c) (h : e = r) : (if c then t else e) = r := by rw [if_neg hc]; exact h
theorem if_then {α : Type} {c : Prop} [Decidable c] {t e r : α} (hc : c) (h : t = r) : (if c then t else e) = r := by rw [if_pos hc]; exact h
theorem getD_left {α : Type} (g : List α) (x z : α) {i : Nat} (h : i < g.length) : (g ++ [x]).getD i z = g.getD i z := by
  rw [List.getD_eq_getElem?_getD, List.getElem?_append_left h, ← List.getD_eq_getElem?_getD]
theorem getD_end {α : Type} (g : List α) (x z : α) : (g ++ [x]).getD g.length z = x := by
  rw [List.getD_eq_getElem?_getD, List.getElem?_append_right (Nat.le_refl _), Nat.sub_self]
  rfl
theorem getD_put {α : Type} (l : List α) (i j : Nat) (x z : α) (hi : i < l.length) : (l.set i x).getD j z = if i = j then x else l.getD j z := by
  rw [List.getD_eq_getElem?_getD, List.getElem?_set]
  by_cases h : i = j
  · rw [if_pos h, if_pos h, if_pos hi]
    rfl
  · rw [if_neg h, if_neg h, ← List.getD_eq_getElem?_getD]
/-- Eight words between -300 and 600. -/
def goodW (l : List Int) : Prop := l.length = 8 ∧ ∀ j, -300 ≤ l.getD j 0 ∧ l.getD j 0 ≤ 600
theorem drawList_f (c : List Int) (hc : c.length ≤ 1048576) (k : Nat) (p s : Int) (h0 : 0 ≤ p) (hk : 8 < k) : ∃ (l : List Int) (p' s' : Int), spec_l35List.f k c p s = some (l, p', s') ∧ goodW l ∧ 0 ≤ p' := by
  have key : ∀ d i k (g : List Int) (p s : Int), 8 - i = d → i ≤ 8 → d < k → 0 ≤ p → g.length = i → (∀ j, -300 ≤ g.getD j 0 ∧ g.getD j 0 ≤ 600) → ∃ (r : List Int) (p' s' : Int), spec_l35List.l0 k g (i : Int) c p s = some (r, p', s') ∧ goodW r ∧ 0 ≤ p' := by
    intro d
    induction d with
    | zero =>
      intro i k g p s h1 h2 h3 h4 h5 h6
      obtain ⟨q, rfl⟩ : ∃ q, k = q + 1 := ⟨k - 1, by omega⟩
      have n1 : ¬ (i : Int) < 8 := by omega
      simp only [spec_l35List.l0]
      rw [if_neg n1]
      exact ⟨g, _, _, rfl, ⟨by omega, h6⟩, h4⟩
    | succ d ih =>
      intro i k g p s h1 h2 h3 h4 h5 h6
      obtain ⟨q, rfl⟩ : ∃ q, k = q + 1 := ⟨k - 1, by omega⟩
      obtain ⟨v, p1, s1, e1, a1, a2, a3⟩ := drawBelow_f c hc p s h4 900 (by decide)
      have n1 : (i : Int) < 8 := by omega
      have n2 : g.length < 17592186044416 := by omega
      have hi : i < 8 := by omega
      have b1 : -9223372036854775808 ≤ v - 300 := by omega
      have b2 : v - 300 ≤ 9223372036854775807 := by omega
      have hg : ∀ j, -300 ≤ (g ++ [v - 300]).getD j 0 ∧ (g ++ [v - 300]).getD j 0 ≤ 600 := by
        intro j
        rcases Nat.lt_trichotomy j g.length with h | h | h
        · rw [getD_left _ _ _ h]
          exact h6 j
        · rw [h, getD_end]
          omega
        · rw [List.getD_eq_getElem?_getD, List.getElem?_eq_none (by rw [List.length_append, List.length_singleton]; omega)]
          exact ⟨by decide, by decide⟩
      have r := ih (i + 1) q (g ++ [v - 300]) p1 s1 (by omega) (by omega) (by omega) a3 (by rw [List.length_append, List.length_singleton]; omega) hg
      have w1 : wrap64 (v - 300) = v - 300 := wrap_in b1 b2
      have w2 := wrap_next hi (show 8 ≤ 140737488355328 from by decide)
      simp only [spec_l35List.l0, e1, Option.bind_some]
      rw [if_pos n1, if_pos n2, w1, w2]
      exact r
  exact key 8 0 k [] p s rfl (by omega) (by omega) h0 rfl (fun j => by rw [List.getD_nil]; exact ⟨by decide, by decide⟩)
/-- A bank that was drawn. -/
def goodB (v : Int) (l : List Int) (s : Int) : Prop := 1 ≤ v ∧ v ≤ 20 ∧ goodW l ∧ s = mod65 (sumW v l 8)
theorem drawBank_f (c : List Int) (hc : c.length ≤ 1048576) (k : Nat) (p s : Int) (h0 : 0 ≤ p) (hk : 20 < k) : ∃ (v : Int) (l : List Int) (m p' s' : Int), spec_l35Bank.f k c p s = some (v, l, m, p', s') ∧ goodB v l m ∧ 0 ≤ p' := by
  obtain ⟨v, p1, s1, e1, a1, a2, a3⟩ := drawBelow_f c hc p s h0 20 (by decide)
  obtain ⟨l, p2, s2, e2, b1, b2⟩ := drawList_f c hc k p1 s1 a3 (by omega)
  have hl := b1.1
  have c1 : -9223372036854775808 ≤ 1 + v := by omega
  have c2 : 1 + v ≤ 9223372036854775807 := by omega
  have d1 : 1 ≤ 1 + v := by omega
  have d2 : 1 + v ≤ 20 := by omega
  have e3 := specSum_f (1 + v) l (by omega) k (by omega)
  rw [hl] at e3
  have w1 : wrap64 (1 + v) = 1 + v := wrap_in c1 c2
  refine ⟨1 + v, l, mod65 (sumW (1 + v) l 8), p2, s2, ?_, ⟨d1, d2, b1, rfl⟩, b2⟩
  unfold spec_l35Bank.f
  rw [e1]
  simp only [Option.bind_some, w1]
  rw [e2]
  simp only [Option.bind_some]
  rw [e3]
  rfl
/-- Banks that were drawn: the active one is good. -/
def goodX (a v1 : Int) (l1 : List Int) (s1 v2 : Int) (l2 : List Int) (s2 : Int) : Prop := (a = 0 ∧ goodB v1 l1 s1 ∨ a = 1 ∧ goodB v2 l2 s2) ∧ l1.length ≤ 8 ∧ l2.length ≤ 8
theorem drawBanks_f (c : List Int) (hc : c.length ≤ 1048576) (k : Nat) (p s : Int) (h0 : 0 ≤ p) (hk : 20 < k) : ∃ (a v1 : Int) (l1 : List Int) (s1 v2 : Int) (l2 : List Int) (s2 p' s' : Int), spec_l35Banks.f k c p s = some (a, v1, l1, s1, v2, l2, s2, p', s') ∧ goodX a v1 l1 s1 v2 l2 s2 ∧ 0 ≤ p' := by
  obtain ⟨a, p1, z1, e1, a1, a2, a3⟩ := drawBelow_f c hc p s h0 2 (by decide)
  obtain ⟨v1, l1, s1, p2, z2, e2, b1, b2⟩ := drawBank_f c hc k p1 z1 a3 hk
  obtain ⟨v2, l2, s2, p3, z3, e3, c1, c2⟩ := drawBank_f c hc k p2 z2 b2 hk
  obtain ⟨o, p4, z4, e4, d1, d2, d3⟩ := drawBelow_f c hc p3 z3 c2 3 (by decide)
  have hl1 := b1.2.2.1.1
  have hl2 := c1.2.2.1.1
  have ha : a = 0 ∨ a = 1 := by omega
  have eo : spec_l01Once.f c p3 z3 3 = some (o == 0, p4, z4) := by
    unfold spec_l01Once.f
    rw [e4]
    rfl
  unfold spec_l35Banks.f
  rw [e1]
  simp only [Option.bind_some]
  rw [e2]
  simp only [Option.bind_some]
  rw [e3]
  simp only [Option.bind_some]
  rw [eo]
  simp only [Option.bind_some]
  by_cases ho : (o == 0) = true
  · rw [if_pos ho]
    rcases ha with h | h
    · rw [if_pos h]
      exact ⟨_, _, _, _, _, _, _, _, _, rfl, ⟨Or.inl ⟨h, b1⟩, by omega, by rw [List.length_nil]; omega⟩, d3⟩
    · rw [if_neg (by omega)]
      exact ⟨_, _, _, _, _, _, _, _, _, rfl, ⟨Or.inr ⟨h, c1⟩, by rw [List.length_nil]; omega, by omega⟩, d3⟩
  · rw [if_neg ho]
    rcases ha with h | h
    · exact ⟨_, _, _, _, _, _, _, _, _, rfl, ⟨Or.inl ⟨h, b1⟩, by omega, by omega⟩, d3⟩
    · exact ⟨_, _, _, _, _, _, _, _, _, rfl, ⟨Or.inr ⟨h, c1⟩, by omega, by omega⟩, d3⟩
/-- An update that was drawn: the version is greater than the active one's. -/
theorem drawUpdate_f (c : List Int) (hc : c.length ≤ 1048576) (k : Nat) (hk : c.length + 30 < k) : ∃ (a v1 : Int) (l1 : List Int) (s1 v2 : Int) (l2 : List Int) (s2 v : Int) (ws : List Int), spec_DrawUpdate.f k c = some (a, v1, l1, s1, v2, l2, s2, v, ws) ∧ goodX a v1 l1 s1 v2 l2 s2 ∧ goodW ws ∧ (a = 0 → v1 < v ∧ v ≤ v1 + 9) ∧ (a = 1 → v2 < v ∧ v ≤ v2 + 9) := by
  obtain ⟨s, hs⟩ := drawNew_f c hc k (by omega)
  obtain ⟨a, v1, l1, s1, v2, l2, s2, p1, z1, e1, hx, b1⟩ := drawBanks_f c hc k 0 s (Int.le_refl _) (by omega)
  obtain ⟨d, p2, z2, e2, a1, a2, a3⟩ := drawBelow_f c hc p1 z1 b1 9 (by decide)
  obtain ⟨ws, p3, z3, e3, hw, c3⟩ := drawList_f c hc k p2 z2 a3 (by omega)
  have hin : ∀ v : Int, 1 ≤ v → v ≤ 20 → wrap64 (wrap64 (v + 1) + d) = v + 1 + d := by
    intro v q1 q2
    have x1 : -9223372036854775808 ≤ v + 1 := by omega
    have x2 : v + 1 ≤ 9223372036854775807 := by omega
    have x3 : -9223372036854775808 ≤ v + 1 + d := by omega
    have x4 : v + 1 + d ≤ 9223372036854775807 := by omega
    rw [wrap_in x1 x2, wrap_in x3 x4]
  unfold spec_DrawUpdate.f
  rw [hs]
  simp only [Option.bind_some]
  rw [e1]
  simp only [Option.bind_some]
  rcases hx.1 with ⟨h, hb⟩ | ⟨h, hb⟩
  · rw [if_neg (by omega), e2]
    simp only [Option.bind_some]
    rw [e3]
    simp only [Option.bind_some]
    rw [hin v1 hb.1 hb.2.1]
    exact ⟨_, _, _, _, _, _, _, _, _, rfl, hx, hw, fun _ => by omega, fun h' => by omega⟩
  · rw [if_pos h, e2]
    simp only [Option.bind_some]
    rw [e3]
    simp only [Option.bind_some]
    rw [hin v2 hb.1 hb.2.1]
    exact ⟨_, _, _, _, _, _, _, _, _, rfl, hx, hw, fun h' => by omega, fun _ => by omega⟩
theorem allV_of (l : List Int) (h : ∀ j, -1000000 ≤ l.getD j 0 ∧ l.getD j 0 ≤ 1000000) : allV l = true := by
  unfold allV
  rw [endsAt_true]
  intro j _ _
  have := h j
  unfold inB
  rw [Bool.and_eq_true, decide_eq_true_eq, decide_eq_true_eq]
  omega
/-- The program's answer on a bank of eight words. -/
theorem bankOk_f (v : Int) (l : List Int) (s : Int) (hv : 1 ≤ v ∧ v ≤ 1000) (hl : l.length = 8) (h : ∀ j, -1000000 ≤ l.getD j 0 ∧ l.getD j 0 ≤ 1000000) (k : Nat) (hk : 8 < k) : impl_BankOk.f k v l s = some (s == mod65 (sumW v l 8)) := by
  have e1 := implValues_f l (by omega) k (by omega)
  rw [allV_of l h] at e1
  have e2 := implSum_f v l (by omega) k (by omega)
  rw [hl] at e2
  have e3 : impl_areBankWords.f k l = some true := by
    unfold impl_areBankWords.f
    exact if_then (by omega) (bind_of e1 rfl)
  have e4 : inB v 1 1000 = true := by
    unfold inB
    rw [Bool.and_eq_true, decide_eq_true_eq, decide_eq_true_eq]
    omega
  unfold impl_BankOk.f
  exact bind_of (within_f v 1 1000) (if_then e4 (bind_of e3 (if_then rfl (bind_of e2 rfl))))
theorem bankOk_good (v : Int) (l : List Int) (s : Int) (h : goodB v l s) (k : Nat) (hk : 8 < k) : impl_BankOk.f k v l s = some true := by
  obtain ⟨h1, h2, ⟨h3, h4⟩, h5⟩ := h
  rw [bankOk_f v l s ⟨h1, by omega⟩ h3 (fun j => by have := h4 j; omega) k hk, h5, beq_self_eq_true]
theorem banksOk_good (a v1 : Int) (l1 : List Int) (s1 v2 : Int) (l2 : List Int) (s2 : Int) (h : goodX a v1 l1 s1 v2 l2 s2) (k : Nat) (hk : 8 < k) : impl_BanksOk.f k a v1 l1 s1 v2 l2 s2 = some true := by
  unfold impl_BanksOk.f
  have e4 : inB a 0 1 = true := by
    unfold inB
    rw [Bool.and_eq_true, decide_eq_true_eq, decide_eq_true_eq]
    rcases h.1 with ⟨h, _⟩ | ⟨h, _⟩ <;> omega
  refine bind_of (within_f a 0 1) (if_then e4 ?_)
  rcases h.1 with ⟨h, hb⟩ | ⟨h, hb⟩
  · exact if_then h (bind_of (bankOk_good v1 l1 s1 hb k hk) rfl)
  · exact if_else (by omega) (bind_of (bankOk_good v2 l2 s2 hb k hk) rfl)
/-- The active bank of drawn banks. -/
theorem active_good (a v1 : Int) (l1 : List Int) (s1 v2 : Int) (l2 : List Int) (s2 : Int) (h : goodX a v1 l1 s1 v2 l2 s2) : ∃ (v : Int) (l : List Int) (s : Int), (∀ k, 8 < k → impl_ActiveBank.f k a v1 l1 s1 v2 l2 s2 = some (v, l, s, true)) ∧ goodB v l s ∧ (a = 0 → v = v1 ∧ l = l1 ∧ s = s1) ∧ (a = 1 → v = v2 ∧ l = l2 ∧ s = s2) := by
  have hl := h.2
  have hcopy : impl_copyBanks.f a v1 l1 s1 v2 l2 s2 = some (a, v1, l1, s1, v2, l2, s2) := by
    unfold impl_copyBanks.f
    exact bind_of (clone_f l1 (by omega)) (bind_of (clone_f l2 (by omega)) rfl)
  rcases h.1 with ⟨h0, hb⟩ | ⟨h0, hb⟩
  · refine ⟨v1, l1, s1, fun k hk => ?_, hb, fun _ => ⟨rfl, rfl, rfl⟩, fun h' => by omega⟩
    unfold impl_ActiveBank.f
    exact bind_of (banksOk_good a v1 l1 s1 v2 l2 s2 h k hk) (if_then rfl (bind_of hcopy (if_then h0 rfl)))
  · refine ⟨v2, l2, s2, fun k hk => ?_, hb, fun h' => by omega, fun _ => ⟨rfl, rfl, rfl⟩⟩
    unfold impl_ActiveBank.f
    exact bind_of (banksOk_good a v1 l1 s1 v2 l2 s2 h k hk) (if_then rfl (bind_of hcopy (if_else (by omega) rfl)))
theorem big_f (c : List Int) : laws_big.f c = some (decide ((c.length : Int) > 1048576)) := rfl
theorem ubind {α β : Type} {x : Option α} {f : α → Option β} {a : α} {r : Option β} (h : x = some a) (h2 : f a = r) : x.bind f = r := by rw [h]; exact h2
theorem uelse {α : Type} {c : Prop} [Decidable c] {t e r : α} (hc : ¬ c) (h : e = r) : (if c then t else e) = r := by rw [if_neg hc]; exact h
theorem uthen {α : Type} {c : Prop} [Decidable c] {t e r : α} (hc : c) (h : t = r) : (if c then t else e) = r := by rw [if_pos hc]; exact h
/-- Eight words: the list's own, or zeros. -/
def base8 (l : List Int) : List Int := if l.length = 8 then l else List.replicate 8 0
theorem base8_length (l : List Int) : (base8 l).length = 8 := by
  unfold base8
  split
  · assumption
  · exact List.length_replicate
/-- The first n words written over. -/
def putW (ws l : List Int) : Nat → List Int
  | 0 => l
  | n + 1 => (putW ws l n).set n (ws.getD n 0)
theorem putW_length (ws l : List Int) (n : Nat) : (putW ws l n).length = l.length := by
  induction n with
  | zero => rfl
  | succ n ih =>
    show ((putW ws l n).set n _).length = _
    rw [List.length_set]
    exact ih
def stA (a n : Int) (i : Nat) : Int := if i ≥ 11 then n else a
def stV (v ver : Int) (i : Nat) : Int := if i ≥ 10 then ver else if i ≥ 1 then 0 else v
def stL (l ws : List Int) (i : Nat) : List Int := if i ≥ 2 then putW ws (base8 l) (min (i - 1) 8) else l
def stS (s sum : Int) (i : Nat) : Int := if i ≥ 10 then sum else s
theorem stL_length (l ws : List Int) (i : Nat) : (stL l ws i).length ≤ l.length + 8 := by
  unfold stL
  split
  · rw [putW_length, base8_length]
    omega
  · omega
theorem stL_mid (l ws : List Int) (i : Nat) (h2 : 2 ≤ i) (h8 : i ≤ 9) : stL l ws i = putW ws (base8 l) (i - 1) := by
  unfold stL
  rw [if_pos h2, show min (i - 1) 8 = i - 1 from by omega]
theorem stL_end (l ws : List Int) (i : Nat) (h : 9 ≤ i) : stL l ws i = putW ws (base8 l) 8 := by
  unfold stL
  rw [if_pos (by omega), show min (i - 1) 8 = 8 from by omega]
/-- A step of the update, on the bank that is written. -/
theorem upd_step (L : Nat → Int → Int → Int → List Int → Int → Option (Int × Int × List Int × Int × Int × List Int × Int × Bool)) (ver : Int) (ws : List Int) (n : Int) (m M : Nat) (a v : Int) (l : List Int) (s sum : Int) (hw : ws.length = 8) (hm : m ≤ 11) (hM : 20 ≤ M)
    (hsum : ∀ k, 8 < k → impl_bankSum.f k ver ws = some sum)
    (hL : ∀ k (i : Int) a v l s, L (k + 1) i a v l s = if i < (m : Int) then (if i = 0 then L k (wrap64 (i + 1)) a 0 l s else (if i ≤ 8 then (if i = 1 then (if (l.length : Int) = 8 then (if 0 ≤ (wrap64 (i - 1)) then (if (wrap64 (i - 1)) < (ws.length : Int) then (if (wrap64 (i - 1)) < (l.length : Int) then L k (wrap64 (i + 1)) a v (l.set ((wrap64 (i - 1)) : Int).toNat (rd ws (wrap64 (i - 1)))) s else none) else none) else none) else (if 8 ≤ 35184372088832 then ((some (List.replicate 8 0 : List Int)).bind fun y => (if 0 ≤ (wrap64 (i - 1)) then (if (wrap64 (i - 1)) < (ws.length : Int) then (if (wrap64 (i - 1)) < (y.length : Int) then L k (wrap64 (i + 1)) a v (y.set ((wrap64 (i - 1)) : Int).toNat (rd ws (wrap64 (i - 1)))) s else none) else none) else none)) else none)) else (if 0 ≤ (wrap64 (i - 1)) then (if (wrap64 (i - 1)) < (ws.length : Int) then (if (wrap64 (i - 1)) < (l.length : Int) then L k (wrap64 (i + 1)) a v (l.set ((wrap64 (i - 1)) : Int).toNat (rd ws (wrap64 (i - 1)))) s else none) else none) else none)) else (if i = 9 then ((impl_bankSum.f k ver ws).bind fun t => L k (wrap64 (i + 1)) a ver l t) else L k (wrap64 (i + 1)) n v l s))) else L (k + 1) i a v l s)
    (k i : Nat) (hi : i < m) :
    L (k + M + 1) (i : Int) (stA a n i) (stV v ver i) (stL l ws i) (stS s sum i) = L (k + M) ((i + 1 : Nat) : Int) (stA a n (i + 1)) (stV v ver (i + 1)) (stL l ws (i + 1)) (stS s sum (i + 1)) := by
  have hi11 : i < 11 := by omega
  have w1 : wrap64 ((i : Int) + 1) = ((i + 1 : Nat) : Int) := wrap_next hi11 (by decide)
  have c0 : (i : Int) < (m : Int) := by clear w1; omega
  rw [hL (k + M)]
  refine uthen c0 ?_
  rw [w1]
  clear c0
  by_cases h0 : i = 0
  · subst h0
    exact uthen rfl rfl
  have n0 : ¬ (i : Int) = 0 := by clear w1; omega
  refine uelse n0 ?_
  by_cases h8 : i ≤ 8
  · have c8 : (i : Int) ≤ 8 := by clear w1; omega
    refine uthen c8 ?_
    have w2 : wrap64 ((i : Int) - 1) = ((i - 1 : Nat) : Int) := by
      clear w1
      have x1 : -9223372036854775808 ≤ (i : Int) - 1 := by omega
      have x2 : (i : Int) - 1 ≤ 9223372036854775807 := by omega
      rw [wrap_in x1 x2]
      omega
    have d1 : 0 ≤ ((i - 1 : Nat) : Int) := by clear w1 w2; omega
    have d2 : ((i - 1 : Nat) : Int) < (ws.length : Int) := by clear w1 w2; omega
    have er : rd ws ((i - 1 : Nat) : Int) = ws.getD (i - 1) 0 := rfl
    have eA : stA a n (i + 1) = stA a n i := by
      unfold stA
      rw [if_neg (by clear w1 w2; omega), if_neg (by clear w1 w2; omega)]
    have eV : stV v ver (i + 1) = stV v ver i := by
      unfold stV
      rw [if_neg (by clear w1 w2; omega), if_pos (by clear w1 w2; omega), if_neg (by clear w1 w2; omega), if_pos (by clear w1 w2; omega)]
    have eS : stS s sum (i + 1) = stS s sum i := by
      unfold stS
      rw [if_neg (by clear w1 w2; omega), if_neg (by clear w1 w2; omega)]
    have eL : stL l ws (i + 1) = (putW ws (base8 l) (i - 1)).set (i - 1) (ws.getD (i - 1) 0) := by
      rw [stL_mid _ _ _ (by clear w1 w2; omega) (by clear w1 w2; omega)]
      obtain ⟨j, rfl⟩ : ∃ j, i = j + 1 := ⟨i - 1, by clear w1 w2; omega⟩
      rfl
    rw [eA, eV, eS, eL, w2, er, Int.toNat_natCast]
    by_cases h1 : i = 1
    · subst h1
      refine uthen rfl ?_
      by_cases hl : l.length = 8
      · have hb : base8 l = l := by unfold base8; rw [if_pos hl]
        have d3 : ((1 - 1 : Nat) : Int) < ((stL l ws 1).length : Int) := by
          show ((0 : Nat) : Int) < (l.length : Int)
          clear w1 w2
          omega
        refine uthen (show ((stL l ws 1).length : Int) = 8 from by show (l.length : Int) = 8; clear w1 w2; omega) (uthen d1 (uthen d2 (uthen d3 ?_)))
        rw [hb]
        rfl
      · have hb : base8 l = List.replicate 8 0 := by unfold base8; rw [if_neg hl]
        refine uelse (show ¬ ((stL l ws 1).length : Int) = 8 from by show ¬ (l.length : Int) = 8; clear w1 w2; omega) (uthen (by decide) (ubind rfl (uthen d1 (uthen d2 (uthen (by rw [List.length_replicate]; decide) ?_)))))
        rw [hb]
        rfl
    · have n1 : ¬ (i : Int) = 1 := by clear w1 w2; omega
      have hp : stL l ws i = putW ws (base8 l) (i - 1) := stL_mid _ _ _ (by clear w1 w2; omega) (by clear w1 w2; omega)
      have d3 : ((i - 1 : Nat) : Int) < ((putW ws (base8 l) (i - 1)).length : Int) := by
        rw [putW_length, base8_length]
        clear w1 w2
        omega
      rw [hp]
      exact uelse n1 (uthen d1 (uthen d2 (uthen d3 rfl)))
  · have n8 : ¬ (i : Int) ≤ 8 := by clear w1; omega
    refine uelse n8 ?_
    have eL : stL l ws (i + 1) = stL l ws i := by
      rw [stL_end _ _ _ (by clear w1; omega), stL_end _ _ _ (by clear w1; omega)]
    rw [eL]
    by_cases h9 : i = 9
    · subst h9
      exact uthen rfl (ubind (hsum _ (by clear w1; omega)) rfl)
    · have n9 : ¬ (i : Int) = 9 := by clear w1; omega
      obtain rfl : i = 10 := by clear w1; omega
      exact uelse n9 rfl
theorem copies_f (a v1 : Int) (l1 : List Int) (s1 v2 : Int) (l2 : List Int) (s2 : Int) (h1 : l1.length ≤ 1048576) (h2 : l2.length ≤ 1048576) : impl_copyBanks.f a v1 l1 s1 v2 l2 s2 = some (a, v1, l1, s1, v2, l2, s2) := by
  unfold impl_copyBanks.f
  exact ubind (clone_f l1 (by omega)) (ubind (clone_f l2 (by omega)) rfl)
theorem impl_loopA (ver : Int) (ws : List Int) (n : Int) (m : Nat) (a v : Int) (l : List Int) (s sum v2 : Int) (l2 : List Int) (s2 : Int) (hw : ws.length = 8) (hm : m ≤ 11) (hsum : ∀ k, 8 < k → impl_bankSum.f k ver ws = some sum) (k : Nat) (hk : 40 < k) :
    impl_UpdateSome.l0 k ver ws n (m : Int) 0 a v l s v2 l2 s2 = some (stA a n m, stV v ver m, stL l ws m, stS s sum m, v2, l2, s2, true) := by
  obtain ⟨q, rfl⟩ : ∃ q, k = q + 20 := ⟨k - 20, by omega⟩
  refine loop_up m (fun k (z : Int × Int × Int × List Int × Int) => impl_UpdateSome.l0 (k + 20) ver ws n (m : Int) z.1 z.2.1 z.2.2.1 z.2.2.2.1 z.2.2.2.2 v2 l2 s2) (fun i => ((i : Int), stA a n i, stV v ver i, stL l ws i, stS s sum i)) _ (fun k i hi => ?_) (fun k => ?_) q (by omega)
  · rw [show k + 1 + 20 = k + 20 + 1 from by omega]
    exact upd_step (fun k i a v l s => impl_UpdateSome.l0 k ver ws n (m : Int) i a v l s v2 l2 s2) ver ws n m 20 a v l s sum hw hm (by omega) hsum (fun k i a v l s => by
      by_cases h : i < (m : Int)
      · rw [if_pos h]
        simp only [impl_UpdateSome.l0]
        rw [if_pos h]
      · rw [if_neg h]) k i hi
  · rw [show k + 1 + 20 = k + 20 + 1 from by omega]
    generalize k + 20 = z
    dsimp only
    simp only [impl_UpdateSome.l0]
    rw [if_neg (Int.lt_irrefl _)]
theorem impl_loopB (ver : Int) (ws : List Int) (n : Int) (m : Nat) (a v : Int) (l : List Int) (s sum v1 : Int) (l1 : List Int) (s1 : Int) (hw : ws.length = 8) (hm : m ≤ 11) (hsum : ∀ k, 8 < k → impl_bankSum.f k ver ws = some sum) (k : Nat) (hk : 40 < k) :
    impl_UpdateSome.l100 k ver ws n (m : Int) 0 a v1 l1 s1 v l s = some (stA a n m, v1, l1, s1, stV v ver m, stL l ws m, stS s sum m, true) := by
  obtain ⟨q, rfl⟩ : ∃ q, k = q + 20 := ⟨k - 20, by omega⟩
  refine loop_up m (fun k (z : Int × Int × Int × List Int × Int) => impl_UpdateSome.l100 (k + 20) ver ws n (m : Int) z.1 z.2.1 v1 l1 s1 z.2.2.1 z.2.2.2.1 z.2.2.2.2) (fun i => ((i : Int), stA a n i, stV v ver i, stL l ws i, stS s sum i)) _ (fun k i hi => ?_) (fun k => ?_) q (by omega)
  · rw [show k + 1 + 20 = k + 20 + 1 from by omega]
    exact upd_step (fun k i a v l s => impl_UpdateSome.l100 k ver ws n (m : Int) i a v1 l1 s1 v l s) ver ws n m 20 a v l s sum hw hm (by omega) hsum (fun k i a v l s => by
      by_cases h : i < (m : Int)
      · rw [if_pos h]
        simp only [impl_UpdateSome.l100]
        rw [if_pos h]
      · rw [if_neg h]) k i hi
  · rw [show k + 1 + 20 = k + 20 + 1 from by omega]
    generalize k + 20 = z
    dsimp only
    simp only [impl_UpdateSome.l100]
    rw [if_neg (Int.lt_irrefl _)]
theorem mn_min (c : Int) (h : 0 ≤ c) : mn c 11 = (((min c 11).toNat : Nat) : Int) := by
  unfold mn
  split <;> omega
theorem same_f (l : List Int) (hl : l.length ≤ 1048576) (k : Nat) (hk : l.length < k) : laws_sameInts.f k l l = some true := by
  unfold laws_sameInts.f
  rw [if_pos rfl]
  refine loop_up l.length (fun k (s : Int) => laws_sameInts.l0 k l l s) (fun i => (i : Int)) _ (fun k i hi => ?_) (fun k => ?_) k hk
  · simp only [laws_sameInts.l0, ↓reduceIte]
    rw [if_pos (by omega), if_pos (by omega), if_pos (by omega), wrap_next hi (by omega)]
  · simp only [laws_sameInts.l0]
    rw [if_neg (by omega)]
/-- All words written over are the new words. -/
theorem putW_all (ws g : List Int) (hw : ws.length = 8) (hg : g.length = 8) : putW ws g 8 = ws := by
  have key : ∀ n j, n ≤ 8 → j < n → (putW ws g n).getD j 0 = ws.getD j 0 := by
    intro n
    induction n with
    | zero => intro j _ h; exact absurd h (Nat.not_lt_zero j)
    | succ n ih =>
      intro j hn hj
      show ((putW ws g n).set n (ws.getD n 0)).getD j 0 = _
      rw [getD_put _ _ _ _ _ (by rw [putW_length]; omega)]
      by_cases h : n = j
      · rw [if_pos h, h]
      · rw [if_neg h]
        exact ih j (by omega) (by omega)
  refine List.ext_getElem (by rw [putW_length]; omega) (fun j h1 h2 => ?_)
  have := key 8 j (Nat.le_refl _) (by omega)
  rwa [getD_lt h1, getD_lt h2] at this
theorem active_A (v1 : Int) (l1 : List Int) (s1 v2 : Int) (l2 : List Int) (s2 : Int) (h1 : l1.length ≤ 100) (h2 : l2.length ≤ 100) (k : Nat) (hb : impl_BankOk.f k v1 l1 s1 = some true) : impl_ActiveBank.f k 0 v1 l1 s1 v2 l2 s2 = some (v1, l1, s1, true) := by
  have e4 : inB 0 0 1 = true := by decide
  have eb : impl_BanksOk.f k 0 v1 l1 s1 v2 l2 s2 = some true := by
    unfold impl_BanksOk.f
    exact bind_of (within_f 0 0 1) (if_then e4 (if_then rfl (bind_of hb rfl)))
  unfold impl_ActiveBank.f
  exact bind_of eb (if_then rfl (bind_of (copies_f 0 v1 l1 s1 v2 l2 s2 (by omega) (by omega)) (if_then rfl rfl)))
theorem active_B (v1 : Int) (l1 : List Int) (s1 v2 : Int) (l2 : List Int) (s2 : Int) (h1 : l1.length ≤ 100) (h2 : l2.length ≤ 100) (k : Nat) (hb : impl_BankOk.f k v2 l2 s2 = some true) : impl_ActiveBank.f k 1 v1 l1 s1 v2 l2 s2 = some (v2, l2, s2, true) := by
  have e4 : inB 1 0 1 = true := by decide
  have eb : impl_BanksOk.f k 1 v1 l1 s1 v2 l2 s2 = some true := by
    unfold impl_BanksOk.f
    exact bind_of (within_f 1 0 1) (if_then e4 (if_else (by decide) (bind_of hb rfl)))
  unfold impl_ActiveBank.f
  exact bind_of eb (if_then rfl (bind_of (copies_f 1 v1 l1 s1 v2 l2 s2 (by omega) (by omega)) (if_else (by decide) rfl)))
theorem words_good (ws : List Int) (h : goodW ws) (k : Nat) (hk : 8 < k) : impl_areBankWords.f k ws = some true := by
  have e1 := implValues_f ws (by have := h.1; omega) k (by have := h.1; omega)
  rw [allV_of ws (fun j => by have := h.2 j; omega)] at e1
  unfold impl_areBankWords.f
  exact if_then (by have := h.1; omega) (bind_of e1 rfl)
theorem steps_good (a v1 : Int) (l1 : List Int) (s1 v2 : Int) (l2 : List Int) (s2 v : Int) (ws : List Int) (h : goodX a v1 l1 s1 v2 l2 s2) (hw : goodW ws) (h0 : a = 0 → v1 < v ∧ v ≤ v1 + 9) (h1 : a = 1 → v2 < v ∧ v ≤ v2 + 9) (k : Nat) (hk : 8 < k) : impl_UpdateSteps.f k a v1 l1 s1 v2 l2 s2 v ws = some (11, true) := by
  unfold impl_UpdateSteps.f
  refine bind_of (banksOk_good a v1 l1 s1 v2 l2 s2 h k hk) (if_then rfl ?_)
  have hin : ∀ u : Int, 1 ≤ u → u ≤ 20 → u < v → v ≤ u + 9 → impl_within.f v (wrap64 (u + 1)) 1000 = some true := by
    intro u q1 q2 q3 q4
    have x1 : -9223372036854775808 ≤ u + 1 := by omega
    have x2 : u + 1 ≤ 9223372036854775807 := by omega
    have x3 : inB v (u + 1) 1000 = true := by
      unfold inB
      rw [Bool.and_eq_true, decide_eq_true_eq, decide_eq_true_eq]
      omega
    rw [wrap_in x1 x2, within_f, x3]
  rcases h.1 with ⟨ha, hb⟩ | ⟨ha, hb⟩
  · have hv := h0 ha
    exact if_then ha (bind_of (hin v1 hb.1 hb.2.1 hv.1 hv.2) (if_then rfl (bind_of (words_good ws hw k hk) (if_then rfl rfl))))
  · have hv := h1 ha
    exact if_else (by omega) (bind_of (hin v2 hb.1 hb.2.1 hv.1 hv.2) (if_then rfl (bind_of (words_good ws hw k hk) (if_then rfl rfl))))
theorem FnUpdates : laws_FnUpdates.Pure := by
  intro c hc
  refine ⟨c.length + 100 + 1, ?_⟩
  unfold laws_FnUpdates.f
  refine bind_of (big_f c) ?_
  by_cases hb : decide ((c.length : Int) > 1048576) = true
  · exact if_then hb rfl
  refine if_else hb ?_
  rw [decide_eq_true_eq] at hb
  have hc1 : c.length ≤ 1048576 := by omega
  clear hb hc
  obtain ⟨K, hK⟩ : ∃ K, K = c.length + 100 := ⟨_, rfl⟩
  rw [← hK]
  have hk1 : c.length + 30 < K + 1 := by omega
  have hk2 : 8 < K := by omega
  have hk3 : c.length + 12 < K + 1 := by omega
  have hk4 : 40 < K := by omega
  clear hK
  obtain ⟨a, v1, l1, s1, v2, l2, s2, ver, ws, e1, hx, hws, hv0, hv1⟩ := drawUpdate_f c hc1 (K + 1) hk1
  obtain ⟨p, e2, hp, hpj⟩ := drawPlaces_f c hc1 (K + 1) hk3
  have hsteps := steps_good a v1 l1 s1 v2 l2 s2 ver ws hx hws hv0 hv1 (K + 1) (by omega)
  have n2 : 0 < (p.length : Int) := by omega
  have p0 := hpj 0 (by omega)
  have r0 : rd p 0 = p.getD 0 0 := rfl
  generalize p.getD 0 0 = q0 at p0 r0
  obtain ⟨n, hn, hn0, hn14⟩ : ∃ n : Int, n = Int.tmod (rd p 0) 14 ∧ 0 ≤ n ∧ n < 14 := by
    rw [r0]
    exact ⟨_, rfl, Int.tmod_nonneg (a := q0) 14 p0.1, Int.tmod_lt_of_pos q0 (show (0 : Int) < 14 from by decide)⟩
  have hw8 := hws.1
  have hsum : ∀ k, 8 < k → impl_bankSum.f k ver ws = some (mod65 (sumW ver ws 8)) := fun k hk => by
    have := implSum_f ver ws (by omega) k (by omega)
    rwa [hw8] at this
  have hlens := hx.2
  obtain ⟨m, hm⟩ : ∃ m, m = (min n 11).toNat := ⟨_, rfl⟩
  have hm11 : m ≤ 11 := by omega
  have hmn := mn_min n hn0
  rw [← hm] at hmn
  have hl1 := stL_length l1 ws m
  have hl2 := stL_length l2 ws m
  have hnot : decide (n < 0) = false := decide_eq_false (by omega)
  have newBank : 2 ≤ ver → ver ≤ 29 → ∀ k, 8 < k → impl_BankOk.f k ver ws (mod65 (sumW ver ws 8)) = some true := fun q1 q2 k hk => by
    rw [bankOk_f ver ws _ ⟨by omega, by omega⟩ hw8 (fun j => by have := hws.2 j; omega) k hk, beq_self_eq_true]
  rcases hx.1 with ⟨ha, hgb⟩ | ⟨ha, hgb⟩
  · subst ha
    have hv := hv0 rfl
    have hg1 := hgb.1
    have hg2 := hgb.2.1
    have hold := active_A v1 l1 s1 v2 l2 s2 (by omega) (by omega) (K + 1) (bankOk_good v1 l1 s1 hgb (K + 1) (by omega))
    have w1 : wrap64 ((1 : Int) - 0) = 1 := wrap_in (x := (1 : Int) - 0) (by decide) (by decide)
    have hsome : impl_UpdateSome.f (K + 1) 0 v1 l1 s1 v2 l2 s2 ver ws n = some (stA 0 1 m, v1, l1, s1, stV v2 ver m, stL l2 ws m, stS s2 (mod65 (sumW ver ws 8)) m, true) := by
      have ei := impl_loopB ver ws 1 m 0 v2 l2 s2 (mod65 (sumW ver ws 8)) v1 l1 s1 hw8 hm11 hsum K hk4
      unfold impl_UpdateSome.f
      refine bind_of (copies_f 0 v1 l1 s1 v2 l2 s2 (by omega) (by omega)) (bind_of hsteps (if_then rfl ?_))
      simp only [impl_UpdateSome.j0]
      rw [hnot, w1, hmn]
      exact if_else (by decide) (if_else (by decide) ei)
    refine bind_of e1 (bind_of e2 (if_then n2 (bind_of hold (bind_of hsteps ?_))))
    dsimp only
    rw [← hn]
    refine bind_of hsome ?_
    by_cases h11 : n ≥ 11
    · have hm' : m = 11 := by omega
      subst hm'
      have eL : stL l2 ws 11 = ws := by
        rw [stL_end _ _ _ (by omega), putW_all ws _ hw8 (base8_length l2)]
      have eA : stA 0 1 11 = 1 := rfl
      have eV : stV v2 ver 11 = ver := rfl
      have eS : stS s2 (mod65 (sumW ver ws 8)) 11 = mod65 (sumW ver ws 8) := rfl
      have hnow := active_B v1 l1 s1 ver ws (mod65 (sumW ver ws 8)) (by omega) (by omega) (K + 1) (newBank (by omega) (by omega) (K + 1) (by omega))
      rw [eL, eA, eV, eS]
      refine bind_of hnow (if_then rfl (if_then rfl (if_then rfl ?_)))
      simp only [laws_FnUpdates.j0]
      refine if_else (by decide) (if_then h11 (if_then trivial (bind_of (same_f ws (by omega) K (by omega)) (if_then rfl ?_))))
      rw [w1]
      rfl
    · have hm' : ¬ m ≥ 11 := by omega
      have eA : stA 0 1 m = 0 := by unfold stA; rw [if_neg hm']
      have hnow := active_A v1 l1 s1 (stV v2 ver m) (stL l2 ws m) (stS s2 (mod65 (sumW ver ws 8)) m) (by omega) (by omega) (K + 1) (bankOk_good v1 l1 s1 hgb (K + 1) (by omega))
      rw [eA]
      refine bind_of hnow (if_then rfl (if_then rfl (if_then rfl ?_)))
      simp only [laws_FnUpdates.j0]
      exact if_else (by decide) (if_else h11 (if_then trivial (bind_of (same_f l1 (by omega) K (by omega)) (if_then rfl rfl))))
  · subst ha
    have hv := hv1 rfl
    have hg1 := hgb.1
    have hg2 := hgb.2.1
    have hold := active_B v1 l1 s1 v2 l2 s2 (by omega) (by omega) (K + 1) (bankOk_good v2 l2 s2 hgb (K + 1) (by omega))
    have w1 : wrap64 ((1 : Int) - 1) = 0 := wrap_in (x := (1 : Int) - 1) (by decide) (by decide)
    have hsome : impl_UpdateSome.f (K + 1) 1 v1 l1 s1 v2 l2 s2 ver ws n = some (stA 1 0 m, stV v1 ver m, stL l1 ws m, stS s1 (mod65 (sumW ver ws 8)) m, v2, l2, s2, true) := by
      have ei := impl_loopA ver ws 0 m 1 v1 l1 s1 (mod65 (sumW ver ws 8)) v2 l2 s2 hw8 hm11 hsum K hk4
      unfold impl_UpdateSome.f
      refine bind_of (copies_f 1 v1 l1 s1 v2 l2 s2 (by omega) (by omega)) (bind_of hsteps (if_then rfl ?_))
      simp only [impl_UpdateSome.j0]
      rw [hnot, w1, hmn]
      exact if_else (by decide) (if_then rfl ei)
    refine bind_of e1 (bind_of e2 (if_then n2 (bind_of hold (bind_of hsteps ?_))))
    dsimp only
    rw [← hn]
    refine bind_of hsome ?_
    by_cases h11 : n ≥ 11
    · have hm' : m = 11 := by omega
      subst hm'
      have eL : stL l1 ws 11 = ws := by
        rw [stL_end _ _ _ (by omega), putW_all ws _ hw8 (base8_length l1)]
      have eA : stA 1 0 11 = 0 := rfl
      have eV : stV v1 ver 11 = ver := rfl
      have eS : stS s1 (mod65 (sumW ver ws 8)) 11 = mod65 (sumW ver ws 8) := rfl
      have hnow := active_A ver ws (mod65 (sumW ver ws 8)) v2 l2 s2 (by omega) (by omega) (K + 1) (newBank (by omega) (by omega) (K + 1) (by omega))
      rw [eL, eA, eV, eS]
      refine bind_of hnow (if_then rfl (if_then rfl (if_then rfl ?_)))
      simp only [laws_FnUpdates.j0]
      refine if_else (by decide) (if_then h11 (if_then trivial (bind_of (same_f ws (by omega) K (by omega)) (if_then rfl ?_))))
      rw [w1]
      rfl
    · have hm' : ¬ m ≥ 11 := by omega
      have eA : stA 1 0 m = 1 := by unfold stA; rw [if_neg hm']
      have hnow := active_B (stV v1 ver m) (stL l1 ws m) (stS s1 (mod65 (sumW ver ws 8)) m) v2 l2 s2 (by omega) (by omega) (K + 1) (bankOk_good v2 l2 s2 hgb (K + 1) (by omega))
      rw [eA]
      refine bind_of hnow (if_then rfl (if_then rfl (if_then rfl ?_)))
      simp only [laws_FnUpdates.j0]
      exact if_else (by decide) (if_else h11 (if_then trivial (bind_of (same_f l2 (by omega) K (by omega)) (if_then rfl rfl))))

end Go.Proofs.Ytefbmfgifjphfaa.Pure
