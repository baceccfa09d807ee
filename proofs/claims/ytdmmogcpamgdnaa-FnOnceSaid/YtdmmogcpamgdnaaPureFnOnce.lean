/- The law FnOnce in plain lists: a packet that arrives twice has no further effect, and only the next value is accepted. Conditions: none beside those of the row. -/
import Derived.Test.YtdmmogcpamgdnaaHelpFnOnce
namespace Go.Proofs.Ytdmmogcpamgdnaa.Pure
open Go.RowKit Go.Proofs.Ytdmmogcpamgdnaa.PFnOnce Go.Proofs.Ytdmmogcpamgdnaa.XPure Go.Proofs.Ytdmmogcpamgdnaa.PureFnOnce Go.Proofs.YtdmmogcpamgdnaaW.PrintWords Go.Proofs.YtdmmogcpamgdnaaW.PrintLast Go.Proofs.YtdmmogcpamgdnaaW.PrintMore
set_option linter.unusedSimpArgs false
set_option linter.unusedVariables false

theorem getD_left {α : Type} (g : List α) (x z : α) {i : Nat} (h : i < g.length) : (g ++ [x]).getD i z = g.getD i z := by
  rw [List.getD_eq_getElem?_getD, List.getElem?_append_left h, ← List.getD_eq_getElem?_getD]
theorem getD_end {α : Type} (g : List α) (x z : α) : (g ++ [x]).getD g.length z = x := by
  rw [List.getD_eq_getElem?_getD, List.getElem?_append_right (Nat.le_refl _), Nat.sub_self]
  rfl
theorem getD_put {α : Type} (l : List α) (i j : Nat) (x z : α) (hi : i < l.length) : (l.set i x).getD j z = if i = j then x else l.getD j z := by
  rw [List.getD_eq_getElem?_getD, List.getElem?_set]
  by_cases h : i = j
  · rw [if_pos h, if_pos h, if_pos hi]
    rfl
  · rw [if_neg h, if_neg h, ← List.getD_eq_getElem?_getD]
/-- Valid variables. -/
def okV (l : List Int) : Bool := endsAt (fun i => inB (l.getD i 0) (-1000000) 1000000) (fun _ => false) ((l.length : Int) == 8) l.length 0
theorem okV_len {l : List Int} (h : okV l = true) : l.length = 8 := by
  unfold okV at h
  rw [endsAt_last, Bool.and_eq_true, beq_iff_eq] at h
  omega
theorem specVars_f (l : List Int) (hl : l.length ≤ 1048576) (k : Nat) (hk : l.length < k) : spec_VarsOk.f k l = some (okV l) := by
  unfold spec_VarsOk.f
  refine loop_ends l.length (fun k (s : Int) => spec_VarsOk.l0 k l s) (fun i => (i : Int)) _ _ _ (fun k i hi hc => ?_) (fun k i hi hc => ?_) (fun k => ?_) k hk
  · simp only [spec_VarsOk.l0, rd_nat, specIsValue_f, hc, Option.bind_some, ↓reduceIte]
    rw [if_pos (by omega), if_pos (by omega), wrap_next hi (by omega)]
  · simp only [spec_VarsOk.l0, rd_nat, specIsValue_f, hc, Option.bind_some, Bool.false_eq_true, ↓reduceIte]
    rw [if_pos (by omega), if_pos (by omega)]
  · simp only [spec_VarsOk.l0]
    rw [if_neg (by omega)]
/-- One of a list. -/
theorem drawPick_g (c : List Int) (hc : c.length ≤ 1048576) (p s : Int) (h0 : 0 ≤ p) (l : List Int) (hl : 0 < l.length) : ∃ n p' s', n < l.length ∧ spec_l01PickInt.f c p s l = some (l.getD n 0, p', s') ∧ 0 ≤ p' := by
  obtain ⟨v, p', s', e, a1, a2, a3⟩ := drawBelow_f c hc p s h0 (l.length : Int) (by omega)
  simp only [spec_l01PickInt.f, e, Option.bind_some]
  rw [if_pos a1, if_pos a2]
  obtain ⟨n, rfl⟩ : ∃ n : Nat, v = (n : Int) := ⟨v.toNat, by omega⟩
  exact ⟨n, p', s', by omega, by rw [rd_nat], a3⟩
theorem drawVars_g (c : List Int) (hc : c.length ≤ 1048576) (k : Nat) (p s : Int) (h0 : 0 ≤ p) (hk : 9 < k) : ∃ (v : List Int) (p' s' : Int), spec_l03Vars.f k c p s = some (v, p', s') ∧ okV v = true ∧ 0 ≤ p' := by
  have key : ∀ d i k (g : List Int) (p s : Int), 8 - i = d → i ≤ 8 → d < k → 0 ≤ p → g.length = i → (∀ j, j < i → -1000000 ≤ g.getD j 0 ∧ g.getD j 0 ≤ 1000000) → ∃ (r : List Int) (p' s' : Int), spec_l03Vars.l0 k g (i : Int) c p s = some (r, p', s') ∧ 0 ≤ p' ∧ r.length = 8 ∧ ∀ j, j < 8 → -1000000 ≤ r.getD j 0 ∧ r.getD j 0 ≤ 1000000 := by
    intro d
    induction d with
    | zero =>
      intro i k g p s h1 h2 h3 h4 h5 h6
      obtain ⟨q, rfl⟩ : ∃ q, k = q + 1 := ⟨k - 1, by omega⟩
      simp only [spec_l03Vars.l0]
      rw [if_neg (by omega)]
      exact ⟨g, _, _, rfl, h4, by omega, fun j hj => h6 j (by omega)⟩
    | succ d ih =>
      intro i k g p s h1 h2 h3 h4 h5 h6
      obtain ⟨q, rfl⟩ : ∃ q, k = q + 1 := ⟨k - 1, by omega⟩
      obtain ⟨v, p', s', e, a1, a2, a3⟩ := drawBelow_f c hc p s h4 2000 (by decide)
      have hw : wrap64 (v - 1000) = v - 1000 := wrap_in (by omega) (by omega)
      obtain ⟨n, p2, s2, hn, e2, b3⟩ := drawPick_g c hc p' s' a3 [0, 1, 2, 5, wrap64 (v - 1000), 1000000] (show 0 < 6 from by decide)
      simp only [spec_l03Vars.l0, e, e2, Option.bind_some]
      rw [if_pos (by omega), if_pos (by omega), wrap_next (n := 8) (by omega) (by omega)]
      have hb : -1000000 ≤ ([0, 1, 2, 5, wrap64 (v - 1000), 1000000] : List Int).getD n 0 ∧ ([0, 1, 2, 5, wrap64 (v - 1000), 1000000] : List Int).getD n 0 ≤ 1000000 := by
        rw [hw]
        have hn6 : n < 6 := hn
        have : n = 0 ∨ n = 1 ∨ n = 2 ∨ n = 3 ∨ n = 4 ∨ n = 5 := by omega
        rcases this with rfl | rfl | rfl | rfl | rfl | rfl <;> simp only [List.getD_cons_zero, List.getD_cons_succ] <;> omega
      generalize ([0, 1, 2, 5, wrap64 (v - 1000), 1000000] : List Int).getD n 0 = x at hb
      refine ih (i + 1) q _ _ _ (by omega) (by omega) (by omega) b3 (by simp [h5]) (fun j hj => ?_)
      rcases Nat.lt_succ_iff_lt_or_eq.1 hj with h | h
      · rw [getD_left _ _ _ (by omega)]
        exact h6 j h
      · rw [h, ← h5, getD_end]
        exact hb
  obtain ⟨r, p', s', e, hp', h1, h2⟩ := key 8 0 k [] p s rfl (by omega) (by omega) h0 rfl (fun j hj => absurd hj (Nat.not_lt_zero j))
  refine ⟨r, p', s', e, ?_, hp'⟩
  unfold okV
  rw [endsAt_last, Bool.and_eq_true, endsAt_true, beq_iff_eq]
  refine ⟨fun j _ hj => ?_, by omega⟩
  have := h2 j (by omega)
  simp only [inB, Bool.and_eq_true, decide_eq_true_eq]
  omega
theorem drawBelow_z (c : List Int) (hc : c.length ≤ 1048576) (p s : Int) (h0 : 0 ≤ p) (n : Int) : ∃ v p' s', spec_l01Below.f c p s n = some (v, p', s') ∧ 0 ≤ v ∧ 0 ≤ p' := by
  by_cases h : 0 < n
  · obtain ⟨v, p', s', e, a1, _, a3⟩ := drawBelow_f c hc p s h0 n h
    exact ⟨v, p', s', e, a1, a3⟩
  · refine ⟨0, p, s, ?_, Int.le_refl _, h0⟩
    unfold spec_l01Below.f
    rw [if_pos (by omega)]
theorem drawOperand_g (c : List Int) (hc : c.length ≤ 1048576) (p s : Int) (h0 : 0 ≤ p) : ∃ v p' s', spec_l03Operand.f c p s = some (v, p', s') ∧ 0 ≤ p' := by
  obtain ⟨v, p', s', e, a1, a2, a3⟩ := drawBelow_f c hc p s h0 2 (by decide)
  obtain ⟨v2, p2, s2, e2, b1, b2, b3⟩ := drawBelow_f c hc p' s' a3 5 (by decide)
  obtain ⟨n, p3, s3, hn, e3, c3⟩ := drawPick_g c hc p' s' a3 [0, 1, 2, 3, 10, 999] (by decide)
  simp only [spec_l03Operand.f, spec_l01Once.f, e, e2, e3, Option.bind_some]
  by_cases h : (v == 0) = true
  · rw [if_pos h]
    exact ⟨_, _, _, rfl, b3⟩
  · rw [if_neg h]
    exact ⟨_, _, _, rfl, c3⟩
theorem drawExpr_g (c : List Int) (hc : c.length ≤ 1048576) (p s : Int) (h0 : 0 ≤ p) : ∃ x y z p' s', spec_l03Expr.f c p s = some (x, y, z, p', s') ∧ 0 ≤ p' := by
  obtain ⟨v, p', s', e, a1, a2, a3⟩ := drawBelow_f c hc p s h0 7 (by decide)
  obtain ⟨y, p2, s2, e2, b2⟩ := drawOperand_g c hc p' s' a3
  obtain ⟨z, p3, s3, e3, c2⟩ := drawOperand_g c hc p2 s2 b2
  simp only [spec_l03Expr.f, e, e2, e3, Option.bind_some]
  exact ⟨_, _, _, _, _, rfl, c2⟩
theorem drawStmt_f (c : List Int) (hc : c.length ≤ 1048576) (k : Nat) (hk : 0 < k) (p s : Int) (h0 : 0 ≤ p) : ∃ a b x e1 e2 e3 p' s', spec_l04Stmt.f k c p s = some (a, b, x, e1, e2, e3, p', s') ∧ 0 ≤ p' := by
  obtain ⟨q, rfl⟩ : ∃ q, k = q + 1 := ⟨k - 1, by omega⟩
  obtain ⟨v, p1, s1, e, a1, a2, a3⟩ := drawBelow_f c hc p s h0 7 (by decide)
  have key : ∀ b : Bool, ∃ a b' x e1 e2 e3 p' s', spec_l04Stmt.j0 (q + 1) v b c p1 s1 = some (a, b', x, e1, e2, e3, p', s') ∧ 0 ≤ p' := by
    intro b
    obtain ⟨v2, p2, s2, f2, b1, b2, b3⟩ := drawBelow_f c hc p1 s1 a3 5 (by decide)
    obtain ⟨v3, p3, s3, f3, c1, c2, c3⟩ := drawBelow_f c hc p2 s2 b3 4 (by decide)
    obtain ⟨x, y, z, p4, s4, f4, d1⟩ := drawExpr_g c hc p1 s1 a3
    obtain ⟨x5, y5, z5, p5, s5, f5, g1⟩ := drawExpr_g c hc p2 s2 b3
    simp only [spec_l04Stmt.j0, f2, f3, f4, f5, Option.bind_some]
    cases b with
    | true =>
      rw [if_pos rfl]
      exact ⟨_, _, _, _, _, _, _, _, rfl, c3⟩
    | false =>
      rw [if_neg (by decide)]
      by_cases h : v = 2
      · rw [if_pos h]
        exact ⟨_, _, _, _, _, _, _, _, rfl, d1⟩
      · rw [if_neg h]
        exact ⟨_, _, _, _, _, _, _, _, rfl, g1⟩
  simp only [spec_l04Stmt.f, e, Option.bind_some]
  by_cases h : v = 0
  · rw [if_pos h]
    exact key _
  · rw [if_neg h]
    exact key _
/-- A block of statements, given its inner blocks. -/
theorem drawBlock_l (c : List Int) (hc : c.length ≤ 1048576) (count d : Int) (K B : Nat) (hB : B ≤ 1000) (hd : 0 ≤ d ∧ d ≤ 2)
    (hin : d < 2 → ∀ (k : Nat) (n p s : Int), K < k → 1 ≤ n → n ≤ 2 → 0 ≤ p → ∃ (l : List S139) (p' s' : Int), spec_l05Block.f k c p s n (wrap64 (d + 1)) = some (l, p', s') ∧ 0 ≤ p' ∧ l.length ≤ B) :
    ∀ (rem : Nat) (i : Int) (g : List S139) (p s : Int) (k : Nat), i + rem = count → 0 ≤ i → count ≤ 6 → 2 * rem + K + 3 < k → 0 ≤ p → g.length + rem * (B + 2) ≤ 100000 → ∃ (l : List S139) (p' s' : Int), spec_l05Block.l0 k count d g i c p s = some (l, p', s') ∧ 0 ≤ p' ∧ l.length ≤ g.length + rem * (B + 2) := by
  intro rem
  induction rem with
  | zero =>
    intro i g p s k h1 h2 h3 h4 h5 h6
    obtain ⟨q, rfl⟩ : ∃ q, k = q + 1 := ⟨k - 1, by omega⟩
    simp only [spec_l05Block.l0]
    rw [if_neg (by omega)]
    exact ⟨g, _, _, rfl, h5, by omega⟩
  | succ rem ih =>
    intro i g p s k h1 h2 h3 h4 h5 h6
    obtain ⟨q, rfl⟩ : ∃ q, k = q + 1 + 1 := ⟨k - 2, by omega⟩
    have hm : (rem + 1) * (B + 2) = rem * (B + 2) + (B + 2) := Nat.succ_mul _ _
    rw [hm] at h6
    have hi : wrap64 (i + 1) = i + 1 := wrap_in (by omega) (by omega)
    have hj : ∀ (b : Bool) (p s : Int), (b = true → d < 2) → 0 ≤ p → ∃ (l : List S139) (p' s' : Int), spec_l05Block.j1 (q + 1) count d g i b c p s = some (l, p', s') ∧ 0 ≤ p' ∧ l.length ≤ g.length + (rem + 1) * (B + 2) := by
      intro b p s hb h5
      rw [hm]
      obtain ⟨v, p1, s1, e1, a1, a2, a3⟩ := drawBelow_f c hc p s h5 3 (by decide)
      obtain ⟨v2, p2, s2, e2, b1, b2, b3⟩ := drawBelow_f c hc p1 s1 a3 2 (by decide)
      obtain ⟨x, y, z, p3, s3, e3, c3⟩ := drawExpr_g c hc p2 s2 b3
      obtain ⟨v4, p4, s4, e4, d1, d2, d3⟩ := drawBelow_f c hc p3 s3 c3 2 (by decide)
      obtain ⟨v5, p5, s5, e5, g1, g2, g3⟩ := drawBelow_f c hc p2 s2 b3 2 (by decide)
      obtain ⟨u1, u2, u3, u4, u5, u6, p6, s6, e6, f3⟩ := drawStmt_f c hc q (by omega) p s h5
      cases b with
      | false =>
        simp only [spec_l05Block.j1, e6, Option.bind_some, Bool.false_eq_true, ↓reduceIte, hi]
        rw [if_pos (by omega)]
        obtain ⟨l, p', s', e, r1, r2⟩ := ih (i + 1) (g ++ [(⟨u1, u2, u3, (⟨u4, u5, u6⟩ : S114)⟩ : S139)]) p6 s6 q (by omega) (by omega) h3 (by omega) f3 (by rw [List.length_append, List.length_singleton]; omega)
        rw [List.length_append, List.length_singleton] at r2
        exact ⟨l, p', s', e, r1, by omega⟩
      | true =>
        have hd2 := hb rfl
        have w1 : wrap64 (1 + v4) = 1 + v4 := wrap_in (by omega) (by omega)
        have w2 : wrap64 (1 + v5) = 1 + v5 := wrap_in (by omega) (by omega)
        obtain ⟨l7, p7, s7, e7, r7, t7⟩ := hin hd2 q (1 + v4) p4 s4 (by omega) (by omega) (by omega) d3
        obtain ⟨l8, p8, s8, e8, r8, t8⟩ := hin hd2 q (1 + v5) p5 s5 (by omega) (by omega) (by omega) g3
        simp only [spec_l05Block.j1, spec_l01Once.f, e1, e2, e3, e4, e5, w1, w2, e7, e8, Option.bind_some, ↓reduceIte, hi]
        by_cases ho : (v2 == 0) = true
        · rw [if_pos ho, if_pos (by omega), if_pos (by simp only [List.length_append, List.length_singleton]; omega), if_pos (by simp only [List.length_append, List.length_singleton]; omega)]
          obtain ⟨l, p', s', e, r1, r2⟩ := ih (i + 1) (g ++ [(⟨4, 0, 0, (⟨x, y, z⟩ : S114)⟩ : S139)] ++ l7 ++ [(⟨6, 0, 0, (⟨0, 0, 0⟩ : S114)⟩ : S139)]) p7 s7 q (by omega) (by omega) h3 (by omega) r7 (by simp only [List.length_append, List.length_singleton]; omega)
          simp only [List.length_append, List.length_singleton] at r2
          exact ⟨l, p', s', e, r1, by omega⟩
        · rw [if_neg ho, if_pos (by omega), if_pos (by simp only [List.length_append, List.length_singleton]; omega), if_pos (by simp only [List.length_append, List.length_singleton]; omega)]
          obtain ⟨l, p', s', e, r1, r2⟩ := ih (i + 1) (g ++ [(⟨5, 0, wrap64 (1 + v), (⟨0, 0, 0⟩ : S114)⟩ : S139)] ++ l8 ++ [(⟨6, 0, 0, (⟨0, 0, 0⟩ : S114)⟩ : S139)]) p8 s8 q (by omega) (by omega) h3 (by omega) r8 (by simp only [List.length_append, List.length_singleton]; omega)
          simp only [List.length_append, List.length_singleton] at r2
          exact ⟨l, p', s', e, r1, by omega⟩
    obtain ⟨v, p1, s1, e1, a1, a2, a3⟩ := drawBelow_f c hc p s h5 5 (by decide)
    simp only [spec_l05Block.l0, spec_l01Once.f, e1, Option.bind_some]
    rw [if_pos (by omega)]
    by_cases c1 : d < 2
    · rw [if_pos c1]
      by_cases c2 : (g.length : Int) < 6
      · rw [if_pos c2]
        exact hj _ _ _ (fun _ => c1) a3
      · rw [if_neg c2]
        exact hj _ _ _ (fun h => absurd h (by decide)) h5
    · rw [if_neg c1]
      exact hj _ _ _ (fun h => absurd h (by decide)) h5
theorem drawBlock_2 (c : List Int) (hc : c.length ≤ 1048576) (k : Nat) (n p s : Int) (hk : 10 < k) (h1 : 1 ≤ n) (h2 : n ≤ 2) (h0 : 0 ≤ p) : ∃ (l : List S139) (p' s' : Int), spec_l05Block.f k c p s n 2 = some (l, p', s') ∧ 0 ≤ p' ∧ l.length ≤ 4 := by
  obtain ⟨q, rfl⟩ : ∃ q, k = q + 1 := ⟨k - 1, by omega⟩
  obtain ⟨m, rfl⟩ : ∃ m : Nat, n = (m : Int) := ⟨n.toNat, by omega⟩
  obtain ⟨l, p', s', e, r1, r2⟩ := drawBlock_l c hc (m : Int) 2 0 0 (by omega) (by omega) (fun h => absurd h (by decide)) m 0 [] p s q (by omega) (by omega) (by omega) (by omega) h0 (by simp only [List.length_nil]; omega)
  simp only [List.length_nil] at r2
  refine ⟨l, p', s', ?_, r1, by omega⟩
  rw [← e]
  rfl
theorem drawBlock_1 (c : List Int) (hc : c.length ≤ 1048576) (k : Nat) (n p s : Int) (hk : 20 < k) (h1 : 1 ≤ n) (h2 : n ≤ 2) (h0 : 0 ≤ p) : ∃ (l : List S139) (p' s' : Int), spec_l05Block.f k c p s n 1 = some (l, p', s') ∧ 0 ≤ p' ∧ l.length ≤ 12 := by
  obtain ⟨q, rfl⟩ : ∃ q, k = q + 1 := ⟨k - 1, by omega⟩
  obtain ⟨m, rfl⟩ : ∃ m : Nat, n = (m : Int) := ⟨n.toNat, by omega⟩
  obtain ⟨l, p', s', e, r1, r2⟩ := drawBlock_l c hc (m : Int) 1 10 4 (by omega) (by omega) (fun _ k n p s a b d e => by rw [show wrap64 ((1 : Int) + 1) = 2 from wrap_in (by decide) (by decide)]; exact drawBlock_2 c hc k n p s a b d e) m 0 [] p s q (by omega) (by omega) (by omega) (by omega) h0 (by simp only [List.length_nil]; omega)
  simp only [List.length_nil] at r2
  refine ⟨l, p', s', ?_, r1, by omega⟩
  rw [← e]
  rfl
theorem drawBlock_0 (c : List Int) (hc : c.length ≤ 1048576) (k : Nat) (n p s : Int) (hk : 40 < k) (h1 : 0 ≤ n) (h2 : n ≤ 5) (h0 : 0 ≤ p) : ∃ (l : List S139) (p' s' : Int), spec_l05Block.f k c p s n 0 = some (l, p', s') ∧ 0 ≤ p' := by
  obtain ⟨q, rfl⟩ : ∃ q, k = q + 1 := ⟨k - 1, by omega⟩
  obtain ⟨m, rfl⟩ : ∃ m : Nat, n = (m : Int) := ⟨n.toNat, by omega⟩
  obtain ⟨l, p', s', e, r1, r2⟩ := drawBlock_l c hc (m : Int) 0 20 12 (by omega) (by omega) (fun _ k n p s a b d e => by rw [show wrap64 ((0 : Int) + 1) = 1 from wrap_in (by decide) (by decide)]; exact drawBlock_1 c hc k n p s a b d e) m 0 [] p s q (by omega) (by omega) (by omega) (by omega) h0 (by simp only [List.length_nil]; omega)
  refine ⟨l, p', s', ?_, r1⟩
  rw [← e]
  rfl
theorem drawProgram_f (c : List Int) (hc : c.length ≤ 1048576) (k : Nat) (p s : Int) (h0 : 0 ≤ p) (hk : 50 < k) : ∃ (P : List S117) (p' s' : Int), spec_l06Program.f k c p s = some (P, p', s') ∧ 0 ≤ p' := by
  have key : ∀ (d i k : Nat) (g : List S117) (p s : Int), 3 - i = d → i ≤ 3 → g.length = i → d + 45 < k → 0 ≤ p → ∃ (P : List S117) (p' s' : Int), spec_l06Program.l0 k (i : Int) c p s g = some (P, p', s') ∧ 0 ≤ p' := by
    intro d
    induction d with
    | zero =>
      intro i k g p s h1 h2 h3 h4 h5
      obtain ⟨q, rfl⟩ : ∃ q, k = q + 1 := ⟨k - 1, by omega⟩
      obtain ⟨v, p1, s1, e1, a1, a2, a3⟩ := drawBelow_f c hc p s h5 3 (by decide)
      simp only [spec_l06Program.l0, e1, Option.bind_some]
      rw [wrap_in (x := 1 + v) (by omega) (by omega), if_neg (by omega)]
      exact ⟨g, _, _, rfl, a3⟩
    | succ d ih =>
      intro i k g p s h1 h2 h3 h4 h5
      obtain ⟨q, rfl⟩ : ∃ q, k = q + 1 := ⟨k - 1, by omega⟩
      obtain ⟨v, p1, s1, e1, a1, a2, a3⟩ := drawBelow_f c hc p s h5 3 (by decide)
      obtain ⟨v2, p2, s2, e2, b1, b2, b3⟩ := drawBelow_f c hc p1 s1 a3 6 (by decide)
      obtain ⟨l, p3, s3, e3, c3⟩ := drawBlock_0 c hc q v2 p2 s2 (by omega) b1 (by omega) b3
      obtain ⟨x, y, z, p4, s4, e4, d4⟩ := drawExpr_g c hc p3 s3 c3
      simp only [spec_l06Program.l0, spec_l05Case.f, e1, e2, e3, e4, Option.bind_some]
      rw [wrap_in (x := 1 + v) (by omega) (by omega)]
      by_cases h : (i : Int) < 1 + v
      · rw [if_pos h, if_pos (by omega), wrap_next (n := 3) (by omega) (by omega)]
        exact ih (i + 1) q _ _ _ (by omega) (by omega) (by simp [h3]) (by omega) d4
      · rw [if_neg h]
        exact ⟨g, _, _, rfl, a3⟩
  exact key 3 0 k [] p s rfl (by omega) rfl (by omega) h0
theorem drawMem_1 (c : List Int) (hc : c.length ≤ 1048576) (P : List S117) : ∀ (d i n k : Nat) (v : Int) (g : List Int) (p s : Int), i + d = n → n ≤ 3 → v ≤ 4 → 0 ≤ v → g.length = 49 → d + 2 < k → 0 ≤ p → ∃ (m : List Int) (p' s' : Int), spec_l09Mem.l1 k g v (n : Int) (i : Int) c p s P = some (m, p', s') ∧ 0 ≤ p' ∧ m.getD 8 0 ≤ 9223372036854775807 := by
  intro d
  induction d with
  | zero =>
    intro i n k v g p s h1 h2 h3 h4 h5 h6 h7
    obtain ⟨q, rfl⟩ : ∃ q, k = q + 1 := ⟨k - 1, by omega⟩
    obtain ⟨v1, p1, s1, e1, a1, a3⟩ := drawBelow_z c hc p s h7 (P.length : Int)
    simp only [spec_l09Mem.l1, e1, specPack_f, Option.bind_some]
    rw [if_neg (by omega), if_pos (by omega)]
    refine ⟨_, _, _, rfl, a3, ?_⟩
    show (g.set 8 _).getD 8 0 ≤ _
    rw [getD_put _ _ _ _ _ (by omega), if_pos rfl]
    split <;> omega
  | succ d ih =>
    intro i n k v g p s h1 h2 h3 h4 h5 h6 h7
    obtain ⟨q, rfl⟩ : ∃ q, k = q + 1 := ⟨k - 1, by omega⟩
    have i3 : i < 3 := by omega
    have r1 : (i : Int) < (n : Int) := by omega
    have r2 : i + 1 + d = n := by omega
    have r3 : d + 2 < q := by omega
    have t1 : 0 ≤ 9 + 2 * (i : Int) := by omega
    have t2 : 9 + 2 * (i : Int) < (g.length : Int) := by omega
    have t3 : 0 ≤ 9 + 2 * (i : Int) + 1 := by omega
    have t4 : 9 + 2 * (i : Int) + 1 < (g.length : Int) := by omega
    have w1 : wrap64 (2 * (i : Int)) = 2 * (i : Int) := wrap_in (by omega) (by omega)
    have w2 : wrap64 (9 + 2 * (i : Int)) = 9 + 2 * (i : Int) := wrap_in (by omega) (by omega)
    have w3 : wrap64 (9 + 2 * (i : Int) + 1) = 9 + 2 * (i : Int) + 1 := wrap_in (by omega) (by omega)
    have w4 : wrap64 ((i : Int) + 1) = ((i + 1 : Nat) : Int) := wrap_next (n := 4) (by omega) (by omega)
    clear h1 i3 h6
    obtain ⟨v1, p1, s1, e1, a1, a2, a3⟩ := drawBelow_f c hc p s h7 900 (by decide)
    clear a1 a2 h7
    have hr := ih (i + 1) n q v ((g.set (9 + 2 * (i : Int)).toNat (i : Int)).set (9 + 2 * (i : Int) + 1).toNat v1) p1 s1 r2 h2 h3 h4 (by rw [List.length_set, List.length_set]; exact h5) r3 a3
    simp only [spec_l09Mem.l1, w1, w2, w3, w4, e1, Option.bind_some]
    rw [if_pos r1, if_pos t1, if_pos t2, if_pos t3, if_pos t4]
    exact hr
theorem drawMem_0 (c : List Int) (hc : c.length ≤ 1048576) (P : List S117) : ∀ (d i n k : Nat) (g : List Int) (p s : Int), i + d = n → n ≤ 4 → g.length = 49 → d + 8 < k → 0 ≤ p → ∃ (m : List Int) (p' s' : Int), spec_l09Mem.l0 k g (n : Int) (i : Int) c p s P = some (m, p', s') ∧ 0 ≤ p' ∧ m.getD 8 0 ≤ 9223372036854775807 := by
  intro d
  induction d with
  | zero =>
    intro i n k g p s h1 h2 h5 h6 h7
    obtain ⟨q, rfl⟩ : ∃ q, k = q + 1 := ⟨k - 1, by omega⟩
    obtain ⟨v1, p1, s1, e1, a1, a2, a3⟩ := drawBelow_f c hc p s h7 2 (by decide)
    obtain ⟨v2, p2, s2, e2, b1, b2, b3⟩ := drawBelow_f c hc p1 s1 a3 4 (by decide)
    obtain ⟨j, hj, hj3⟩ : ∃ j : Nat, v1 * v2 = (j : Int) ∧ j ≤ 3 := by
      have : v1 = 0 ∨ v1 = 1 := by omega
      rcases this with rfl | rfl
      · exact ⟨0, by rw [Int.zero_mul]; rfl, by omega⟩
      · exact ⟨v2.toNat, by rw [Int.one_mul]; omega, by omega⟩
    have r1 : ¬ (i : Int) < (n : Int) := by omega
    have r2 : j + 2 < q := by omega
    have w1 : wrap64 (j : Int) = (j : Int) := wrap_in (by omega) (by omega)
    have hr := drawMem_1 c hc P j 0 j q (n : Int) g p2 s2 (Nat.zero_add j) hj3 (by omega) (by omega) h5 r2 b3
    simp only [spec_l09Mem.l0, e1, e2, hj, Option.bind_some]
    rw [if_neg r1, w1]
    exact hr
  | succ d ih =>
    intro i n k g p s h1 h2 h5 h6 h7
    obtain ⟨q, rfl⟩ : ∃ q, k = q + 1 := ⟨k - 1, by omega⟩
    obtain ⟨v1, p1, s1, e1, _, _, a3⟩ := drawBelow_f c hc p s h7 500 (by decide)
    have q1 : (i : Int) < (n : Int) := by omega
    have q2 : 0 ≤ 25 + (i : Int) := by omega
    have q3 : 25 + (i : Int) < (g.length : Int) := by omega
    have q5 : i + 1 + d = n := by omega
    have q6 : d + 8 < q := by omega
    have u1 : -9223372036854775808 ≤ 25 + (i : Int) := by omega
    have u2 : 25 + (i : Int) ≤ 9223372036854775807 := by omega
    have u3 : i < 4 := by omega
    have q4 : wrap64 ((i : Int) + 1) = ((i + 1 : Nat) : Int) := wrap_next (n := 4) u3 (by decide)
    have w1 : wrap64 (25 + (i : Int)) = 25 + (i : Int) := wrap_in u1 u2
    have hr := ih (i + 1) n q (g.set (25 + (i : Int)).toNat v1) p1 s1 q5 h2 (by rw [List.length_set]; exact h5) q6 a3
    simp only [spec_l09Mem.l0, w1, e1, Option.bind_some]
    rw [if_pos q1, if_pos q2, if_pos q3, q4]
    exact hr
theorem drawMem_f (c : List Int) (hc : c.length ≤ 1048576) (k : Nat) (p s : Int) (h0 : 0 ≤ p) (hk : 40 < k) (P : List S117) : ∃ (m : List Int) (p' s' : Int), spec_l09Mem.f k c p s P = some (m, p', s') ∧ 0 ≤ p' ∧ m.getD 8 0 ≤ 9223372036854775807 := by
  obtain ⟨v, p1, s1, e1, hv, a3⟩ := drawVars_g c hc k p s h0 (by omega)
  have h8 := okV_len hv
  obtain ⟨v2, p2, s2, e2, b1, b2, b3⟩ := drawBelow_f c hc p1 s1 a3 5 (by decide)
  obtain ⟨n, rfl⟩ : ∃ n : Nat, v2 = (n : Int) := ⟨v2.toNat, by omega⟩
  have hr := drawMem_0 c hc P n 0 n k (v ++ List.replicate 41 0) p2 s2 (by omega) (by omega) (by rw [List.length_append, List.length_replicate]; omega) (by omega) b3
  have l1 : v.length < 17592186044416 := by omega
  have l2 : v.length + 41 < 17592186044416 := by omega
  have l3 : 0 + v.length < 17592186044416 := by omega
  simp only [spec_l09Mem.f, spec_MemNew.f, specVars_f v (by omega) k (by omega), hv, e1, e2, Option.bind_some, List.nil_append, List.length_nil, ↓reduceIte, l1, l2, l3]
  exact hr
theorem if_else {α : Type} {c : Prop} [Decidable c] {t e r : α} (hc : ¬ c) (h : e = r) : (if c then t else e) = r := by rw [if_neg hc]; exact h
theorem if_then {α : Type} {c : Prop} [Decidable c] {t e r : α} (hc : c) (h : t = r) : (if c then t else e) = r := by rw [if_pos hc]; exact h
theorem bind_of {α β : Type} {x : Option α} {f : α → Option β} {a : α} {r : Option β} (h : x = some a) (h2 : f a = r) : x.bind f = r := by rw [h]; exact h2
/-- A memory and a valid link. -/
theorem drawLink_f (c : List Int) (hc : c.length ≤ 1048576) (k : Nat) (hk : c.length + 60 < k) : ∃ (m : List Int) (i n : Nat), spec_DrawLink.f k c = some (m, (i : Int), (sentOf m).take n) ∧ m.getD 8 0 ≤ 9223372036854775807 ∧ n ≤ (sentOf m).length ∧ i ≤ n := by
  have k1 : c.length < k := by omega
  have k2 : 50 < k := by omega
  have k3 : 40 < k := by omega
  have k4 : 0 < k := by omega
  clear hk
  obtain ⟨s, hs⟩ := drawNew_f c hc k k1
  obtain ⟨P, p1, s1, e1, a1⟩ := drawProgram_f c hc k 0 s (Int.le_refl _) k2
  obtain ⟨m, p2, s2, e2, b1, b2⟩ := drawMem_f c hc k p1 s1 a1 k3 P
  have h24 := sentOf_length m
  have hsent := specSent_f m b2 k k4
  have j1 : 0 < ((sentOf m).length : Int) + 1 := by omega
  obtain ⟨v, p3, s3, e3, c1, c2, c3⟩ := drawBelow_f c hc p2 s2 b1 (((sentOf m).length : Int) + 1) j1
  have j2 : 0 < v + 1 := by omega
  obtain ⟨u, p4, s4, e4, d1, d2, d3⟩ := drawBelow_f c hc p3 s3 c3 (v + 1) j2
  obtain ⟨n, rfl⟩ : ∃ n : Nat, v = (n : Int) := ⟨v.toNat, by omega⟩
  obtain ⟨i, rfl⟩ : ∃ i : Nat, u = (i : Int) := ⟨u.toNat, by omega⟩
  have j3 : n ≤ (sentOf m).length := by omega
  have j4 : i ≤ n := by omega
  have j5 : (0 : Int) ≤ (n : Int) := by omega
  have j6 : (n : Int) ≤ ((sentOf m).length : Int) := by omega
  have j7 : 0 + ((sentOf m).take n).length < 17592186044416 := by rw [List.length_take]; omega
  have b1' : -9223372036854775808 ≤ ((sentOf m).length : Int) + 1 := by omega
  have b2' : ((sentOf m).length : Int) + 1 ≤ 9223372036854775807 := by omega
  have b3' : -9223372036854775808 ≤ (n : Int) + 1 := by omega
  have b4' : (n : Int) + 1 ≤ 9223372036854775807 := by omega
  refine ⟨m, i, n, ?_, b2, j3, j4⟩
  have w1 : wrap64 (((sentOf m).length : Int) + 1) = ((sentOf m).length : Int) + 1 := wrap_in b1' b2'
  have w2 : wrap64 ((n : Int) + 1) = (n : Int) + 1 := wrap_in b3' b4'
  generalize sentOf m = L at hsent e3 w1 j3 j6 j7 ⊢
  have hcase : spec_l32Case.f k c 0 s = some (m, (i : Int), L.take n, p4, s4) := by
    unfold spec_l32Case.f
    refine bind_of e1 (bind_of e2 (bind_of hsent (bind_of ((congrArg (spec_l01Below.f c p2 s2) w1).trans e3) (bind_of ((congrArg (spec_l01Below.f c p3 s3) w2).trans e4) (bind_of rfl (if_then j5 (if_then j6 (bind_of rfl (if_then j7 rfl)))))))))
  exact bind_of hs (bind_of hcase rfl)
theorem same_f (l : List Int) (hl : l.length ≤ 1048576) (k : Nat) (hk : l.length < k) : laws_sameInts.f k l l = some true := by
  unfold laws_sameInts.f
  rw [if_pos rfl]
  refine loop_up l.length (fun k (s : Int) => laws_sameInts.l0 k l l s) (fun i => (i : Int)) _ (fun k i hi => ?_) (fun k => ?_) k hk
  · simp only [laws_sameInts.l0, ↓reduceIte]
    rw [if_pos (by omega), if_pos (by omega), if_pos (by omega), wrap_next hi (by omega)]
  · simp only [laws_sameInts.l0]
    rw [if_neg (by omega)]
/-- What the gateway has behind a packet. -/
def rcv (g : List Int) (q v : Int) : List Int := if q = (g.length : Int) then g ++ [v] else g
theorem receive_f (g : List Int) (hg : g.length ≤ 100) (q v : Int) : impl_Receive.f g q v = some (rcv g q v, ((rcv g q v).length : Int)) := by
  unfold impl_Receive.f rcv
  rw [clone_f g (by omega)]
  simp only [Option.bind_some]
  by_cases h : q = (g.length : Int)
  · rw [if_pos h, if_pos h, if_pos (by omega), if_pos (by omega)]
  · rw [if_neg h, if_neg h]
theorem rcv_length (g : List Int) (q v : Int) : (rcv g q v).length ≤ g.length + 1 := by
  unfold rcv
  split
  · rw [List.length_append, List.length_singleton]
    omega
  · omega
theorem rcv_twice (g : List Int) (q v : Int) : rcv (rcv g q v) q v = rcv g q v := by
  unfold rcv
  by_cases h : q = (g.length : Int)
  · rw [if_pos h, if_neg (by rw [List.length_append, List.length_singleton]; omega)]
  · rw [if_neg h, if_neg h]
theorem linkOk_drawn (m : List Int) (i n : Nat) (hn : n ≤ (sentOf m).length) (hi : i ≤ n) : linkOk m (i : Int) ((sentOf m).take n) = true := by
  unfold linkOk pre
  rw [List.length_take, Nat.min_eq_left hn, Bool.and_eq_true, decide_eq_true_eq]
  refine ⟨?_, rfl⟩
  unfold inB
  rw [Bool.and_eq_true, decide_eq_true_eq, decide_eq_true_eq]
  omega
theorem big_f (c : List Int) : laws_big.f c = some (decide ((c.length : Int) > 1048576)) := rfl
theorem FnOnce : laws_FnOnce.Pure := by
  intro c hc
  refine ⟨c.length + 100, ?_⟩
  unfold laws_FnOnce.f
  refine bind_of (big_f c) ?_
  by_cases hb : decide ((c.length : Int) > 1048576) = true
  · exact if_then hb rfl
  · refine if_else hb ?_
    rw [decide_eq_true_eq] at hb
    have hc1 : c.length ≤ 1048576 := by omega
    clear hb hc
    obtain ⟨K, hK⟩ : ∃ K, K = c.length + 100 := ⟨_, rfl⟩
    rw [← hK]
    have hk1 : c.length + 60 < K := by omega
    have hk2 : 60 < K := by omega
    clear hK
    obtain ⟨m, i, n, e1, h8, hn, hi⟩ := drawLink_f c hc1 K hk1
    obtain ⟨p, e2, hp, _⟩ := drawPlaces_f c hc1 K (by omega)
    have h24 := sentOf_length m
    have hg : ((sentOf m).take n).length ≤ 24 := by rw [List.length_take]; omega
    have hl := linkOk_drawn m i n hn hi
    generalize (sentOf m).take n = g at hg hl e1
    obtain ⟨q, hq⟩ : ∃ q, q = Int.tmod (rd p 0) 8 := ⟨_, rfl⟩
    have hr := rcv_length g q (rd p 1)
    have e3 := receive_f g (by omega) q (rd p 1)
    have e4 := receive_f (rcv g q (rd p 1)) (by omega) q (rd p 1)
    rw [rcv_twice] at e4
    have e5 := same_f (rcv g q (rd p 1)) (by omega) K (by omega)
    have e6 := implLink_f m i g h8 (by omega) K (by omega)
    rw [hl] at e6
    have l0 : 0 < (p.length : Int) := by omega
    have l1 : 1 < (p.length : Int) := by omega
    have hgl : ((rcv g q (rd p 1)).length : Int) = (if q = (g.length : Int) then (g.length : Int) + 1 else (g.length : Int)) := by
      unfold rcv
      by_cases h : q = (g.length : Int)
      · rw [if_pos h, if_pos h, List.length_append, List.length_singleton]
        omega
      · rw [if_neg h, if_neg h]
    have v0 : -9223372036854775808 ≤ (g.length : Int) + 1 := by omega
    have v1 : (g.length : Int) + 1 ≤ 9223372036854775807 := by omega
    have w1 : wrap64 ((g.length : Int) + 1) = (g.length : Int) + 1 := wrap_in v0 v1
    have e7 : (((((rcv g q (rd p 1)).length : Nat) : Int) == wrap64 ((g.length : Int) + 1)) == (q == (g.length : Int))) = true := by
      rw [w1, hgl]
      by_cases h : q = (g.length : Int)
      · rw [if_pos h, beq_self_eq_true, beq_iff_eq.2 h]
        rfl
      · rw [if_neg h, beq_eq_false_iff_ne.2 (show (g.length : Int) ≠ (g.length : Int) + 1 from fun z => by omega), beq_eq_false_iff_ne.2 h]
        rfl
    rw [hq] at e3 e4 e5 e7
    exact bind_of e1 (bind_of e2 (if_then l0 (if_then l1 (bind_of e3 (bind_of e4 (if_then rfl (bind_of e5 (if_then rfl (if_then e7 (if_then rfl (bind_of e6 rfl)))))))))))

end Go.Proofs.Ytdmmogcpamgdnaa.Pure
