/- The law FnDelivered in plain lists: a round in which everything arrives and is heard delivers everything. Conditions: none beside those of the row. -/
import Derived.Test.YtdmmogcpamgdnaaHelpFnDelivered
namespace Go.Proofs.Ytdmmogcpamgdnaa.Pure
open Go.RowKit Go.Proofs.Ytdmmogcpamgdnaa.PFnDelivered Go.Proofs.Ytdmmogcpamgdnaa.XPure Go.Proofs.Ytdmmogcpamgdnaa.PureFnDelivered Go.Proofs.YtdmmogcpamgdnaaW.PrintWords Go.Proofs.YtdmmogcpamgdnaaW.PrintLast Go.Proofs.YtdmmogcpamgdnaaW.PrintMore
set_option linter.unusedSimpArgs false
set_option linter.unusedVariables false

theorem getD_left {α : Type} (g : List α) (x z : α) {i : Nat} (h : i < g.length) : (g ++ [x]).getD i z = g.getD i z := by
  rw [List.getD_eq_getElem?_getD, List.getElem?_append_left h, ← List.getD_eq_getElem?_getD]
theorem getD_end {α : Type} (g : List α) (x z : α) : (g ++ [x]).getD g.length z = x := by
  rw [List.getD_eq_getElem?_getD, List.getElem?_append_right (Nat.le_refl _), Nat.sub_self]
  rfl
theorem getD_put {α : Type} (l : List α) (i j : Nat) (x z : α) (hi : i < l.length) : (l.set i x).getD j z = if i = j then x else l.getD j z := by
  rw [List.getD_eq_getElem?_getD, List.getElem?_set]
  by_cases h : i = j
  · rw [if_pos h, if_pos h, if_pos hi]
    rfl
  · rw [if_neg h, if_neg h, ← List.getD_eq_getElem?_getD]
/-- Valid variables. -/
def okV (l : List Int) : Bool := endsAt (fun i => inB (l.getD i 0) (-1000000) 1000000) (fun _ => false) ((l.length : Int) == 8) l.length 0
theorem okV_len {l : List Int} (h : okV l = true) : l.length = 8 := by
  unfold okV at h
  rw [endsAt_last, Bool.and_eq_true, beq_iff_eq] at h
  omega
theorem specVars_f (l : List Int) (hl : l.length ≤ 1048576) (k : Nat) (hk : l.length < k) : spec_VarsOk.f k l = some (okV l) := by
  unfold spec_VarsOk.f
  refine loop_ends l.length (fun k (s : Int) => spec_VarsOk.l0 k l s) (fun i => (i : Int)) _ _ _ (fun k i hi hc => ?_) (fun k i hi hc => ?_) (fun k => ?_) k hk
  · simp only [spec_VarsOk.l0, rd_nat, specIsValue_f, hc, Option.bind_some, ↓reduceIte]
    rw [if_pos (by omega), if_pos (by omega), wrap_next hi (by omega)]
  · simp only [spec_VarsOk.l0, rd_nat, specIsValue_f, hc, Option.bind_some, Bool.false_eq_true, ↓reduceIte]
    rw [if_pos (by omega), if_pos (by omega)]
  · simp only [spec_VarsOk.l0]
    rw [if_neg (by omega)]
/-- One of a list. -/
theorem drawPick_g (c : List Int) (hc : c.length ≤ 1048576) (p s : Int) (h0 : 0 ≤ p) (l : List Int) (hl : 0 < l.length) : ∃ n p' s', n < l.length ∧ spec_l01PickInt.f c p s l = some (l.getD n 0, p', s') ∧ 0 ≤ p' := by
  obtain ⟨v, p', s', e, a1, a2, a3⟩ := drawBelow_f c hc p s h0 (l.length : Int) (by omega)
  simp only [spec_l01PickInt.f, e, Option.bind_some]
  rw [if_pos a1, if_pos a2]
  obtain ⟨n, rfl⟩ : ∃ n : Nat, v = (n : Int) := ⟨v.toNat, by omega⟩
  exact ⟨n, p', s', by omega, by rw [rd_nat], a3⟩
theorem drawVars_g (c : List Int) (hc : c.length ≤ 1048576) (k : Nat) (p s : Int) (h0 : 0 ≤ p) (hk : 9 < k) : ∃ (v : List Int) (p' s' : Int), spec_l03Vars.f k c p s = some (v, p', s') ∧ okV v = true ∧ 0 ≤ p' := by
  have key : ∀ d i k (g : List Int) (p s : Int), 8 - i = d → i ≤ 8 → d < k → 0 ≤ p → g.length = i → (∀ j, j < i → -1000000 ≤ g.getD j 0 ∧ g.getD j 0 ≤ 1000000) → ∃ (r : List Int) (p' s' : Int), spec_l03Vars.l0 k g (i : Int) c p s = some (r, p', s') ∧ 0 ≤ p' ∧ r.length = 8 ∧ ∀ j, j < 8 → -1000000 ≤ r.getD j 0 ∧ r.getD j 0 ≤ 1000000 := by
    intro d
    induction d with
    | zero =>
      intro i k g p s h1 h2 h3 h4 h5 h6
      obtain ⟨q, rfl⟩ : ∃ q, k = q + 1 := ⟨k - 1, by omega⟩
      simp only [spec_l03Vars.l0]
      rw [if_neg (by omega)]
      exact ⟨g, _, _, rfl, h4, by omega, fun j hj => h6 j (by omega)⟩
    | succ d ih =>
      intro i k g p s h1 h2 h3 h4 h5 h6
      obtain ⟨q, rfl⟩ : ∃ q, k = q + 1 := ⟨k - 1, by omega⟩
      obtain ⟨v, p', s', e, a1, a2, a3⟩ := drawBelow_f c hc p s h4 2000 (by decide)
      have hw : wrap64 (v - 1000) = v - 1000 := wrap_in (by omega) (by omega)
      obtain ⟨n, p2, s2, hn, e2, b3⟩ := drawPick_g c hc p' s' a3 [0, 1, 2, 5, wrap64 (v - 1000), 1000000] (show 0 < 6 from by decide)
      simp only [spec_l03Vars.l0, e, e2, Option.bind_some]
      rw [if_pos (by omega), if_pos (by omega), wrap_next (n := 8) (by omega) (by omega)]
      have hb : -1000000 ≤ ([0, 1, 2, 5, wrap64 (v - 1000), 1000000] : List Int).getD n 0 ∧ ([0, 1, 2, 5, wrap64 (v - 1000), 1000000] : List Int).getD n 0 ≤ 1000000 := by
        rw [hw]
        have hn6 : n < 6 := hn
        have : n = 0 ∨ n = 1 ∨ n = 2 ∨ n = 3 ∨ n = 4 ∨ n = 5 := by omega
        rcases this with rfl | rfl | rfl | rfl | rfl | rfl <;> simp only [List.getD_cons_zero, List.getD_cons_succ] <;> omega
      generalize ([0, 1, 2, 5, wrap64 (v - 1000), 1000000] : List Int).getD n 0 = x at hb
      refine ih (i + 1) q _ _ _ (by omega) (by omega) (by omega) b3 (by simp [h5]) (fun j hj => ?_)
      rcases Nat.lt_succ_iff_lt_or_eq.1 hj with h | h
      · rw [getD_left _ _ _ (by omega)]
        exact h6 j h
      · rw [h, ← h5, getD_end]
        exact hb
  obtain ⟨r, p', s', e, hp', h1, h2⟩ := key 8 0 k [] p s rfl (by omega) (by omega) h0 rfl (fun j hj => absurd hj (Nat.not_lt_zero j))
  refine ⟨r, p', s', e, ?_, hp'⟩
  unfold okV
  rw [endsAt_last, Bool.and_eq_true, endsAt_true, beq_iff_eq]
  refine ⟨fun j _ hj => ?_, by omega⟩
  have := h2 j (by omega)
  simp only [inB, Bool.and_eq_true, decide_eq_true_eq]
  omega
theorem drawBelow_z (c : List Int) (hc : c.length ≤ 1048576) (p s : Int) (h0 : 0 ≤ p) (n : Int) : ∃ v p' s', spec_l01Below.f c p s n = some (v, p', s') ∧ 0 ≤ v ∧ 0 ≤ p' := by
  by_cases h : 0 < n
  · obtain ⟨v, p', s', e, a1, _, a3⟩ := drawBelow_f c hc p s h0 n h
    exact ⟨v, p', s', e, a1, a3⟩
  · refine ⟨0, p, s, ?_, Int.le_refl _, h0⟩
    unfold spec_l01Below.f
    rw [if_pos (by omega)]
theorem drawOperand_g (c : List Int) (hc : c.length ≤ 1048576) (p s : Int) (h0 : 0 ≤ p) : ∃ v p' s', spec_l03Operand.f c p s = some (v, p', s') ∧ 0 ≤ p' := by
  obtain ⟨v, p', s', e, a1, a2, a3⟩ := drawBelow_f c hc p s h0 2 (by decide)
  obtain ⟨v2, p2, s2, e2, b1, b2, b3⟩ := drawBelow_f c hc p' s' a3 5 (by decide)
  obtain ⟨n, p3, s3, hn, e3, c3⟩ := drawPick_g c hc p' s' a3 [0, 1, 2, 3, 10, 999] (by decide)
  simp only [spec_l03Operand.f, spec_l01Once.f, e, e2, e3, Option.bind_some]
  by_cases h : (v == 0) = true
  · rw [if_pos h]
    exact ⟨_, _, _, rfl, b3⟩
  · rw [if_neg h]
    exact ⟨_, _, _, rfl, c3⟩
theorem drawExpr_g (c : List Int) (hc : c.length ≤ 1048576) (p s : Int) (h0 : 0 ≤ p) : ∃ x y z p' s', spec_l03Expr.f c p s = some (x, y, z, p', s') ∧ 0 ≤ p' := by
  obtain ⟨v, p', s', e, a1, a2, a3⟩ := drawBelow_f c hc p s h0 7 (by decide)
  obtain ⟨y, p2, s2, e2, b2⟩ := drawOperand_g c hc p' s' a3
  obtain ⟨z, p3, s3, e3, c2⟩ := drawOperand_g c hc p2 s2 b2
  simp only [spec_l03Expr.f, e, e2, e3, Option.bind_some]
  exact ⟨_, _, _, _, _, rfl, c2⟩
theorem drawStmt_f (c : List Int) (hc : c.length ≤ 1048576) (k : Nat) (hk : 0 < k) (p s : Int) (h0 : 0 ≤ p) : ∃ a b x e1 e2 e3 p' s', spec_l04Stmt.f k c p s = some (a, b, x, e1, e2, e3, p', s') ∧ 0 ≤ p' := by
  obtain ⟨q, rfl⟩ : ∃ q, k = q + 1 := ⟨k - 1, by omega⟩
  obtain ⟨v, p1, s1, e, a1, a2, a3⟩ := drawBelow_f c hc p s h0 7 (by decide)
  have key : ∀ b : Bool, ∃ a b' x e1 e2 e3 p' s', spec_l04Stmt.j0 (q + 1) v b c p1 s1 = some (a, b', x, e1, e2, e3, p', s') ∧ 0 ≤ p' := by
    intro b
    obtain ⟨v2, p2, s2, f2, b1, b2, b3⟩ := drawBelow_f c hc p1 s1 a3 5 (by decide)
    obtain ⟨v3, p3, s3, f3, c1, c2, c3⟩ := drawBelow_f c hc p2 s2 b3 4 (by decide)
    obtain ⟨x, y, z, p4, s4, f4, d1⟩ := drawExpr_g c hc p1 s1 a3
    obtain ⟨x5, y5, z5, p5, s5, f5, g1⟩ := drawExpr_g c hc p2 s2 b3
    simp only [spec_l04Stmt.j0, f2, f3, f4, f5, Option.bind_some]
    cases b with
    | true =>
      rw [if_pos rfl]
      exact ⟨_, _, _, _, _, _, _, _, rfl, c3⟩
    | false =>
      rw [if_neg (by decide)]
      by_cases h : v = 2
      · rw [if_pos h]
        exact ⟨_, _, _, _, _, _, _, _, rfl, d1⟩
      · rw [if_neg h]
        exact ⟨_, _, _, _, _, _, _, _, rfl, g1⟩
  simp only [spec_l04Stmt.f, e, Option.bind_some]
  by_cases h : v = 0
  · rw [if_pos h]
    exact key _
  · rw [if_neg h]
    exact key _
/-- A block of statements, given its inner blocks. -/
theorem drawBlock_l (c : List Int) (hc : c.length ≤ 1048576) (count d : Int) (K B : Nat) (hB : B ≤ 1000) (hd : 0 ≤ d ∧ d ≤ 2)
    (hin : d < 2 → ∀ (k : Nat) (n p s : Int), K < k → 1 ≤ n → n ≤ 2 → 0 ≤ p → ∃ (l : List S139) (p' s' : Int), spec_l05Block.f k c p s n (wrap64 (d + 1)) = some (l, p', s') ∧ 0 ≤ p' ∧ l.length ≤ B) :
    ∀ (rem : Nat) (i : Int) (g : List S139) (p s : Int) (k : Nat), i + rem = count → 0 ≤ i → count ≤ 6 → 2 * rem + K + 3 < k → 0 ≤ p → g.length + rem * (B + 2) ≤ 100000 → ∃ (l : List S139) (p' s' : Int), spec_l05Block.l0 k count d g i c p s = some (l, p', s') ∧ 0 ≤ p' ∧ l.length ≤ g.length + rem * (B + 2) := by
  intro rem
  induction rem with
  | zero =>
    intro i g p s k h1 h2 h3 h4 h5 h6
    obtain ⟨q, rfl⟩ : ∃ q, k = q + 1 := ⟨k - 1, by omega⟩
    simp only [spec_l05Block.l0]
    rw [if_neg (by omega)]
    exact ⟨g, _, _, rfl, h5, by omega⟩
  | succ rem ih =>
    intro i g p s k h1 h2 h3 h4 h5 h6
    obtain ⟨q, rfl⟩ : ∃ q, k = q + 1 + 1 := ⟨k - 2, by omega⟩
    have hm : (rem + 1) * (B + 2) = rem * (B + 2) + (B + 2) := Nat.succ_mul _ _
    rw [hm] at h6
    have hi : wrap64 (i + 1) = i + 1 := wrap_in (by omega) (by omega)
    have hj : ∀ (b : Bool) (p s : Int), (b = true → d < 2) → 0 ≤ p → ∃ (l : List S139) (p' s' : Int), spec_l05Block.j1 (q + 1) count d g i b c p s = some (l, p', s') ∧ 0 ≤ p' ∧ l.length ≤ g.length + (rem + 1) * (B + 2) := by
      intro b p s hb h5
      rw [hm]
      obtain ⟨v, p1, s1, e1, a1, a2, a3⟩ := drawBelow_f c hc p s h5 3 (by decide)
      obtain ⟨v2, p2, s2, e2, b1, b2, b3⟩ := drawBelow_f c hc p1 s1 a3 2 (by decide)
      obtain ⟨x, y, z, p3, s3, e3, c3⟩ := drawExpr_g c hc p2 s2 b3
      obtain ⟨v4, p4, s4, e4, d1, d2, d3⟩ := drawBelow_f c hc p3 s3 c3 2 (by decide)
      obtain ⟨v5, p5, s5, e5, g1, g2, g3⟩ := drawBelow_f c hc p2 s2 b3 2 (by decide)
      obtain ⟨u1, u2, u3, u4, u5, u6, p6, s6, e6, f3⟩ := drawStmt_f c hc q (by omega) p s h5
      cases b with
      | false =>
        simp only [spec_l05Block.j1, e6, Option.bind_some, Bool.false_eq_true, ↓reduceIte, hi]
        rw [if_pos (by omega)]
        obtain ⟨l, p', s', e, r1, r2⟩ := ih (i + 1) (g ++ [(⟨u1, u2, u3, (⟨u4, u5, u6⟩ : S114)⟩ : S139)]) p6 s6 q (by omega) (by omega) h3 (by omega) f3 (by rw [List.length_append, List.length_singleton]; omega)
        rw [List.length_append, List.length_singleton] at r2
        exact ⟨l, p', s', e, r1, by omega⟩
      | true =>
        have hd2 := hb rfl
        have w1 : wrap64 (1 + v4) = 1 + v4 := wrap_in (by omega) (by omega)
        have w2 : wrap64 (1 + v5) = 1 + v5 := wrap_in (by omega) (by omega)
        obtain ⟨l7, p7, s7, e7, r7, t7⟩ := hin hd2 q (1 + v4) p4 s4 (by omega) (by omega) (by omega) d3
        obtain ⟨l8, p8, s8, e8, r8, t8⟩ := hin hd2 q (1 + v5) p5 s5 (by omega) (by omega) (by omega) g3
        simp only [spec_l05Block.j1, spec_l01Once.f, e1, e2, e3, e4, e5, w1, w2, e7, e8, Option.bind_some, ↓reduceIte, hi]
        by_cases ho : (v2 == 0) = true
        · rw [if_pos ho, if_pos (by omega), if_pos (by simp only [List.length_append, List.length_singleton]; omega), if_pos (by simp only [List.length_append, List.length_singleton]; omega)]
          obtain ⟨l, p', s', e, r1, r2⟩ := ih (i + 1) (g ++ [(⟨4, 0, 0, (⟨x, y, z⟩ : S114)⟩ : S139)] ++ l7 ++ [(⟨6, 0, 0, (⟨0, 0, 0⟩ : S114)⟩ : S139)]) p7 s7 q (by omega) (by omega) h3 (by omega) r7 (by simp only [List.length_append, List.length_singleton]; omega)
          simp only [List.length_append, List.length_singleton] at r2
          exact ⟨l, p', s', e, r1, by omega⟩
        · rw [if_neg ho, if_pos (by omega), if_pos (by simp only [List.length_append, List.length_singleton]; omega), if_pos (by simp only [List.length_append, List.length_singleton]; omega)]
          obtain ⟨l, p', s', e, r1, r2⟩ := ih (i + 1) (g ++ [(⟨5, 0, wrap64 (1 + v), (⟨0, 0, 0⟩ : S114)⟩ : S139)] ++ l8 ++ [(⟨6, 0, 0, (⟨0, 0, 0⟩ : S114)⟩ : S139)]) p8 s8 q (by omega) (by omega) h3 (by omega) r8 (by simp only [List.length_append, List.length_singleton]; omega)
          simp only [List.length_append, List.length_singleton] at r2
          exact ⟨l, p', s', e, r1, by omega⟩
    obtain ⟨v, p1, s1, e1, a1, a2, a3⟩ := drawBelow_f c hc p s h5 5 (by decide)
    simp only [spec_l05Block.l0, spec_l01Once.f, e1, Option.bind_some]
    rw [if_pos (by omega)]
    by_cases c1 : d < 2
    · rw [if_pos c1]
      by_cases c2 : (g.length : Int) < 6
      · rw [if_pos c2]
        exact hj _ _ _ (fun _ => c1) a3
      · rw [if_neg c2]
        exact hj _ _ _ (fun h => absurd h (by decide)) h5
    · rw [if_neg c1]
      exact hj _ _ _ (fun h => absurd h (by decide)) h5
theorem drawBlock_2 (c : List Int) (hc : c.length ≤ 1048576) (k : Nat) (n p s : Int) (hk : 10 < k) (h1 : 1 ≤ n) (h2 : n ≤ 2) (h0 : 0 ≤ p) : ∃ (l : List S139) (p' s' : Int), spec_l05Block.f k c p s n 2 = some (l, p', s') ∧ 0 ≤ p' ∧ l.length ≤ 4 := by
  obtain ⟨q, rfl⟩ : ∃ q, k = q + 1 := ⟨k - 1, by omega⟩
  obtain ⟨m, rfl⟩ : ∃ m : Nat, n = (m : Int) := ⟨n.toNat, by omega⟩
  obtain ⟨l, p', s', e, r1, r2⟩ := drawBlock_l c hc (m : Int) 2 0 0 (by omega) (by omega) (fun h => absurd h (by decide)) m 0 [] p s q (by omega) (by omega) (by omega) (by omega) h0 (by simp only [List.length_nil]; omega)
  simp only [List.length_nil] at r2
  refine ⟨l, p', s', ?_, r1, by omega⟩
  rw [← e]
  rfl
theorem drawBlock_1 (c : List Int) (hc : c.length ≤ 1048576) (k : Nat) (n p s : Int) (hk : 20 < k) (h1 : 1 ≤ n) (h2 : n ≤ 2) (h0 : 0 ≤ p) : ∃ (l : List S139) (p' s' : Int), spec_l05Block.f k c p s n 1 = some (l, p', s') ∧ 0 ≤ p' ∧ l.length ≤ 12 := by
  obtain ⟨q, rfl⟩ : ∃ q, k = q + 1 := ⟨k - 1, by omega⟩
  obtain ⟨m, rfl⟩ : ∃ m : Nat, n = (m : Int) := ⟨n.toNat, by omega⟩
  obtain ⟨l, p', s', e, r1, r2⟩ := drawBlock_l c hc (m : Int) 1 10 4 (by omega) (by omega) (fun _ k n p s a b d e => by rw [show wrap64 ((1 : Int) + 1) = 2 from wrap_in (by decide) (by decide)]; exact drawBlock_2 c hc k n p s a b d e) m 0 [] p s q (by omega) (by omega) (by omega) (by omega) h0 (by simp only [List.length_nil]; omega)
  simp only [List.length_nil] at r2
  refine ⟨l, p', s', ?_, r1, by omega⟩
  rw [← e]
  rfl
theorem drawBlock_0 (c : List Int) (hc : c.length ≤ 1048576) (k : Nat) (n p s : Int) (hk : 40 < k) (h1 : 0 ≤ n) (h2 : n ≤ 5) (h0 : 0 ≤ p) : ∃ (l : List S139) (p' s' : Int), spec_l05Block.f k c p s n 0 = some (l, p', s') ∧ 0 ≤ p' := by
  obtain ⟨q, rfl⟩ : ∃ q, k = q + 1 := ⟨k - 1, by omega⟩
  obtain ⟨m, rfl⟩ : ∃ m : Nat, n = (m : Int) := ⟨n.toNat, by omega⟩
  obtain ⟨l, p', s', e, r1, r2⟩ := drawBlock_l c hc (m : Int) 0 20 12 (by omega) (by omega) (fun _ k n p s a b d e => by rw [show wrap64 ((0 : Int) + 1) = 1 from wrap_in (by decide) (by decide)]; exact drawBlock_1 c hc k n p s a b d e) m 0 [] p s q (by omega) (by omega) (by omega) (by omega) h0 (by simp only [List.length_nil]; omega)
  refine ⟨l, p', s', ?_, r1⟩
  rw [← e]
  rfl
theorem drawProgram_f (c : List Int) (hc : c.length ≤ 1048576) (k : Nat) (p s : Int) (h0 : 0 ≤ p) (hk : 50 < k) : ∃ (P : List S117) (p' s' : Int), spec_l06Program.f k c p s = some (P, p', s') ∧ 0 ≤ p' := by
  have key : ∀ (d i k : Nat) (g : List S117) (p s : Int), 3 - i = d → i ≤ 3 → g.length = i → d + 45 < k → 0 ≤ p → ∃ (P : List S117) (p' s' : Int), spec_l06Program.l0 k (i : Int) c p s g = some (P, p', s') ∧ 0 ≤ p' := by
    intro d
    induction d with
    | zero =>
      intro i k g p s h1 h2 h3 h4 h5
      obtain ⟨q, rfl⟩ : ∃ q, k = q + 1 := ⟨k - 1, by omega⟩
      obtain ⟨v, p1, s1, e1, a1, a2, a3⟩ := drawBelow_f c hc p s h5 3 (by decide)
      simp only [spec_l06Program.l0, e1, Option.bind_some]
      rw [wrap_in (x := 1 + v) (by omega) (by omega), if_neg (by omega)]
      exact ⟨g, _, _, rfl, a3⟩
    | succ d ih =>
      intro i k g p s h1 h2 h3 h4 h5
      obtain ⟨q, rfl⟩ : ∃ q, k = q + 1 := ⟨k - 1, by omega⟩
      obtain ⟨v, p1, s1, e1, a1, a2, a3⟩ := drawBelow_f c hc p s h5 3 (by decide)
      obtain ⟨v2, p2, s2, e2, b1, b2, b3⟩ := drawBelow_f c hc p1 s1 a3 6 (by decide)
      obtain ⟨l, p3, s3, e3, c3⟩ := drawBlock_0 c hc q v2 p2 s2 (by omega) b1 (by omega) b3
      obtain ⟨x, y, z, p4, s4, e4, d4⟩ := drawExpr_g c hc p3 s3 c3
      simp only [spec_l06Program.l0, spec_l05Case.f, e1, e2, e3, e4, Option.bind_some]
      rw [wrap_in (x := 1 + v) (by omega) (by omega)]
      by_cases h : (i : Int) < 1 + v
      · rw [if_pos h, if_pos (by omega), wrap_next (n := 3) (by omega) (by omega)]
        exact ih (i + 1) q _ _ _ (by omega) (by omega) (by simp [h3]) (by omega) d4
      · rw [if_neg h]
        exact ⟨g, _, _, rfl, a3⟩
  exact key 3 0 k [] p s rfl (by omega) rfl (by omega) h0
theorem drawMem_1 (c : List Int) (hc : c.length ≤ 1048576) (P : List S117) : ∀ (d i n k : Nat) (v : Int) (g : List Int) (p s : Int), i + d = n → n ≤ 3 → v ≤ 4 → 0 ≤ v → g.length = 49 → d + 2 < k → 0 ≤ p → ∃ (m : List Int) (p' s' : Int), spec_l09Mem.l1 k g v (n : Int) (i : Int) c p s P = some (m, p', s') ∧ 0 ≤ p' ∧ m.getD 8 0 ≤ 9223372036854775807 := by
  intro d
  induction d with
  | zero =>
    intro i n k v g p s h1 h2 h3 h4 h5 h6 h7
    obtain ⟨q, rfl⟩ : ∃ q, k = q + 1 := ⟨k - 1, by omega⟩
    obtain ⟨v1, p1, s1, e1, a1, a3⟩ := drawBelow_z c hc p s h7 (P.length : Int)
    simp only [spec_l09Mem.l1, e1, specPack_f, Option.bind_some]
    rw [if_neg (by omega), if_pos (by omega)]
    refine ⟨_, _, _, rfl, a3, ?_⟩
    show (g.set 8 _).getD 8 0 ≤ _
    rw [getD_put _ _ _ _ _ (by omega), if_pos rfl]
    split <;> omega
  | succ d ih =>
    intro i n k v g p s h1 h2 h3 h4 h5 h6 h7
    obtain ⟨q, rfl⟩ : ∃ q, k = q + 1 := ⟨k - 1, by omega⟩
    have i3 : i < 3 := by omega
    have r1 : (i : Int) < (n : Int) := by omega
    have r2 : i + 1 + d = n := by omega
    have r3 : d + 2 < q := by omega
    have t1 : 0 ≤ 9 + 2 * (i : Int) := by omega
    have t2 : 9 + 2 * (i : Int) < (g.length : Int) := by omega
    have t3 : 0 ≤ 9 + 2 * (i : Int) + 1 := by omega
    have t4 : 9 + 2 * (i : Int) + 1 < (g.length : Int) := by omega
    have w1 : wrap64 (2 * (i : Int)) = 2 * (i : Int) := wrap_in (by omega) (by omega)
    have w2 : wrap64 (9 + 2 * (i : Int)) = 9 + 2 * (i : Int) := wrap_in (by omega) (by omega)
    have w3 : wrap64 (9 + 2 * (i : Int) + 1) = 9 + 2 * (i : Int) + 1 := wrap_in (by omega) (by omega)
    have w4 : wrap64 ((i : Int) + 1) = ((i + 1 : Nat) : Int) := wrap_next (n := 4) (by omega) (by omega)
    clear h1 i3 h6
    obtain ⟨v1, p1, s1, e1, a1, a2, a3⟩ := drawBelow_f c hc p s h7 900 (by decide)
    clear a1 a2 h7
    have hr := ih (i + 1) n q v ((g.set (9 + 2 * (i : Int)).toNat (i : Int)).set (9 + 2 * (i : Int) + 1).toNat v1) p1 s1 r2 h2 h3 h4 (by rw [List.length_set, List.length_set]; exact h5) r3 a3
    simp only [spec_l09Mem.l1, w1, w2, w3, w4, e1, Option.bind_some]
    rw [if_pos r1, if_pos t1, if_pos t2, if_pos t3, if_pos t4]
    exact hr
theorem drawMem_0 (c : List Int) (hc : c.length ≤ 1048576) (P : List S117) : ∀ (d i n k : Nat) (g : List Int) (p s : Int), i + d = n → n ≤ 4 → g.length = 49 → d + 8 < k → 0 ≤ p → ∃ (m : List Int) (p' s' : Int), spec_l09Mem.l0 k g (n : Int) (i : Int) c p s P = some (m, p', s') ∧ 0 ≤ p' ∧ m.getD 8 0 ≤ 9223372036854775807 := by
  intro d
  induction d with
  | zero =>
    intro i n k g p s h1 h2 h5 h6 h7
    obtain ⟨q, rfl⟩ : ∃ q, k = q + 1 := ⟨k - 1, by omega⟩
    obtain ⟨v1, p1, s1, e1, a1, a2, a3⟩ := drawBelow_f c hc p s h7 2 (by decide)
    obtain ⟨v2, p2, s2, e2, b1, b2, b3⟩ := drawBelow_f c hc p1 s1 a3 4 (by decide)
    obtain ⟨j, hj, hj3⟩ : ∃ j : Nat, v1 * v2 = (j : Int) ∧ j ≤ 3 := by
      have : v1 = 0 ∨ v1 = 1 := by omega
      rcases this with rfl | rfl
      · exact ⟨0, by rw [Int.zero_mul]; rfl, by omega⟩
      · exact ⟨v2.toNat, by rw [Int.one_mul]; omega, by omega⟩
    have r1 : ¬ (i : Int) < (n : Int) := by omega
    have r2 : j + 2 < q := by omega
    have w1 : wrap64 (j : Int) = (j : Int) := wrap_in (by omega) (by omega)
    have hr := drawMem_1 c hc P j 0 j q (n : Int) g p2 s2 (Nat.zero_add j) hj3 (by omega) (by omega) h5 r2 b3
    simp only [spec_l09Mem.l0, e1, e2, hj, Option.bind_some]
    rw [if_neg r1, w1]
    exact hr
  | succ d ih =>
    intro i n k g p s h1 h2 h5 h6 h7
    obtain ⟨q, rfl⟩ : ∃ q, k = q + 1 := ⟨k - 1, by omega⟩
    obtain ⟨v1, p1, s1, e1, _, _, a3⟩ := drawBelow_f c hc p s h7 500 (by decide)
    have q1 : (i : Int) < (n : Int) := by omega
    have q2 : 0 ≤ 25 + (i : Int) := by omega
    have q3 : 25 + (i : Int) < (g.length : Int) := by omega
    have q5 : i + 1 + d = n := by omega
    have q6 : d + 8 < q := by omega
    have u1 : -9223372036854775808 ≤ 25 + (i : Int) := by omega
    have u2 : 25 + (i : Int) ≤ 9223372036854775807 := by omega
    have u3 : i < 4 := by omega
    have q4 : wrap64 ((i : Int) + 1) = ((i + 1 : Nat) : Int) := wrap_next (n := 4) u3 (by decide)
    have w1 : wrap64 (25 + (i : Int)) = 25 + (i : Int) := wrap_in u1 u2
    have hr := ih (i + 1) n q (g.set (25 + (i : Int)).toNat v1) p1 s1 q5 h2 (by rw [List.length_set]; exact h5) q6 a3
    simp only [spec_l09Mem.l0, w1, e1, Option.bind_some]
    rw [if_pos q1, if_pos q2, if_pos q3, q4]
    exact hr
theorem drawMem_f (c : List Int) (hc : c.length ≤ 1048576) (k : Nat) (p s : Int) (h0 : 0 ≤ p) (hk : 40 < k) (P : List S117) : ∃ (m : List Int) (p' s' : Int), spec_l09Mem.f k c p s P = some (m, p', s') ∧ 0 ≤ p' ∧ m.getD 8 0 ≤ 9223372036854775807 := by
  obtain ⟨v, p1, s1, e1, hv, a3⟩ := drawVars_g c hc k p s h0 (by omega)
  have h8 := okV_len hv
  obtain ⟨v2, p2, s2, e2, b1, b2, b3⟩ := drawBelow_f c hc p1 s1 a3 5 (by decide)
  obtain ⟨n, rfl⟩ : ∃ n : Nat, v2 = (n : Int) := ⟨v2.toNat, by omega⟩
  have hr := drawMem_0 c hc P n 0 n k (v ++ List.replicate 41 0) p2 s2 (by omega) (by omega) (by rw [List.length_append, List.length_replicate]; omega) (by omega) b3
  have l1 : v.length < 17592186044416 := by omega
  have l2 : v.length + 41 < 17592186044416 := by omega
  have l3 : 0 + v.length < 17592186044416 := by omega
  simp only [spec_l09Mem.f, spec_MemNew.f, specVars_f v (by omega) k (by omega), hv, e1, e2, Option.bind_some, List.nil_append, List.length_nil, ↓reduceIte, l1, l2, l3]
  exact hr
theorem if_else {α : Type} {c : Prop} [Decidable c] {t e r : α} (hc : ¬ c) (h : e = r) : (if c then t else e) = r := by rw [if_neg hc]; exact h
theorem if_then {α : Type} {c : Prop} [Decidable c] {t e r : α} (hc : c) (h : t = r) : (if c then t else e) = r := by rw [if_pos hc]; exact h
theorem bind_of {α β : Type} {x : Option α} {f : α → Option β} {a : α} {r : Option β} (h : x = some a) (h2 : f a = r) : x.bind f = r := by rw [h]; exact h2
/-- A memory and a valid link. -/
theorem drawLink_f (c : List Int) (hc : c.length ≤ 1048576) (k : Nat) (hk : c.length + 60 < k) : ∃ (m : List Int) (i n : Nat), spec_DrawLink.f k c = some (m, (i : Int), (sentOf m).take n) ∧ m.getD 8 0 ≤ 9223372036854775807 ∧ n ≤ (sentOf m).length ∧ i ≤ n := by
  have k1 : c.length < k := by omega
  have k2 : 50 < k := by omega
  have k3 : 40 < k := by omega
  have k4 : 0 < k := by omega
  clear hk
  obtain ⟨s, hs⟩ := drawNew_f c hc k k1
  obtain ⟨P, p1, s1, e1, a1⟩ := drawProgram_f c hc k 0 s (Int.le_refl _) k2
  obtain ⟨m, p2, s2, e2, b1, b2⟩ := drawMem_f c hc k p1 s1 a1 k3 P
  have h24 := sentOf_length m
  have hsent := specSent_f m b2 k k4
  have j1 : 0 < ((sentOf m).length : Int) + 1 := by omega
  obtain ⟨v, p3, s3, e3, c1, c2, c3⟩ := drawBelow_f c hc p2 s2 b1 (((sentOf m).length : Int) + 1) j1
  have j2 : 0 < v + 1 := by omega
  obtain ⟨u, p4, s4, e4, d1, d2, d3⟩ := drawBelow_f c hc p3 s3 c3 (v + 1) j2
  obtain ⟨n, rfl⟩ : ∃ n : Nat, v = (n : Int) := ⟨v.toNat, by omega⟩
  obtain ⟨i, rfl⟩ : ∃ i : Nat, u = (i : Int) := ⟨u.toNat, by omega⟩
  have j3 : n ≤ (sentOf m).length := by omega
  have j4 : i ≤ n := by omega
  have j5 : (0 : Int) ≤ (n : Int) := by omega
  have j6 : (n : Int) ≤ ((sentOf m).length : Int) := by omega
  have j7 : 0 + ((sentOf m).take n).length < 17592186044416 := by rw [List.length_take]; omega
  have b1' : -9223372036854775808 ≤ ((sentOf m).length : Int) + 1 := by omega
  have b2' : ((sentOf m).length : Int) + 1 ≤ 9223372036854775807 := by omega
  have b3' : -9223372036854775808 ≤ (n : Int) + 1 := by omega
  have b4' : (n : Int) + 1 ≤ 9223372036854775807 := by omega
  refine ⟨m, i, n, ?_, b2, j3, j4⟩
  have w1 : wrap64 (((sentOf m).length : Int) + 1) = ((sentOf m).length : Int) + 1 := wrap_in b1' b2'
  have w2 : wrap64 ((n : Int) + 1) = (n : Int) + 1 := wrap_in b3' b4'
  generalize sentOf m = L at hsent e3 w1 j3 j6 j7 ⊢
  have hcase : spec_l32Case.f k c 0 s = some (m, (i : Int), L.take n, p4, s4) := by
    unfold spec_l32Case.f
    refine bind_of e1 (bind_of e2 (bind_of hsent (bind_of ((congrArg (spec_l01Below.f c p2 s2) w1).trans e3) (bind_of ((congrArg (spec_l01Below.f c p3 s3) w2).trans e4) (bind_of rfl (if_then j5 (if_then j6 (bind_of rfl (if_then j7 rfl)))))))))
  exact bind_of hs (bind_of hcase rfl)
/-- What has arrived, behind one packet. -/
def takeP (got : List Int) (p : S33) : List Int := if p.f0 = (got.length : Int) ∧ got.length < 255 then got ++ [p.f1] else got
theorem takeP_length (got : List Int) (p : S33) : (takeP got p).length ≤ got.length + 1 := by
  unfold takeP
  split
  · simp
  · omega
/-- .. behind the first i packets, of those that are kept. -/
def recv (got : List Int) (ps : List S33) (kept : List Bool) : Nat → List Int
  | 0 => got
  | i + 1 => if kept.getD i false = true then takeP (recv got ps kept i) (ps.getD i z33) else recv got ps kept i
theorem recv_length (got : List Int) (ps : List S33) (kept : List Bool) (i : Nat) : (recv got ps kept i).length ≤ got.length + i := by
  induction i with
  | zero => exact Nat.le_refl _
  | succ i ih =>
    unfold recv
    split
    · have := takeP_length (recv got ps kept i) (ps.getD i z33)
      omega
    · omega
theorem getD_out {kept : List Bool} {i : Nat} (h : ¬ i < kept.length) : kept.getD i false = false := by
  rw [List.getD_eq_getElem?_getD, List.getElem?_eq_none (by omega)]
  rfl
theorem receive_f (g : List Int) (p : S33) (hg : g.length ≤ 8388608) : impl_Receive.f g p.f0 p.f1 = some (takeP g p, ((takeP g p).length : Int)) := by
  unfold impl_Receive.f takeP
  rw [clone_f g (by omega)]
  simp only [Option.bind_some]
  by_cases h1 : p.f0 = (g.length : Int)
  · rw [if_pos h1]
    by_cases h2 : g.length < 255
    · rw [if_pos (by omega), if_pos (by omega), if_pos ⟨h1, h2⟩]
    · rw [if_neg (by omega), if_neg (fun h => h2 h.2)]
  · rw [if_neg h1, if_neg (fun h => h1 h.1)]
theorem implAll_f (g : List Int) (ps : List S33) (kept : List Bool) (hg : g.length ≤ 1048576) (hp : ps.length ≤ 1048576) (k : Nat) (hk : ps.length < k) :
    impl_ReceiveAll.f k g ps kept = some (recv g ps kept ps.length, ((recv g ps kept ps.length).length : Int)) := by
  unfold impl_ReceiveAll.f
  rw [clone_f g (by omega), Option.bind_some]
  exact loop_up ps.length (fun k (s : Int × List Int) => impl_ReceiveAll.l0 k kept ps (ps.length : Int) s.1 s.2) (fun i => ((i : Int), recv g ps kept i)) (recv g ps kept ps.length, ((recv g ps kept ps.length).length : Int)) (fun k i hi => by
    have hr := recv_length g ps kept i
    simp only [impl_ReceiveAll.l0]
    rw [if_pos (by omega), if_pos (by omega), if_pos (by omega), rdOf_nat, wrap_next hi (by omega)]
    have e : rd_T33 ps (i : Int) = ps.getD i z33 := rfl
    rw [e, receive_f _ _ (by omega)]
    simp only [Option.bind_some]
    conv => rhs; unfold recv
    by_cases hb : i < kept.length
    · rw [if_pos (by omega)]
      split <;> rfl
    · rw [if_neg (by omega), if_neg (by rw [getD_out hb]; decide)]) (fun k => by
    simp only [impl_ReceiveAll.l0]
    rw [if_neg (by omega)]) k hk
/-- The first n packets from place a on. -/
def packs (s : List Int) (a n : Nat) : List S33 := (List.range n).map (fun j => ⟨((a + j : Nat) : Int), s.getD (a + j) 0⟩)
theorem packs_next (s : List Int) (a n : Nat) : packs s a n ++ [⟨((a + n : Nat) : Int), s.getD (a + n) 0⟩] = packs s a (n + 1) := by
  unfold packs
  rw [List.range_succ, List.map_append]
  rfl
theorem packs_length (s : List Int) (a n : Nat) : (packs s a n).length = n := by simp [packs]
def packsOf (m : List Int) (a : Int) : List S33 := if inB a 0 ((sentOf m).length : Int) = true then packs (sentOf m) a.toNat ((sentOf m).length - a.toNat) else []
theorem packsOf_length (m : List Int) (a : Int) : (packsOf m a).length ≤ 24 := by
  have := sentOf_length m
  unfold packsOf
  split
  · rw [packs_length]
    omega
  · exact Nat.zero_le _
theorem inB_nat {a : Int} {n : Nat} (h : inB a 0 (n : Int) = true) : ∃ i : Nat, a = (i : Int) ∧ i ≤ n := by
  simp only [inB, Bool.and_eq_true, decide_eq_true_eq] at h
  exact ⟨a.toNat, by omega, by omega⟩
theorem implPacks_f (m : List Int) (a : Int) (hx : m.getD 8 0 ≤ 9223372036854775807) (k : Nat) (hk : 25 < k) : impl_PacketsOf.f k m a = some (packsOf m a) := by
  have h24 := sentOf_length m
  simp only [impl_PacketsOf.f, implSent_f m hx, within_f, Option.bind_some, packsOf]
  by_cases h : inB a 0 ((sentOf m).length : Int) = true
  · rw [if_pos h, if_pos h]
    obtain ⟨i, rfl, hi⟩ := inB_nat h
    rw [Int.toNat_natCast]
    refine loop_up ((sentOf m).length - i) (fun k (s : List S33 × Int) => impl_PacketsOf.l0 k (sentOf m) s.1 s.2) (fun j => (packs (sentOf m) i j, ((i + j : Nat) : Int))) _ (fun k j hj => ?_) (fun k => ?_) k (by omega)
    · have hp := packs_length (sentOf m) i j
      dsimp only
      simp only [impl_PacketsOf.l0]
      rw [if_pos (by omega), if_pos (by omega), if_pos (by omega), rd_nat, packs_next, wrap_next (n := (sentOf m).length) (by omega) (by omega)]
      rfl
    · simp only [impl_PacketsOf.l0]
      rw [if_neg (by omega)]
  · rw [if_neg h, if_neg h]
/-- What the gateway has stays a beginning of what was sent. -/
theorem recv_take (s : List Int) (hs : s.length ≤ 24) (kept : List Bool) (a cnt n : Nat) (hc : a + cnt = s.length) (hn : n ≤ s.length) (j : Nat) (hj : j ≤ cnt) :
    ∃ t, n ≤ t ∧ t ≤ s.length ∧ recv (s.take n) (packs s a cnt) kept j = s.take t := by
  induction j with
  | zero => exact ⟨n, Nat.le_refl _, hn, rfl⟩
  | succ j ih =>
    obtain ⟨t, h1, h2, h3⟩ := ih (by omega)
    unfold recv
    by_cases hk : kept.getD j false = true
    · rw [if_pos hk, h3]
      have hp : (packs s a cnt).getD j z33 = ⟨((a + j : Nat) : Int), s.getD (a + j) 0⟩ := by
        unfold packs
        rw [List.getD_eq_getElem?_getD, List.getElem?_map, List.getElem?_range (by omega)]
        rfl
      have hl : (s.take t).length = t := by rw [List.length_take]; omega
      unfold takeP
      rw [hp, hl]
      by_cases h : ((a + j : Nat) : Int) = (t : Int) ∧ t < 255
      · rw [if_pos h]
        have ht : t < s.length := by omega
        refine ⟨t + 1, by omega, by omega, ?_⟩
        rw [List.take_succ_eq_append_getElem ht, show a + j = t from by omega, getD_lt ht]
      · rw [if_neg h]
        exact ⟨t, h1, h2, rfl⟩
    · rw [if_neg hk]
      exact ⟨t, h1, h2, h3⟩
theorem pre_take (s : List Int) (n t : Nat) (h : n ≤ t) (ht : t ≤ s.length) : pre (s.take n) (s.take t) = true := by
  unfold pre
  rw [decide_eq_true_eq, List.length_take, List.take_take, show min (min n s.length) t = n from by omega]
theorem pre_all (s : List Int) (t : Nat) (ht : t ≤ s.length) : pre (s.take t) s = true := by
  unfold pre
  rw [decide_eq_true_eq, List.length_take, show min t s.length = t from by omega]
theorem linkOk_drawn (m : List Int) (i n : Nat) (hn : n ≤ (sentOf m).length) (hi : i ≤ n) : linkOk m (i : Int) ((sentOf m).take n) = true := by
  unfold linkOk pre
  rw [List.length_take, Nat.min_eq_left hn, Bool.and_eq_true, decide_eq_true_eq]
  refine ⟨?_, rfl⟩
  unfold inB
  rw [Bool.and_eq_true, decide_eq_true_eq, decide_eq_true_eq]
  omega
theorem packsOf_nat (m : List Int) (i : Nat) (hi : i ≤ (sentOf m).length) : packsOf m (i : Int) = packs (sentOf m) i ((sentOf m).length - i) := by
  unfold packsOf inB
  rw [if_pos (by rw [Bool.and_eq_true, decide_eq_true_eq, decide_eq_true_eq]; omega), Int.toNat_natCast]
theorem big_f (c : List Int) : laws_big.f c = some (decide ((c.length : Int) > 1048576)) := rfl
/-- A round. -/
def sendR (m : List Int) (a : Int) (g : List Int) (kept : List Bool) (b : Bool) : Int × List Int × Bool :=
  if linkOk m a g = true then (if b = true then (((recv g (packsOf m a) kept (packsOf m a).length).length : Int), recv g (packsOf m a) kept (packsOf m a).length, true) else (a, recv g (packsOf m a) kept (packsOf m a).length, true)) else (a, g, false)
theorem implSend_f (m : List Int) (a : Int) (g : List Int) (kept : List Bool) (b : Bool) (hx : m.getD 8 0 ≤ 9223372036854775807) (hg : g.length ≤ 1048576) (k : Nat) (hk : g.length + 30 < k) : impl_SendRound.f k m a g kept b = some (sendR m a g kept b) := by
  have h1 := packsOf_length m a
  simp only [impl_SendRound.f, impl_copyLink.f, clone_f g (by omega), implLink_f m a g hx hg k (by omega), implPacks_f m a hx k (by omega), implAll_f g (packsOf m a) kept hg (by omega) k (by omega), Option.bind_some, sendR]
  split
  · split <;> rfl
  · rfl
theorem deliv_f (a : Int) (g : List Int) (hg : g.length < 17592186044416) : impl_Delivered.f a g = some g := by
  unfold impl_Delivered.f
  rw [clone_f g hg]
  rfl
theorem same_f (l : List Int) (hl : l.length ≤ 1048576) (k : Nat) (hk : l.length < k) : laws_sameInts.f k l l = some true := by
  unfold laws_sameInts.f
  rw [if_pos rfl]
  refine loop_up l.length (fun k (s : Int) => laws_sameInts.l0 k l l s) (fun i => (i : Int)) _ (fun k i hi => ?_) (fun k => ?_) k hk
  · simp only [laws_sameInts.l0, ↓reduceIte]
    rw [if_pos (by omega), if_pos (by omega), if_pos (by omega), wrap_next hi (by omega)]
  · simp only [laws_sameInts.l0]
    rw [if_neg (by omega)]
/-- Where every packet is kept, all arrive. -/
theorem recv_all (s : List Int) (hs : s.length ≤ 24) (a cnt n : Nat) (hc : a + cnt = s.length) (hn : n ≤ s.length) (ha : a ≤ n) (j : Nat) (hj : j ≤ cnt) :
    recv (s.take n) (packs s a cnt) (List.replicate 24 true) j = s.take (max n (a + j)) := by
  induction j with
  | zero =>
    rw [show max n (a + 0) = n from by omega]
    rfl
  | succ j ih =>
    unfold recv
    have hk : (List.replicate 24 true).getD j false = true := by
      rw [List.getD_eq_getElem?_getD, List.getElem?_replicate, if_pos (by omega)]
      rfl
    rw [if_pos hk, ih (by omega)]
    have hp : (packs s a cnt).getD j z33 = ⟨((a + j : Nat) : Int), s.getD (a + j) 0⟩ := by
      unfold packs
      rw [List.getD_eq_getElem?_getD, List.getElem?_map, List.getElem?_range (by omega)]
      rfl
    have hl : (s.take (max n (a + j))).length = max n (a + j) := by rw [List.length_take]; omega
    unfold takeP
    rw [hp, hl]
    by_cases h : n ≤ a + j
    · rw [show max n (a + j) = a + j from by omega, show max n (a + (j + 1)) = a + j + 1 from by omega, if_pos ⟨rfl, by omega⟩]
      have ht : a + j < s.length := by omega
      rw [List.take_succ_eq_append_getElem ht, getD_lt ht]
    · rw [show max n (a + j) = n from by omega, show max n (a + (j + 1)) = n from by omega, if_neg]
      intro hh
      have h1 : ((a + j : Nat) : Int) = (n : Int) := hh.1
      omega
theorem bit_f (b : Bool) : impl_bit.f b = some (if b = true then 1 else 0) := by
  unfold impl_bit.f
  split <;> rfl
theorem rounds_f (m : List Int) (i : Nat) (g : List Int) (hx : m.getD 8 0 ≤ 9223372036854775807) (hg : g.length ≤ 1048576) (hl : linkOk m (i : Int) g = true) (k : Nat) (hk : g.length < k) :
    impl_RoundsNeeded.f k m (i : Int) g = some (if ((i : Int) != ((sentOf m).length : Int)) = true then 1 else 0) := by
  unfold impl_RoundsNeeded.f
  have e := implLink_f m (i : Int) g hx hg k hk
  rw [hl] at e
  exact bind_of e (if_then rfl (bind_of (implSent_f m hx) (bind_of (bit_f _) rfl)))
theorem FnDelivered : laws_FnDelivered.Pure := by
  intro c hc
  refine ⟨c.length + 100, ?_⟩
  unfold laws_FnDelivered.f
  refine bind_of (big_f c) ?_
  by_cases hb : decide ((c.length : Int) > 1048576) = true
  · exact if_then hb rfl
  · refine if_else hb ?_
    rw [decide_eq_true_eq] at hb
    have hc1 : c.length ≤ 1048576 := by omega
    clear hb hc
    obtain ⟨K, hK⟩ : ∃ K, K = c.length + 70 := ⟨_, rfl⟩
    rw [show c.length + 100 = K + 30 from by omega]
    have hk1 : c.length + 60 < K := by omega
    have hk2 : 60 < K := by omega
    clear hK
    obtain ⟨m, i, n, e1, h8, hn, hi⟩ := drawLink_f c hc1 (K + 30) (by omega)
    refine bind_of e1 ?_
    have h24 := sentOf_length m
    show laws_FnDelivered.l0 (K + 30) m [] 0 (i : Int) ((sentOf m).take n) = some true
    have hin : i ≤ (sentOf m).length := by omega
    obtain ⟨g, hg⟩ : ∃ g, g = (sentOf m).take n := ⟨_, rfl⟩
    have hgl : g.length = n := by rw [hg, List.length_take]; omega
    have hl := linkOk_drawn m i n hn hi
    have hl2 := linkOk_drawn m (sentOf m).length (sentOf m).length (Nat.le_refl _) (Nat.le_refl _)
    rw [← hg] at hl
    rw [List.take_length] at hl2
    have last : ∀ (k : Nat), K < k → laws_FnDelivered.l0 (k + 1) m (List.replicate 24 true) 24 (i : Int) g = some true := by
      intro k hk
      have e := implSend_f m (i : Int) g (List.replicate 24 true) true h8 (by omega) k (by omega)
      have t3 := recv_all (sentOf m) h24 i ((sentOf m).length - i) n (by omega) hn hi _ (Nat.le_refl _)
      have hr : recv g (packsOf m (i : Int)) (List.replicate 24 true) (packsOf m (i : Int)).length = sentOf m := by
        rw [packsOf_nat m i hin, packs_length, hg, t3, show max n (i + ((sentOf m).length - i)) = (sentOf m).length from by omega, List.take_length]
      unfold sendR at e
      rw [if_pos hl, hr, if_pos rfl] at e
      have r1 := rounds_f m i g h8 (by omega) hl k (by omega)
      have r2 := rounds_f m (sentOf m).length (sentOf m) h8 (by omega) hl2 k (by omega)
      rw [if_neg (by rw [bne_self_eq_false]; decide)] at r2
      have d1 := deliv_f ((sentOf m).length : Int) (sentOf m) (by omega)
      have s1 := same_f (sentOf m) (by omega) k (by omega)
      have pk := implPacks_f m ((sentOf m).length : Int) h8 k (by omega)
      rw [packsOf_nat m (sentOf m).length (Nat.le_refl _), Nat.sub_self] at pk
      simp only [laws_FnDelivered.l0]
      refine if_else (by decide) (bind_of e (bind_of r1 (if_then rfl (bind_of d1 (bind_of (implSent_f m h8) (bind_of s1 (if_then rfl (bind_of r2 (if_then rfl (if_then ?_ (if_then ?_ (bind_of pk rfl))))))))))))
      · split <;> decide
      · split <;> decide
    rw [← hg]
    have key : ∀ d j k, 24 - j = d → j ≤ 24 → K + d + 1 < k → laws_FnDelivered.l0 k m (List.replicate j true) (j : Int) (i : Int) g = some true := by
      intro d
      induction d with
      | zero =>
        intro j k h1 h2 h3
        obtain ⟨q, rfl⟩ : ∃ q, k = q + 1 := ⟨k - 1, by omega⟩
        obtain rfl : j = 24 := by omega
        exact last q (by omega)
      | succ d ih =>
        intro j k h1 h2 h3
        obtain ⟨q, rfl⟩ : ∃ q, k = q + 1 := ⟨k - 1, by omega⟩
        have n1 : (j : Int) < 24 := by omega
        have n4 : (List.replicate j true).length < 140737488355328 := by rw [List.length_replicate]; omega
        have hj6 : j < 24 := by omega
        have r := ih (j + 1) q (by omega) (by omega) (by omega)
        rw [List.replicate_succ'] at r
        have w := wrap_next hj6 (by decide)
        simp only [laws_FnDelivered.l0]
        rw [w]
        exact if_then n1 (if_then n4 r)
    exact key 24 0 (K + 30) rfl (by omega) (by omega)

end Go.Proofs.Ytdmmogcpamgdnaa.Pure
