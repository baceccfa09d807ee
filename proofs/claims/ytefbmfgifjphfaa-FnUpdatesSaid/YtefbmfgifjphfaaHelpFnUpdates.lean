/- What the law FnUpdates's helper functions (they copy, compare, mark) come to. Conditions: as each lemma says. -/
import Derived.Test.YtefbmfgifjphfaaPFnUpdatesxL
import Derived.Test.YtefbmfgifjphfaaXPure
namespace Go.Proofs.Ytefbmfgifjphfaa.PureFnUpdates
open Go.RowKit Go.Proofs.Ytefbmfgifjphfaa.PFnUpdates Go.Proofs.Ytefbmfgifjphfaa.XPure Go.Proofs.YtefbmfgifjphfaaW.PrintWords Go.Proofs.YtefbmfgifjphfaaW.PrintLast Go.Proofs.YtefbmfgifjphfaaW.PrintMore
set_option linter.unusedSimpArgs false
set_option linter.unusedVariables false
def inB (a b c : Int) : Bool := decide (a ≥ b) && decide (a ≤ c)
theorem within_f (a b c : Int) : impl_within.f a b c = some (inB a b c) := by
  unfold impl_within.f inB
  by_cases h : a ≥ b
  · rw [if_pos h, decide_eq_true h, Bool.true_and]
  · rw [if_neg h, decide_eq_false h, Bool.false_and]
theorem implIsValue_f (x : Int) : impl_IsValue.f x = some (inB x (-1000000) 1000000) := by
  simp only [impl_IsValue.f, within_f, Option.bind_some]
/-- All are values. -/
def allV (l : List Int) : Bool := endsAt (fun i => inB (l.getD i 0) (-1000000) 1000000) (fun _ => false) true l.length 0
theorem implValues_f (l : List Int) (hl : l.length ≤ 35184372088832) (k : Nat) (hk : l.length < k) : impl_areValues.f k l = some (allV l) := by
  have h : slices_IndexFunc_int_int_at_impl_areValues_1.f k l = some (endsAt (fun i => inB (l.getD i 0) (-1000000) 1000000) (fun i => (i : Int)) (-1) l.length 0) := by
    unfold slices_IndexFunc_int_int_at_impl_areValues_1.f
    refine loop_ends l.length (fun k (s : Int) => slices_IndexFunc_int_int_at_impl_areValues_1.l0 k l (l.length : Int) s) (fun i => (i : Int)) _ _ _ (fun k i hi hc => ?_) (fun k i hi hc => ?_) (fun k => ?_) k hk
    · simp only [slices_IndexFunc_int_int_at_impl_areValues_1.l0, rd_nat, impl_areValues_1.f, implIsValue_f, hc, Option.bind_some, Bool.not_true, Bool.false_eq_true, ↓reduceIte]
      rw [if_pos (by omega), if_pos (by omega), if_pos (by omega), wrap_next hi (by omega)]
    · simp only [slices_IndexFunc_int_int_at_impl_areValues_1.l0, rd_nat, impl_areValues_1.f, implIsValue_f, hc, Option.bind_some, Bool.not_false, ↓reduceIte]
      rw [if_pos (by omega), if_pos (by omega), if_pos (by omega)]
    · simp only [slices_IndexFunc_int_int_at_impl_areValues_1.l0]
      rw [if_neg (by omega)]
  simp only [impl_areValues.f, slices_ContainsFunc_int_int_at_impl_areValues_1.f, h, Option.bind_some, endsAt_place, Bool.not_not]
  rfl
/-- The sum of the first i elements behind v, as Go adds. -/
def sumW (v : Int) (l : List Int) : Nat → Int
  | 0 => v
  | i + 1 => wrap64 (sumW v l i + l.getD i 0)
/-- The remainder by 65521 that is no less than 0. -/
def mod65 (s : Int) : Int := if Int.tmod s 65521 < 0 then wrap64 (Int.tmod s 65521 + 65521) else Int.tmod s 65521
theorem mod65_other (s : Int) : Int.tmod (wrap64 (Int.tmod s 65521 + 65521)) 65521 = mod65 s := by
  have h1 := Int.lt_tmod_of_pos s (by decide : (0 : Int) < 65521)
  have h2 := Int.tmod_lt_of_pos s (by decide : (0 : Int) < 65521)
  unfold mod65
  generalize Int.tmod s 65521 = t at h1 h2 ⊢
  rw [wrap_in (by omega) (by omega), Int.tmod_eq_emod_of_nonneg (by omega)]
  split <;> omega
theorem specSum_f (v : Int) (l : List Int) (hl : l.length ≤ 35184372088832) (k : Nat) (hk : l.length < k) : spec_l35Sum.f k v l = some (mod65 (sumW v l l.length)) := by
  unfold spec_l35Sum.f
  exact loop_up l.length (fun k (s : Int × Int) => spec_l35Sum.l0 k l s.1 s.2) (fun i => (sumW v l i, (i : Int))) (mod65 (sumW v l l.length)) (fun k i hi => by
    simp only [spec_l35Sum.l0]
    rw [if_pos (by omega), if_pos (by omega), wrap_next hi (by omega), rd_nat]
    rfl) (fun k => by
    simp only [spec_l35Sum.l0]
    rw [if_neg (by omega)]
    unfold mod65
    split <;> rfl) k hk
theorem implSum_f (v : Int) (l : List Int) (hl : l.length ≤ 35184372088832) (k : Nat) (hk : l.length < k) : impl_bankSum.f k v l = some (mod65 (sumW v l l.length)) := by
  unfold impl_bankSum.f
  exact loop_up l.length (fun k (s : Int × Int) => impl_bankSum.l0 k s.1 l (l.length : Int) s.2) (fun i => (sumW v l i, (i : Int))) (mod65 (sumW v l l.length)) (fun k i hi => by
    simp only [impl_bankSum.l0]
    rw [if_pos (by omega), if_pos (by omega), if_pos (by omega), wrap_next hi (by omega), rd_nat]
    rfl) (fun k => by
    simp only [impl_bankSum.l0, impl_modulo.f]
    rw [if_neg (by omega), if_neg (by decide), Option.bind_some, mod65_other]) k hk
theorem clone_f (l : List Int) (hl : l.length < 17592186044416) : slices_Clone_int_int.f l = some l := by
  simp only [slices_Clone_int_int.f, Option.bind_some, List.nil_append, List.length_nil]
  rw [if_pos (by omega)]
/-- The low byte of a number. -/
theorem byte_in (x : Int) : 0 ≤ Go.bits .and .i64 x 255 ∧ Go.bits .and .i64 x 255 ≤ 255 := by
  have h : Go.bits .and .i64 x 255 = (((BitVec.ofInt 64 x).toNat &&& 255 : Nat) : Int) := by
    show IntKind.i64.wrap ((BitVec.ofInt 64 x &&& BitVec.ofInt 64 255).toNat : Int) = _
    rw [BitVec.toNat_and, show (BitVec.ofInt 64 255).toNat = 255 from by decide]
    have h4 : (BitVec.ofInt 64 x).toNat &&& 255 ≤ 255 := Nat.and_le_right
    generalize (BitVec.ofInt 64 x).toNat &&& 255 = m at h4 ⊢
    rw [IntKind.wrap_i64]
    omega
  have h4 : (BitVec.ofInt 64 x).toNat &&& 255 ≤ 255 := Nat.and_le_right
  rw [h]
  omega
theorem drawByte_f (d : List Int) (hd : d.length ≤ 1048576) (p s : Int) (h0 : 0 ≤ p) : ∃ v p' s', spec_l01Byte.f d p s = some (v, p', s') ∧ 0 ≤ v ∧ v ≤ 255 ∧ 0 ≤ p' := by
  unfold spec_l01Byte.f
  by_cases h : p < (d.length : Int)
  · rw [if_pos h, if_pos h0, wrap_in (x := p + 1) (by omega) (by omega)]
    exact ⟨_, _, _, rfl, (byte_in _).1, (byte_in _).2, by omega⟩
  · rw [if_neg h]
    exact ⟨_, _, _, rfl, (byte_in _).1, (byte_in _).2, h0⟩
theorem drawBelow_f (d : List Int) (hd : d.length ≤ 1048576) (p s : Int) (h0 : 0 ≤ p) (n : Int) (hn : 0 < n) : ∃ v p' s', spec_l01Below.f d p s n = some (v, p', s') ∧ 0 ≤ v ∧ v < n ∧ 0 ≤ p' := by
  obtain ⟨v1, p1, s1, e1, a1, b1, c1⟩ := drawByte_f d hd p s h0
  obtain ⟨v2, p2, s2, e2, a2, b2, c2⟩ := drawByte_f d hd p1 s1 c1
  obtain ⟨v3, p3, s3, e3, a3, b3, c3⟩ := drawByte_f d hd p2 s2 c2
  obtain ⟨v4, p4, s4, e4, a4, b4, c4⟩ := drawByte_f d hd p3 s3 c3
  simp only [spec_l01Below.f, e1, e2, e3, e4, Option.bind_some]
  rw [if_neg (by omega)]
  by_cases h : n ≤ 256
  · rw [if_pos h, if_neg (by omega)]
    exact ⟨_, _, _, rfl, Int.tmod_nonneg _ a1, Int.tmod_lt_of_pos _ hn, c1⟩
  · rw [if_neg h, if_neg (by omega), wrap_in (x := v1 * 16777216) (by omega) (by omega), wrap_in (x := v2 * 65536) (by omega) (by omega), wrap_in (x := v3 * 256) (by omega) (by omega), wrap_in (x := v1 * 16777216 + v2 * 65536) (by omega) (by omega), wrap_in (x := v1 * 16777216 + v2 * 65536 + v3 * 256) (by omega) (by omega), wrap_in (by omega) (by omega)]
    exact ⟨_, _, _, rfl, Int.tmod_nonneg _ (by omega), Int.tmod_lt_of_pos _ hn, c4⟩
theorem drawNew_f (c : List Int) (hc : c.length ≤ 1048576) (k : Nat) (hk : c.length < k) : ∃ s, spec_l01New.f k c = some (c, 0, s) := by
  have key : ∀ d i k s, c.length - i = d → i ≤ c.length → d < k → ∃ s', spec_l01New.l0 k c s (i : Int) = some (c, 0, s') := by
    intro d
    induction d with
    | zero =>
      intro i k s h1 h2 h3
      obtain ⟨q, rfl⟩ : ∃ q, k = q + 1 := ⟨k - 1, by omega⟩
      simp only [spec_l01New.l0]
      rw [if_neg (by omega)]
      exact ⟨_, rfl⟩
    | succ d ih =>
      intro i k s h1 h2 h3
      obtain ⟨q, rfl⟩ : ∃ q, k = q + 1 := ⟨k - 1, by omega⟩
      simp only [spec_l01New.l0]
      rw [if_pos (by omega)]
      by_cases h : (i : Int) < 4000
      · rw [if_pos h, if_pos (by omega), wrap_next (n := c.length) (by omega) (by omega)]
        exact ih (i + 1) q _ (by omega) (by omega) (by omega)
      · rw [if_neg h]
        exact ⟨_, rfl⟩
  exact key c.length 0 k _ (by omega) (by omega) hk
theorem drawPlaces_f (c : List Int) (hc : c.length ≤ 1048576) (k : Nat) (hk : c.length + 12 < k) : ∃ p : List Int, spec_DrawPlaces.f k c = some p ∧ p.length = 12 ∧ ∀ i, i < 12 → 0 ≤ p.getD i 0 ∧ p.getD i 0 < 10000 := by
  obtain ⟨s, hs⟩ := drawNew_f c hc k (by omega)
  simp only [spec_DrawPlaces.f, hs, Option.bind_some]
  have key : ∀ d i k (g : List Int) (p s : Int), 12 - i = d → i ≤ 12 → d < k → 0 ≤ p → g.length = i → (∀ j, j < i → 0 ≤ g.getD j 0 ∧ g.getD j 0 < 10000) → ∃ r : List Int, spec_DrawPlaces.l0 k g (i : Int) c p s = some r ∧ r.length = 12 ∧ ∀ i, i < 12 → 0 ≤ r.getD i 0 ∧ r.getD i 0 < 10000 := by
    intro d
    induction d with
    | zero =>
      intro i k g p s h1 h2 h3 h4 h5 h6
      obtain ⟨q, rfl⟩ : ∃ q, k = q + 1 := ⟨k - 1, by omega⟩
      simp only [spec_DrawPlaces.l0]
      rw [if_neg (by omega)]
      exact ⟨g, rfl, by omega, fun j hj => h6 j (by omega)⟩
    | succ d ih =>
      intro i k g p s h1 h2 h3 h4 h5 h6
      obtain ⟨q, rfl⟩ : ∃ q, k = q + 1 := ⟨k - 1, by omega⟩
      obtain ⟨v, p', s', e, a1, a2, a3⟩ := drawBelow_f c hc p s h4 10000 (by decide)
      simp only [spec_DrawPlaces.l0, e, Option.bind_some]
      rw [if_pos (by omega), if_pos (by omega), wrap_next (n := 12) (by omega) (by omega)]
      refine ih (i + 1) q _ _ _ (by omega) (by omega) (by omega) a3 (by simp [h5]) (fun j hj => ?_)
      rcases Nat.lt_succ_iff_lt_or_eq.1 hj with h | h
      · rw [List.getD_eq_getElem?_getD, List.getElem?_append_left (by omega), ← List.getD_eq_getElem?_getD]
        exact h6 j h
      · rw [h, ← h5, List.getD_eq_getElem?_getD, List.getElem?_append_right (Nat.le_refl _), Nat.sub_self]
        exact ⟨a1, a2⟩
  exact key 12 0 k [] 0 s (by omega) (by omega) (by omega) (by omega) rfl (fun j hj => absurd hj (Nat.not_lt_zero j))
end Go.Proofs.Ytefbmfgifjphfaa.PureFnUpdates
