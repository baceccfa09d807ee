/- What the law FnDelivered's helper functions (they copy, compare, mark) come to. Conditions: as each lemma says. -/
import Derived.Test.YtdmmogcpamgdnaaPFnDeliveredxL
import Derived.Test.YtdmmogcpamgdnaaXPure
namespace Go.Proofs.Ytdmmogcpamgdnaa.PureFnDelivered
open Go.RowKit Go.Proofs.Ytdmmogcpamgdnaa.PFnDelivered Go.Proofs.Ytdmmogcpamgdnaa.XPure Go.Proofs.YtdmmogcpamgdnaaW.PrintWords Go.Proofs.YtdmmogcpamgdnaaW.PrintLast Go.Proofs.YtdmmogcpamgdnaaW.PrintMore
set_option linter.unusedSimpArgs false
set_option linter.unusedVariables false
def inB (a b c : Int) : Bool := decide (a ≥ b) && decide (a ≤ c)
theorem in_f (a b c : Int) : spec_l01In.f a b c = some (inB a b c) := by
  unfold spec_l01In.f inB
  by_cases h : a ≥ b
  · rw [if_pos h, decide_eq_true h, Bool.true_and]
  · rw [if_neg h, decide_eq_false h, Bool.false_and]
theorem within_f (a b c : Int) : impl_within.f a b c = some (inB a b c) := in_f a b c
theorem specIsValue_f (x : Int) : spec_IsValue.f x = some (inB x (-1000000) 1000000) := by
  simp only [spec_IsValue.f, in_f, Option.bind_some]
/-- What a control word holds. -/
def unp (x : Int) : Int × Int × Int := if 0 ≤ x ∧ x % 8 ≤ 5 ∧ x / 8 % 16 ≤ 8 ∧ x / 128 ≤ 24 then (x % 8, x / 8 % 16, x / 128) else (-1, -1, -1)
theorem specPack_f (a b c : Int) : spec_PackControl.f a b c = some (if 0 ≤ a ∧ a ≤ 5 ∧ 0 ≤ b ∧ b ≤ 8 ∧ 0 ≤ c ∧ c ≤ 24 then a + 8 * (b + 16 * c) else -1) := by
  simp only [spec_PackControl.f, in_f, inB, Option.bind_some]
  by_cases h1 : a ≥ 0 ∧ a ≤ 5
  · rw [decide_eq_true h1.1, decide_eq_true h1.2]
    by_cases h2 : b ≥ 0 ∧ b ≤ 8
    · rw [decide_eq_true h2.1, decide_eq_true h2.2]
      by_cases h3 : c ≥ 0 ∧ c ≤ 24
      · rw [decide_eq_true h3.1, decide_eq_true h3.2, if_pos (c := 0 ≤ a ∧ a ≤ 5 ∧ 0 ≤ b ∧ b ≤ 8 ∧ 0 ≤ c ∧ c ≤ 24) (by omega)]
        simp only [Bool.and_self, ↓reduceIte]
        rw [wrap_in (x := 16 * c) (by omega) (by omega), wrap_in (x := b + 16 * c) (by omega) (by omega), wrap_in (x := 8 * (b + 16 * c)) (by omega) (by omega), wrap_in (by omega) (by omega)]
      · rw [if_neg (c := 0 ≤ a ∧ a ≤ 5 ∧ 0 ≤ b ∧ b ≤ 8 ∧ 0 ≤ c ∧ c ≤ 24) (by omega), ← Bool.decide_and, decide_eq_false h3]
        rfl
    · rw [if_neg (c := 0 ≤ a ∧ a ≤ 5 ∧ 0 ≤ b ∧ b ≤ 8 ∧ 0 ≤ c ∧ c ≤ 24) (by omega), ← Bool.decide_and (b ≥ 0), decide_eq_false h2]
      rfl
  · rw [if_neg (c := 0 ≤ a ∧ a ≤ 5 ∧ 0 ≤ b ∧ b ≤ 8 ∧ 0 ≤ c ∧ c ≤ 24) (by omega), ← Bool.decide_and (a ≥ 0), decide_eq_false h1]
    rfl
theorem implPack_f (a b c : Int) : impl_PackControl.f a b c = some (if 0 ≤ a ∧ a ≤ 5 ∧ 0 ≤ b ∧ b ≤ 8 ∧ 0 ≤ c ∧ c ≤ 24 then a + 8 * (b + 16 * c) else -1) := by
  simp only [impl_PackControl.f, within_f, inB, Option.bind_some]
  by_cases h1 : a ≥ 0 ∧ a ≤ 5
  · rw [decide_eq_true h1.1, decide_eq_true h1.2]
    by_cases h2 : b ≥ 0 ∧ b ≤ 8
    · rw [decide_eq_true h2.1, decide_eq_true h2.2]
      by_cases h3 : c ≥ 0 ∧ c ≤ 24
      · rw [decide_eq_true h3.1, decide_eq_true h3.2, if_pos (c := 0 ≤ a ∧ a ≤ 5 ∧ 0 ≤ b ∧ b ≤ 8 ∧ 0 ≤ c ∧ c ≤ 24) (by omega)]
        simp only [Bool.and_self, ↓reduceIte]
        rw [wrap_in (x := 16 * c) (by omega) (by omega), wrap_in (x := b + 16 * c) (by omega) (by omega), wrap_in (x := 8 * (b + 16 * c)) (by omega) (by omega), wrap_in (by omega) (by omega)]
      · rw [if_neg (c := 0 ≤ a ∧ a ≤ 5 ∧ 0 ≤ b ∧ b ≤ 8 ∧ 0 ≤ c ∧ c ≤ 24) (by omega), ← Bool.decide_and, decide_eq_false h3]
        rfl
    · rw [if_neg (c := 0 ≤ a ∧ a ≤ 5 ∧ 0 ≤ b ∧ b ≤ 8 ∧ 0 ≤ c ∧ c ≤ 24) (by omega), ← Bool.decide_and (b ≥ 0), decide_eq_false h2]
      rfl
  · rw [if_neg (c := 0 ≤ a ∧ a ≤ 5 ∧ 0 ≤ b ∧ b ≤ 8 ∧ 0 ≤ c ∧ c ≤ 24) (by omega), ← Bool.decide_and (a ≥ 0), decide_eq_false h1]
    rfl
theorem specUnp_f (x : Int) (hx : x ≤ 9223372036854775807) (k : Nat) (hk : 0 < k) : spec_UnpackControl.f k x = some (unp x) := by
  obtain ⟨k, rfl⟩ : ∃ m, k = m + 1 := ⟨k - 1, by omega⟩
  unfold spec_UnpackControl.f
  by_cases h0 : x < 0
  · rw [if_pos h0]
    simp only [spec_UnpackControl.j0, ↓reduceIte, unp]
    rw [if_neg (by omega)]
  · rw [if_neg h0]
    by_cases h1 : x > 100000
    · rw [decide_eq_true h1]
      simp only [spec_UnpackControl.j0, ↓reduceIte, unp]
      rw [if_neg (by omega)]
    · rw [decide_eq_false h1]
      simp only [spec_UnpackControl.j0, Bool.false_eq_true, ↓reduceIte, specPack_f, Option.bind_some]
      rw [Int.tdiv_eq_ediv_of_nonneg (by omega), Int.tdiv_eq_ediv_of_nonneg (by omega), wrap_in (x := x / 8) (by omega) (by omega), wrap_in (x := x / 128) (by omega) (by omega), Int.tmod_eq_emod_of_nonneg (by omega), Int.tmod_eq_emod_of_nonneg (by omega)]
      unfold unp
      by_cases h2 : 0 ≤ x ∧ x % 8 ≤ 5 ∧ x / 8 % 16 ≤ 8 ∧ x / 128 ≤ 24
      · rw [if_pos h2, if_pos (c := 0 ≤ x % 8 ∧ x % 8 ≤ 5 ∧ 0 ≤ x / 8 % 16 ∧ x / 8 % 16 ≤ 8 ∧ 0 ≤ x / 128 ∧ x / 128 ≤ 24) (by omega), if_pos (by omega)]
      · rw [if_neg h2, if_neg (c := 0 ≤ x % 8 ∧ x % 8 ≤ 5 ∧ 0 ≤ x / 8 % 16 ∧ x / 8 % 16 ≤ 8 ∧ 0 ≤ x / 128 ∧ x / 128 ≤ 24) (by omega), if_neg (by omega)]
theorem implUnp_f (x : Int) (hx : x ≤ 9223372036854775807) : impl_UnpackControl.f x = some (unp x) := by
  unfold impl_UnpackControl.f
  by_cases h0 : x < 0
  · rw [if_pos h0]
    simp only [unp]
    rw [if_neg (by omega)]
  · rw [if_neg h0]
    simp only [implPack_f, Option.bind_some]
    rw [Int.tdiv_eq_ediv_of_nonneg (by omega), Int.tdiv_eq_ediv_of_nonneg (by omega), wrap_in (x := x / 8) (by omega) (by omega), wrap_in (x := x / 128) (by omega) (by omega), Int.tmod_eq_emod_of_nonneg (by omega), Int.tmod_eq_emod_of_nonneg (by omega)]
    unfold unp
    by_cases h2 : 0 ≤ x ∧ x % 8 ≤ 5 ∧ x / 8 % 16 ≤ 8 ∧ x / 128 ≤ 24
    · rw [if_pos h2, if_pos (c := 0 ≤ x % 8 ∧ x % 8 ≤ 5 ∧ 0 ≤ x / 8 % 16 ∧ x / 8 % 16 ≤ 8 ∧ 0 ≤ x / 128 ∧ x / 128 ≤ 24) (by omega), if_pos (by omega)]
    · rw [if_neg h2, if_neg (c := 0 ≤ x % 8 ∧ x % 8 ≤ 5 ∧ 0 ≤ x / 8 % 16 ∧ x / 8 % 16 ≤ 8 ∧ 0 ≤ x / 128 ∧ x / 128 ≤ 24) (by omega), if_neg (by omega)]
theorem unp_tail (x : Int) : (unp x).2.2 = -1 ∨ (0 ≤ (unp x).2.2 ∧ (unp x).2.2 ≤ 24) := by
  unfold unp
  split
  · exact .inr (by simp; omega)
  · exact .inl rfl
/-- What has been sent for good. -/
def sentOf (m : List Int) : List Int := if m.length = 49 then (if (unp (m.getD 8 0)).2.2 < 0 then [] else (m.take (25 + (unp (m.getD 8 0)).2.2.toNat)).drop 25) else []
theorem sentOf_length (m : List Int) : (sentOf m).length ≤ 24 := by
  unfold sentOf
  have h := unp_tail (m.getD 8 0)
  split
  · split
    · simp
    · simp; omega
  · simp
theorem specSent_f (m : List Int) (hx : m.getD 8 0 ≤ 9223372036854775807) (k : Nat) (hk : 0 < k) : spec_MemSent.f k m = some (sentOf m) := by
  unfold spec_MemSent.f sentOf
  by_cases h : m.length = 49
  · have ht := unp_tail (m.getD 8 0)
    have r8 : rd m 8 = m.getD 8 0 := rfl
    rw [if_pos (by omega), if_pos (by omega), r8, specUnp_f _ hx k hk, if_pos h]
    simp only [Option.bind_some]
    generalize hu : (unp (m.getD 8 0)).2.2 = t at ht ⊢
    by_cases h0 : t < 0
    · rw [if_pos h0, if_pos h0]
    · rw [if_neg h0, if_neg h0, wrap_in (x := 25 + t) (by omega) (by omega), if_pos (by omega), if_pos (by omega)]
      have e : (25 + t).toNat = 25 + t.toNat := by omega
      rw [e, if_pos (by simp; omega), List.nil_append]
  · rw [if_neg (by omega), if_neg h]
theorem clone_f (l : List Int) (hl : l.length < 17592186044416) : slices_Clone_int_int.f l = some l := by
  simp only [slices_Clone_int_int.f, Option.bind_some, List.nil_append, List.length_nil]
  rw [if_pos (by omega)]
theorem implSent_f (m : List Int) (hx : m.getD 8 0 ≤ 9223372036854775807) : impl_MemSent.f m = some (sentOf m) := by
  unfold impl_MemSent.f sentOf
  by_cases h : m.length = 49
  · have ht := unp_tail (m.getD 8 0)
    have r8 : rd m 8 = m.getD 8 0 := rfl
    rw [if_pos (by omega), if_pos (by omega), r8, implUnp_f _ hx, if_pos h]
    simp only [Option.bind_some]
    generalize hu : (unp (m.getD 8 0)).2.2 = t at ht ⊢
    by_cases h0 : t < 0
    · rw [if_pos h0, if_pos h0]
    · rw [if_neg h0, if_neg h0, wrap_in (x := 25 + t) (by omega) (by omega), if_pos (by omega), if_pos (by omega)]
      have e : (25 + t).toNat = 25 + t.toNat := by omega
      rw [e, clone_f _ (by simp; omega), Option.bind_some]
  · rw [if_neg (by omega), if_neg h]
theorem equalInts_f (x y : List Int) (hl : x.length ≤ 35184372088832) (k : Nat) (hk : x.length < k) : slices_Equal_int_int.f k x y = some (decide (x = y)) := by
  unfold slices_Equal_int_int.f
  by_cases h : x.length = y.length
  · rw [if_pos (by omega)]
    have e := loop_ends x.length (fun k (s : Int) => slices_Equal_int_int.l0 k x y (x.length : Int) s) (fun i => (i : Int)) (fun i => decide (x.getD i 0 = y.getD i 0)) (fun _ => false) true (fun k i hi hc => by
      simp only [slices_Equal_int_int.l0]
      rw [if_pos (by omega), if_pos (by omega), if_pos (by omega), if_pos (by omega), rd_nat, rd_nat, if_pos (of_decide_eq_true hc), wrap_next hi (by omega)]) (fun k i hi hc => by
      simp only [slices_Equal_int_int.l0]
      rw [if_pos (by omega), if_pos (by omega), if_pos (by omega), if_pos (by omega), rd_nat, rd_nat, if_neg (of_decide_eq_false hc)]) (fun k => by
      simp only [slices_Equal_int_int.l0]
      rw [if_neg (by omega)]) k hk
    refine e.trans ?_
    congr 1
    rw [Bool.eq_iff_iff, endsAt_true, decide_eq_true_eq]
    refine ⟨fun ha => ?_, fun ha j _ _ => by rw [ha]; exact decide_eq_true rfl⟩
    apply List.ext_getElem h
    intro j h1 h2
    have := of_decide_eq_true (ha j (by omega) (by omega))
    rw [getD_lt h1, getD_lt h2] at this
    exact this
  · rw [if_neg (by omega), decide_eq_false (fun e => h (by rw [e]))]
/-- Does b begin with a? -/
def pre (a b : List Int) : Bool := decide (b.take a.length = a)
theorem implPrefix_f (a b : List Int) (hl : a.length ≤ 35184372088832) (k : Nat) (hk : a.length < k) : impl_IsPrefixOf.f k a b = some (pre a b) := by
  unfold impl_IsPrefixOf.f pre
  by_cases h : a.length ≤ b.length
  · rw [if_pos (by omega), if_pos (by omega), Int.toNat_natCast, equalInts_f _ _ hl k hk, Option.bind_some]
    congr 1
    rw [Bool.eq_iff_iff, decide_eq_true_eq, decide_eq_true_eq]
    exact eq_comm
  · rw [if_neg (by omega), decide_eq_false]
    intro e
    have := congrArg List.length e
    simp at this
    omega
/-- A valid link. -/
def linkOk (m : List Int) (a : Int) (g : List Int) : Bool := inB a 0 (g.length : Int) && pre g (sentOf m)
theorem linkOk_le {m : List Int} {a : Int} {g : List Int} (h : linkOk m a g = true) : 0 ≤ a ∧ a ≤ g.length ∧ g.length ≤ (sentOf m).length ∧ (sentOf m).take g.length = g := by
  simp only [linkOk, inB, pre, Bool.and_eq_true, decide_eq_true_eq] at h
  have := congrArg List.length h.2
  simp at this
  exact ⟨h.1.1, h.1.2, by omega, h.2⟩
theorem implLink_f (m : List Int) (a : Int) (g : List Int) (hx : m.getD 8 0 ≤ 9223372036854775807) (hg : g.length ≤ 1048576) (k : Nat) (hk : g.length < k) : impl_LinkOk.f k m a g = some (linkOk m a g) := by
  simp only [impl_LinkOk.f, within_f, implSent_f m hx, implPrefix_f g _ (by omega : g.length ≤ 35184372088832) k hk, Option.bind_some, linkOk]
  cases inB a 0 (g.length : Int) <;> rfl
/-- The low byte of a number. -/
theorem byte_in (x : Int) : 0 ≤ Go.bits .and .i64 x 255 ∧ Go.bits .and .i64 x 255 ≤ 255 := by
  have h : Go.bits .and .i64 x 255 = (((BitVec.ofInt 64 x).toNat &&& 255 : Nat) : Int) := by
    show IntKind.i64.wrap ((BitVec.ofInt 64 x &&& BitVec.ofInt 64 255).toNat : Int) = _
    rw [BitVec.toNat_and, show (BitVec.ofInt 64 255).toNat = 255 from by decide]
    have h4 : (BitVec.ofInt 64 x).toNat &&& 255 ≤ 255 := Nat.and_le_right
    generalize (BitVec.ofInt 64 x).toNat &&& 255 = m at h4 ⊢
    rw [IntKind.wrap_i64]
    omega
  have h4 : (BitVec.ofInt 64 x).toNat &&& 255 ≤ 255 := Nat.and_le_right
  rw [h]
  omega
theorem drawByte_f (d : List Int) (hd : d.length ≤ 1048576) (p s : Int) (h0 : 0 ≤ p) : ∃ v p' s', spec_l01Byte.f d p s = some (v, p', s') ∧ 0 ≤ v ∧ v ≤ 255 ∧ 0 ≤ p' := by
  unfold spec_l01Byte.f
  by_cases h : p < (d.length : Int)
  · rw [if_pos h, if_pos h0, wrap_in (x := p + 1) (by omega) (by omega)]
    exact ⟨_, _, _, rfl, (byte_in _).1, (byte_in _).2, by omega⟩
  · rw [if_neg h]
    exact ⟨_, _, _, rfl, (byte_in _).1, (byte_in _).2, h0⟩
theorem drawBelow_f (d : List Int) (hd : d.length ≤ 1048576) (p s : Int) (h0 : 0 ≤ p) (n : Int) (hn : 0 < n) : ∃ v p' s', spec_l01Below.f d p s n = some (v, p', s') ∧ 0 ≤ v ∧ v < n ∧ 0 ≤ p' := by
  obtain ⟨v1, p1, s1, e1, a1, b1, c1⟩ := drawByte_f d hd p s h0
  obtain ⟨v2, p2, s2, e2, a2, b2, c2⟩ := drawByte_f d hd p1 s1 c1
  obtain ⟨v3, p3, s3, e3, a3, b3, c3⟩ := drawByte_f d hd p2 s2 c2
  obtain ⟨v4, p4, s4, e4, a4, b4, c4⟩ := drawByte_f d hd p3 s3 c3
  simp only [spec_l01Below.f, e1, e2, e3, e4, Option.bind_some]
  rw [if_neg (by omega)]
  by_cases h : n ≤ 256
  · rw [if_pos h, if_neg (by omega)]
    exact ⟨_, _, _, rfl, Int.tmod_nonneg _ a1, Int.tmod_lt_of_pos _ hn, c1⟩
  · rw [if_neg h, if_neg (by omega), wrap_in (x := v1 * 16777216) (by omega) (by omega), wrap_in (x := v2 * 65536) (by omega) (by omega), wrap_in (x := v3 * 256) (by omega) (by omega), wrap_in (x := v1 * 16777216 + v2 * 65536) (by omega) (by omega), wrap_in (x := v1 * 16777216 + v2 * 65536 + v3 * 256) (by omega) (by omega), wrap_in (by omega) (by omega)]
    exact ⟨_, _, _, rfl, Int.tmod_nonneg _ (by omega), Int.tmod_lt_of_pos _ hn, c4⟩
theorem drawNew_f (c : List Int) (hc : c.length ≤ 1048576) (k : Nat) (hk : c.length < k) : ∃ s, spec_l01New.f k c = some (c, 0, s) := by
  have key : ∀ d i k s, c.length - i = d → i ≤ c.length → d < k → ∃ s', spec_l01New.l0 k c s (i : Int) = some (c, 0, s') := by
    intro d
    induction d with
    | zero =>
      intro i k s h1 h2 h3
      obtain ⟨q, rfl⟩ : ∃ q, k = q + 1 := ⟨k - 1, by omega⟩
      simp only [spec_l01New.l0]
      rw [if_neg (by omega)]
      exact ⟨_, rfl⟩
    | succ d ih =>
      intro i k s h1 h2 h3
      obtain ⟨q, rfl⟩ : ∃ q, k = q + 1 := ⟨k - 1, by omega⟩
      simp only [spec_l01New.l0]
      rw [if_pos (by omega)]
      by_cases h : (i : Int) < 4000
      · rw [if_pos h, if_pos (by omega), wrap_next (n := c.length) (by omega) (by omega)]
        exact ih (i + 1) q _ (by omega) (by omega) (by omega)
      · rw [if_neg h]
        exact ⟨_, rfl⟩
  exact key c.length 0 k _ (by omega) (by omega) hk
end Go.Proofs.Ytdmmogcpamgdnaa.PureFnDelivered
