/- What the law FnExactNodeOk's helper functions (they copy, compare, mark) come to. Conditions: as each lemma says. -/
import Derived.Test.YtdmmogcpamgdnaaPFnExactNodeOkxL
import Derived.Test.YtdmmogcpamgdnaaXPure
namespace Go.Proofs.Ytdmmogcpamgdnaa.PureFnExactNodeOk
open Go.RowKit Go.Proofs.Ytdmmogcpamgdnaa.PFnExactNodeOk Go.Proofs.Ytdmmogcpamgdnaa.XPure Go.Proofs.YtdmmogcpamgdnaaW.PrintWords Go.Proofs.YtdmmogcpamgdnaaW.PrintLast Go.Proofs.YtdmmogcpamgdnaaW.PrintMore
set_option linter.unusedSimpArgs false
set_option linter.unusedVariables false
theorem toIntS_f (l : List Int) (hl : l.length ≤ 35184372088832) (k : Nat) (hk : l.length < k) : laws_toIntS.f k l = some l := by
  unfold laws_toIntS.f
  rw [if_pos (by omega), if_pos (by omega), Int.toNat_natCast]
  have h := loop_up l.length (fun k (s : List Int × Int) => laws_toIntS.l0 k l s.1 s.2) (fun i => (filled 0 id l i, (i : Int))) l (fun k i hi => by
    simp only [laws_toIntS.l0]
    rw [if_pos (by omega), if_pos (by omega), if_pos (by rw [filled_length _ _ _ _ (by omega)]; omega), wrap_next hi (by omega), rd_nat, Int.toNat_natCast, getD_lt hi, ← filled_set 0 id l i hi]
    rfl) (fun k => by
    simp only [laws_toIntS.l0]
    rw [if_neg (by omega), filled_all, List.map_id]) k hk
  simpa [filled_zero] using h
theorem eqIntS_f (l : List Int) (hl : l.length ≤ 35184372088832) (k : Nat) (hk : l.length < k) : laws_eqIntS.f k l l = some true := by
  unfold laws_eqIntS.f
  rw [if_pos rfl]
  exact loop_up l.length (fun k (s : Int) => laws_eqIntS.l0 k l l s) (fun i => (i : Int)) true (fun k i hi => by
    simp only [laws_eqIntS.l0]
    rw [if_pos (by omega), if_pos (by omega), if_pos (by omega), if_true, wrap_next hi (by omega)]) (fun k => by
    simp only [laws_eqIntS.l0]
    rw [if_neg (by omega)]) k hk
def inB (a b c : Int) : Bool := decide (a ≥ b) && decide (a ≤ c)
theorem in_f (a b c : Int) : spec_l01In.f a b c = some (inB a b c) := by
  unfold spec_l01In.f inB
  by_cases h : a ≥ b
  · rw [if_pos h, decide_eq_true h, Bool.true_and]
  · rw [if_neg h, decide_eq_false h, Bool.false_and]
theorem within_f (a b c : Int) : impl_within.f a b c = some (inB a b c) := in_f a b c
theorem specIsValue_f (x : Int) : spec_IsValue.f x = some (inB x (-1000000) 1000000) := by
  simp only [spec_IsValue.f, in_f, Option.bind_some]
theorem implIsValue_f (x : Int) : impl_IsValue.f x = some (inB x (-1000000) 1000000) := by
  simp only [impl_IsValue.f, within_f, Option.bind_some]
/-- All are values. -/
def allV (l : List Int) : Bool := endsAt (fun i => inB (l.getD i 0) (-1000000) 1000000) (fun _ => false) true l.length 0
theorem specValues_f (l : List Int) (hl : l.length ≤ 35184372088832) (k : Nat) (hk : l.length < k) : spec_l09Values.f k l = some (allV l) := by
  unfold spec_l09Values.f
  refine loop_ends l.length (fun k (s : Int) => spec_l09Values.l0 k l s) (fun i => (i : Int)) _ _ _ (fun k i hi hc => ?_) (fun k i hi hc => ?_) (fun k => ?_) k hk
  · simp only [spec_l09Values.l0, rd_nat, specIsValue_f, hc, Option.bind_some, ↓reduceIte]
    rw [if_pos (by omega), if_pos (by omega), wrap_next hi (by omega)]
  · simp only [spec_l09Values.l0, rd_nat, specIsValue_f, hc, Option.bind_some, Bool.false_eq_true, ↓reduceIte]
    rw [if_pos (by omega), if_pos (by omega)]
  · simp only [spec_l09Values.l0]
    rw [if_neg (by omega)]
theorem implValues_f (l : List Int) (hl : l.length ≤ 35184372088832) (k : Nat) (hk : l.length < k) : impl_areValues.f k l = some (allV l) := by
  have h : slices_IndexFunc_int_int_at_impl_areValues_1.f k l = some (endsAt (fun i => inB (l.getD i 0) (-1000000) 1000000) (fun i => (i : Int)) (-1) l.length 0) := by
    unfold slices_IndexFunc_int_int_at_impl_areValues_1.f
    refine loop_ends l.length (fun k (s : Int) => slices_IndexFunc_int_int_at_impl_areValues_1.l0 k l (l.length : Int) s) (fun i => (i : Int)) _ _ _ (fun k i hi hc => ?_) (fun k i hi hc => ?_) (fun k => ?_) k hk
    · simp only [slices_IndexFunc_int_int_at_impl_areValues_1.l0, rd_nat, impl_areValues_1.f, implIsValue_f, hc, Option.bind_some, Bool.not_true, Bool.false_eq_true, ↓reduceIte]
      rw [if_pos (by omega), if_pos (by omega), if_pos (by omega), wrap_next hi (by omega)]
    · simp only [slices_IndexFunc_int_int_at_impl_areValues_1.l0, rd_nat, impl_areValues_1.f, implIsValue_f, hc, Option.bind_some, Bool.not_false, ↓reduceIte]
      rw [if_pos (by omega), if_pos (by omega), if_pos (by omega)]
    · simp only [slices_IndexFunc_int_int_at_impl_areValues_1.l0]
      rw [if_neg (by omega)]
  simp only [impl_areValues.f, slices_ContainsFunc_int_int_at_impl_areValues_1.f, h, Option.bind_some, endsAt_place, Bool.not_not]
  rfl
/-- A valid expression. -/
def okX (a b c : Int) : Bool := inB a 1 7 && (inB b (-8) 999 && inB c (-8) 999)
theorem specExprOk_f (a b c : Int) : spec_ExprOk.f a b c = some (okX a b c) := by
  simp only [spec_ExprOk.f, spec_OperandOk.f, in_f, Option.bind_some, okX]
  cases inB a 1 7 <;> cases inB b (-8) 999 <;> rfl
theorem implExprOk_f (a b c : Int) : impl_ExprOk.f a b c = some (okX a b c) := by
  simp only [impl_ExprOk.f, impl_OperandOk.f, within_f, Option.bind_some, okX]
  cases inB a 1 7 <;> cases inB b (-8) 999 <;> rfl
/-- What a control word holds. -/
def unp (x : Int) : Int × Int × Int := if 0 ≤ x ∧ x % 8 ≤ 5 ∧ x / 8 % 16 ≤ 8 ∧ x / 128 ≤ 24 then (x % 8, x / 8 % 16, x / 128) else (-1, -1, -1)
theorem specPack_f (a b c : Int) : spec_PackControl.f a b c = some (if 0 ≤ a ∧ a ≤ 5 ∧ 0 ≤ b ∧ b ≤ 8 ∧ 0 ≤ c ∧ c ≤ 24 then a + 8 * (b + 16 * c) else -1) := by
  simp only [spec_PackControl.f, in_f, inB, Option.bind_some]
  by_cases h1 : a ≥ 0 ∧ a ≤ 5
  · rw [decide_eq_true h1.1, decide_eq_true h1.2]
    by_cases h2 : b ≥ 0 ∧ b ≤ 8
    · rw [decide_eq_true h2.1, decide_eq_true h2.2]
      by_cases h3 : c ≥ 0 ∧ c ≤ 24
      · rw [decide_eq_true h3.1, decide_eq_true h3.2, if_pos (c := 0 ≤ a ∧ a ≤ 5 ∧ 0 ≤ b ∧ b ≤ 8 ∧ 0 ≤ c ∧ c ≤ 24) (by omega)]
        simp only [Bool.and_self, ↓reduceIte]
        rw [wrap_in (x := 16 * c) (by omega) (by omega), wrap_in (x := b + 16 * c) (by omega) (by omega), wrap_in (x := 8 * (b + 16 * c)) (by omega) (by omega), wrap_in (by omega) (by omega)]
      · rw [if_neg (c := 0 ≤ a ∧ a ≤ 5 ∧ 0 ≤ b ∧ b ≤ 8 ∧ 0 ≤ c ∧ c ≤ 24) (by omega), ← Bool.decide_and, decide_eq_false h3]
        rfl
    · rw [if_neg (c := 0 ≤ a ∧ a ≤ 5 ∧ 0 ≤ b ∧ b ≤ 8 ∧ 0 ≤ c ∧ c ≤ 24) (by omega), ← Bool.decide_and (b ≥ 0), decide_eq_false h2]
      rfl
  · rw [if_neg (c := 0 ≤ a ∧ a ≤ 5 ∧ 0 ≤ b ∧ b ≤ 8 ∧ 0 ≤ c ∧ c ≤ 24) (by omega), ← Bool.decide_and (a ≥ 0), decide_eq_false h1]
    rfl
theorem implPack_f (a b c : Int) : impl_PackControl.f a b c = some (if 0 ≤ a ∧ a ≤ 5 ∧ 0 ≤ b ∧ b ≤ 8 ∧ 0 ≤ c ∧ c ≤ 24 then a + 8 * (b + 16 * c) else -1) := by
  simp only [impl_PackControl.f, within_f, inB, Option.bind_some]
  by_cases h1 : a ≥ 0 ∧ a ≤ 5
  · rw [decide_eq_true h1.1, decide_eq_true h1.2]
    by_cases h2 : b ≥ 0 ∧ b ≤ 8
    · rw [decide_eq_true h2.1, decide_eq_true h2.2]
      by_cases h3 : c ≥ 0 ∧ c ≤ 24
      · rw [decide_eq_true h3.1, decide_eq_true h3.2, if_pos (c := 0 ≤ a ∧ a ≤ 5 ∧ 0 ≤ b ∧ b ≤ 8 ∧ 0 ≤ c ∧ c ≤ 24) (by omega)]
        simp only [Bool.and_self, ↓reduceIte]
        rw [wrap_in (x := 16 * c) (by omega) (by omega), wrap_in (x := b + 16 * c) (by omega) (by omega), wrap_in (x := 8 * (b + 16 * c)) (by omega) (by omega), wrap_in (by omega) (by omega)]
      · rw [if_neg (c := 0 ≤ a ∧ a ≤ 5 ∧ 0 ≤ b ∧ b ≤ 8 ∧ 0 ≤ c ∧ c ≤ 24) (by omega), ← Bool.decide_and, decide_eq_false h3]
        rfl
    · rw [if_neg (c := 0 ≤ a ∧ a ≤ 5 ∧ 0 ≤ b ∧ b ≤ 8 ∧ 0 ≤ c ∧ c ≤ 24) (by omega), ← Bool.decide_and (b ≥ 0), decide_eq_false h2]
      rfl
  · rw [if_neg (c := 0 ≤ a ∧ a ≤ 5 ∧ 0 ≤ b ∧ b ≤ 8 ∧ 0 ≤ c ∧ c ≤ 24) (by omega), ← Bool.decide_and (a ≥ 0), decide_eq_false h1]
    rfl
theorem specUnp_f (x : Int) (hx : x ≤ 9223372036854775807) (k : Nat) (hk : 0 < k) : spec_UnpackControl.f k x = some (unp x) := by
  obtain ⟨k, rfl⟩ : ∃ m, k = m + 1 := ⟨k - 1, by omega⟩
  unfold spec_UnpackControl.f
  by_cases h0 : x < 0
  · rw [if_pos h0]
    simp only [spec_UnpackControl.j0, ↓reduceIte, unp]
    rw [if_neg (by omega)]
  · rw [if_neg h0]
    by_cases h1 : x > 100000
    · rw [decide_eq_true h1]
      simp only [spec_UnpackControl.j0, ↓reduceIte, unp]
      rw [if_neg (by omega)]
    · rw [decide_eq_false h1]
      simp only [spec_UnpackControl.j0, Bool.false_eq_true, ↓reduceIte, specPack_f, Option.bind_some]
      rw [Int.tdiv_eq_ediv_of_nonneg (by omega), Int.tdiv_eq_ediv_of_nonneg (by omega), wrap_in (x := x / 8) (by omega) (by omega), wrap_in (x := x / 128) (by omega) (by omega), Int.tmod_eq_emod_of_nonneg (by omega), Int.tmod_eq_emod_of_nonneg (by omega)]
      unfold unp
      by_cases h2 : 0 ≤ x ∧ x % 8 ≤ 5 ∧ x / 8 % 16 ≤ 8 ∧ x / 128 ≤ 24
      · rw [if_pos h2, if_pos (c := 0 ≤ x % 8 ∧ x % 8 ≤ 5 ∧ 0 ≤ x / 8 % 16 ∧ x / 8 % 16 ≤ 8 ∧ 0 ≤ x / 128 ∧ x / 128 ≤ 24) (by omega), if_pos (by omega)]
      · rw [if_neg h2, if_neg (c := 0 ≤ x % 8 ∧ x % 8 ≤ 5 ∧ 0 ≤ x / 8 % 16 ∧ x / 8 % 16 ≤ 8 ∧ 0 ≤ x / 128 ∧ x / 128 ≤ 24) (by omega), if_neg (by omega)]
theorem implUnp_f (x : Int) (hx : x ≤ 9223372036854775807) : impl_UnpackControl.f x = some (unp x) := by
  unfold impl_UnpackControl.f
  by_cases h0 : x < 0
  · rw [if_pos h0]
    simp only [unp]
    rw [if_neg (by omega)]
  · rw [if_neg h0]
    simp only [implPack_f, Option.bind_some]
    rw [Int.tdiv_eq_ediv_of_nonneg (by omega), Int.tdiv_eq_ediv_of_nonneg (by omega), wrap_in (x := x / 8) (by omega) (by omega), wrap_in (x := x / 128) (by omega) (by omega), Int.tmod_eq_emod_of_nonneg (by omega), Int.tmod_eq_emod_of_nonneg (by omega)]
    unfold unp
    by_cases h2 : 0 ≤ x ∧ x % 8 ≤ 5 ∧ x / 8 % 16 ≤ 8 ∧ x / 128 ≤ 24
    · rw [if_pos h2, if_pos (c := 0 ≤ x % 8 ∧ x % 8 ≤ 5 ∧ 0 ≤ x / 8 % 16 ∧ x / 8 % 16 ≤ 8 ∧ 0 ≤ x / 128 ∧ x / 128 ≤ 24) (by omega), if_pos (by omega)]
    · rw [if_neg h2, if_neg (c := 0 ≤ x % 8 ∧ x % 8 ≤ 5 ∧ 0 ≤ x / 8 % 16 ∧ x / 8 % 16 ≤ 8 ∧ 0 ≤ x / 128 ∧ x / 128 ≤ 24) (by omega), if_neg (by omega)]
theorem unp_tail (x : Int) : (unp x).2.2 = -1 ∨ (0 ≤ (unp x).2.2 ∧ (unp x).2.2 ≤ 24) := by
  unfold unp
  split
  · exact .inr (by simp; omega)
  · exact .inl rfl
/-- What has been sent for good. -/
def sentOf (m : List Int) : List Int := if m.length = 49 then (if (unp (m.getD 8 0)).2.2 < 0 then [] else (m.take (25 + (unp (m.getD 8 0)).2.2.toNat)).drop 25) else []
theorem sentOf_length (m : List Int) : (sentOf m).length ≤ 24 := by
  unfold sentOf
  have h := unp_tail (m.getD 8 0)
  split
  · split
    · simp
    · simp; omega
  · simp
theorem specSent_f (m : List Int) (hx : m.getD 8 0 ≤ 9223372036854775807) (k : Nat) (hk : 0 < k) : spec_MemSent.f k m = some (sentOf m) := by
  unfold spec_MemSent.f sentOf
  by_cases h : m.length = 49
  · have ht := unp_tail (m.getD 8 0)
    have r8 : rd m 8 = m.getD 8 0 := rfl
    rw [if_pos (by omega), if_pos (by omega), r8, specUnp_f _ hx k hk, if_pos h]
    simp only [Option.bind_some]
    generalize hu : (unp (m.getD 8 0)).2.2 = t at ht ⊢
    by_cases h0 : t < 0
    · rw [if_pos h0, if_pos h0]
    · rw [if_neg h0, if_neg h0, wrap_in (x := 25 + t) (by omega) (by omega), if_pos (by omega), if_pos (by omega)]
      have e : (25 + t).toNat = 25 + t.toNat := by omega
      rw [e, if_pos (by simp; omega), List.nil_append]
  · rw [if_neg (by omega), if_neg h]
theorem clone_f (l : List Int) (hl : l.length < 17592186044416) : slices_Clone_int_int.f l = some l := by
  simp only [slices_Clone_int_int.f, Option.bind_some, List.nil_append, List.length_nil]
  rw [if_pos (by omega)]
theorem implSent_f (m : List Int) (hx : m.getD 8 0 ≤ 9223372036854775807) : impl_MemSent.f m = some (sentOf m) := by
  unfold impl_MemSent.f sentOf
  by_cases h : m.length = 49
  · have ht := unp_tail (m.getD 8 0)
    have r8 : rd m 8 = m.getD 8 0 := rfl
    rw [if_pos (by omega), if_pos (by omega), r8, implUnp_f _ hx, if_pos h]
    simp only [Option.bind_some]
    generalize hu : (unp (m.getD 8 0)).2.2 = t at ht ⊢
    by_cases h0 : t < 0
    · rw [if_pos h0, if_pos h0]
    · rw [if_neg h0, if_neg h0, wrap_in (x := 25 + t) (by omega) (by omega), if_pos (by omega), if_pos (by omega)]
      have e : (25 + t).toNat = 25 + t.toNat := by omega
      rw [e, clone_f _ (by simp; omega), Option.bind_some]
  · rw [if_neg (by omega), if_neg h]
theorem equalInts_f (x y : List Int) (hl : x.length ≤ 35184372088832) (k : Nat) (hk : x.length < k) : slices_Equal_int_int.f k x y = some (decide (x = y)) := by
  unfold slices_Equal_int_int.f
  by_cases h : x.length = y.length
  · rw [if_pos (by omega)]
    have e := loop_ends x.length (fun k (s : Int) => slices_Equal_int_int.l0 k x y (x.length : Int) s) (fun i => (i : Int)) (fun i => decide (x.getD i 0 = y.getD i 0)) (fun _ => false) true (fun k i hi hc => by
      simp only [slices_Equal_int_int.l0]
      rw [if_pos (by omega), if_pos (by omega), if_pos (by omega), if_pos (by omega), rd_nat, rd_nat, if_pos (of_decide_eq_true hc), wrap_next hi (by omega)]) (fun k i hi hc => by
      simp only [slices_Equal_int_int.l0]
      rw [if_pos (by omega), if_pos (by omega), if_pos (by omega), if_pos (by omega), rd_nat, rd_nat, if_neg (of_decide_eq_false hc)]) (fun k => by
      simp only [slices_Equal_int_int.l0]
      rw [if_neg (by omega)]) k hk
    refine e.trans ?_
    congr 1
    rw [Bool.eq_iff_iff, endsAt_true, decide_eq_true_eq]
    refine ⟨fun ha => ?_, fun ha j _ _ => by rw [ha]; exact decide_eq_true rfl⟩
    apply List.ext_getElem h
    intro j h1 h2
    have := of_decide_eq_true (ha j (by omega) (by omega))
    rw [getD_lt h1, getD_lt h2] at this
    exact this
  · rw [if_neg (by omega), decide_eq_false (fun e => h (by rw [e]))]
/-- Does b begin with a? -/
def pre (a b : List Int) : Bool := decide (b.take a.length = a)
theorem specPrefix_f (a b : List Int) (hl : a.length ≤ 35184372088832) (k : Nat) (hk : a.length < k) : spec_IsPrefixOf.f k a b = some (pre a b) := by
  unfold spec_IsPrefixOf.f
  have e := loop_ends a.length (fun k (s : Int) => spec_IsPrefixOf.l0 k a b s) (fun i => (i : Int)) (fun i => decide (i < b.length ∧ a.getD i 0 = b.getD i 0)) (fun _ => false) true (fun k i hi hc => by
    have hc := of_decide_eq_true hc
    simp only [spec_IsPrefixOf.l0]
    rw [if_pos (by omega), if_neg (by omega), if_pos (by omega), if_pos (by omega), rd_nat, rd_nat, if_pos hc.2, wrap_next hi (by omega)]) (fun k i hi hc => by
    have hc := of_decide_eq_false hc
    simp only [spec_IsPrefixOf.l0]
    rw [if_pos (by omega)]
    by_cases hb : i < b.length
    · rw [if_neg (by omega), if_pos (by omega), if_pos (by omega), rd_nat, rd_nat, if_neg (fun h => hc ⟨hb, h⟩)]
    · rw [if_pos (by omega)]) (fun k => by
    simp only [spec_IsPrefixOf.l0]
    rw [if_neg (by omega)]) k hk
  refine e.trans ?_
  congr 1
  unfold pre
  rw [Bool.eq_iff_iff, endsAt_true, decide_eq_true_eq]
  refine ⟨fun ha => ?_, fun ha j _ hj => ?_⟩
  · have hlen : a.length ≤ b.length := by
      rcases Nat.eq_zero_or_pos a.length with h0 | h0
      · omega
      · have := (of_decide_eq_true (ha (a.length - 1) (by omega) (by omega))).1
        omega
    apply List.ext_getElem (by simp; omega)
    intro j h1 h2
    have := (of_decide_eq_true (ha j (by omega) (by omega))).2
    rw [getD_lt h2, getD_lt (by omega)] at this
    rw [List.getElem_take, this]
  · have hlen : a.length ≤ b.length := by
      have := congrArg List.length ha
      simp at this
      omega
    refine decide_eq_true ⟨by omega, ?_⟩
    have h1 : a.getD j 0 = (b.take a.length).getD j 0 := by rw [ha]
    rw [h1, getD_lt (by simp; omega), getD_lt (by omega), List.getElem_take]
theorem implPrefix_f (a b : List Int) (hl : a.length ≤ 35184372088832) (k : Nat) (hk : a.length < k) : impl_IsPrefixOf.f k a b = some (pre a b) := by
  unfold impl_IsPrefixOf.f pre
  by_cases h : a.length ≤ b.length
  · rw [if_pos (by omega), if_pos (by omega), Int.toNat_natCast, equalInts_f _ _ hl k hk, Option.bind_some]
    congr 1
    rw [Bool.eq_iff_iff, decide_eq_true_eq, decide_eq_true_eq]
    exact eq_comm
  · rw [if_neg (by omega), decide_eq_false]
    intro e
    have := congrArg List.length e
    simp at this
    omega
/-- A valid link. -/
def linkOk (m : List Int) (a : Int) (g : List Int) : Bool := inB a 0 (g.length : Int) && pre g (sentOf m)
theorem linkOk_le {m : List Int} {a : Int} {g : List Int} (h : linkOk m a g = true) : 0 ≤ a ∧ a ≤ g.length ∧ g.length ≤ (sentOf m).length ∧ (sentOf m).take g.length = g := by
  simp only [linkOk, inB, pre, Bool.and_eq_true, decide_eq_true_eq] at h
  have := congrArg List.length h.2
  simp at this
  exact ⟨h.1.1, h.1.2, by omega, h.2⟩
theorem specLink_f (m : List Int) (a : Int) (g : List Int) (hx : m.getD 8 0 ≤ 9223372036854775807) (hg : g.length ≤ 1048576) (k : Nat) (hk : g.length < k) : spec_LinkOk.f k m a g = some (linkOk m a g) := by
  simp only [spec_LinkOk.f, in_f, specSent_f m hx k (by omega), specPrefix_f g _ (by omega : g.length ≤ 35184372088832) k hk, Option.bind_some, linkOk]
  cases inB a 0 (g.length : Int) <;> rfl
theorem implLink_f (m : List Int) (a : Int) (g : List Int) (hx : m.getD 8 0 ≤ 9223372036854775807) (hg : g.length ≤ 1048576) (k : Nat) (hk : g.length < k) : impl_LinkOk.f k m a g = some (linkOk m a g) := by
  simp only [impl_LinkOk.f, within_f, implSent_f m hx, implPrefix_f g _ (by omega : g.length ≤ 35184372088832) k hk, Option.bind_some, linkOk]
  cases inB a 0 (g.length : Int) <;> rfl
end Go.Proofs.Ytdmmogcpamgdnaa.PureFnExactNodeOk
