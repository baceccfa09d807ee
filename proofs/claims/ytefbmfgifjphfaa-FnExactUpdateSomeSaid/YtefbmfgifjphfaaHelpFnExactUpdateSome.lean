/- What the law FnExactUpdateSome's helper functions (they copy, compare, mark) come to. Conditions: as each lemma says. -/
import Derived.Test.YtefbmfgifjphfaaPFnExactUpdateSomexL
import Derived.Test.YtefbmfgifjphfaaXPure
namespace Go.Proofs.Ytefbmfgifjphfaa.PureFnExactUpdateSome
open Go.RowKit Go.Proofs.Ytefbmfgifjphfaa.PFnExactUpdateSome Go.Proofs.Ytefbmfgifjphfaa.XPure Go.Proofs.YtefbmfgifjphfaaW.PrintWords Go.Proofs.YtefbmfgifjphfaaW.PrintLast Go.Proofs.YtefbmfgifjphfaaW.PrintMore
set_option linter.unusedSimpArgs false
set_option linter.unusedVariables false
theorem toIntS_f (l : List Int) (hl : l.length ≤ 35184372088832) (k : Nat) (hk : l.length < k) : laws_toIntS.f k l = some l := by
  unfold laws_toIntS.f
  rw [if_pos (by omega), if_pos (by omega), Int.toNat_natCast]
  have h := loop_up l.length (fun k (s : List Int × Int) => laws_toIntS.l0 k l s.1 s.2) (fun i => (filled 0 id l i, (i : Int))) l (fun k i hi => by
    simp only [laws_toIntS.l0]
    rw [if_pos (by omega), if_pos (by omega), if_pos (by rw [filled_length _ _ _ _ (by omega)]; omega), wrap_next hi (by omega), rd_nat, Int.toNat_natCast, getD_lt hi, ← filled_set 0 id l i hi]
    rfl) (fun k => by
    simp only [laws_toIntS.l0]
    rw [if_neg (by omega), filled_all, List.map_id]) k hk
  simpa [filled_zero] using h
theorem eqIntS_f (l : List Int) (hl : l.length ≤ 35184372088832) (k : Nat) (hk : l.length < k) : laws_eqIntS.f k l l = some true := by
  unfold laws_eqIntS.f
  rw [if_pos rfl]
  exact loop_up l.length (fun k (s : Int) => laws_eqIntS.l0 k l l s) (fun i => (i : Int)) true (fun k i hi => by
    simp only [laws_eqIntS.l0]
    rw [if_pos (by omega), if_pos (by omega), if_pos (by omega), if_true, wrap_next hi (by omega)]) (fun k => by
    simp only [laws_eqIntS.l0]
    rw [if_neg (by omega)]) k hk
theorem markIntS_f (l : List Int) (hl : l.length ≤ 35184372088832) (m : Nat) (hm : m ≤ 35184372088832) (k : Nat) (hk : l.length < k) :
    laws_markIntS.f k l (m : Int) = some (((m + l.length : Nat) : Int), (List.range l.length).map fun j => ((m + j : Nat) : Int)) := by
  unfold laws_markIntS.f
  have h := loop_up l.length (fun k (s : List Int × Int × Int) => laws_markIntS.l0 k s.1 s.2.1 s.2.2) (fun i => (over (fun j => ((m + j : Nat) : Int)) l i, ((m + i : Nat) : Int), (i : Int)))
    (((m + l.length : Nat) : Int), (List.range l.length).map fun j => ((m + j : Nat) : Int)) (fun k i hi => by
    simp only [laws_markIntS.l0]
    rw [if_pos (by rw [over_length _ _ _ (by omega)]; omega), if_pos (by omega), wrap_next hi (by omega), wrap_next (i := m + i) (n := m + i + 1) (by omega) (by omega), Int.toNat_natCast, over_set _ _ _ hi]
    rfl) (fun k => by
    simp only [laws_markIntS.l0]
    rw [if_neg (by rw [over_length _ _ _ (by omega)]; omega), over_all]) k hk
  simpa [over_zero] using h
theorem markIntS_g (l : List Int) (m : Int) (k : Nat) (h0 : 0 ≤ m) (hm : m ≤ 35184372088832) (hl : l.length ≤ 35184372088832) (hk : l.length < k) :
    laws_markIntS.f k l m = some (m + (l.length : Int), (List.range l.length).map fun j : Nat => m + (j : Int)) := by
  obtain ⟨n, rfl⟩ := Int.eq_ofNat_of_zero_le h0
  have h := markIntS_f l hl n (by omega) k hk
  simpa using h
theorem heldIntS_f (n : Nat) (hn : n ≤ 35184372088832) (m : Nat) (hm : m ≤ 35184372088832) (k : Nat) (hk : n < k) :
    laws_heldIntS.f k ((List.range n).map fun j => ((m + j : Nat) : Int)) (m : Int) = some ((m + n : Nat) : Int) := by
  unfold laws_heldIntS.f
  have h := loop_up n (fun k (s : Int × Int) => laws_heldIntS.l0 k ((List.range n).map fun j => ((m + j : Nat) : Int)) s.1 s.2) (fun i => (((m + i : Nat) : Int), (i : Int))) ((m + n : Nat) : Int) (fun k i hi => by
    simp only [laws_heldIntS.l0]
    rw [if_pos (by simp; omega), if_pos (by omega), rd_nat, range_get _ _ _ hi, if_pos rfl, wrap_next hi (by omega), wrap_next (i := m + i) (n := m + i + 1) (by omega) (by omega)]
    rfl) (fun k => by
    simp only [laws_heldIntS.l0]
    rw [if_neg (by simp)]) k hk
  simpa using h
theorem heldIntS_g (n : Nat) (m : Int) (k : Nat) (h0 : 0 ≤ m) (hm : m ≤ 35184372088832) (hn : n ≤ 35184372088832) (hk : n < k) :
    laws_heldIntS.f k ((List.range n).map fun j : Nat => m + (j : Int)) m = some (m + (n : Int)) := by
  obtain ⟨q, rfl⟩ := Int.eq_ofNat_of_zero_le h0
  have h := heldIntS_f n hn q (by omega) k hk
  simpa using h
def inB (a b c : Int) : Bool := decide (a ≥ b) && decide (a ≤ c)
theorem in_f (a b c : Int) : spec_l01In.f a b c = some (inB a b c) := by
  unfold spec_l01In.f inB
  by_cases h : a ≥ b
  · rw [if_pos h, decide_eq_true h, Bool.true_and]
  · rw [if_neg h, decide_eq_false h, Bool.false_and]
theorem within_f (a b c : Int) : impl_within.f a b c = some (inB a b c) := in_f a b c
theorem specIsValue_f (x : Int) : spec_IsValue.f x = some (inB x (-1000000) 1000000) := by
  simp only [spec_IsValue.f, in_f, Option.bind_some]
theorem implIsValue_f (x : Int) : impl_IsValue.f x = some (inB x (-1000000) 1000000) := by
  simp only [impl_IsValue.f, within_f, Option.bind_some]
/-- All are values. -/
def allV (l : List Int) : Bool := endsAt (fun i => inB (l.getD i 0) (-1000000) 1000000) (fun _ => false) true l.length 0
theorem specValues_f (l : List Int) (hl : l.length ≤ 35184372088832) (k : Nat) (hk : l.length < k) : spec_l09Values.f k l = some (allV l) := by
  unfold spec_l09Values.f
  refine loop_ends l.length (fun k (s : Int) => spec_l09Values.l0 k l s) (fun i => (i : Int)) _ _ _ (fun k i hi hc => ?_) (fun k i hi hc => ?_) (fun k => ?_) k hk
  · simp only [spec_l09Values.l0, rd_nat, specIsValue_f, hc, Option.bind_some, ↓reduceIte]
    rw [if_pos (by omega), if_pos (by omega), wrap_next hi (by omega)]
  · simp only [spec_l09Values.l0, rd_nat, specIsValue_f, hc, Option.bind_some, Bool.false_eq_true, ↓reduceIte]
    rw [if_pos (by omega), if_pos (by omega)]
  · simp only [spec_l09Values.l0]
    rw [if_neg (by omega)]
theorem implValues_f (l : List Int) (hl : l.length ≤ 35184372088832) (k : Nat) (hk : l.length < k) : impl_areValues.f k l = some (allV l) := by
  have h : slices_IndexFunc_int_int_at_impl_areValues_1.f k l = some (endsAt (fun i => inB (l.getD i 0) (-1000000) 1000000) (fun i => (i : Int)) (-1) l.length 0) := by
    unfold slices_IndexFunc_int_int_at_impl_areValues_1.f
    refine loop_ends l.length (fun k (s : Int) => slices_IndexFunc_int_int_at_impl_areValues_1.l0 k l (l.length : Int) s) (fun i => (i : Int)) _ _ _ (fun k i hi hc => ?_) (fun k i hi hc => ?_) (fun k => ?_) k hk
    · simp only [slices_IndexFunc_int_int_at_impl_areValues_1.l0, rd_nat, impl_areValues_1.f, implIsValue_f, hc, Option.bind_some, Bool.not_true, Bool.false_eq_true, ↓reduceIte]
      rw [if_pos (by omega), if_pos (by omega), if_pos (by omega), wrap_next hi (by omega)]
    · simp only [slices_IndexFunc_int_int_at_impl_areValues_1.l0, rd_nat, impl_areValues_1.f, implIsValue_f, hc, Option.bind_some, Bool.not_false, ↓reduceIte]
      rw [if_pos (by omega), if_pos (by omega), if_pos (by omega)]
    · simp only [slices_IndexFunc_int_int_at_impl_areValues_1.l0]
      rw [if_neg (by omega)]
  simp only [impl_areValues.f, slices_ContainsFunc_int_int_at_impl_areValues_1.f, h, Option.bind_some, endsAt_place, Bool.not_not]
  rfl
/-- The sum of the first i elements behind v, as Go adds. -/
def sumW (v : Int) (l : List Int) : Nat → Int
  | 0 => v
  | i + 1 => wrap64 (sumW v l i + l.getD i 0)
/-- The remainder by 65521 that is no less than 0. -/
def mod65 (s : Int) : Int := if Int.tmod s 65521 < 0 then wrap64 (Int.tmod s 65521 + 65521) else Int.tmod s 65521
theorem mod65_other (s : Int) : Int.tmod (wrap64 (Int.tmod s 65521 + 65521)) 65521 = mod65 s := by
  have h1 := Int.lt_tmod_of_pos s (by decide : (0 : Int) < 65521)
  have h2 := Int.tmod_lt_of_pos s (by decide : (0 : Int) < 65521)
  unfold mod65
  generalize Int.tmod s 65521 = t at h1 h2 ⊢
  rw [wrap_in (by omega) (by omega), Int.tmod_eq_emod_of_nonneg (by omega)]
  split <;> omega
theorem specSum_f (v : Int) (l : List Int) (hl : l.length ≤ 35184372088832) (k : Nat) (hk : l.length < k) : spec_l35Sum.f k v l = some (mod65 (sumW v l l.length)) := by
  unfold spec_l35Sum.f
  exact loop_up l.length (fun k (s : Int × Int) => spec_l35Sum.l0 k l s.1 s.2) (fun i => (sumW v l i, (i : Int))) (mod65 (sumW v l l.length)) (fun k i hi => by
    simp only [spec_l35Sum.l0]
    rw [if_pos (by omega), if_pos (by omega), wrap_next hi (by omega), rd_nat]
    rfl) (fun k => by
    simp only [spec_l35Sum.l0]
    rw [if_neg (by omega)]
    unfold mod65
    split <;> rfl) k hk
theorem implSum_f (v : Int) (l : List Int) (hl : l.length ≤ 35184372088832) (k : Nat) (hk : l.length < k) : impl_bankSum.f k v l = some (mod65 (sumW v l l.length)) := by
  unfold impl_bankSum.f
  exact loop_up l.length (fun k (s : Int × Int) => impl_bankSum.l0 k s.1 l (l.length : Int) s.2) (fun i => (sumW v l i, (i : Int))) (mod65 (sumW v l l.length)) (fun k i hi => by
    simp only [impl_bankSum.l0]
    rw [if_pos (by omega), if_pos (by omega), if_pos (by omega), wrap_next hi (by omega), rd_nat]
    rfl) (fun k => by
    simp only [impl_bankSum.l0, impl_modulo.f]
    rw [if_neg (by omega), if_neg (by decide), Option.bind_some, mod65_other]) k hk
theorem clone_f (l : List Int) (hl : l.length < 17592186044416) : slices_Clone_int_int.f l = some l := by
  simp only [slices_Clone_int_int.f, Option.bind_some, List.nil_append, List.length_nil]
  rw [if_pos (by omega)]
end Go.Proofs.Ytefbmfgifjphfaa.PureFnExactUpdateSome
