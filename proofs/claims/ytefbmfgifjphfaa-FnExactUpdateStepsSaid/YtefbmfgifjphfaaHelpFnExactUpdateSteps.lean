/- What the law FnExactUpdateSteps's helper functions (they copy, compare, mark) come to. Conditions: as each lemma says. -/
import Derived.Test.YtefbmfgifjphfaaPFnExactUpdateStepsxL
import Derived.Test.YtefbmfgifjphfaaXPure
namespace Go.Proofs.Ytefbmfgifjphfaa.PureFnExactUpdateSteps
open Go.RowKit Go.Proofs.Ytefbmfgifjphfaa.PFnExactUpdateSteps Go.Proofs.Ytefbmfgifjphfaa.XPure Go.Proofs.YtefbmfgifjphfaaW.PrintWords Go.Proofs.YtefbmfgifjphfaaW.PrintLast Go.Proofs.YtefbmfgifjphfaaW.PrintMore
set_option linter.unusedSimpArgs false
set_option linter.unusedVariables false
theorem toIntS_f (l : List Int) (hl : l.length ≤ 35184372088832) (k : Nat) (hk : l.length < k) : laws_toIntS.f k l = some l := by
  unfold laws_toIntS.f
  rw [if_pos (by omega), if_pos (by omega), Int.toNat_natCast]
  have h := loop_up l.length (fun k (s : List Int × Int) => laws_toIntS.l0 k l s.1 s.2) (fun i => (filled 0 id l i, (i : Int))) l (fun k i hi => by
    simp only [laws_toIntS.l0]
    rw [if_pos (by omega), if_pos (by omega), if_pos (by rw [filled_length _ _ _ _ (by omega)]; omega), wrap_next hi (by omega), rd_nat, Int.toNat_natCast, getD_lt hi, ← filled_set 0 id l i hi]
    rfl) (fun k => by
    simp only [laws_toIntS.l0]
    rw [if_neg (by omega), filled_all, List.map_id]) k hk
  simpa [filled_zero] using h
theorem eqIntS_f (l : List Int) (hl : l.length ≤ 35184372088832) (k : Nat) (hk : l.length < k) : laws_eqIntS.f k l l = some true := by
  unfold laws_eqIntS.f
  rw [if_pos rfl]
  exact loop_up l.length (fun k (s : Int) => laws_eqIntS.l0 k l l s) (fun i => (i : Int)) true (fun k i hi => by
    simp only [laws_eqIntS.l0]
    rw [if_pos (by omega), if_pos (by omega), if_pos (by omega), if_true, wrap_next hi (by omega)]) (fun k => by
    simp only [laws_eqIntS.l0]
    rw [if_neg (by omega)]) k hk
def inB (a b c : Int) : Bool := decide (a ≥ b) && decide (a ≤ c)
theorem in_f (a b c : Int) : spec_l01In.f a b c = some (inB a b c) := by
  unfold spec_l01In.f inB
  by_cases h : a ≥ b
  · rw [if_pos h, decide_eq_true h, Bool.true_and]
  · rw [if_neg h, decide_eq_false h, Bool.false_and]
theorem within_f (a b c : Int) : impl_within.f a b c = some (inB a b c) := in_f a b c
theorem specIsValue_f (x : Int) : spec_IsValue.f x = some (inB x (-1000000) 1000000) := by
  simp only [spec_IsValue.f, in_f, Option.bind_some]
theorem implIsValue_f (x : Int) : impl_IsValue.f x = some (inB x (-1000000) 1000000) := by
  simp only [impl_IsValue.f, within_f, Option.bind_some]
/-- All are values. -/
def allV (l : List Int) : Bool := endsAt (fun i => inB (l.getD i 0) (-1000000) 1000000) (fun _ => false) true l.length 0
theorem specValues_f (l : List Int) (hl : l.length ≤ 35184372088832) (k : Nat) (hk : l.length < k) : spec_l09Values.f k l = some (allV l) := by
  unfold spec_l09Values.f
  refine loop_ends l.length (fun k (s : Int) => spec_l09Values.l0 k l s) (fun i => (i : Int)) _ _ _ (fun k i hi hc => ?_) (fun k i hi hc => ?_) (fun k => ?_) k hk
  · simp only [spec_l09Values.l0, rd_nat, specIsValue_f, hc, Option.bind_some, ↓reduceIte]
    rw [if_pos (by omega), if_pos (by omega), wrap_next hi (by omega)]
  · simp only [spec_l09Values.l0, rd_nat, specIsValue_f, hc, Option.bind_some, Bool.false_eq_true, ↓reduceIte]
    rw [if_pos (by omega), if_pos (by omega)]
  · simp only [spec_l09Values.l0]
    rw [if_neg (by omega)]
theorem implValues_f (l : List Int) (hl : l.length ≤ 35184372088832) (k : Nat) (hk : l.length < k) : impl_areValues.f k l = some (allV l) := by
  have h : slices_IndexFunc_int_int_at_impl_areValues_1.f k l = some (endsAt (fun i => inB (l.getD i 0) (-1000000) 1000000) (fun i => (i : Int)) (-1) l.length 0) := by
    unfold slices_IndexFunc_int_int_at_impl_areValues_1.f
    refine loop_ends l.length (fun k (s : Int) => slices_IndexFunc_int_int_at_impl_areValues_1.l0 k l (l.length : Int) s) (fun i => (i : Int)) _ _ _ (fun k i hi hc => ?_) (fun k i hi hc => ?_) (fun k => ?_) k hk
    · simp only [slices_IndexFunc_int_int_at_impl_areValues_1.l0, rd_nat, impl_areValues_1.f, implIsValue_f, hc, Option.bind_some, Bool.not_true, Bool.false_eq_true, ↓reduceIte]
      rw [if_pos (by omega), if_pos (by omega), if_pos (by omega), wrap_next hi (by omega)]
    · simp only [slices_IndexFunc_int_int_at_impl_areValues_1.l0, rd_nat, impl_areValues_1.f, implIsValue_f, hc, Option.bind_some, Bool.not_false, ↓reduceIte]
      rw [if_pos (by omega), if_pos (by omega), if_pos (by omega)]
    · simp only [slices_IndexFunc_int_int_at_impl_areValues_1.l0]
      rw [if_neg (by omega)]
  simp only [impl_areValues.f, slices_ContainsFunc_int_int_at_impl_areValues_1.f, h, Option.bind_some, endsAt_place, Bool.not_not]
  rfl
/-- The sum of the first i elements behind v, as Go adds. -/
def sumW (v : Int) (l : List Int) : Nat → Int
  | 0 => v
  | i + 1 => wrap64 (sumW v l i + l.getD i 0)
/-- The remainder by 65521 that is no less than 0. -/
def mod65 (s : Int) : Int := if Int.tmod s 65521 < 0 then wrap64 (Int.tmod s 65521 + 65521) else Int.tmod s 65521
theorem mod65_other (s : Int) : Int.tmod (wrap64 (Int.tmod s 65521 + 65521)) 65521 = mod65 s := by
  have h1 := Int.lt_tmod_of_pos s (by decide : (0 : Int) < 65521)
  have h2 := Int.tmod_lt_of_pos s (by decide : (0 : Int) < 65521)
  unfold mod65
  generalize Int.tmod s 65521 = t at h1 h2 ⊢
  rw [wrap_in (by omega) (by omega), Int.tmod_eq_emod_of_nonneg (by omega)]
  split <;> omega
theorem specSum_f (v : Int) (l : List Int) (hl : l.length ≤ 35184372088832) (k : Nat) (hk : l.length < k) : spec_l35Sum.f k v l = some (mod65 (sumW v l l.length)) := by
  unfold spec_l35Sum.f
  exact loop_up l.length (fun k (s : Int × Int) => spec_l35Sum.l0 k l s.1 s.2) (fun i => (sumW v l i, (i : Int))) (mod65 (sumW v l l.length)) (fun k i hi => by
    simp only [spec_l35Sum.l0]
    rw [if_pos (by omega), if_pos (by omega), wrap_next hi (by omega), rd_nat]
    rfl) (fun k => by
    simp only [spec_l35Sum.l0]
    rw [if_neg (by omega)]
    unfold mod65
    split <;> rfl) k hk
theorem implSum_f (v : Int) (l : List Int) (hl : l.length ≤ 35184372088832) (k : Nat) (hk : l.length < k) : impl_bankSum.f k v l = some (mod65 (sumW v l l.length)) := by
  unfold impl_bankSum.f
  exact loop_up l.length (fun k (s : Int × Int) => impl_bankSum.l0 k s.1 l (l.length : Int) s.2) (fun i => (sumW v l i, (i : Int))) (mod65 (sumW v l l.length)) (fun k i hi => by
    simp only [impl_bankSum.l0]
    rw [if_pos (by omega), if_pos (by omega), if_pos (by omega), wrap_next hi (by omega), rd_nat]
    rfl) (fun k => by
    simp only [impl_bankSum.l0, impl_modulo.f]
    rw [if_neg (by omega), if_neg (by decide), Option.bind_some, mod65_other]) k hk
end Go.Proofs.Ytefbmfgifjphfaa.PureFnExactUpdateSteps
