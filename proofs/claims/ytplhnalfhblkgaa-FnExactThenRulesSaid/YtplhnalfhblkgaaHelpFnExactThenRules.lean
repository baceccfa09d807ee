/- What the law FnExactThenRules's helper functions (they copy, compare, mark) come to. Conditions: as each lemma says. -/
import Derived.Test.YtplhnalfhblkgaaPFnExactThenRulesxL
import Derived.Test.YtplhnalfhblkgaaXPure
namespace Go.Proofs.Ytplhnalfhblkgaa.PureFnExactThenRules
open Go.RowKit Go.Proofs.Ytplhnalfhblkgaa.PFnExactThenRules Go.Proofs.Ytplhnalfhblkgaa.XPure Go.Proofs.YtplhnalfhblkgaaW.PrintWords Go.Proofs.YtplhnalfhblkgaaW.PrintLast Go.Proofs.YtplhnalfhblkgaaW.PrintMore
set_option linter.unusedSimpArgs false
set_option linter.unusedVariables false
theorem toIntS_f (l : List Int) (hl : l.length ≤ 35184372088832) (k : Nat) (hk : l.length < k) : laws_toIntS.f k l = some l := by
  unfold laws_toIntS.f
  rw [if_pos (by omega), if_pos (by omega), Int.toNat_natCast]
  have h := loop_up l.length (fun k (s : List Int × Int) => laws_toIntS.l0 k l s.1 s.2) (fun i => (filled 0 id l i, (i : Int))) l (fun k i hi => by
    simp only [laws_toIntS.l0]
    rw [if_pos (by omega), if_pos (by omega), if_pos (by rw [filled_length _ _ _ _ (by omega)]; omega), wrap_next hi (by omega), rd_nat, Int.toNat_natCast, getD_lt hi, ← filled_set 0 id l i hi]
    rfl) (fun k => by
    simp only [laws_toIntS.l0]
    rw [if_neg (by omega), filled_all, List.map_id]) k hk
  simpa [filled_zero] using h
theorem eqIntS_f (l : List Int) (hl : l.length ≤ 35184372088832) (k : Nat) (hk : l.length < k) : laws_eqIntS.f k l l = some true := by
  unfold laws_eqIntS.f
  rw [if_pos rfl]
  exact loop_up l.length (fun k (s : Int) => laws_eqIntS.l0 k l l s) (fun i => (i : Int)) true (fun k i hi => by
    simp only [laws_eqIntS.l0]
    rw [if_pos (by omega), if_pos (by omega), if_pos (by omega), if_true, wrap_next hi (by omega)]) (fun k => by
    simp only [laws_eqIntS.l0]
    rw [if_neg (by omega)]) k hk
theorem markIntS_f (l : List Int) (hl : l.length ≤ 35184372088832) (m : Nat) (hm : m ≤ 35184372088832) (k : Nat) (hk : l.length < k) :
    laws_markIntS.f k l (m : Int) = some (((m + l.length : Nat) : Int), (List.range l.length).map fun j => ((m + j : Nat) : Int)) := by
  unfold laws_markIntS.f
  have h := loop_up l.length (fun k (s : List Int × Int × Int) => laws_markIntS.l0 k s.1 s.2.1 s.2.2) (fun i => (over (fun j => ((m + j : Nat) : Int)) l i, ((m + i : Nat) : Int), (i : Int)))
    (((m + l.length : Nat) : Int), (List.range l.length).map fun j => ((m + j : Nat) : Int)) (fun k i hi => by
    simp only [laws_markIntS.l0]
    rw [if_pos (by rw [over_length _ _ _ (by omega)]; omega), if_pos (by omega), wrap_next hi (by omega), wrap_next (i := m + i) (n := m + i + 1) (by omega) (by omega), Int.toNat_natCast, over_set _ _ _ hi]
    rfl) (fun k => by
    simp only [laws_markIntS.l0]
    rw [if_neg (by rw [over_length _ _ _ (by omega)]; omega), over_all]) k hk
  simpa [over_zero] using h
theorem markIntS_g (l : List Int) (m : Int) (k : Nat) (h0 : 0 ≤ m) (hm : m ≤ 35184372088832) (hl : l.length ≤ 35184372088832) (hk : l.length < k) :
    laws_markIntS.f k l m = some (m + (l.length : Int), (List.range l.length).map fun j : Nat => m + (j : Int)) := by
  obtain ⟨n, rfl⟩ := Int.eq_ofNat_of_zero_le h0
  have h := markIntS_f l hl n (by omega) k hk
  simpa using h
theorem heldIntS_f (n : Nat) (hn : n ≤ 35184372088832) (m : Nat) (hm : m ≤ 35184372088832) (k : Nat) (hk : n < k) :
    laws_heldIntS.f k ((List.range n).map fun j => ((m + j : Nat) : Int)) (m : Int) = some ((m + n : Nat) : Int) := by
  unfold laws_heldIntS.f
  have h := loop_up n (fun k (s : Int × Int) => laws_heldIntS.l0 k ((List.range n).map fun j => ((m + j : Nat) : Int)) s.1 s.2) (fun i => (((m + i : Nat) : Int), (i : Int))) ((m + n : Nat) : Int) (fun k i hi => by
    simp only [laws_heldIntS.l0]
    rw [if_pos (by simp; omega), if_pos (by omega), rd_nat, range_get _ _ _ hi, if_pos rfl, wrap_next hi (by omega), wrap_next (i := m + i) (n := m + i + 1) (by omega) (by omega)]
    rfl) (fun k => by
    simp only [laws_heldIntS.l0]
    rw [if_neg (by simp)]) k hk
  simpa using h
theorem heldIntS_g (n : Nat) (m : Int) (k : Nat) (h0 : 0 ≤ m) (hm : m ≤ 35184372088832) (hn : n ≤ 35184372088832) (hk : n < k) :
    laws_heldIntS.f k ((List.range n).map fun j : Nat => m + (j : Int)) m = some (m + (n : Int)) := by
  obtain ⟨q, rfl⟩ := Int.eq_ofNat_of_zero_le h0
  have h := heldIntS_f n hn q (by omega) k hk
  simpa using h
theorem toExprS_f (l : List S162) (hl : l.length ≤ 1048576) (k : Nat) (hk : l.length < k) : laws_toExprS.f k l = some (l.map fun x => (⟨x.f0, x.f1, x.f2⟩ : S110)) := by
  unfold laws_toExprS.f
  rw [if_pos (by omega), if_pos (by omega), Int.toNat_natCast]
  have h := loop_up l.length (fun k (s : List S110 × Int) => laws_toExprS.l0 k l s.1 s.2) (fun i => (filled z110 (fun x : S162 => (⟨x.f0, x.f1, x.f2⟩ : S110)) l i, (i : Int))) (l.map fun x => (⟨x.f0, x.f1, x.f2⟩ : S110)) (fun k i hi => by
    simp only [laws_toExprS.l0, laws_toExpr.f, Option.bind_some]
    rw [if_pos (by omega), if_pos (by omega), if_pos (by rw [filled_length _ _ _ _ (by omega)]; omega), wrap_next hi (by omega), ← filled_set z110 _ l i hi]
    simp only [rd_T162, Int.toNat_natCast, getD_lt hi]) (fun k => by
    simp only [laws_toExprS.l0]
    rw [if_neg (by omega), filled_all]) k hk
  simpa [filled_zero] using h
theorem markExprS_f (l : List S110) (hl : l.length ≤ 1048576) (m : Nat) (hm : m ≤ 35184372088832) (k : Nat) (hk : l.length < k) :
    ∃ l' : List S110, laws_markExprS.f k l (m : Int) = some (((m + 3 * l.length : Nat) : Int), l') := by
  unfold laws_markExprS.f
  obtain ⟨r, hr, e⟩ := loop_inv l.length (fun k (s : List S110 × Int × Int) => laws_markExprS.l0 k s.1 s.2.1 s.2.2) (fun i s => s.1.length = l.length ∧ s.2.1 = ((m + 3 * i : Nat) : Int) ∧ s.2.2 = (i : Int)) (fun r => r.1 = ((m + 3 * l.length : Nat) : Int)) (fun k i s hi hI => by
    obtain ⟨ls, ms, is⟩ := s
    obtain ⟨h1, h2, h3⟩ := hI
    dsimp only at h1 h2 h3
    subst h2 h3
    simp only [laws_markExprS.l0, Option.bind_some]
    rw [if_pos (by omega), if_pos (by omega), wrap_next hi (by omega), wrap_in (x := ((m + 3 * i : Nat) : Int) + 1) (by omega) (by omega), wrap_in (x := ((m + 3 * i : Nat) : Int) + 1 + 1) (by omega) (by omega), wrap_in (x := ((m + 3 * i : Nat) : Int) + 1 + 1 + 1) (by omega) (by omega)]
    exact ⟨(_, _, _), ⟨by simpa using h1, by dsimp only; omega, rfl⟩, rfl⟩) (fun k s hI => by
    obtain ⟨ls, ms, is⟩ := s
    obtain ⟨h1, h2, h3⟩ := hI
    dsimp only at h1 h2 h3
    subst h2 h3
    simp only [laws_markExprS.l0]
    rw [if_neg (by omega)]
    exact ⟨_, rfl, rfl⟩) k (l, (m : Int), 0) hk ⟨rfl, by dsimp only; omega, rfl⟩
  obtain ⟨r1, r2⟩ := r
  dsimp only at hr
  subst hr
  exact ⟨r2, e⟩
theorem markExprS_g (l : List S110) (m : Int) (k : Nat) (h0 : 0 ≤ m) (hm : m ≤ 35184372088832) (hl : l.length ≤ 1048576) (hk : l.length < k) :
    ∃ l' : List S110, laws_markExprS.f k l m = some (m + 3 * (l.length : Int), l') := by
  obtain ⟨q, rfl⟩ := Int.eq_ofNat_of_zero_le h0
  obtain ⟨l', h⟩ := markExprS_f l hl q (by omega) k hk
  exact ⟨l', by simpa using h⟩
theorem eqExprS_f (l : List S110) (hl : l.length ≤ 1048576) (k : Nat) (hk : l.length < k) : laws_eqExprS.f k l l = some true := by
  unfold laws_eqExprS.f
  rw [if_pos rfl]
  exact loop_up l.length (fun k (s : Int) => laws_eqExprS.l0 k l l s) (fun i => (i : Int)) true (fun k i hi => by
    simp only [laws_eqExprS.l0, laws_eqExpr.f, if_true, Option.bind_some]
    rw [if_pos (by omega), if_pos (by omega), if_pos (by omega), wrap_next hi (by omega)]) (fun k => by
    simp only [laws_eqExprS.l0]
    rw [if_neg (by omega)]) k hk
def inB (a b c : Int) : Bool := decide (a ≥ b) && decide (a ≤ c)
theorem in_f (a b c : Int) : spec_l01In.f a b c = some (inB a b c) := by
  unfold spec_l01In.f inB
  by_cases h : a ≥ b
  · rw [if_pos h, decide_eq_true h, Bool.true_and]
  · rw [if_neg h, decide_eq_false h, Bool.false_and]
theorem within_f (a b c : Int) : impl_within.f a b c = some (inB a b c) := in_f a b c
theorem specIsValue_f (x : Int) : spec_IsValue.f x = some (inB x (-1000000) 1000000) := by
  simp only [spec_IsValue.f, in_f, Option.bind_some]
theorem implIsValue_f (x : Int) : impl_IsValue.f x = some (inB x (-1000000) 1000000) := by
  simp only [impl_IsValue.f, within_f, Option.bind_some]
/-- All are values. -/
def allV (l : List Int) : Bool := endsAt (fun i => inB (l.getD i 0) (-1000000) 1000000) (fun _ => false) true l.length 0
theorem implValues_f (l : List Int) (hl : l.length ≤ 35184372088832) (k : Nat) (hk : l.length < k) : impl_areValues.f k l = some (allV l) := by
  have h : slices_IndexFunc_int_int_at_impl_areValues_1.f k l = some (endsAt (fun i => inB (l.getD i 0) (-1000000) 1000000) (fun i => (i : Int)) (-1) l.length 0) := by
    unfold slices_IndexFunc_int_int_at_impl_areValues_1.f
    refine loop_ends l.length (fun k (s : Int) => slices_IndexFunc_int_int_at_impl_areValues_1.l0 k l (l.length : Int) s) (fun i => (i : Int)) _ _ _ (fun k i hi hc => ?_) (fun k i hi hc => ?_) (fun k => ?_) k hk
    · simp only [slices_IndexFunc_int_int_at_impl_areValues_1.l0, rd_nat, impl_areValues_1.f, implIsValue_f, hc, Option.bind_some, Bool.not_true, Bool.false_eq_true, ↓reduceIte]
      rw [if_pos (by omega), if_pos (by omega), if_pos (by omega), wrap_next hi (by omega)]
    · simp only [slices_IndexFunc_int_int_at_impl_areValues_1.l0, rd_nat, impl_areValues_1.f, implIsValue_f, hc, Option.bind_some, Bool.not_false, ↓reduceIte]
      rw [if_pos (by omega), if_pos (by omega), if_pos (by omega)]
    · simp only [slices_IndexFunc_int_int_at_impl_areValues_1.l0]
      rw [if_neg (by omega)]
  simp only [impl_areValues.f, slices_ContainsFunc_int_int_at_impl_areValues_1.f, h, Option.bind_some, endsAt_place, Bool.not_not]
  rfl
/-- A valid expression. -/
def okX (a b c : Int) : Bool := inB a 1 7 && (inB b (-8) 999 && inB c (-8) 999)
theorem specExprOk_f (a b c : Int) : spec_ExprOk.f a b c = some (okX a b c) := by
  simp only [spec_ExprOk.f, spec_OperandOk.f, in_f, Option.bind_some, okX]
  cases inB a 1 7 <;> cases inB b (-8) 999 <;> rfl
theorem implExprOk_f (a b c : Int) : impl_ExprOk.f a b c = some (okX a b c) := by
  simp only [impl_ExprOk.f, impl_OperandOk.f, within_f, Option.bind_some, okX]
  cases inB a 1 7 <;> cases inB b (-8) 999 <;> rfl
/-- Valid rules. -/
def okR (l : List S110) : Bool := endsAt (fun i => okX (l.getD i z110).f0 (l.getD i z110).f1 (l.getD i z110).f2) (fun _ => false) ((l.length : Int) == 8) l.length 0
theorem specRules_f (l : List S110) (hl : l.length ≤ 1048576) (k : Nat) (hk : l.length < k) : spec_RulesOk.f k l = some (okR l) := by
  unfold spec_RulesOk.f
  refine loop_ends l.length (fun k (s : Int) => spec_RulesOk.l0 k s l) (fun i => (i : Int)) _ _ _ (fun k i hi hc => ?_) (fun k i hi hc => ?_) (fun k => ?_) k hk
  · simp only [spec_RulesOk.l0, rd_T110, Int.toNat_natCast, specExprOk_f, hc, Option.bind_some, ↓reduceIte]
    rw [if_pos (by omega), if_pos (by omega), wrap_next hi (by omega)]
  · simp only [spec_RulesOk.l0, rd_T110, Int.toNat_natCast, specExprOk_f, hc, Option.bind_some, Bool.false_eq_true, ↓reduceIte]
    rw [if_pos (by omega), if_pos (by omega)]
  · simp only [spec_RulesOk.l0]
    rw [if_neg (by omega)]
theorem implRules_f (l : List S110) (hl : l.length ≤ 1048576) (k : Nat) (hk : l.length < k) : impl_RulesOk.f k l = some (okR l) := by
  have h : impl_Expr_168_at_impl_RulesOk_1.f k l = some (endsAt (fun i => okX (l.getD i z110).f0 (l.getD i z110).f1 (l.getD i z110).f2) (fun i => (i : Int)) (-1) l.length 0) := by
    unfold impl_Expr_168_at_impl_RulesOk_1.f
    refine loop_ends l.length (fun k (s : Int) => impl_Expr_168_at_impl_RulesOk_1.l0 k l (l.length : Int) s) (fun i => (i : Int)) _ _ _ (fun k i hi hc => ?_) (fun k i hi hc => ?_) (fun k => ?_) k hk
    · simp only [impl_Expr_168_at_impl_RulesOk_1.l0, rd_T110, Int.toNat_natCast, impl_RulesOk_1.f, implExprOk_f, hc, Option.bind_some, Bool.not_true, Bool.false_eq_true, ↓reduceIte]
      rw [if_pos (by omega), if_pos (by omega), if_pos (by omega), wrap_next hi (by omega)]
    · simp only [impl_Expr_168_at_impl_RulesOk_1.l0, rd_T110, Int.toNat_natCast, impl_RulesOk_1.f, implExprOk_f, hc, Option.bind_some, Bool.not_false, ↓reduceIte]
      rw [if_pos (by omega), if_pos (by omega), if_pos (by omega)]
    · simp only [impl_Expr_168_at_impl_RulesOk_1.l0]
      rw [if_neg (by omega)]
  simp only [impl_RulesOk.f, impl_Expr_129_at_impl_RulesOk_1.f, h, Option.bind_some, endsAt_place, Bool.not_not, okR]
  rw [endsAt_last ((l.length : Int) == 8)]
  by_cases h8 : (l.length : Int) = 8
  · rw [if_pos h8, h8]; simp
  · rw [if_neg h8]; simp [h8]
end Go.Proofs.Ytplhnalfhblkgaa.PureFnExactThenRules
