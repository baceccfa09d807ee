/- What the law FnExactRulesOk's helper functions (they copy, compare, mark) come to. Conditions: as each lemma says. -/
import Derived.Test.YtmnmafoojniclaaPFnExactRulesOkxL
import Derived.Test.YtmnmafoojniclaaXPure
namespace Go.Proofs.Ytmnmafoojniclaa.PureFnExactRulesOk
open Go.RowKit Go.Proofs.Ytmnmafoojniclaa.PFnExactRulesOk Go.Proofs.Ytmnmafoojniclaa.XPure Go.Proofs.YtmnmafoojniclaaW.PrintWords Go.Proofs.YtmnmafoojniclaaW.PrintLast Go.Proofs.YtmnmafoojniclaaW.PrintMore
set_option linter.unusedSimpArgs false
theorem toExprS_f (l : List S149) (hl : l.length ≤ 1048576) (k : Nat) (hk : l.length < k) : laws_toExprS.f k l = some (l.map fun x => (⟨x.f0, x.f1, x.f2⟩ : S121)) := by
  unfold laws_toExprS.f
  rw [if_pos (by omega), if_pos (by omega), Int.toNat_natCast]
  have h := loop_up l.length (fun k (s : List S121 × Int) => laws_toExprS.l0 k l s.1 s.2) (fun i => (filled z121 (fun x : S149 => (⟨x.f0, x.f1, x.f2⟩ : S121)) l i, (i : Int))) (l.map fun x => (⟨x.f0, x.f1, x.f2⟩ : S121)) (fun k i hi => by
    simp only [laws_toExprS.l0, laws_toExpr.f, Option.bind_some]
    rw [if_pos (by omega), if_pos (by omega), if_pos (by rw [filled_length _ _ _ _ (by omega)]; omega), wrap_next hi (by omega), ← filled_set z121 _ l i hi]
    simp only [rd_T149, Int.toNat_natCast, getD_lt hi]) (fun k => by
    simp only [laws_toExprS.l0]
    rw [if_neg (by omega), filled_all]) k hk
  simpa [filled_zero] using h
theorem eqExprS_f (l : List S121) (hl : l.length ≤ 1048576) (k : Nat) (hk : l.length < k) : laws_eqExprS.f k l l = some true := by
  unfold laws_eqExprS.f
  rw [if_pos rfl]
  exact loop_up l.length (fun k (s : Int) => laws_eqExprS.l0 k l l s) (fun i => (i : Int)) true (fun k i hi => by
    simp only [laws_eqExprS.l0, laws_eqExpr.f, if_true, Option.bind_some]
    rw [if_pos (by omega), if_pos (by omega), if_pos (by omega), wrap_next hi (by omega)]) (fun k => by
    simp only [laws_eqExprS.l0]
    rw [if_neg (by omega)]) k hk
def inB (a b c : Int) : Bool := decide (a ≥ b) && decide (a ≤ c)
theorem in_f (a b c : Int) : spec_l01In.f a b c = some (inB a b c) := by
  unfold spec_l01In.f inB
  by_cases h : a ≥ b
  · rw [if_pos h, decide_eq_true h, Bool.true_and]
  · rw [if_neg h, decide_eq_false h, Bool.false_and]
theorem within_f (a b c : Int) : impl_within.f a b c = some (inB a b c) := in_f a b c
/-- A valid expression. -/
def okX (a b c : Int) : Bool := inB a 1 7 && (inB b (-8) 999 && inB c (-8) 999)
theorem specExprOk_f (a b c : Int) : spec_ExprOk.f a b c = some (okX a b c) := by
  simp only [spec_ExprOk.f, spec_OperandOk.f, in_f, Option.bind_some, okX]
  cases inB a 1 7 <;> cases inB b (-8) 999 <;> rfl
theorem implExprOk_f (a b c : Int) : impl_ExprOk.f a b c = some (okX a b c) := by
  simp only [impl_ExprOk.f, impl_OperandOk.f, within_f, Option.bind_some, okX]
  cases inB a 1 7 <;> cases inB b (-8) 999 <;> rfl
/-- Valid rules. -/
def okR (l : List S121) : Bool := endsAt (fun i => okX (l.getD i z121).f0 (l.getD i z121).f1 (l.getD i z121).f2) (fun _ => false) ((l.length : Int) == 8) l.length 0
theorem specRules_f (l : List S121) (hl : l.length ≤ 1048576) (k : Nat) (hk : l.length < k) : spec_RulesOk.f k l = some (okR l) := by
  unfold spec_RulesOk.f
  refine loop_ends l.length (fun k (s : Int) => spec_RulesOk.l0 k s l) (fun i => (i : Int)) _ _ _ (fun k i hi hc => ?_) (fun k i hi hc => ?_) (fun k => ?_) k hk
  · simp only [spec_RulesOk.l0, rd_T121, Int.toNat_natCast, specExprOk_f, hc, Option.bind_some, ↓reduceIte]
    rw [if_pos (by omega), if_pos (by omega), wrap_next hi (by omega)]
  · simp only [spec_RulesOk.l0, rd_T121, Int.toNat_natCast, specExprOk_f, hc, Option.bind_some, Bool.false_eq_true, ↓reduceIte]
    rw [if_pos (by omega), if_pos (by omega)]
  · simp only [spec_RulesOk.l0]
    rw [if_neg (by omega)]
theorem implRules_f (l : List S121) (hl : l.length ≤ 1048576) (k : Nat) (hk : l.length < k) : impl_RulesOk.f k l = some (okR l) := by
  have h : impl_Expr_115_at_impl_RulesOk_1.f k l = some (endsAt (fun i => okX (l.getD i z121).f0 (l.getD i z121).f1 (l.getD i z121).f2) (fun i => (i : Int)) (-1) l.length 0) := by
    unfold impl_Expr_115_at_impl_RulesOk_1.f
    refine loop_ends l.length (fun k (s : Int) => impl_Expr_115_at_impl_RulesOk_1.l0 k l (l.length : Int) s) (fun i => (i : Int)) _ _ _ (fun k i hi hc => ?_) (fun k i hi hc => ?_) (fun k => ?_) k hk
    · simp only [impl_Expr_115_at_impl_RulesOk_1.l0, rd_T121, Int.toNat_natCast, impl_RulesOk_1.f, implExprOk_f, hc, Option.bind_some, Bool.not_true, Bool.false_eq_true, ↓reduceIte]
      rw [if_pos (by omega), if_pos (by omega), if_pos (by omega), wrap_next hi (by omega)]
    · simp only [impl_Expr_115_at_impl_RulesOk_1.l0, rd_T121, Int.toNat_natCast, impl_RulesOk_1.f, implExprOk_f, hc, Option.bind_some, Bool.not_false, ↓reduceIte]
      rw [if_pos (by omega), if_pos (by omega), if_pos (by omega)]
    · simp only [impl_Expr_115_at_impl_RulesOk_1.l0]
      rw [if_neg (by omega)]
  simp only [impl_RulesOk.f, impl_Expr_87_at_impl_RulesOk_1.f, h, Option.bind_some, endsAt_place, Bool.not_not, okR]
  rw [endsAt_last ((l.length : Int) == 8)]
  by_cases h8 : (l.length : Int) = 8
  · rw [if_pos h8, h8]; simp
  · rw [if_neg h8]; simp [h8]
end Go.Proofs.Ytmnmafoojniclaa.PureFnExactRulesOk
