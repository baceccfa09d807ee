/- What the law FnExactScriptText's helper functions (they copy, compare, mark) come to. Conditions: as each lemma says. -/
import Derived.Test.YtefbmfgifjphfaaDoorPFnExactScriptTextxL
import Derived.Test.YtefbmfgifjphfaaDoorXPure
namespace Go.Proofs.YtefbmfgifjphfaaDoor.PureFnExactScriptText
open Go.RowKit Go.Proofs.YtefbmfgifjphfaaDoor.PFnExactScriptText Go.Proofs.YtefbmfgifjphfaaDoor.XPure Go.Proofs.YtefbmfgifjphfaaDoorW.PrintWords Go.Proofs.YtefbmfgifjphfaaDoorW.PrintLast Go.Proofs.YtefbmfgifjphfaaDoorW.PrintMore
set_option linter.unusedSimpArgs false
set_option linter.unusedVariables false
theorem toActS_f (l : List S28) (hl : l.length ≤ 1048576) (k : Nat) (hk : l.length < k) : laws_toActS.f k l = some (l.map fun x => (⟨x.f0, x.f1, x.f2⟩ : S31)) := by
  unfold laws_toActS.f
  rw [if_pos (by omega), if_pos (by omega), Int.toNat_natCast]
  have h := loop_up l.length (fun k (s : List S31 × Int) => laws_toActS.l0 k l s.1 s.2) (fun i => (filled z31 (fun x : S28 => (⟨x.f0, x.f1, x.f2⟩ : S31)) l i, (i : Int))) (l.map fun x => (⟨x.f0, x.f1, x.f2⟩ : S31)) (fun k i hi => by
    simp only [laws_toActS.l0, laws_toAct.f, Option.bind_some]
    rw [if_pos (by omega), if_pos (by omega), if_pos (by rw [filled_length _ _ _ _ (by omega)]; omega), wrap_next hi (by omega), ← filled_set z31 _ l i hi]
    simp only [rd_T28, Int.toNat_natCast, getD_lt hi]) (fun k => by
    simp only [laws_toActS.l0]
    rw [if_neg (by omega), filled_all]) k hk
  simpa [filled_zero] using h
theorem eqActS_f (l : List S31) (hl : l.length ≤ 1048576) (k : Nat) (hk : l.length < k) : laws_eqActS.f k l l = some true := by
  unfold laws_eqActS.f
  rw [if_pos rfl]
  exact loop_up l.length (fun k (s : Int) => laws_eqActS.l0 k l l s) (fun i => (i : Int)) true (fun k i hi => by
    simp only [laws_eqActS.l0, laws_eqAct.f, if_true, Option.bind_some]
    rw [if_pos (by omega), if_pos (by omega), if_pos (by omega), wrap_next hi (by omega)]) (fun k => by
    simp only [laws_eqActS.l0]
    rw [if_neg (by omega)]) k hk
def inB (a b c : Int) : Bool := decide (a ≥ b) && decide (a ≤ c)
theorem in_f (a b c : Int) : spec_l01In.f a b c = some (inB a b c) := by
  unfold spec_l01In.f inB
  by_cases h : a ≥ b
  · rw [if_pos h, decide_eq_true h, Bool.true_and]
  · rw [if_neg h, decide_eq_false h, Bool.false_and]
theorem within_f (a b c : Int) : impl_within.f a b c = some (inB a b c) := in_f a b c
theorem specIsValue_f (x : Int) : spec_IsValue.f x = some (inB x (-1000000) 1000000) := by
  simp only [spec_IsValue.f, in_f, Option.bind_some]
theorem implIsValue_f (x : Int) : impl_IsValue.f x = some (inB x (-1000000) 1000000) := by
  simp only [impl_IsValue.f, within_f, Option.bind_some]
end Go.Proofs.YtefbmfgifjphfaaDoor.PureFnExactScriptText
