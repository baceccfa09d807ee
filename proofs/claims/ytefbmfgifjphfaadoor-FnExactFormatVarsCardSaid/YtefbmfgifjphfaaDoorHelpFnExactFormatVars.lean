/- What the law FnExactFormatVars's helper functions (they copy, compare, mark) come to. Conditions: as each lemma says. -/
import Derived.Test.YtefbmfgifjphfaaDoorPFnExactFormatVarsxL
import Derived.Test.YtefbmfgifjphfaaDoorXPure
namespace Go.Proofs.YtefbmfgifjphfaaDoor.PureFnExactFormatVars
open Go.RowKit Go.Proofs.YtefbmfgifjphfaaDoor.PFnExactFormatVars Go.Proofs.YtefbmfgifjphfaaDoor.XPure Go.Proofs.YtefbmfgifjphfaaDoorW.PrintWords Go.Proofs.YtefbmfgifjphfaaDoorW.PrintLast Go.Proofs.YtefbmfgifjphfaaDoorW.PrintMore
set_option linter.unusedSimpArgs false
set_option linter.unusedVariables false
theorem toIntS_f (l : List Int) (hl : l.length ≤ 35184372088832) (k : Nat) (hk : l.length < k) : laws_toIntS.f k l = some l := by
  unfold laws_toIntS.f
  rw [if_pos (by omega), if_pos (by omega), Int.toNat_natCast]
  have h := loop_up l.length (fun k (s : List Int × Int) => laws_toIntS.l0 k l s.1 s.2) (fun i => (filled 0 id l i, (i : Int))) l (fun k i hi => by
    simp only [laws_toIntS.l0]
    rw [if_pos (by omega), if_pos (by omega), if_pos (by rw [filled_length _ _ _ _ (by omega)]; omega), wrap_next hi (by omega), rd_nat, Int.toNat_natCast, getD_lt hi, ← filled_set 0 id l i hi]
    rfl) (fun k => by
    simp only [laws_toIntS.l0]
    rw [if_neg (by omega), filled_all, List.map_id]) k hk
  simpa [filled_zero] using h
theorem eqIntS_f (l : List Int) (hl : l.length ≤ 35184372088832) (k : Nat) (hk : l.length < k) : laws_eqIntS.f k l l = some true := by
  unfold laws_eqIntS.f
  rw [if_pos rfl]
  exact loop_up l.length (fun k (s : Int) => laws_eqIntS.l0 k l l s) (fun i => (i : Int)) true (fun k i hi => by
    simp only [laws_eqIntS.l0]
    rw [if_pos (by omega), if_pos (by omega), if_pos (by omega), if_true, wrap_next hi (by omega)]) (fun k => by
    simp only [laws_eqIntS.l0]
    rw [if_neg (by omega)]) k hk
end Go.Proofs.YtefbmfgifjphfaaDoor.PureFnExactFormatVars
