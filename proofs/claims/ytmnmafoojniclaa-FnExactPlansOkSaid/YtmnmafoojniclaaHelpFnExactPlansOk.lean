/- What the law FnExactPlansOk's helper functions (they copy, compare, mark) come to. Conditions: as each lemma says. -/
import Derived.Test.YtmnmafoojniclaaPFnExactPlansOkxL
import Derived.Test.YtmnmafoojniclaaXPure
namespace Go.Proofs.Ytmnmafoojniclaa.PureFnExactPlansOk
open Go.RowKit Go.Proofs.Ytmnmafoojniclaa.PFnExactPlansOk Go.Proofs.Ytmnmafoojniclaa.XPure Go.Proofs.YtmnmafoojniclaaW.PrintWords Go.Proofs.YtmnmafoojniclaaW.PrintLast Go.Proofs.YtmnmafoojniclaaW.PrintMore
theorem toPlanS_f (l : List S116) (hl : l.length ≤ 1048576) (k : Nat) (hk : l.length < k) : laws_toPlanS.f k l = some (l.map fun x => (⟨x.f0, x.f1⟩ : S114)) := by
  unfold laws_toPlanS.f
  rw [if_pos (by omega), if_pos (by omega), Int.toNat_natCast]
  have h := loop_up l.length (fun k (s : List S114 × Int) => laws_toPlanS.l0 k l s.1 s.2) (fun i => (filled z114 (fun x : S116 => (⟨x.f0, x.f1⟩ : S114)) l i, (i : Int))) (l.map fun x => (⟨x.f0, x.f1⟩ : S114)) (fun k i hi => by
    simp only [laws_toPlanS.l0, laws_toPlan.f, Option.bind_some]
    rw [if_pos (by omega), if_pos (by omega), if_pos (by rw [filled_length _ _ _ _ (by omega)]; omega), wrap_next hi (by omega), ← filled_set z114 _ l i hi]
    simp only [rd_T116, Int.toNat_natCast, getD_lt hi]) (fun k => by
    simp only [laws_toPlanS.l0]
    rw [if_neg (by omega), filled_all]) k hk
  simpa [filled_zero] using h
theorem eqPlanS_f (l : List S114) (hl : l.length ≤ 1048576) (k : Nat) (hk : l.length < k) : laws_eqPlanS.f k l l = some true := by
  unfold laws_eqPlanS.f
  rw [if_pos rfl]
  exact loop_up l.length (fun k (s : Int) => laws_eqPlanS.l0 k l l s) (fun i => (i : Int)) true (fun k i hi => by
    simp only [laws_eqPlanS.l0, laws_eqPlan.f, if_true, Option.bind_some]
    rw [if_pos (by omega), if_pos (by omega), if_pos (by omega), wrap_next hi (by omega)]) (fun k => by
    simp only [laws_eqPlanS.l0]
    rw [if_neg (by omega)]) k hk
end Go.Proofs.Ytmnmafoojniclaa.PureFnExactPlansOk
