/- The law FnExactPlansOk in plain lists: the program and the reference accept the same plans, and the argument is left as it was. Conditions: none beside those of the row. -/
import Derived.Test.YtmnmafoojniclaaHelpFnExactPlansOk
namespace Go.Proofs.Ytmnmafoojniclaa.Pure
open Go.RowKit Go.Proofs.Ytmnmafoojniclaa.PFnExactPlansOk Go.Proofs.Ytmnmafoojniclaa.XPure Go.Proofs.Ytmnmafoojniclaa.PureFnExactPlansOk Go.Proofs.YtmnmafoojniclaaW.PrintWords
set_option linter.unusedSimpArgs false

def inB (a b c : Int) : Bool := decide (a ≥ b) && decide (a ≤ c)
theorem in_f (a b c : Int) : spec_l01In.f a b c = some (inB a b c) := by
  unfold spec_l01In.f inB
  by_cases h : a ≥ b
  · rw [if_pos h, decide_eq_true h, Bool.true_and]
  · rw [if_neg h, decide_eq_false h, Bool.false_and]
theorem within_f (a b c : Int) : impl_within.f a b c = some (inB a b c) := in_f a b c
def okE (x : S114) : Bool := inB x.f0 0 1000 && inB x.f1 0 1000
theorem spec_f (l : List S114) (hl : l.length ≤ 1048576) (k : Nat) (hk : l.length < k) :
    spec_PlansOk.f k l = some (endsAt (fun i => okE (l.getD i z114)) (fun _ => false) (decide ((l.length : Int) ≤ 10)) l.length 0) := by
  unfold spec_PlansOk.f
  refine loop_ends l.length (fun k (s : Int) => spec_PlansOk.l0 k l s) (fun i => (i : Int)) _ _ _ (fun k i hi hc => ?_) (fun k i hi hc => ?_) (fun k => ?_) k hk
  · simp only [okE, Bool.and_eq_true] at hc
    simp only [spec_PlansOk.l0, rd_T114, Int.toNat_natCast, in_f, hc.1, hc.2, Option.bind_some, ↓reduceIte]
    rw [if_pos (by omega), if_pos (by omega), wrap_next hi (by omega)]
  · simp only [okE] at hc
    simp only [spec_PlansOk.l0, rd_T114, Int.toNat_natCast, in_f, Option.bind_some]
    rw [if_pos (by omega), if_pos (by omega)]
    cases h1 : inB (l.getD i z114).f0 0 1000 <;> cases h2 : inB (l.getD i z114).f1 0 1000 <;> rw [h1, h2] at hc <;> first | (cases hc; done) | simp only [Bool.false_eq_true, ↓reduceIte]
  · simp only [spec_PlansOk.l0]
    rw [if_neg (by omega)]
theorem bad_f (a b : Int) : impl_PlansOk_1.f a b = some (!(inB a 0 1000 && inB b 0 1000)) := by
  simp only [impl_PlansOk_1.f, within_f, Option.bind_some]
  cases inB a 0 1000 <;> rfl
theorem impl_f (l : List S114) (hl : l.length ≤ 1048576) (k : Nat) (hk : l.length < k) :
    impl_PlansOk.f k l = some (endsAt (fun i => okE (l.getD i z114)) (fun _ => false) (decide ((l.length : Int) ≤ 10)) l.length 0) := by
  have h : impl_Plan_111_at_impl_PlansOk_1.f k l = some (endsAt (fun i => okE (l.getD i z114)) (fun i => (i : Int)) (-1) l.length 0) := by
    unfold impl_Plan_111_at_impl_PlansOk_1.f
    refine loop_ends l.length (fun k (s : Int) => impl_Plan_111_at_impl_PlansOk_1.l0 k l (l.length : Int) s) (fun i => (i : Int)) _ _ _ (fun k i hi hc => ?_) (fun k i hi hc => ?_) (fun k => ?_) k hk
    · have hb : impl_PlansOk_1.f (l.getD i z114).f0 (l.getD i z114).f1 = some false := by rw [bad_f]; simp only [okE] at hc; rw [hc]; rfl
      simp only [impl_Plan_111_at_impl_PlansOk_1.l0, rd_T114, Int.toNat_natCast, hb, Option.bind_some, Bool.false_eq_true, ↓reduceIte]
      rw [if_pos (by omega), if_pos (by omega), if_pos (by omega), wrap_next hi (by omega)]
    · have hb : impl_PlansOk_1.f (l.getD i z114).f0 (l.getD i z114).f1 = some true := by rw [bad_f]; simp only [okE] at hc; rw [hc]; rfl
      simp only [impl_Plan_111_at_impl_PlansOk_1.l0, rd_T114, Int.toNat_natCast, hb, Option.bind_some, ↓reduceIte]
      rw [if_pos (by omega), if_pos (by omega), if_pos (by omega)]
    · simp only [impl_Plan_111_at_impl_PlansOk_1.l0]
      rw [if_neg (by omega)]
  simp only [impl_PlansOk.f, impl_Plan_78_at_impl_PlansOk_1.f, h, Option.bind_some, endsAt_place, Bool.not_not]
  rw [endsAt_last (decide ((l.length : Int) ≤ 10))]
  by_cases h10 : (l.length : Int) ≤ 10
  · rw [if_pos h10, decide_eq_true h10, Bool.and_true]
  · rw [if_neg h10, decide_eq_false h10, Bool.and_false]
theorem FnExactPlansOk : laws_FnExactPlansOk.Pure := by
  intro l hG
  have hl : l.length ≤ 9223372036854775807 := hG.1
  have hw : wrap64 (1048576 - (l.length : Int)) = 1048576 - (l.length : Int) := wrap_in (by omega) (by omega)
  by_cases h : (1048576 - (l.length : Int)) < 0
  · refine ⟨0, ?_⟩
    simp only [laws_FnExactPlansOk.f, laws_szPlanS.f, hw, h, Option.bind_some, ↓reduceIte, Int.reduceNeg, Int.reduceLT]
  · refine ⟨l.length + 1, ?_⟩
    have hk : l.length < l.length + 1 := by omega
    have e1 := toPlanS_f l (by omega) _ hk
    generalize hl2 : (l.map fun x => (⟨x.f0, x.f1⟩ : S114)) = l2 at e1
    have hlen : l2.length = l.length := by rw [← hl2]; simp
    have e2 := eqPlanS_f l2 (by omega) _ (by omega : l2.length < l.length + 1)
    have e3 := spec_f l2 (by omega) _ (by omega : l2.length < l.length + 1)
    have e4 := impl_f l2 (by omega) _ (by omega : l2.length < l.length + 1)
    simp only [laws_FnExactPlansOk.f, laws_szPlanS.f, hw, h, e1, e2, e3, e4, Option.bind_some, ↓reduceIte, bne_self_eq_false, Bool.false_eq_true]

end Go.Proofs.Ytmnmafoojniclaa.Pure
