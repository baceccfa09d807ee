/- The law FnExactJobsOk in plain lists: the program and the reference accept the same jobs, and the argument is left as it was. Conditions: none beside those of the row. -/
import Derived.Test.YtniiebpibdkgjaaHelpFnExactJobsOk
namespace Go.Proofs.Ytniiebpibdkgjaa.Pure
open Go.RowKit Go.Proofs.Ytniiebpibdkgjaa.PFnExactJobsOk Go.Proofs.Ytniiebpibdkgjaa.XPure Go.Proofs.Ytniiebpibdkgjaa.PureFnExactJobsOk Go.Proofs.YtniiebpibdkgjaaW.PrintWords
set_option linter.unusedSimpArgs false

theorem FnExactJobsOk : laws_FnExactJobsOk.Pure := by
  intro l hG
  have hl : l.length ≤ 9223372036854775807 := hG.1
  have hw : wrap64 (1048576 - (l.length : Int)) = 1048576 - (l.length : Int) := wrap_in (by omega) (by omega)
  by_cases h : (1048576 - (l.length : Int)) < 0
  · refine ⟨0, ?_⟩
    simp only [laws_FnExactJobsOk.f, laws_szJobS.f, hw, h, Option.bind_some, ↓reduceIte, Int.reduceNeg, Int.reduceLT]
  · refine ⟨l.length + 1, ?_⟩
    have hk : l.length < l.length + 1 := by omega
    have e1 := toJobS_f l (by omega) _ hk
    generalize hl2 : (l.map fun x => (⟨x.f0, x.f1, x.f2⟩ : S43)) = l2 at e1
    have hlen : l2.length = l.length := by rw [← hl2]; simp
    have e2 := eqJobS_f l2 (by omega) _ (by omega : l2.length < l.length + 1)
    have e3 := specJobs_f l2 (by omega) _ (by omega : l2.length < l.length + 1)
    have e4 := implJobs_f l2 (by omega) _ (by omega : l2.length < l.length + 1)
    simp only [laws_FnExactJobsOk.f, laws_szJobS.f, hw, h, e1, e2, e3, e4, Option.bind_some, ↓reduceIte, bne_self_eq_false, Bool.false_eq_true]

end Go.Proofs.Ytniiebpibdkgjaa.Pure
