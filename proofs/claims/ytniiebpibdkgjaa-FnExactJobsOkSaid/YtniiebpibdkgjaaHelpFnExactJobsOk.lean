/- What the law FnExactJobsOk's helper functions (they copy, compare, mark) come to. Conditions: as each lemma says. -/
import Derived.Test.YtniiebpibdkgjaaPFnExactJobsOkxL
import Derived.Test.YtniiebpibdkgjaaXPure
namespace Go.Proofs.Ytniiebpibdkgjaa.PureFnExactJobsOk
open Go.RowKit Go.Proofs.Ytniiebpibdkgjaa.PFnExactJobsOk Go.Proofs.Ytniiebpibdkgjaa.XPure Go.Proofs.YtniiebpibdkgjaaW.PrintWords Go.Proofs.YtniiebpibdkgjaaW.PrintLast Go.Proofs.YtniiebpibdkgjaaW.PrintMore
set_option linter.unusedSimpArgs false
theorem toJobS_f (l : List S47) (hl : l.length ≤ 1048576) (k : Nat) (hk : l.length < k) : laws_toJobS.f k l = some (l.map fun x => (⟨x.f0, x.f1, x.f2⟩ : S43)) := by
  unfold laws_toJobS.f
  rw [if_pos (by omega), if_pos (by omega), Int.toNat_natCast]
  have h := loop_up l.length (fun k (s : List S43 × Int) => laws_toJobS.l0 k l s.1 s.2) (fun i => (filled z43 (fun x : S47 => (⟨x.f0, x.f1, x.f2⟩ : S43)) l i, (i : Int))) (l.map fun x => (⟨x.f0, x.f1, x.f2⟩ : S43)) (fun k i hi => by
    simp only [laws_toJobS.l0, laws_toJob.f, Option.bind_some]
    rw [if_pos (by omega), if_pos (by omega), if_pos (by rw [filled_length _ _ _ _ (by omega)]; omega), wrap_next hi (by omega), ← filled_set z43 _ l i hi]
    simp only [rd_T47, Int.toNat_natCast, getD_lt hi]) (fun k => by
    simp only [laws_toJobS.l0]
    rw [if_neg (by omega), filled_all]) k hk
  simpa [filled_zero] using h
theorem eqJobS_f (l : List S43) (hl : l.length ≤ 1048576) (k : Nat) (hk : l.length < k) : laws_eqJobS.f k l l = some true := by
  unfold laws_eqJobS.f
  rw [if_pos rfl]
  exact loop_up l.length (fun k (s : Int) => laws_eqJobS.l0 k l l s) (fun i => (i : Int)) true (fun k i hi => by
    simp only [laws_eqJobS.l0, laws_eqJob.f, if_true, Option.bind_some]
    rw [if_pos (by omega), if_pos (by omega), if_pos (by omega), wrap_next hi (by omega)]) (fun k => by
    simp only [laws_eqJobS.l0]
    rw [if_neg (by omega)]) k hk
def inB (a b c : Int) : Bool := decide (a ≥ b) && decide (a ≤ c)
theorem in_f (a b c : Int) : spec_l01In.f a b c = some (inB a b c) := by
  unfold spec_l01In.f inB
  by_cases h : a ≥ b
  · rw [if_pos h, decide_eq_true h, Bool.true_and]
  · rw [if_neg h, decide_eq_false h, Bool.false_and]
theorem within_f (a b c : Int) : impl_within.f a b c = some (inB a b c) := in_f a b c
def okJobs (x : S43) : Bool := inB x.f0 0 1000 && (inB x.f1 x.f0 2000 && (inB x.f2 1 100))
theorem specJobs_f (l : List S43) (hl : l.length ≤ 1048576) (k : Nat) (hk : l.length < k) :
    spec_JobsOk.f k l = some (endsAt (fun i => okJobs (l.getD i z43)) (fun _ => false) (decide ((l.length : Int) ≤ 8)) l.length 0) := by
  unfold spec_JobsOk.f
  refine loop_ends l.length (fun k (s : Int) => spec_JobsOk.l0 k l s) (fun i => (i : Int)) _ _ _ (fun k i hi hc => ?_) (fun k i hi hc => ?_) (fun k => ?_) k hk
  · simp only [okJobs, Bool.and_eq_true] at hc
    simp only [spec_JobsOk.l0, rd_T43, Int.toNat_natCast, in_f, hc.1, hc.2.1, hc.2.2, Option.bind_some, ↓reduceIte]
    rw [if_pos (by omega), if_pos (by omega), wrap_next hi (by omega)]
  · simp only [okJobs] at hc
    simp only [spec_JobsOk.l0, rd_T43, Int.toNat_natCast, in_f, Option.bind_some]
    rw [if_pos (by omega), if_pos (by omega)]
    cases h0 : inB (l.getD i z43).f0 0 1000 <;> cases h1 : inB (l.getD i z43).f1 (l.getD i z43).f0 2000 <;> cases h2 : inB (l.getD i z43).f2 1 100 <;> rw [h0, h1, h2] at hc <;> first | (cases hc; done) | simp only [Bool.false_eq_true, ↓reduceIte]
  · simp only [spec_JobsOk.l0]
    rw [if_neg (by omega)]
theorem badJobs_f (a0 a1 a2 : Int) : impl_JobsOk_1.f a0 a1 a2 = some (!(inB a0 0 1000 && (inB a1 a0 2000 && (inB a2 1 100)))) := by
  simp only [impl_JobsOk_1.f, within_f, Option.bind_some]
  cases inB a0 0 1000 <;> cases inB a1 a0 2000 <;> cases inB a2 1 100 <;> rfl
theorem implJobs_f (l : List S43) (hl : l.length ≤ 1048576) (k : Nat) (hk : l.length < k) :
    impl_JobsOk.f k l = some (endsAt (fun i => okJobs (l.getD i z43)) (fun _ => false) (decide ((l.length : Int) ≤ 8)) l.length 0) := by
  have h : impl_Job_42_at_impl_JobsOk_1.f k l = some (endsAt (fun i => okJobs (l.getD i z43)) (fun i => (i : Int)) (-1) l.length 0) := by
    unfold impl_Job_42_at_impl_JobsOk_1.f
    refine loop_ends l.length (fun k (s : Int) => impl_Job_42_at_impl_JobsOk_1.l0 k l (l.length : Int) s) (fun i => (i : Int)) _ _ _ (fun k i hi hc => ?_) (fun k i hi hc => ?_) (fun k => ?_) k hk
    · have hb : impl_JobsOk_1.f (l.getD i z43).f0 (l.getD i z43).f1 (l.getD i z43).f2 = some false := by rw [badJobs_f]; simp only [okJobs] at hc; rw [hc]; rfl
      simp only [impl_Job_42_at_impl_JobsOk_1.l0, rd_T43, Int.toNat_natCast, hb, Option.bind_some, Bool.false_eq_true, ↓reduceIte]
      rw [if_pos (by omega), if_pos (by omega), if_pos (by omega), wrap_next hi (by omega)]
    · have hb : impl_JobsOk_1.f (l.getD i z43).f0 (l.getD i z43).f1 (l.getD i z43).f2 = some true := by rw [badJobs_f]; simp only [okJobs] at hc; rw [hc]; rfl
      simp only [impl_Job_42_at_impl_JobsOk_1.l0, rd_T43, Int.toNat_natCast, hb, Option.bind_some, ↓reduceIte]
      rw [if_pos (by omega), if_pos (by omega), if_pos (by omega)]
    · simp only [impl_Job_42_at_impl_JobsOk_1.l0]
      rw [if_neg (by omega)]
  simp only [impl_JobsOk.f, impl_Job_30_at_impl_JobsOk_1.f, h, Option.bind_some, endsAt_place, Bool.not_not]
  rw [endsAt_last (decide ((l.length : Int) ≤ 8))]
  by_cases h10 : (l.length : Int) ≤ 8
  · rw [if_pos h10, decide_eq_true h10, Bool.and_true]
  · rw [if_neg h10, decide_eq_false h10, Bool.and_false]
end Go.Proofs.Ytniiebpibdkgjaa.PureFnExactJobsOk
