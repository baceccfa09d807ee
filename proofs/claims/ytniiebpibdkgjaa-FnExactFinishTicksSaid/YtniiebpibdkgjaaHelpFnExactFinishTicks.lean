/- What the law FnExactFinishTicks's helper functions (they copy, compare, mark) come to. Conditions: as each lemma says. -/
import Derived.Test.YtniiebpibdkgjaaPFnExactFinishTicksxL
import Derived.Test.YtniiebpibdkgjaaXPure
namespace Go.Proofs.Ytniiebpibdkgjaa.PureFnExactFinishTicks
open Go.RowKit Go.Proofs.Ytniiebpibdkgjaa.PFnExactFinishTicks Go.Proofs.Ytniiebpibdkgjaa.XPure Go.Proofs.YtniiebpibdkgjaaW.PrintWords Go.Proofs.YtniiebpibdkgjaaW.PrintLast Go.Proofs.YtniiebpibdkgjaaW.PrintMore
set_option linter.unusedSimpArgs false
set_option linter.unusedVariables false
theorem toIntS_f (l : List Int) (hl : l.length ≤ 35184372088832) (k : Nat) (hk : l.length < k) : laws_toIntS.f k l = some l := by
  unfold laws_toIntS.f
  rw [if_pos (by omega), if_pos (by omega), Int.toNat_natCast]
  have h := loop_up l.length (fun k (s : List Int × Int) => laws_toIntS.l0 k l s.1 s.2) (fun i => (filled 0 id l i, (i : Int))) l (fun k i hi => by
    simp only [laws_toIntS.l0]
    rw [if_pos (by omega), if_pos (by omega), if_pos (by rw [filled_length _ _ _ _ (by omega)]; omega), wrap_next hi (by omega), rd_nat, Int.toNat_natCast, getD_lt hi, ← filled_set 0 id l i hi]
    rfl) (fun k => by
    simp only [laws_toIntS.l0]
    rw [if_neg (by omega), filled_all, List.map_id]) k hk
  simpa [filled_zero] using h
theorem eqIntS_f (l : List Int) (hl : l.length ≤ 35184372088832) (k : Nat) (hk : l.length < k) : laws_eqIntS.f k l l = some true := by
  unfold laws_eqIntS.f
  rw [if_pos rfl]
  exact loop_up l.length (fun k (s : Int) => laws_eqIntS.l0 k l l s) (fun i => (i : Int)) true (fun k i hi => by
    simp only [laws_eqIntS.l0]
    rw [if_pos (by omega), if_pos (by omega), if_pos (by omega), if_true, wrap_next hi (by omega)]) (fun k => by
    simp only [laws_eqIntS.l0]
    rw [if_neg (by omega)]) k hk
theorem markIntS_f (l : List Int) (hl : l.length ≤ 35184372088832) (m : Nat) (hm : m ≤ 35184372088832) (k : Nat) (hk : l.length < k) :
    laws_markIntS.f k l (m : Int) = some (((m + l.length : Nat) : Int), (List.range l.length).map fun j => ((m + j : Nat) : Int)) := by
  unfold laws_markIntS.f
  have h := loop_up l.length (fun k (s : List Int × Int × Int) => laws_markIntS.l0 k s.1 s.2.1 s.2.2) (fun i => (over (fun j => ((m + j : Nat) : Int)) l i, ((m + i : Nat) : Int), (i : Int)))
    (((m + l.length : Nat) : Int), (List.range l.length).map fun j => ((m + j : Nat) : Int)) (fun k i hi => by
    simp only [laws_markIntS.l0]
    rw [if_pos (by rw [over_length _ _ _ (by omega)]; omega), if_pos (by omega), wrap_next hi (by omega), wrap_next (i := m + i) (n := m + i + 1) (by omega) (by omega), Int.toNat_natCast, over_set _ _ _ hi]
    rfl) (fun k => by
    simp only [laws_markIntS.l0]
    rw [if_neg (by rw [over_length _ _ _ (by omega)]; omega), over_all]) k hk
  simpa [over_zero] using h
theorem markIntS_g (l : List Int) (m : Int) (k : Nat) (h0 : 0 ≤ m) (hm : m ≤ 35184372088832) (hl : l.length ≤ 35184372088832) (hk : l.length < k) :
    laws_markIntS.f k l m = some (m + (l.length : Int), (List.range l.length).map fun j : Nat => m + (j : Int)) := by
  obtain ⟨n, rfl⟩ := Int.eq_ofNat_of_zero_le h0
  have h := markIntS_f l hl n (by omega) k hk
  simpa using h
theorem heldIntS_f (n : Nat) (hn : n ≤ 35184372088832) (m : Nat) (hm : m ≤ 35184372088832) (k : Nat) (hk : n < k) :
    laws_heldIntS.f k ((List.range n).map fun j => ((m + j : Nat) : Int)) (m : Int) = some ((m + n : Nat) : Int) := by
  unfold laws_heldIntS.f
  have h := loop_up n (fun k (s : Int × Int) => laws_heldIntS.l0 k ((List.range n).map fun j => ((m + j : Nat) : Int)) s.1 s.2) (fun i => (((m + i : Nat) : Int), (i : Int))) ((m + n : Nat) : Int) (fun k i hi => by
    simp only [laws_heldIntS.l0]
    rw [if_pos (by simp; omega), if_pos (by omega), rd_nat, range_get _ _ _ hi, if_pos rfl, wrap_next hi (by omega), wrap_next (i := m + i) (n := m + i + 1) (by omega) (by omega)]
    rfl) (fun k => by
    simp only [laws_heldIntS.l0]
    rw [if_neg (by simp)]) k hk
  simpa using h
theorem heldIntS_g (n : Nat) (m : Int) (k : Nat) (h0 : 0 ≤ m) (hm : m ≤ 35184372088832) (hn : n ≤ 35184372088832) (hk : n < k) :
    laws_heldIntS.f k ((List.range n).map fun j : Nat => m + (j : Int)) m = some (m + (n : Int)) := by
  obtain ⟨q, rfl⟩ := Int.eq_ofNat_of_zero_le h0
  have h := heldIntS_f n hn q (by omega) k hk
  simpa using h
theorem toJobS_f (l : List S47) (hl : l.length ≤ 1048576) (k : Nat) (hk : l.length < k) : laws_toJobS.f k l = some (l.map fun x => (⟨x.f0, x.f1, x.f2⟩ : S43)) := by
  unfold laws_toJobS.f
  rw [if_pos (by omega), if_pos (by omega), Int.toNat_natCast]
  have h := loop_up l.length (fun k (s : List S43 × Int) => laws_toJobS.l0 k l s.1 s.2) (fun i => (filled z43 (fun x : S47 => (⟨x.f0, x.f1, x.f2⟩ : S43)) l i, (i : Int))) (l.map fun x => (⟨x.f0, x.f1, x.f2⟩ : S43)) (fun k i hi => by
    simp only [laws_toJobS.l0, laws_toJob.f, Option.bind_some]
    rw [if_pos (by omega), if_pos (by omega), if_pos (by rw [filled_length _ _ _ _ (by omega)]; omega), wrap_next hi (by omega), ← filled_set z43 _ l i hi]
    simp only [rd_T47, Int.toNat_natCast, getD_lt hi]) (fun k => by
    simp only [laws_toJobS.l0]
    rw [if_neg (by omega), filled_all]) k hk
  simpa [filled_zero] using h
theorem markJobS_f (l : List S43) (hl : l.length ≤ 1048576) (m : Nat) (hm : m ≤ 35184372088832) (k : Nat) (hk : l.length < k) :
    ∃ l' : List S43, laws_markJobS.f k l (m : Int) = some (((m + 3 * l.length : Nat) : Int), l') := by
  unfold laws_markJobS.f
  obtain ⟨r, hr, e⟩ := loop_inv l.length (fun k (s : List S43 × Int × Int) => laws_markJobS.l0 k s.1 s.2.1 s.2.2) (fun i s => s.1.length = l.length ∧ s.2.1 = ((m + 3 * i : Nat) : Int) ∧ s.2.2 = (i : Int)) (fun r => r.1 = ((m + 3 * l.length : Nat) : Int)) (fun k i s hi hI => by
    obtain ⟨ls, ms, is⟩ := s
    obtain ⟨h1, h2, h3⟩ := hI
    dsimp only at h1 h2 h3
    subst h2 h3
    simp only [laws_markJobS.l0, Option.bind_some]
    rw [if_pos (by omega), if_pos (by omega), wrap_next hi (by omega), wrap_in (x := ((m + 3 * i : Nat) : Int) + 1) (by omega) (by omega), wrap_in (x := ((m + 3 * i : Nat) : Int) + 1 + 1) (by omega) (by omega), wrap_in (x := ((m + 3 * i : Nat) : Int) + 1 + 1 + 1) (by omega) (by omega)]
    exact ⟨(_, _, _), ⟨by simpa using h1, by dsimp only; omega, rfl⟩, rfl⟩) (fun k s hI => by
    obtain ⟨ls, ms, is⟩ := s
    obtain ⟨h1, h2, h3⟩ := hI
    dsimp only at h1 h2 h3
    subst h2 h3
    simp only [laws_markJobS.l0]
    rw [if_neg (by omega)]
    exact ⟨_, rfl, rfl⟩) k (l, (m : Int), 0) hk ⟨rfl, by dsimp only; omega, rfl⟩
  obtain ⟨r1, r2⟩ := r
  dsimp only at hr
  subst hr
  exact ⟨r2, e⟩
theorem markJobS_g (l : List S43) (m : Int) (k : Nat) (h0 : 0 ≤ m) (hm : m ≤ 35184372088832) (hl : l.length ≤ 1048576) (hk : l.length < k) :
    ∃ l' : List S43, laws_markJobS.f k l m = some (m + 3 * (l.length : Int), l') := by
  obtain ⟨q, rfl⟩ := Int.eq_ofNat_of_zero_le h0
  obtain ⟨l', h⟩ := markJobS_f l hl q (by omega) k hk
  exact ⟨l', by simpa using h⟩
theorem eqJobS_f (l : List S43) (hl : l.length ≤ 1048576) (k : Nat) (hk : l.length < k) : laws_eqJobS.f k l l = some true := by
  unfold laws_eqJobS.f
  rw [if_pos rfl]
  exact loop_up l.length (fun k (s : Int) => laws_eqJobS.l0 k l l s) (fun i => (i : Int)) true (fun k i hi => by
    simp only [laws_eqJobS.l0, laws_eqJob.f, if_true, Option.bind_some]
    rw [if_pos (by omega), if_pos (by omega), if_pos (by omega), wrap_next hi (by omega)]) (fun k => by
    simp only [laws_eqJobS.l0]
    rw [if_neg (by omega)]) k hk
def inB (a b c : Int) : Bool := decide (a ≥ b) && decide (a ≤ c)
theorem in_f (a b c : Int) : spec_l01In.f a b c = some (inB a b c) := by
  unfold spec_l01In.f inB
  by_cases h : a ≥ b
  · rw [if_pos h, decide_eq_true h, Bool.true_and]
  · rw [if_neg h, decide_eq_false h, Bool.false_and]
theorem within_f (a b c : Int) : impl_within.f a b c = some (inB a b c) := in_f a b c
def okJobs (x : S43) : Bool := inB x.f0 0 1000 && (inB x.f1 x.f0 2000 && (inB x.f2 1 100))
theorem specJobs_f (l : List S43) (hl : l.length ≤ 1048576) (k : Nat) (hk : l.length < k) :
    spec_JobsOk.f k l = some (endsAt (fun i => okJobs (l.getD i z43)) (fun _ => false) (decide ((l.length : Int) ≤ 8)) l.length 0) := by
  unfold spec_JobsOk.f
  refine loop_ends l.length (fun k (s : Int) => spec_JobsOk.l0 k l s) (fun i => (i : Int)) _ _ _ (fun k i hi hc => ?_) (fun k i hi hc => ?_) (fun k => ?_) k hk
  · simp only [okJobs, Bool.and_eq_true] at hc
    simp only [spec_JobsOk.l0, rd_T43, Int.toNat_natCast, in_f, hc.1, hc.2.1, hc.2.2, Option.bind_some, ↓reduceIte]
    rw [if_pos (by omega), if_pos (by omega), wrap_next hi (by omega)]
  · simp only [okJobs] at hc
    simp only [spec_JobsOk.l0, rd_T43, Int.toNat_natCast, in_f, Option.bind_some]
    rw [if_pos (by omega), if_pos (by omega)]
    cases h0 : inB (l.getD i z43).f0 0 1000 <;> cases h1 : inB (l.getD i z43).f1 (l.getD i z43).f0 2000 <;> cases h2 : inB (l.getD i z43).f2 1 100 <;> rw [h0, h1, h2] at hc <;> first | (cases hc; done) | simp only [Bool.false_eq_true, ↓reduceIte]
  · simp only [spec_JobsOk.l0]
    rw [if_neg (by omega)]
theorem badJobs_f (a0 a1 a2 : Int) : impl_JobsOk_1.f a0 a1 a2 = some (!(inB a0 0 1000 && (inB a1 a0 2000 && (inB a2 1 100)))) := by
  simp only [impl_JobsOk_1.f, within_f, Option.bind_some]
  cases inB a0 0 1000 <;> cases inB a1 a0 2000 <;> cases inB a2 1 100 <;> rfl
theorem implJobs_f (l : List S43) (hl : l.length ≤ 1048576) (k : Nat) (hk : l.length < k) :
    impl_JobsOk.f k l = some (endsAt (fun i => okJobs (l.getD i z43)) (fun _ => false) (decide ((l.length : Int) ≤ 8)) l.length 0) := by
  have h : impl_Job_42_at_impl_JobsOk_1.f k l = some (endsAt (fun i => okJobs (l.getD i z43)) (fun i => (i : Int)) (-1) l.length 0) := by
    unfold impl_Job_42_at_impl_JobsOk_1.f
    refine loop_ends l.length (fun k (s : Int) => impl_Job_42_at_impl_JobsOk_1.l0 k l (l.length : Int) s) (fun i => (i : Int)) _ _ _ (fun k i hi hc => ?_) (fun k i hi hc => ?_) (fun k => ?_) k hk
    · have hb : impl_JobsOk_1.f (l.getD i z43).f0 (l.getD i z43).f1 (l.getD i z43).f2 = some false := by rw [badJobs_f]; simp only [okJobs] at hc; rw [hc]; rfl
      simp only [impl_Job_42_at_impl_JobsOk_1.l0, rd_T43, Int.toNat_natCast, hb, Option.bind_some, Bool.false_eq_true, ↓reduceIte]
      rw [if_pos (by omega), if_pos (by omega), if_pos (by omega), wrap_next hi (by omega)]
    · have hb : impl_JobsOk_1.f (l.getD i z43).f0 (l.getD i z43).f1 (l.getD i z43).f2 = some true := by rw [badJobs_f]; simp only [okJobs] at hc; rw [hc]; rfl
      simp only [impl_Job_42_at_impl_JobsOk_1.l0, rd_T43, Int.toNat_natCast, hb, Option.bind_some, ↓reduceIte]
      rw [if_pos (by omega), if_pos (by omega), if_pos (by omega)]
    · simp only [impl_Job_42_at_impl_JobsOk_1.l0]
      rw [if_neg (by omega)]
  simp only [impl_JobsOk.f, impl_Job_30_at_impl_JobsOk_1.f, h, Option.bind_some, endsAt_place, Bool.not_not]
  rw [endsAt_last (decide ((l.length : Int) ≤ 8))]
  by_cases h10 : (l.length : Int) ≤ 8
  · rw [if_pos h10, decide_eq_true h10, Bool.and_true]
  · rw [if_neg h10, decide_eq_false h10, Bool.and_false]
end Go.Proofs.Ytniiebpibdkgjaa.PureFnExactFinishTicks
