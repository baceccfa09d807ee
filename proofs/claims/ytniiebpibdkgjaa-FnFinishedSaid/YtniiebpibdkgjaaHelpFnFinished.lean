/- What the law FnFinished's helper functions (they copy, compare, mark) come to. Conditions: as each lemma says. -/
import Derived.Test.YtniiebpibdkgjaaPFnFinishedxL
import Derived.Test.YtniiebpibdkgjaaXPure
namespace Go.Proofs.Ytniiebpibdkgjaa.PureFnFinished
open Go.RowKit Go.Proofs.Ytniiebpibdkgjaa.PFnFinished Go.Proofs.Ytniiebpibdkgjaa.XPure Go.Proofs.YtniiebpibdkgjaaW.PrintWords Go.Proofs.YtniiebpibdkgjaaW.PrintLast Go.Proofs.YtniiebpibdkgjaaW.PrintMore
set_option linter.unusedSimpArgs false
set_option linter.unusedVariables false
def inB (a b c : Int) : Bool := decide (a ≥ b) && decide (a ≤ c)
theorem within_f (a b c : Int) : impl_within.f a b c = some (inB a b c) := by
  unfold impl_within.f inB
  by_cases h : a ≥ b
  · rw [if_pos h, decide_eq_true h, Bool.true_and]
  · rw [if_neg h, decide_eq_false h, Bool.false_and]
def okJobs (x : S43) : Bool := inB x.f0 0 1000 && (inB x.f1 x.f0 2000 && (inB x.f2 1 100))
theorem badJobs_f (a0 a1 a2 : Int) : impl_JobsOk_1.f a0 a1 a2 = some (!(inB a0 0 1000 && (inB a1 a0 2000 && (inB a2 1 100)))) := by
  simp only [impl_JobsOk_1.f, within_f, Option.bind_some]
  cases inB a0 0 1000 <;> cases inB a1 a0 2000 <;> cases inB a2 1 100 <;> rfl
theorem implJobs_f (l : List S43) (hl : l.length ≤ 1048576) (k : Nat) (hk : l.length < k) :
    impl_JobsOk.f k l = some (endsAt (fun i => okJobs (l.getD i z43)) (fun _ => false) (decide ((l.length : Int) ≤ 8)) l.length 0) := by
  have h : impl_Job_42_at_impl_JobsOk_1.f k l = some (endsAt (fun i => okJobs (l.getD i z43)) (fun i => (i : Int)) (-1) l.length 0) := by
    unfold impl_Job_42_at_impl_JobsOk_1.f
    refine loop_ends l.length (fun k (s : Int) => impl_Job_42_at_impl_JobsOk_1.l0 k l (l.length : Int) s) (fun i => (i : Int)) _ _ _ (fun k i hi hc => ?_) (fun k i hi hc => ?_) (fun k => ?_) k hk
    · have hb : impl_JobsOk_1.f (l.getD i z43).f0 (l.getD i z43).f1 (l.getD i z43).f2 = some false := by rw [badJobs_f]; simp only [okJobs] at hc; rw [hc]; rfl
      simp only [impl_Job_42_at_impl_JobsOk_1.l0, rd_T43, Int.toNat_natCast, hb, Option.bind_some, Bool.false_eq_true, ↓reduceIte]
      rw [if_pos (by omega), if_pos (by omega), if_pos (by omega), wrap_next hi (by omega)]
    · have hb : impl_JobsOk_1.f (l.getD i z43).f0 (l.getD i z43).f1 (l.getD i z43).f2 = some true := by rw [badJobs_f]; simp only [okJobs] at hc; rw [hc]; rfl
      simp only [impl_Job_42_at_impl_JobsOk_1.l0, rd_T43, Int.toNat_natCast, hb, Option.bind_some, ↓reduceIte]
      rw [if_pos (by omega), if_pos (by omega), if_pos (by omega)]
    · simp only [impl_Job_42_at_impl_JobsOk_1.l0]
      rw [if_neg (by omega)]
  simp only [impl_JobsOk.f, impl_Job_30_at_impl_JobsOk_1.f, h, Option.bind_some, endsAt_place, Bool.not_not]
  rw [endsAt_last (decide ((l.length : Int) ≤ 8))]
  by_cases h10 : (l.length : Int) ≤ 8
  · rw [if_pos h10, decide_eq_true h10, Bool.and_true]
  · rw [if_neg h10, decide_eq_false h10, Bool.and_false]
/-- The low byte of a number. -/
theorem byte_in (x : Int) : 0 ≤ Go.bits .and .i64 x 255 ∧ Go.bits .and .i64 x 255 ≤ 255 := by
  have h : Go.bits .and .i64 x 255 = (((BitVec.ofInt 64 x).toNat &&& 255 : Nat) : Int) := by
    show IntKind.i64.wrap ((BitVec.ofInt 64 x &&& BitVec.ofInt 64 255).toNat : Int) = _
    rw [BitVec.toNat_and, show (BitVec.ofInt 64 255).toNat = 255 from by decide]
    have h4 : (BitVec.ofInt 64 x).toNat &&& 255 ≤ 255 := Nat.and_le_right
    generalize (BitVec.ofInt 64 x).toNat &&& 255 = m at h4 ⊢
    rw [IntKind.wrap_i64]
    omega
  have h4 : (BitVec.ofInt 64 x).toNat &&& 255 ≤ 255 := Nat.and_le_right
  rw [h]
  omega
theorem drawByte_f (d : List Int) (hd : d.length ≤ 1048576) (p s : Int) (h0 : 0 ≤ p) : ∃ v p' s', spec_l01Byte.f d p s = some (v, p', s') ∧ 0 ≤ v ∧ v ≤ 255 ∧ 0 ≤ p' := by
  unfold spec_l01Byte.f
  by_cases h : p < (d.length : Int)
  · rw [if_pos h, if_pos h0, wrap_in (x := p + 1) (by omega) (by omega)]
    exact ⟨_, _, _, rfl, (byte_in _).1, (byte_in _).2, by omega⟩
  · rw [if_neg h]
    exact ⟨_, _, _, rfl, (byte_in _).1, (byte_in _).2, h0⟩
theorem drawBelow_f (d : List Int) (hd : d.length ≤ 1048576) (p s : Int) (h0 : 0 ≤ p) (n : Int) (hn : 0 < n) : ∃ v p' s', spec_l01Below.f d p s n = some (v, p', s') ∧ 0 ≤ v ∧ v < n ∧ 0 ≤ p' := by
  obtain ⟨v1, p1, s1, e1, a1, b1, c1⟩ := drawByte_f d hd p s h0
  obtain ⟨v2, p2, s2, e2, a2, b2, c2⟩ := drawByte_f d hd p1 s1 c1
  obtain ⟨v3, p3, s3, e3, a3, b3, c3⟩ := drawByte_f d hd p2 s2 c2
  obtain ⟨v4, p4, s4, e4, a4, b4, c4⟩ := drawByte_f d hd p3 s3 c3
  simp only [spec_l01Below.f, e1, e2, e3, e4, Option.bind_some]
  rw [if_neg (by omega)]
  by_cases h : n ≤ 256
  · rw [if_pos h, if_neg (by omega)]
    exact ⟨_, _, _, rfl, Int.tmod_nonneg _ a1, Int.tmod_lt_of_pos _ hn, c1⟩
  · rw [if_neg h, if_neg (by omega), wrap_in (x := v1 * 16777216) (by omega) (by omega), wrap_in (x := v2 * 65536) (by omega) (by omega), wrap_in (x := v3 * 256) (by omega) (by omega), wrap_in (x := v1 * 16777216 + v2 * 65536) (by omega) (by omega), wrap_in (x := v1 * 16777216 + v2 * 65536 + v3 * 256) (by omega) (by omega), wrap_in (by omega) (by omega)]
    exact ⟨_, _, _, rfl, Int.tmod_nonneg _ (by omega), Int.tmod_lt_of_pos _ hn, c4⟩
theorem drawNew_f (c : List Int) (hc : c.length ≤ 1048576) (k : Nat) (hk : c.length < k) : ∃ s, spec_l01New.f k c = some (c, 0, s) := by
  have key : ∀ d i k s, c.length - i = d → i ≤ c.length → d < k → ∃ s', spec_l01New.l0 k c s (i : Int) = some (c, 0, s') := by
    intro d
    induction d with
    | zero =>
      intro i k s h1 h2 h3
      obtain ⟨q, rfl⟩ : ∃ q, k = q + 1 := ⟨k - 1, by omega⟩
      simp only [spec_l01New.l0]
      rw [if_neg (by omega)]
      exact ⟨_, rfl⟩
    | succ d ih =>
      intro i k s h1 h2 h3
      obtain ⟨q, rfl⟩ : ∃ q, k = q + 1 := ⟨k - 1, by omega⟩
      simp only [spec_l01New.l0]
      rw [if_pos (by omega)]
      by_cases h : (i : Int) < 4000
      · rw [if_pos h, if_pos (by omega), wrap_next (n := c.length) (by omega) (by omega)]
        exact ih (i + 1) q _ (by omega) (by omega) (by omega)
      · rw [if_neg h]
        exact ⟨_, rfl⟩
  exact key c.length 0 k _ (by omega) (by omega) hk
end Go.Proofs.Ytniiebpibdkgjaa.PureFnFinished
