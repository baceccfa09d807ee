/- What the law FnExactMissed's helper functions (they copy, compare, mark) come to. Conditions: as each lemma says. -/
import Derived.Test.YtniiebpibdkgjaaPFnExactMissedxL
import Derived.Test.YtniiebpibdkgjaaXPure
namespace Go.Proofs.Ytniiebpibdkgjaa.PureFnExactMissed
open Go.RowKit Go.Proofs.Ytniiebpibdkgjaa.PFnExactMissed Go.Proofs.Ytniiebpibdkgjaa.XPure Go.Proofs.YtniiebpibdkgjaaW.PrintWords Go.Proofs.YtniiebpibdkgjaaW.PrintLast Go.Proofs.YtniiebpibdkgjaaW.PrintMore
set_option linter.unusedSimpArgs false
theorem toIntS_f (l : List Int) (hl : l.length ≤ 35184372088832) (k : Nat) (hk : l.length < k) : laws_toIntS.f k l = some l := by
  unfold laws_toIntS.f
  rw [if_pos (by omega), if_pos (by omega), Int.toNat_natCast]
  have h := loop_up l.length (fun k (s : List Int × Int) => laws_toIntS.l0 k l s.1 s.2) (fun i => (filled 0 id l i, (i : Int))) l (fun k i hi => by
    simp only [laws_toIntS.l0]
    rw [if_pos (by omega), if_pos (by omega), if_pos (by rw [filled_length _ _ _ _ (by omega)]; omega), wrap_next hi (by omega), rd_nat, Int.toNat_natCast, getD_lt hi, ← filled_set 0 id l i hi]
    rfl) (fun k => by
    simp only [laws_toIntS.l0]
    rw [if_neg (by omega), filled_all, List.map_id]) k hk
  simpa [filled_zero] using h
theorem eqIntS_f (l : List Int) (hl : l.length ≤ 35184372088832) (k : Nat) (hk : l.length < k) : laws_eqIntS.f k l l = some true := by
  unfold laws_eqIntS.f
  rw [if_pos rfl]
  exact loop_up l.length (fun k (s : Int) => laws_eqIntS.l0 k l l s) (fun i => (i : Int)) true (fun k i hi => by
    simp only [laws_eqIntS.l0]
    rw [if_pos (by omega), if_pos (by omega), if_pos (by omega), if_true, wrap_next hi (by omega)]) (fun k => by
    simp only [laws_eqIntS.l0]
    rw [if_neg (by omega)]) k hk
theorem markIntS_f (l : List Int) (hl : l.length ≤ 35184372088832) (m : Nat) (hm : m ≤ 35184372088832) (k : Nat) (hk : l.length < k) :
    laws_markIntS.f k l (m : Int) = some (((m + l.length : Nat) : Int), (List.range l.length).map fun j => ((m + j : Nat) : Int)) := by
  unfold laws_markIntS.f
  have h := loop_up l.length (fun k (s : List Int × Int × Int) => laws_markIntS.l0 k s.1 s.2.1 s.2.2) (fun i => (over (fun j => ((m + j : Nat) : Int)) l i, ((m + i : Nat) : Int), (i : Int)))
    (((m + l.length : Nat) : Int), (List.range l.length).map fun j => ((m + j : Nat) : Int)) (fun k i hi => by
    simp only [laws_markIntS.l0]
    rw [if_pos (by rw [over_length _ _ _ (by omega)]; omega), if_pos (by omega), wrap_next hi (by omega), wrap_next (i := m + i) (n := m + i + 1) (by omega) (by omega), Int.toNat_natCast, over_set _ _ _ hi]
    rfl) (fun k => by
    simp only [laws_markIntS.l0]
    rw [if_neg (by rw [over_length _ _ _ (by omega)]; omega), over_all]) k hk
  simpa [over_zero] using h
theorem heldIntS_f (n : Nat) (hn : n ≤ 35184372088832) (m : Nat) (hm : m ≤ 35184372088832) (k : Nat) (hk : n < k) :
    laws_heldIntS.f k ((List.range n).map fun j => ((m + j : Nat) : Int)) (m : Int) = some ((m + n : Nat) : Int) := by
  unfold laws_heldIntS.f
  have h := loop_up n (fun k (s : Int × Int) => laws_heldIntS.l0 k ((List.range n).map fun j => ((m + j : Nat) : Int)) s.1 s.2) (fun i => (((m + i : Nat) : Int), (i : Int))) ((m + n : Nat) : Int) (fun k i hi => by
    simp only [laws_heldIntS.l0]
    rw [if_pos (by simp; omega), if_pos (by omega), rd_nat, range_get _ _ _ hi, if_pos rfl, wrap_next hi (by omega), wrap_next (i := m + i) (n := m + i + 1) (by omega) (by omega)]
    rfl) (fun k => by
    simp only [laws_heldIntS.l0]
    rw [if_neg (by simp)]) k hk
  simpa using h
theorem toJobS_f (l : List S47) (hl : l.length ≤ 1048576) (k : Nat) (hk : l.length < k) : laws_toJobS.f k l = some (l.map fun x => (⟨x.f0, x.f1, x.f2⟩ : S43)) := by
  unfold laws_toJobS.f
  rw [if_pos (by omega), if_pos (by omega), Int.toNat_natCast]
  have h := loop_up l.length (fun k (s : List S43 × Int) => laws_toJobS.l0 k l s.1 s.2) (fun i => (filled z43 (fun x : S47 => (⟨x.f0, x.f1, x.f2⟩ : S43)) l i, (i : Int))) (l.map fun x => (⟨x.f0, x.f1, x.f2⟩ : S43)) (fun k i hi => by
    simp only [laws_toJobS.l0, laws_toJob.f, Option.bind_some]
    rw [if_pos (by omega), if_pos (by omega), if_pos (by rw [filled_length _ _ _ _ (by omega)]; omega), wrap_next hi (by omega), ← filled_set z43 _ l i hi]
    simp only [rd_T47, Int.toNat_natCast, getD_lt hi]) (fun k => by
    simp only [laws_toJobS.l0]
    rw [if_neg (by omega), filled_all]) k hk
  simpa [filled_zero] using h
theorem markJobS_f (l : List S43) (hl : l.length ≤ 1048576) (m : Nat) (hm : m ≤ 35184372088832) (k : Nat) (hk : l.length < k) :
    ∃ l' : List S43, laws_markJobS.f k l (m : Int) = some (((m + 3 * l.length : Nat) : Int), l') := by
  unfold laws_markJobS.f
  obtain ⟨r, hr, e⟩ := loop_inv l.length (fun k (s : List S43 × Int × Int) => laws_markJobS.l0 k s.1 s.2.1 s.2.2) (fun i s => s.1.length = l.length ∧ s.2.1 = ((m + 3 * i : Nat) : Int) ∧ s.2.2 = (i : Int)) (fun r => r.1 = ((m + 3 * l.length : Nat) : Int)) (fun k i s hi hI => by
    obtain ⟨ls, ms, is⟩ := s
    obtain ⟨h1, h2, h3⟩ := hI
    dsimp only at h1 h2 h3
    subst h2 h3
    simp only [laws_markJobS.l0, Option.bind_some]
    rw [if_pos (by omega), if_pos (by omega), wrap_next hi (by omega), wrap_in (x := ((m + 3 * i : Nat) : Int) + 1) (by omega) (by omega), wrap_in (x := ((m + 3 * i : Nat) : Int) + 1 + 1) (by omega) (by omega), wrap_in (x := ((m + 3 * i : Nat) : Int) + 1 + 1 + 1) (by omega) (by omega)]
    exact ⟨(_, _, _), ⟨by simpa using h1, by dsimp only; omega, rfl⟩, rfl⟩) (fun k s hI => by
    obtain ⟨ls, ms, is⟩ := s
    obtain ⟨h1, h2, h3⟩ := hI
    dsimp only at h1 h2 h3
    subst h2 h3
    simp only [laws_markJobS.l0]
    rw [if_neg (by omega)]
    exact ⟨_, rfl, rfl⟩) k (l, (m : Int), 0) hk ⟨rfl, by dsimp only; omega, rfl⟩
  obtain ⟨r1, r2⟩ := r
  dsimp only at hr
  subst hr
  exact ⟨r2, e⟩
theorem eqJobS_f (l : List S43) (hl : l.length ≤ 1048576) (k : Nat) (hk : l.length < k) : laws_eqJobS.f k l l = some true := by
  unfold laws_eqJobS.f
  rw [if_pos rfl]
  exact loop_up l.length (fun k (s : Int) => laws_eqJobS.l0 k l l s) (fun i => (i : Int)) true (fun k i hi => by
    simp only [laws_eqJobS.l0, laws_eqJob.f, if_true, Option.bind_some]
    rw [if_pos (by omega), if_pos (by omega), if_pos (by omega), wrap_next hi (by omega)]) (fun k => by
    simp only [laws_eqJobS.l0]
    rw [if_neg (by omega)]) k hk
end Go.Proofs.Ytniiebpibdkgjaa.PureFnExactMissed
