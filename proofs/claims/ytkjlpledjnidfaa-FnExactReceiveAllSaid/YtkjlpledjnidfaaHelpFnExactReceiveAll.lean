/- What the law FnExactReceiveAll's helper functions (they copy, compare, mark) come to. Conditions: as each lemma says. -/
import Derived.Test.YtkjlpledjnidfaaPFnExactReceiveAllxL
import Derived.Test.YtkjlpledjnidfaaXPure
namespace Go.Proofs.Ytkjlpledjnidfaa.PureFnExactReceiveAll
open Go.RowKit Go.Proofs.Ytkjlpledjnidfaa.PFnExactReceiveAll Go.Proofs.Ytkjlpledjnidfaa.XPure Go.Proofs.YtkjlpledjnidfaaW.PrintWords Go.Proofs.YtkjlpledjnidfaaW.PrintLast Go.Proofs.YtkjlpledjnidfaaW.PrintMore
set_option linter.unusedSimpArgs false
set_option linter.unusedVariables false
theorem toIntS_f (l : List Int) (hl : l.length ≤ 35184372088832) (k : Nat) (hk : l.length < k) : laws_toIntS.f k l = some l := by
  unfold laws_toIntS.f
  rw [if_pos (by omega), if_pos (by omega), Int.toNat_natCast]
  have h := loop_up l.length (fun k (s : List Int × Int) => laws_toIntS.l0 k l s.1 s.2) (fun i => (filled 0 id l i, (i : Int))) l (fun k i hi => by
    simp only [laws_toIntS.l0]
    rw [if_pos (by omega), if_pos (by omega), if_pos (by rw [filled_length _ _ _ _ (by omega)]; omega), wrap_next hi (by omega), rd_nat, Int.toNat_natCast, getD_lt hi, ← filled_set 0 id l i hi]
    rfl) (fun k => by
    simp only [laws_toIntS.l0]
    rw [if_neg (by omega), filled_all, List.map_id]) k hk
  simpa [filled_zero] using h
theorem eqIntS_f (l : List Int) (hl : l.length ≤ 35184372088832) (k : Nat) (hk : l.length < k) : laws_eqIntS.f k l l = some true := by
  unfold laws_eqIntS.f
  rw [if_pos rfl]
  exact loop_up l.length (fun k (s : Int) => laws_eqIntS.l0 k l l s) (fun i => (i : Int)) true (fun k i hi => by
    simp only [laws_eqIntS.l0]
    rw [if_pos (by omega), if_pos (by omega), if_pos (by omega), if_true, wrap_next hi (by omega)]) (fun k => by
    simp only [laws_eqIntS.l0]
    rw [if_neg (by omega)]) k hk
theorem markIntS_f (l : List Int) (hl : l.length ≤ 35184372088832) (m : Nat) (hm : m ≤ 35184372088832) (k : Nat) (hk : l.length < k) :
    laws_markIntS.f k l (m : Int) = some (((m + l.length : Nat) : Int), (List.range l.length).map fun j => ((m + j : Nat) : Int)) := by
  unfold laws_markIntS.f
  have h := loop_up l.length (fun k (s : List Int × Int × Int) => laws_markIntS.l0 k s.1 s.2.1 s.2.2) (fun i => (over (fun j => ((m + j : Nat) : Int)) l i, ((m + i : Nat) : Int), (i : Int)))
    (((m + l.length : Nat) : Int), (List.range l.length).map fun j => ((m + j : Nat) : Int)) (fun k i hi => by
    simp only [laws_markIntS.l0]
    rw [if_pos (by rw [over_length _ _ _ (by omega)]; omega), if_pos (by omega), wrap_next hi (by omega), wrap_next (i := m + i) (n := m + i + 1) (by omega) (by omega), Int.toNat_natCast, over_set _ _ _ hi]
    rfl) (fun k => by
    simp only [laws_markIntS.l0]
    rw [if_neg (by rw [over_length _ _ _ (by omega)]; omega), over_all]) k hk
  simpa [over_zero] using h
theorem markIntS_g (l : List Int) (m : Int) (k : Nat) (h0 : 0 ≤ m) (hm : m ≤ 35184372088832) (hl : l.length ≤ 35184372088832) (hk : l.length < k) :
    laws_markIntS.f k l m = some (m + (l.length : Int), (List.range l.length).map fun j : Nat => m + (j : Int)) := by
  obtain ⟨n, rfl⟩ := Int.eq_ofNat_of_zero_le h0
  have h := markIntS_f l hl n (by omega) k hk
  simpa using h
theorem heldIntS_f (n : Nat) (hn : n ≤ 35184372088832) (m : Nat) (hm : m ≤ 35184372088832) (k : Nat) (hk : n < k) :
    laws_heldIntS.f k ((List.range n).map fun j => ((m + j : Nat) : Int)) (m : Int) = some ((m + n : Nat) : Int) := by
  unfold laws_heldIntS.f
  have h := loop_up n (fun k (s : Int × Int) => laws_heldIntS.l0 k ((List.range n).map fun j => ((m + j : Nat) : Int)) s.1 s.2) (fun i => (((m + i : Nat) : Int), (i : Int))) ((m + n : Nat) : Int) (fun k i hi => by
    simp only [laws_heldIntS.l0]
    rw [if_pos (by simp; omega), if_pos (by omega), rd_nat, range_get _ _ _ hi, if_pos rfl, wrap_next hi (by omega), wrap_next (i := m + i) (n := m + i + 1) (by omega) (by omega)]
    rfl) (fun k => by
    simp only [laws_heldIntS.l0]
    rw [if_neg (by simp)]) k hk
  simpa using h
theorem heldIntS_g (n : Nat) (m : Int) (k : Nat) (h0 : 0 ≤ m) (hm : m ≤ 35184372088832) (hn : n ≤ 35184372088832) (hk : n < k) :
    laws_heldIntS.f k ((List.range n).map fun j : Nat => m + (j : Int)) m = some (m + (n : Int)) := by
  obtain ⟨q, rfl⟩ := Int.eq_ofNat_of_zero_le h0
  have h := heldIntS_f n hn q (by omega) k hk
  simpa using h
theorem toBoolS_f (l : List Bool) (hl : l.length ≤ 35184372088832) (k : Nat) (hk : l.length < k) : laws_toBoolS.f k l = some l := by
  unfold laws_toBoolS.f
  rw [if_pos (by omega), if_pos (by omega), Int.toNat_natCast]
  have h := loop_up l.length (fun k (s : List Bool × Int) => laws_toBoolS.l0 k l s.1 s.2) (fun i => (filled false id l i, (i : Int))) l (fun k i hi => by
    simp only [laws_toBoolS.l0]
    rw [if_pos (by omega), if_pos (by omega), if_pos (by rw [filled_length _ _ _ _ (by omega)]; omega), wrap_next hi (by omega), rdOf_nat, Int.toNat_natCast, getD_lt hi, ← filled_set false id l i hi]
    rfl) (fun k => by
    simp only [laws_toBoolS.l0]
    rw [if_neg (by omega), filled_all, List.map_id]) k hk
  simpa [filled_zero] using h
theorem eqBoolS_f (l : List Bool) (hl : l.length ≤ 35184372088832) (k : Nat) (hk : l.length < k) : laws_eqBoolS.f k l l = some true := by
  unfold laws_eqBoolS.f
  rw [if_pos rfl]
  exact loop_up l.length (fun k (s : Int) => laws_eqBoolS.l0 k l l s) (fun i => (i : Int)) true (fun k i hi => by
    simp only [laws_eqBoolS.l0]
    rw [if_pos (by omega), if_pos (by omega), if_pos (by omega), if_neg (by simp), wrap_next hi (by omega)]) (fun k => by
    simp only [laws_eqBoolS.l0]
    rw [if_neg (by omega)]) k hk
theorem markBoolS_g (l : List Bool) (m : Int) (k : Nat) (h0 : 0 ≤ m) (hm : m ≤ 35184372088832) (hl : l.length ≤ 35184372088832) (hk : l.length < k) :
    ∃ l', laws_markBoolS.f k l m = some (m + (l.length : Int), l') := by
  unfold laws_markBoolS.f
  obtain ⟨r, hr, e⟩ := loop_inv l.length (fun k (s : List Bool × Int × Int) => laws_markBoolS.l0 k s.1 s.2.1 s.2.2) (fun i s => s.1.length = l.length ∧ s.2.1 = m + (i : Int) ∧ s.2.2 = (i : Int)) (fun r => r.1 = m + (l.length : Int)) (fun k i s hi hI => by
    obtain ⟨ls, ms, is⟩ := s
    obtain ⟨h1, h2, h3⟩ := hI
    dsimp only at h1 h2 h3
    subst h2 h3
    simp only [laws_markBoolS.l0]
    rw [if_pos (by omega), if_pos (by omega), wrap_next hi (by omega), wrap_in (x := m + (i : Int) + 1) (by omega) (by omega)]
    exact ⟨(_, _, _), ⟨by simpa using h1, by dsimp only; omega, rfl⟩, rfl⟩) (fun k s hI => by
    obtain ⟨ls, ms, is⟩ := s
    obtain ⟨h1, h2, h3⟩ := hI
    dsimp only at h1 h2 h3
    subst h2 h3
    simp only [laws_markBoolS.l0]
    rw [if_neg (by omega)]
    exact ⟨_, rfl, rfl⟩) k (l, m, 0) hk ⟨rfl, by dsimp only; omega, rfl⟩
  obtain ⟨r1, r2⟩ := r
  dsimp only at hr
  subst hr
  exact ⟨r2, e⟩
theorem toPacketS_f (l : List S145) (hl : l.length ≤ 1048576) (k : Nat) (hk : l.length < k) : laws_toPacketS.f k l = some (l.map fun x => (⟨x.f0, x.f1⟩ : S107)) := by
  unfold laws_toPacketS.f
  rw [if_pos (by omega), if_pos (by omega), Int.toNat_natCast]
  have h := loop_up l.length (fun k (s : List S107 × Int) => laws_toPacketS.l0 k l s.1 s.2) (fun i => (filled z107 (fun x : S145 => (⟨x.f0, x.f1⟩ : S107)) l i, (i : Int))) (l.map fun x => (⟨x.f0, x.f1⟩ : S107)) (fun k i hi => by
    simp only [laws_toPacketS.l0, laws_toPacket.f, Option.bind_some]
    rw [if_pos (by omega), if_pos (by omega), if_pos (by rw [filled_length _ _ _ _ (by omega)]; omega), wrap_next hi (by omega), ← filled_set z107 _ l i hi]
    simp only [rd_T145, Int.toNat_natCast, getD_lt hi]) (fun k => by
    simp only [laws_toPacketS.l0]
    rw [if_neg (by omega), filled_all]) k hk
  simpa [filled_zero] using h
theorem markPacketS_f (l : List S107) (hl : l.length ≤ 1048576) (m : Nat) (hm : m ≤ 35184372088832) (k : Nat) (hk : l.length < k) :
    ∃ l' : List S107, laws_markPacketS.f k l (m : Int) = some (((m + 2 * l.length : Nat) : Int), l') := by
  unfold laws_markPacketS.f
  obtain ⟨r, hr, e⟩ := loop_inv l.length (fun k (s : List S107 × Int × Int) => laws_markPacketS.l0 k s.1 s.2.1 s.2.2) (fun i s => s.1.length = l.length ∧ s.2.1 = ((m + 2 * i : Nat) : Int) ∧ s.2.2 = (i : Int)) (fun r => r.1 = ((m + 2 * l.length : Nat) : Int)) (fun k i s hi hI => by
    obtain ⟨ls, ms, is⟩ := s
    obtain ⟨h1, h2, h3⟩ := hI
    dsimp only at h1 h2 h3
    subst h2 h3
    simp only [laws_markPacketS.l0, Option.bind_some]
    rw [if_pos (by omega), if_pos (by omega), wrap_next hi (by omega), wrap_in (x := ((m + 2 * i : Nat) : Int) + 1) (by omega) (by omega), wrap_in (x := ((m + 2 * i : Nat) : Int) + 1 + 1) (by omega) (by omega)]
    exact ⟨(_, _, _), ⟨by simpa using h1, by dsimp only; omega, rfl⟩, rfl⟩) (fun k s hI => by
    obtain ⟨ls, ms, is⟩ := s
    obtain ⟨h1, h2, h3⟩ := hI
    dsimp only at h1 h2 h3
    subst h2 h3
    simp only [laws_markPacketS.l0]
    rw [if_neg (by omega)]
    exact ⟨_, rfl, rfl⟩) k (l, (m : Int), 0) hk ⟨rfl, by dsimp only; omega, rfl⟩
  obtain ⟨r1, r2⟩ := r
  dsimp only at hr
  subst hr
  exact ⟨r2, e⟩
theorem markPacketS_g (l : List S107) (m : Int) (k : Nat) (h0 : 0 ≤ m) (hm : m ≤ 35184372088832) (hl : l.length ≤ 1048576) (hk : l.length < k) :
    ∃ l' : List S107, laws_markPacketS.f k l m = some (m + 2 * (l.length : Int), l') := by
  obtain ⟨q, rfl⟩ := Int.eq_ofNat_of_zero_le h0
  obtain ⟨l', h⟩ := markPacketS_f l hl q (by omega) k hk
  exact ⟨l', by simpa using h⟩
theorem eqPacketS_f (l : List S107) (hl : l.length ≤ 1048576) (k : Nat) (hk : l.length < k) : laws_eqPacketS.f k l l = some true := by
  unfold laws_eqPacketS.f
  rw [if_pos rfl]
  exact loop_up l.length (fun k (s : Int) => laws_eqPacketS.l0 k l l s) (fun i => (i : Int)) true (fun k i hi => by
    simp only [laws_eqPacketS.l0, laws_eqPacket.f, if_true, Option.bind_some]
    rw [if_pos (by omega), if_pos (by omega), if_pos (by omega), wrap_next hi (by omega)]) (fun k => by
    simp only [laws_eqPacketS.l0]
    rw [if_neg (by omega)]) k hk
theorem clone_f (l : List Int) (hl : l.length < 17592186044416) : slices_Clone_int_int.f l = some l := by
  simp only [slices_Clone_int_int.f, Option.bind_some, List.nil_append, List.length_nil]
  rw [if_pos (by omega)]
end Go.Proofs.Ytkjlpledjnidfaa.PureFnExactReceiveAll
