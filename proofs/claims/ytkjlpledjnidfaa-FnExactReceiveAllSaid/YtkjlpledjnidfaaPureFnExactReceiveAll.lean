/- The law FnExactReceiveAll in plain lists: the program's gateway takes the same packets as the reference's, again at a second call, and shares no memory with the arguments. Conditions: none beside those of the row. -/
import Derived.Test.YtkjlpledjnidfaaHelpFnExactReceiveAll
namespace Go.Proofs.Ytkjlpledjnidfaa.Pure
open Go.RowKit Go.Proofs.Ytkjlpledjnidfaa.PFnExactReceiveAll Go.Proofs.Ytkjlpledjnidfaa.XPure Go.Proofs.Ytkjlpledjnidfaa.PureFnExactReceiveAll Go.Proofs.YtkjlpledjnidfaaW.PrintWords
set_option linter.unusedSimpArgs false

/-- What has arrived, behind one packet. -/
def takeP (got : List Int) (p : S107) : List Int := if p.f0 = (got.length : Int) ∧ got.length < 255 then got ++ [p.f1] else got
theorem takeP_length (got : List Int) (p : S107) : (takeP got p).length ≤ got.length + 1 := by
  unfold takeP
  split
  · simp
  · omega
/-- .. behind the first i packets, of those that are kept. -/
def recv (got : List Int) (ps : List S107) (kept : List Bool) : Nat → List Int
  | 0 => got
  | i + 1 => if kept.getD i false = true then takeP (recv got ps kept i) (ps.getD i z107) else recv got ps kept i
theorem recv_length (got : List Int) (ps : List S107) (kept : List Bool) (i : Nat) : (recv got ps kept i).length ≤ got.length + i := by
  induction i with
  | zero => exact Nat.le_refl _
  | succ i ih =>
    unfold recv
    split
    · have := takeP_length (recv got ps kept i) (ps.getD i z107)
      omega
    · omega
theorem getD_out {kept : List Bool} {i : Nat} (h : ¬ i < kept.length) : kept.getD i false = false := by
  rw [List.getD_eq_getElem?_getD, List.getElem?_eq_none (by omega)]
  rfl
theorem recv_past (got : List Int) (ps : List S107) (kept : List Bool) (d : Nat) : recv got ps kept (kept.length + d) = recv got ps kept kept.length := by
  induction d with
  | zero => rfl
  | succ d ih =>
    show (if kept.getD (kept.length + d) false = true then takeP (recv got ps kept (kept.length + d)) (ps.getD (kept.length + d) z107) else recv got ps kept (kept.length + d)) = _
    rw [if_neg (by rw [getD_out (by omega)]; decide), ih]
theorem take_f (g : List Int) (p : S107) (hg : g.length ≤ 8388608) : spec_l31Take.f g p.f0 p.f1 = some (takeP g p) := by
  unfold spec_l31Take.f takeP
  by_cases h1 : p.f0 = (g.length : Int)
  · rw [if_pos h1]
    by_cases h2 : g.length < 255
    · rw [if_pos (by omega), if_pos (by omega), if_pos ⟨h1, h2⟩]
    · rw [if_neg (by omega), if_neg (fun h => h2 h.2)]
  · rw [if_neg h1, if_neg (fun h => h1 h.1)]
theorem receive_f (g : List Int) (p : S107) (hg : g.length ≤ 8388608) : impl_Receive.f g p.f0 p.f1 = some (takeP g p, ((takeP g p).length : Int)) := by
  unfold impl_Receive.f takeP
  rw [clone_f g (by omega)]
  simp only [Option.bind_some]
  by_cases h1 : p.f0 = (g.length : Int)
  · rw [if_pos h1]
    by_cases h2 : g.length < 255
    · rw [if_pos (by omega), if_pos (by omega), if_pos ⟨h1, h2⟩]
    · rw [if_neg (by omega), if_neg (fun h => h2 h.2)]
  · rw [if_neg h1, if_neg (fun h => h1 h.1)]
theorem impl_f (g : List Int) (ps : List S107) (kept : List Bool) (hg : g.length ≤ 1048576) (hp : ps.length ≤ 1048576) (k : Nat) (hk : ps.length < k) :
    impl_ReceiveAll.f k g ps kept = some (recv g ps kept ps.length, ((recv g ps kept ps.length).length : Int)) := by
  unfold impl_ReceiveAll.f
  rw [clone_f g (by omega), Option.bind_some]
  exact loop_up ps.length (fun k (s : Int × List Int) => impl_ReceiveAll.l0 k kept ps (ps.length : Int) s.1 s.2) (fun i => ((i : Int), recv g ps kept i)) (recv g ps kept ps.length, ((recv g ps kept ps.length).length : Int)) (fun k i hi => by
    have hr := recv_length g ps kept i
    simp only [impl_ReceiveAll.l0]
    rw [if_pos (by omega), if_pos (by omega), if_pos (by omega), rdOf_nat, wrap_next hi (by omega)]
    have e : rd_T107 ps (i : Int) = ps.getD i z107 := rfl
    rw [e, receive_f _ _ (by omega)]
    simp only [Option.bind_some]
    conv => rhs; unfold recv
    by_cases hb : i < kept.length
    · rw [if_pos (by omega)]
      split <;> rfl
    · rw [if_neg (by omega), if_neg (by rw [getD_out hb]; decide)]) (fun k => by
    simp only [impl_ReceiveAll.l0]
    rw [if_neg (by omega)]) k hk
theorem spec_f (g : List Int) (ps : List S107) (kept : List Bool) (hg : g.length ≤ 1048576) (hp : ps.length ≤ 1048576) (k : Nat) (hk : ps.length < k) :
    spec_ReceiveAll.f (2 * k) g ps kept = some (recv g ps kept ps.length, ((recv g ps kept ps.length).length : Int)) := by
  unfold spec_ReceiveAll.f
  simp only [Option.bind_some, List.nil_append, List.length_nil]
  rw [if_pos (by omega)]
  have hend : recv g ps kept (min ps.length kept.length) = recv g ps kept ps.length := by
    by_cases h : ps.length ≤ kept.length
    · rw [Nat.min_eq_left h]
    · rw [Nat.min_eq_right (by omega)]
      have := recv_past g ps kept (ps.length - kept.length)
      rw [show kept.length + (ps.length - kept.length) = ps.length from by omega] at this
      exact this.symm
  rw [← hend]
  exact loop_up (min ps.length kept.length) (fun k (s : List Int × Int) => spec_ReceiveAll.l0 (2 * k) ps kept s.1 s.2) (fun i => (recv g ps kept i, (i : Int))) (recv g ps kept (min ps.length kept.length), ((recv g ps kept (min ps.length kept.length)).length : Int)) (fun k i hi => by
    have hr := recv_length g ps kept i
    dsimp only
    rw [show 2 * (k + 1) = 2 * k + 1 + 1 from by omega]
    simp only [spec_ReceiveAll.l0, spec_ReceiveAll.j1]
    rw [if_pos (by omega), decide_eq_true (by omega), if_pos rfl, if_pos (by omega), if_pos (by omega), rdOf_nat, wrap_next (n := ps.length) (by omega) (by omega), if_pos (c := (i : Int) < (ps.length : Int)) (by omega)]
    have e : rd_T107 ps (i : Int) = ps.getD i z107 := rfl
    rw [e, take_f _ _ (by omega)]
    simp only [Option.bind_some]
    conv => rhs; unfold recv
    split <;> rfl) (fun k => by
    dsimp only
    rw [show 2 * (k + 1) = 2 * k + 1 + 1 from by omega]
    simp only [spec_ReceiveAll.l0, spec_ReceiveAll.j1]
    by_cases h : ((min ps.length kept.length : Nat) : Int) < (ps.length : Int)
    · rw [if_pos h, decide_eq_false (by omega), if_neg (by decide)]
    · rw [if_neg h, if_neg (by decide)]) k (by omega)
theorem FnExactReceiveAll : laws_FnExactReceiveAll.Pure := by
  intro g l kept hG hL hK
  have hg : g.length ≤ 9223372036854775807 := hG.1
  have hl : l.length ≤ 9223372036854775807 := hL.1
  by_cases hkl : (kept.length : Int) > 1048576
  · refine ⟨0, ?_⟩
    unfold laws_FnExactReceiveAll.f
    rw [if_pos hkl]
  have hw : wrap64 (1048576 - (g.length : Int)) = 1048576 - (g.length : Int) := wrap_in (by omega) (by omega)
  by_cases h : (1048576 - (g.length : Int)) < 0
  · refine ⟨0, ?_⟩
    simp only [laws_FnExactReceiveAll.f, laws_szGateway.f, laws_szIntS.f, hkl, hw, h, Option.bind_some, ↓reduceIte, Int.reduceNeg, Int.reduceLT]
  have hw2 : wrap64 (1048576 - (g.length : Int) - (l.length : Int)) = 1048576 - (g.length : Int) - (l.length : Int) := wrap_in (by omega) (by omega)
  by_cases h2 : (1048576 - (g.length : Int) - (l.length : Int)) < 0
  · refine ⟨0, ?_⟩
    simp only [laws_FnExactReceiveAll.f, laws_szGateway.f, laws_szIntS.f, laws_szPacketS.f, hkl, hw, h, hw2, h2, Option.bind_some, ↓reduceIte, Int.reduceNeg, Int.reduceLT]
  obtain ⟨q, hq1, hq2, hq3⟩ : ∃ q, l.length < q ∧ g.length < q ∧ kept.length < q := ⟨l.length + g.length + kept.length + 1, by omega, by omega, by omega⟩
  obtain ⟨K, hK2⟩ : ∃ K, 4 * q = K + 3 := ⟨4 * q - 3, by omega⟩
  refine ⟨2 * (2 * q), ?_⟩
  have e1 := toPacketS_f l (by omega)
  generalize hl2 : (l.map fun x => (⟨x.f0, x.f1⟩ : S107)) = ps at e1
  have hlen : ps.length = l.length := by rw [← hl2]; simp
  have e5 := spec_f g ps kept (by omega) (by omega) (2 * q) (by omega)
  rw [show 2 * (2 * q) = K + 1 + 1 + 1 from by omega] at e5 ⊢
  have e6 := impl_f g ps kept (by omega) (by omega)
  have hr := recv_length g ps kept ps.length
  generalize recv g ps kept ps.length = r at e5 e6 hr
  have e2 := eqPacketS_f ps (by omega)
  have e3 := toIntS_f g (by omega)
  have e4 := eqIntS_f g (by omega)
  have e7 := eqIntS_f r (by omega)
  have b1 := toBoolS_f kept (by omega)
  have b2 := eqBoolS_f kept (by omega)
  have m1 := markIntS_g g 1
  have m2 := markIntS_g r 1
  have m3 := heldIntS_g r.length 1
  obtain ⟨l3, m4⟩ := markPacketS_g ps (1 + (g.length : Int)) (K + 1 + 1) (by omega) (by omega) (by omega) (by omega)
  obtain ⟨l4, m5⟩ := markBoolS_g kept (1 + (g.length : Int) + 2 * (ps.length : Int)) (K + 1 + 1) (by omega) (by omega) (by omega) (by omega)
  have n1 : ¬ (1 + (g.length : Int) + 2 * (ps.length : Int) + (kept.length : Int)) < 0 := by omega
  have n2 : ¬ (1 + (r.length : Int)) < 0 := by omega
  simp (disch := omega) only [laws_FnExactReceiveAll.f, laws_szGateway.f, laws_szIntS.f, laws_szPacketS.f, laws_toGateway.f, laws_eqGateway.f, hkl, hw, h, hw2, h2, e1, e3, e5, e6, e7, b1, Option.bind_some, ↓reduceIte, bne_self_eq_false]
  simp (disch := omega) only [laws_FnExactReceiveAll.j0, laws_toGateway.f, laws_eqGateway.f, laws_markGateway.f, e1, e2, e3, e4, e7, b1, b2, m1, m4, m5, n1, Option.bind_some, ↓reduceIte, bne_self_eq_false, Bool.false_eq_true]
  simp (disch := omega) only [laws_FnExactReceiveAll.j1, laws_toGateway.f, laws_eqGateway.f, laws_markGateway.f, laws_heldGateway.f, e1, e3, e6, e7, b1, m2, m3, n2, Option.bind_some, ↓reduceIte, bne_self_eq_false, Bool.false_eq_true]
  simp (disch := omega) only [laws_FnExactReceiveAll.j2, laws_heldGateway.f, m3, n2, Option.bind_some, ↓reduceIte, Bool.false_eq_true]

end Go.Proofs.Ytkjlpledjnidfaa.Pure
