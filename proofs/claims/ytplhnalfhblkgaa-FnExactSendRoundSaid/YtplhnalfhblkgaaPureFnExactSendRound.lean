/- The law FnExactSendRound in plain lists: a round of the program ends as the reference's, again at a second call, and the arguments are left as they were. Conditions: none beside those of the row. -/
import Derived.Test.YtplhnalfhblkgaaHelpFnExactSendRound
namespace Go.Proofs.Ytplhnalfhblkgaa.Pure
open Go.RowKit Go.Proofs.Ytplhnalfhblkgaa.PFnExactSendRound Go.Proofs.Ytplhnalfhblkgaa.XPure Go.Proofs.Ytplhnalfhblkgaa.PureFnExactSendRound Go.Proofs.YtplhnalfhblkgaaW.PrintWords Go.Proofs.YtplhnalfhblkgaaW.PrintLast Go.Proofs.YtplhnalfhblkgaaW.PrintMore
set_option linter.unusedSimpArgs false
set_option linter.unusedVariables false

/-- What has arrived, behind one packet. -/
def takeP (got : List Int) (p : S126) : List Int := if p.f0 = (got.length : Int) ∧ got.length < 255 then got ++ [p.f1] else got
theorem takeP_length (got : List Int) (p : S126) : (takeP got p).length ≤ got.length + 1 := by
  unfold takeP
  split
  · simp
  · omega
/-- .. behind the first i packets, of those that are kept. -/
def recv (got : List Int) (ps : List S126) (kept : List Bool) : Nat → List Int
  | 0 => got
  | i + 1 => if kept.getD i false = true then takeP (recv got ps kept i) (ps.getD i z126) else recv got ps kept i
theorem recv_length (got : List Int) (ps : List S126) (kept : List Bool) (i : Nat) : (recv got ps kept i).length ≤ got.length + i := by
  induction i with
  | zero => exact Nat.le_refl _
  | succ i ih =>
    unfold recv
    split
    · have := takeP_length (recv got ps kept i) (ps.getD i z126)
      omega
    · omega
theorem getD_out {kept : List Bool} {i : Nat} (h : ¬ i < kept.length) : kept.getD i false = false := by
  rw [List.getD_eq_getElem?_getD, List.getElem?_eq_none (by omega)]
  rfl
theorem recv_past (got : List Int) (ps : List S126) (kept : List Bool) (d : Nat) : recv got ps kept (kept.length + d) = recv got ps kept kept.length := by
  induction d with
  | zero => rfl
  | succ d ih =>
    show (if kept.getD (kept.length + d) false = true then takeP (recv got ps kept (kept.length + d)) (ps.getD (kept.length + d) z126) else recv got ps kept (kept.length + d)) = _
    rw [if_neg (by rw [getD_out (by omega)]; decide), ih]
theorem take_f (g : List Int) (p : S126) (hg : g.length ≤ 8388608) : spec_l31Take.f g p.f0 p.f1 = some (takeP g p) := by
  unfold spec_l31Take.f takeP
  by_cases h1 : p.f0 = (g.length : Int)
  · rw [if_pos h1]
    by_cases h2 : g.length < 255
    · rw [if_pos (by omega), if_pos (by omega), if_pos ⟨h1, h2⟩]
    · rw [if_neg (by omega), if_neg (fun h => h2 h.2)]
  · rw [if_neg h1, if_neg (fun h => h1 h.1)]
theorem receive_f (g : List Int) (p : S126) (hg : g.length ≤ 8388608) : impl_Receive.f g p.f0 p.f1 = some (takeP g p, ((takeP g p).length : Int)) := by
  unfold impl_Receive.f takeP
  rw [clone_f g (by omega)]
  simp only [Option.bind_some]
  by_cases h1 : p.f0 = (g.length : Int)
  · rw [if_pos h1]
    by_cases h2 : g.length < 255
    · rw [if_pos (by omega), if_pos (by omega), if_pos ⟨h1, h2⟩]
    · rw [if_neg (by omega), if_neg (fun h => h2 h.2)]
  · rw [if_neg h1, if_neg (fun h => h1 h.1)]
theorem implAll_f (g : List Int) (ps : List S126) (kept : List Bool) (hg : g.length ≤ 1048576) (hp : ps.length ≤ 1048576) (k : Nat) (hk : ps.length < k) :
    impl_ReceiveAll.f k g ps kept = some (recv g ps kept ps.length, ((recv g ps kept ps.length).length : Int)) := by
  unfold impl_ReceiveAll.f
  rw [clone_f g (by omega), Option.bind_some]
  exact loop_up ps.length (fun k (s : Int × List Int) => impl_ReceiveAll.l0 k kept ps (ps.length : Int) s.1 s.2) (fun i => ((i : Int), recv g ps kept i)) (recv g ps kept ps.length, ((recv g ps kept ps.length).length : Int)) (fun k i hi => by
    have hr := recv_length g ps kept i
    simp only [impl_ReceiveAll.l0]
    rw [if_pos (by omega), if_pos (by omega), if_pos (by omega), rdOf_nat, wrap_next hi (by omega)]
    have e : rd_T126 ps (i : Int) = ps.getD i z126 := rfl
    rw [e, receive_f _ _ (by omega)]
    simp only [Option.bind_some]
    conv => rhs; unfold recv
    by_cases hb : i < kept.length
    · rw [if_pos (by omega)]
      split <;> rfl
    · rw [if_neg (by omega), if_neg (by rw [getD_out hb]; decide)]) (fun k => by
    simp only [impl_ReceiveAll.l0]
    rw [if_neg (by omega)]) k hk
theorem specAll_f (g : List Int) (ps : List S126) (kept : List Bool) (hg : g.length ≤ 1048576) (hp : ps.length ≤ 1048576) (k : Nat) (hk : ps.length < k) :
    spec_ReceiveAll.f k g ps kept = some (recv g ps kept ps.length, ((recv g ps kept ps.length).length : Int)) := by
  unfold spec_ReceiveAll.f
  simp only [Option.bind_some, List.nil_append, List.length_nil]
  rw [if_pos (by omega)]
  have hend : recv g ps kept (min ps.length kept.length) = recv g ps kept ps.length := by
    by_cases h : ps.length ≤ kept.length
    · rw [Nat.min_eq_left h]
    · rw [Nat.min_eq_right (by omega)]
      have := recv_past g ps kept (ps.length - kept.length)
      rw [show kept.length + (ps.length - kept.length) = ps.length from by omega] at this
      exact this.symm
  rw [← hend]
  exact loop_up (min ps.length kept.length) (fun k (s : List Int × Int) => spec_ReceiveAll.l0 k ps kept s.1 s.2) (fun i => (recv g ps kept i, (i : Int))) (recv g ps kept (min ps.length kept.length), ((recv g ps kept (min ps.length kept.length)).length : Int)) (fun k i hi => by
    have hr := recv_length g ps kept i
    dsimp only
    simp only [spec_ReceiveAll.l0]
    rw [if_pos (by omega), if_pos (by omega), if_pos (by omega), rdOf_nat, wrap_next (n := ps.length) (by omega) (by omega)]
    have e : rd_T126 ps (i : Int) = ps.getD i z126 := rfl
    rw [e, take_f _ _ (by omega)]
    simp only [Option.bind_some]
    conv => rhs; unfold recv
    split <;> rfl) (fun k => by
    dsimp only
    simp only [spec_ReceiveAll.l0]
    by_cases h : ((min ps.length kept.length : Nat) : Int) < (ps.length : Int)
    · rw [if_pos h, if_neg (by omega)]
    · rw [if_neg h]) k (by omega)
/-- The first n packets from place a on. -/
def packs (s : List Int) (a n : Nat) : List S126 := (List.range n).map (fun j => ⟨((a + j : Nat) : Int), s.getD (a + j) 0⟩)
theorem packs_next (s : List Int) (a n : Nat) : packs s a n ++ [⟨((a + n : Nat) : Int), s.getD (a + n) 0⟩] = packs s a (n + 1) := by
  unfold packs
  rw [List.range_succ, List.map_append]
  rfl
theorem packs_length (s : List Int) (a n : Nat) : (packs s a n).length = n := by simp [packs]
def packsOf (m : List Int) (a : Int) : List S126 := if inB a 0 ((sentOf m).length : Int) = true then packs (sentOf m) a.toNat ((sentOf m).length - a.toNat) else []
theorem packsOf_length (m : List Int) (a : Int) : (packsOf m a).length ≤ 24 := by
  have := sentOf_length m
  unfold packsOf
  split
  · rw [packs_length]
    omega
  · exact Nat.zero_le _
theorem inB_nat {a : Int} {n : Nat} (h : inB a 0 (n : Int) = true) : ∃ i : Nat, a = (i : Int) ∧ i ≤ n := by
  simp only [inB, Bool.and_eq_true, decide_eq_true_eq] at h
  exact ⟨a.toNat, by omega, by omega⟩
theorem specPacks_f (m : List Int) (a : Int) (hx : m.getD 8 0 ≤ 9223372036854775807) (k : Nat) (hk : 25 < k) : spec_PacketsOf.f k m a = some (packsOf m a) := by
  have h24 := sentOf_length m
  simp only [spec_PacketsOf.f, specSent_f m hx k (by omega), in_f, Option.bind_some, packsOf]
  by_cases h : inB a 0 ((sentOf m).length : Int) = true
  · rw [if_pos h, if_pos h]
    obtain ⟨i, rfl, hi⟩ := inB_nat h
    rw [Int.toNat_natCast]
    refine loop_up ((sentOf m).length - i) (fun k (s : List S126 × Int) => spec_PacketsOf.l0 k s.1 (sentOf m) s.2) (fun j => (packs (sentOf m) i j, ((i + j : Nat) : Int))) _ (fun k j hj => ?_) (fun k => ?_) k (by omega)
    · have hp := packs_length (sentOf m) i j
      dsimp only
      simp only [spec_PacketsOf.l0]
      rw [if_pos (by omega), if_pos (by omega), if_pos (by omega), rd_nat, packs_next, wrap_next (n := (sentOf m).length) (by omega) (by omega)]
      rfl
    · simp only [spec_PacketsOf.l0]
      rw [if_neg (by omega)]
  · rw [if_neg h, if_neg h]
theorem implPacks_f (m : List Int) (a : Int) (hx : m.getD 8 0 ≤ 9223372036854775807) (k : Nat) (hk : 25 < k) : impl_PacketsOf.f k m a = some (packsOf m a) := by
  have h24 := sentOf_length m
  simp only [impl_PacketsOf.f, implSent_f m hx, within_f, Option.bind_some, packsOf]
  by_cases h : inB a 0 ((sentOf m).length : Int) = true
  · rw [if_pos h, if_pos h]
    obtain ⟨i, rfl, hi⟩ := inB_nat h
    rw [Int.toNat_natCast]
    refine loop_up ((sentOf m).length - i) (fun k (s : List S126 × Int) => impl_PacketsOf.l0 k (sentOf m) s.1 s.2) (fun j => (packs (sentOf m) i j, ((i + j : Nat) : Int))) _ (fun k j hj => ?_) (fun k => ?_) k (by omega)
    · have hp := packs_length (sentOf m) i j
      dsimp only
      simp only [impl_PacketsOf.l0]
      rw [if_pos (by omega), if_pos (by omega), if_pos (by omega), rd_nat, packs_next, wrap_next (n := (sentOf m).length) (by omega) (by omega)]
      rfl
    · simp only [impl_PacketsOf.l0]
      rw [if_neg (by omega)]
  · rw [if_neg h, if_neg h]
/-- A round. -/
def sendR (m : List Int) (a : Int) (g : List Int) (kept : List Bool) (b : Bool) : Int × List Int × Bool :=
  if linkOk m a g = true then (if b = true then (((recv g (packsOf m a) kept (packsOf m a).length).length : Int), recv g (packsOf m a) kept (packsOf m a).length, true) else (a, recv g (packsOf m a) kept (packsOf m a).length, true)) else (a, g, false)
theorem sendR_length (m : List Int) (a : Int) (g : List Int) (kept : List Bool) (b : Bool) : (sendR m a g kept b).2.1.length ≤ g.length + 24 := by
  have h1 := packsOf_length m a
  have h2 := recv_length g (packsOf m a) kept (packsOf m a).length
  unfold sendR
  split
  · split
    · dsimp only
      omega
    · dsimp only
      omega
  · dsimp only
    omega
theorem specSend_f (m : List Int) (a : Int) (g : List Int) (kept : List Bool) (b : Bool) (hx : m.getD 8 0 ≤ 9223372036854775807) (hg : g.length ≤ 1048576) (k : Nat) (hk : g.length + 30 < k) : spec_SendRound.f k m a g kept b = some (sendR m a g kept b) := by
  have h1 := packsOf_length m a
  simp only [spec_SendRound.f, spec_l32Copy.f, specLink_f m a g hx hg k (by omega), specPacks_f m a hx k (by omega), Option.bind_some, List.nil_append, List.length_nil, sendR]
  rw [if_pos (by omega)]
  simp only [specAll_f g (packsOf m a) kept hg (by omega) k (by omega), Option.bind_some]
  split
  · split <;> rfl
  · rfl
theorem implSend_f (m : List Int) (a : Int) (g : List Int) (kept : List Bool) (b : Bool) (hx : m.getD 8 0 ≤ 9223372036854775807) (hg : g.length ≤ 1048576) (k : Nat) (hk : g.length + 30 < k) : impl_SendRound.f k m a g kept b = some (sendR m a g kept b) := by
  have h1 := packsOf_length m a
  simp only [impl_SendRound.f, impl_copyLink.f, clone_f g (by omega), implLink_f m a g hx hg k (by omega), implPacks_f m a hx k (by omega), implAll_f g (packsOf m a) kept hg (by omega) k (by omega), Option.bind_some, sendR]
  split
  · split <;> rfl
  · rfl
theorem FnExactSendRound : laws_FnExactSendRound.Pure := by
  intro m a g kept b hM hG hK
  have hx : m.getD 8 0 ≤ 9223372036854775807 := getD_wf hM.2 8
  have hg : g.length ≤ 9223372036854775807 := hG.2.1
  by_cases hm : (m.length : Int) > 1048576
  · refine ⟨0, ?_⟩
    unfold laws_FnExactSendRound.f
    rw [if_pos hm]
  by_cases hkl : (kept.length : Int) > 1048576
  · refine ⟨0, ?_⟩
    unfold laws_FnExactSendRound.f
    rw [if_neg hm, if_pos hkl]
  have hw : wrap64 (1048576 - (g.length : Int)) = 1048576 - (g.length : Int) := wrap_in (by omega) (by omega)
  by_cases h : (1048576 - (g.length : Int)) < 0
  · refine ⟨0, ?_⟩
    simp only [laws_FnExactSendRound.f, laws_szLink.f, laws_szGateway.f, laws_szIntS.f, hm, hkl, hw, h, Option.bind_some, ↓reduceIte, Int.reduceNeg, Int.reduceLT]
  obtain ⟨q, hq⟩ : ∃ q, m.length + g.length + kept.length + 60 < q := ⟨_, Nat.lt_succ_self _⟩
  have e1 := fun k (hk : m.length + g.length + kept.length + 60 < k) => toIntS_f m (by omega) k (by omega)
  have e2 := fun k (hk : m.length + g.length + kept.length + 60 < k) => eqIntS_f m (by omega) k (by omega)
  have e3 := fun k (hk : m.length + g.length + kept.length + 60 < k) => toIntS_f g (by omega) k (by omega)
  have e4 := fun k (hk : m.length + g.length + kept.length + 60 < k) => eqIntS_f g (by omega) k (by omega)
  have b1 := fun k (hk : m.length + g.length + kept.length + 60 < k) => toBoolS_f kept (by omega) k (by omega)
  have b2 := fun k (hk : m.length + g.length + kept.length + 60 < k) => eqBoolS_f kept (by omega) k (by omega)
  have e5 := fun k (hk : m.length + g.length + kept.length + 60 < k) => specSend_f m a g kept b hx (by omega) k (by omega)
  have e6 := fun k (hk : m.length + g.length + kept.length + 60 < k) => implSend_f m a g kept b hx (by omega) k (by omega)
  have hr := sendR_length m a g kept b
  rcases hs : sendR m a g kept b with ⟨a2, r, ok⟩
  rw [hs] at e5 e6 hr
  dsimp only at hr
  have e7 := fun k (hk : m.length + g.length + kept.length + 60 < k) => eqIntS_f r (by omega) k (by omega)
  have m1 := fun k (hk : m.length + g.length + kept.length + 60 < k) => markIntS_g m 1 k (by omega) (by omega) (by omega) (by omega)
  have m2 := fun k (hk : m.length + g.length + kept.length + 60 < k) => markIntS_g g (1 + (m.length : Int)) k (by omega) (by omega) (by omega) (by omega)
  have m3 := fun k (hk : m.length + g.length + kept.length + 60 < k) => markIntS_g r 1 k (by omega) (by omega) (by omega) (by omega)
  have m4 := fun k (hk : m.length + g.length + kept.length + 60 < k) => heldIntS_g r.length 1 k (by omega) (by omega) (by omega) (by omega)
  obtain ⟨l4, m5⟩ := markBoolS_g kept (1 + (m.length : Int) + (g.length : Int)) (q + 1) (by omega) (by omega) (by omega) (by omega)
  have n1 : ¬ (1 + (m.length : Int) + (g.length : Int) + (kept.length : Int)) < 0 := by omega
  have n2 : ¬ (1 + (r.length : Int)) < 0 := by omega
  have n3 : (ok != ok) = false := by simp
  refine ⟨q + 1 + 1, ?_⟩
  simp (disch := omega) only [laws_FnExactSendRound.f, laws_szLink.f, laws_szGateway.f, laws_szIntS.f, laws_toLink.f, laws_toGateway.f, laws_eqLink.f, laws_eqGateway.f, hm, hkl, hw, h, e1, e3, b1, e5, e6, e7, n3, Option.bind_some, ↓reduceIte]
  simp (disch := omega) only [laws_FnExactSendRound.j0, laws_toLink.f, laws_toGateway.f, laws_eqLink.f, laws_eqGateway.f, laws_markLink.f, laws_markGateway.f, e1, e2, e3, e4, b1, b2, e7, m1, m2, m5, n1, n3, Option.bind_some, ↓reduceIte, Bool.false_eq_true]
  simp (disch := omega) only [laws_FnExactSendRound.j1, laws_toLink.f, laws_toGateway.f, laws_eqLink.f, laws_eqGateway.f, laws_markLink.f, laws_markGateway.f, laws_heldLink.f, laws_heldGateway.f, e1, e3, b1, e6, e7, m3, m4, n2, n3, Option.bind_some, ↓reduceIte, Bool.false_eq_true]

end Go.Proofs.Ytplhnalfhblkgaa.Pure
