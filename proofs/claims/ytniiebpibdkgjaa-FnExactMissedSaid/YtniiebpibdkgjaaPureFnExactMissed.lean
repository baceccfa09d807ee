/- The law FnExactMissed in plain lists: the program finds the same missed jobs as the reference, gives them again, and shares no memory with its arguments. Conditions: none beside those of the row. -/
import Derived.Test.YtniiebpibdkgjaaHelpFnExactMissed
namespace Go.Proofs.Ytniiebpibdkgjaa.Pure
open Go.RowKit Go.Proofs.Ytniiebpibdkgjaa.PFnExactMissed Go.Proofs.Ytniiebpibdkgjaa.XPure Go.Proofs.Ytniiebpibdkgjaa.PureFnExactMissed Go.Proofs.YtniiebpibdkgjaaW.PrintWords
set_option linter.unusedSimpArgs false

/-- Is job i missed? -/
def late (J : List S43) (t : List Int) (i : Nat) : Bool := decide (t.getD i 0 = -1 ∨ t.getD i 0 ≥ (J.getD i z43).f1)
def missed (J : List S43) (t : List Int) : List Int := if J.length = t.length then col (late J t) J.length else []
theorem missed_length (J : List S43) (t : List Int) : (missed J t).length ≤ J.length := by
  unfold missed
  split
  · exact col_length _ _
  · simp
theorem impl_f (J : List S43) (t : List Int) (hl : J.length ≤ 1048576) (k : Nat) (hk : J.length < k) : impl_Missed.f k J t = some (missed J t) := by
  unfold impl_Missed.f missed
  by_cases h : J.length = t.length
  · rw [if_pos (by omega), if_pos h]
    exact loop_up J.length (fun k (s : List Int × Int) => impl_Missed.l0 k J s.1 t (t.length : Int) s.2) (fun i => (col (late J t) i, (i : Int))) (col (late J t) J.length) (fun k i hi => by
      have hc := col_length (late J t) i
      simp only [impl_Missed.l0]
      rw [if_pos (by omega), if_pos (by omega), if_pos (by omega), rd_nat, wrap_next hi (by omega)]
      by_cases h1 : t.getD i 0 = -1
      · rw [if_pos h1, if_pos (by omega), col_yes (show late J t i = true from decide_eq_true (.inl h1))]
      · rw [if_neg h1, if_pos (by omega)]
        by_cases h2 : t.getD i 0 ≥ (rd_T43 J (i : Int)).f1
        · rw [if_pos h2, if_pos (by omega), col_yes (show late J t i = true from decide_eq_true (.inr h2))]
        · rw [if_neg h2, col_no (show late J t i = false from decide_eq_false (fun h => h.elim h1 h2))]) (fun k => by
      simp only [impl_Missed.l0]
      rw [if_neg (by omega)]) k hk
  · rw [if_neg (by omega), if_neg h]
theorem spec_f (J : List S43) (t : List Int) (hl : J.length ≤ 1048576) (k : Nat) (hk : J.length < k) : spec_Missed.f (2 * k) J t = some (missed J t) := by
  unfold spec_Missed.f missed
  by_cases h : J.length = t.length
  · rw [if_pos h]
    have hb : ((J.length : Int) == (t.length : Int)) = true := by rw [h]; simp
    exact loop_up J.length (fun k (s : List Int × Int) => spec_Missed.l0 (2 * k) J t s.1 s.2) (fun i => (col (late J t) i, (i : Int))) (col (late J t) J.length) (fun k i hi => by
      have hc := col_length (late J t) i
      dsimp only
      rw [show 2 * (k + 1) = 2 * k + 1 + 1 from by omega]
      simp only [spec_Missed.l0, spec_Missed.j1, hb, ↓reduceIte]
      rw [if_pos (by omega), if_pos (by omega), if_pos (by omega), rd_nat, wrap_next hi (by omega)]
      by_cases h1 : t.getD i 0 = -1
      · rw [if_pos h1, if_pos (by omega), col_yes (show late J t i = true from decide_eq_true (.inl h1))]
      · rw [if_neg h1, if_pos (by omega)]
        by_cases h2 : t.getD i 0 ≥ (rd_T43 J (i : Int)).f1
        · rw [if_pos h2, if_pos (by omega), col_yes (show late J t i = true from decide_eq_true (.inr h2))]
        · rw [if_neg h2, col_no (show late J t i = false from decide_eq_false (fun h => h.elim h1 h2))]) (fun k => by
      dsimp only
      rw [show 2 * (k + 1) = 2 * k + 1 + 1 from by omega]
      simp only [spec_Missed.l0, spec_Missed.j1, Bool.false_eq_true, ↓reduceIte]
      rw [if_neg (by omega)]) k hk
  · rw [if_neg h]
    obtain ⟨m, rfl⟩ : ∃ m, k = m + 1 := ⟨k - 1, by omega⟩
    have hb : ((J.length : Int) == (t.length : Int)) = false := by rw [beq_eq_false_iff_ne]; omega
    rw [show 2 * (m + 1) = 2 * m + 1 + 1 from by omega]
    simp only [spec_Missed.l0, spec_Missed.j1, hb, Bool.false_eq_true, ↓reduceIte, ite_self]
theorem FnExactMissed : laws_FnExactMissed.Pure := by
  intro l t hL hT
  have hl : l.length ≤ 9223372036854775807 := hL.1
  by_cases ht : (t.length : Int) > 1048576
  · refine ⟨0, ?_⟩
    unfold laws_FnExactMissed.f
    rw [if_pos ht]
  have hw : wrap64 (1048576 - (l.length : Int)) = 1048576 - (l.length : Int) := wrap_in (by omega) (by omega)
  by_cases h : (1048576 - (l.length : Int)) < 0
  · refine ⟨0, ?_⟩
    simp only [laws_FnExactMissed.f, laws_szJobS.f, ht, hw, h, Option.bind_some, ↓reduceIte, Int.reduceNeg, Int.reduceLT]
  · obtain ⟨q, hq1, hq2⟩ : ∃ q, l.length < q ∧ t.length < q := ⟨l.length + t.length + 1, by omega, by omega⟩
    obtain ⟨k, hk⟩ : ∃ k, 2 * q = k + 1 := ⟨2 * q - 1, by omega⟩
    refine ⟨2 * q, ?_⟩
    have e1 := toJobS_f l (by omega) (2 * q) (by omega)
    have f1 := toJobS_f l (by omega) k (by omega)
    generalize hl2 : (l.map fun x => (⟨x.f0, x.f1, x.f2⟩ : S43)) = J at e1 f1
    have hlen : J.length = l.length := by rw [← hl2]; simp
    have hm := missed_length J t
    have e2 := eqJobS_f J (by omega) (2 * q) (by omega)
    have e3 := toIntS_f t (by omega) (2 * q) (by omega)
    have f3 := toIntS_f t (by omega) k (by omega)
    have e4 := eqIntS_f t (by omega) (2 * q) (by omega)
    have e5 := spec_f J t (by omega) q (by omega)
    have e6 := impl_f J t (by omega) (2 * q) (by omega)
    have f6 := impl_f J t (by omega) k (by omega)
    have e7 := eqIntS_f (missed J t) (by omega) (2 * q) (by omega)
    have f7 := eqIntS_f (missed J t) (by omega) k (by omega)
    obtain ⟨l', e8⟩ := markJobS_f J (by omega) 1 (by omega) (2 * q) (by omega)
    have e9 := markIntS_f t (by omega) (1 + 3 * J.length) (by omega) (2 * q) (by omega)
    have f9 := markIntS_f (missed J t) (by omega) 1 (by omega) k (by omega)
    have f10 := heldIntS_f (missed J t).length (by omega) 1 (by omega) k (by omega)
    have n1 : ¬ ((1 + 3 * J.length + t.length : Nat) : Int) < 0 := by omega
    have n2 : ¬ ((1 + (missed J t).length : Nat) : Int) < 0 := by omega
    simp only [Int.natCast_one] at e8 f9 f10
    simp only [laws_FnExactMissed.f, laws_szJobS.f, ht, hw, h, e1, e2, e3, e4, e5, e6, e7, e8, e9, n1, Option.bind_some, ↓reduceIte, Bool.not_true]
    rw [hk]
    simp only [laws_FnExactMissed.j0, f1, f3, f6, f7, f9, f10, n2, Option.bind_some, ↓reduceIte, Bool.false_eq_true]

end Go.Proofs.Ytniiebpibdkgjaa.Pure
