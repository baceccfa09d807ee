/- What the law FnExactSameNode's helper functions (they copy, compare, mark) come to. Conditions: as each lemma says. -/
import Derived.Test.YtlcfebadojmnlaaPFnExactSameNodexL
import Derived.Test.YtlcfebadojmnlaaXPure
namespace Go.Proofs.Ytlcfebadojmnlaa.PureFnExactSameNode
open Go.RowKit Go.Proofs.Ytlcfebadojmnlaa.PFnExactSameNode Go.Proofs.Ytlcfebadojmnlaa.XPure Go.Proofs.YtlcfebadojmnlaaW.PrintWords Go.Proofs.YtlcfebadojmnlaaW.PrintLast Go.Proofs.YtlcfebadojmnlaaW.PrintMore
set_option linter.unusedSimpArgs false
set_option linter.unusedVariables false
theorem toIntS_f (l : List Int) (hl : l.length ≤ 35184372088832) (k : Nat) (hk : l.length < k) : laws_toIntS.f k l = some l := by
  unfold laws_toIntS.f
  rw [if_pos (by omega), if_pos (by omega), Int.toNat_natCast]
  have h := loop_up l.length (fun k (s : List Int × Int) => laws_toIntS.l0 k l s.1 s.2) (fun i => (filled 0 id l i, (i : Int))) l (fun k i hi => by
    simp only [laws_toIntS.l0]
    rw [if_pos (by omega), if_pos (by omega), if_pos (by rw [filled_length _ _ _ _ (by omega)]; omega), wrap_next hi (by omega), rd_nat, Int.toNat_natCast, getD_lt hi, ← filled_set 0 id l i hi]
    rfl) (fun k => by
    simp only [laws_toIntS.l0]
    rw [if_neg (by omega), filled_all, List.map_id]) k hk
  simpa [filled_zero] using h
theorem eqIntS_f (l : List Int) (hl : l.length ≤ 35184372088832) (k : Nat) (hk : l.length < k) : laws_eqIntS.f k l l = some true := by
  unfold laws_eqIntS.f
  rw [if_pos rfl]
  exact loop_up l.length (fun k (s : Int) => laws_eqIntS.l0 k l l s) (fun i => (i : Int)) true (fun k i hi => by
    simp only [laws_eqIntS.l0]
    rw [if_pos (by omega), if_pos (by omega), if_pos (by omega), if_true, wrap_next hi (by omega)]) (fun k => by
    simp only [laws_eqIntS.l0]
    rw [if_neg (by omega)]) k hk
theorem equalInts_f (x y : List Int) (hl : x.length ≤ 35184372088832) (k : Nat) (hk : x.length < k) : slices_Equal_int_int.f k x y = some (decide (x = y)) := by
  unfold slices_Equal_int_int.f
  by_cases h : x.length = y.length
  · rw [if_pos (by omega)]
    have e := loop_ends x.length (fun k (s : Int) => slices_Equal_int_int.l0 k x y (x.length : Int) s) (fun i => (i : Int)) (fun i => decide (x.getD i 0 = y.getD i 0)) (fun _ => false) true (fun k i hi hc => by
      simp only [slices_Equal_int_int.l0]
      rw [if_pos (by omega), if_pos (by omega), if_pos (by omega), if_pos (by omega), rd_nat, rd_nat, if_pos (of_decide_eq_true hc), wrap_next hi (by omega)]) (fun k i hi hc => by
      simp only [slices_Equal_int_int.l0]
      rw [if_pos (by omega), if_pos (by omega), if_pos (by omega), if_pos (by omega), rd_nat, rd_nat, if_neg (of_decide_eq_false hc)]) (fun k => by
      simp only [slices_Equal_int_int.l0]
      rw [if_neg (by omega)]) k hk
    refine e.trans ?_
    congr 1
    rw [Bool.eq_iff_iff, endsAt_true, decide_eq_true_eq]
    refine ⟨fun ha => ?_, fun ha j _ _ => by rw [ha]; exact decide_eq_true rfl⟩
    apply List.ext_getElem h
    intro j h1 h2
    have := of_decide_eq_true (ha j (by omega) (by omega))
    rw [getD_lt h1, getD_lt h2] at this
    exact this
  · rw [if_neg (by omega), decide_eq_false (fun e => h (by rw [e]))]
end Go.Proofs.Ytlcfebadojmnlaa.PureFnExactSameNode
