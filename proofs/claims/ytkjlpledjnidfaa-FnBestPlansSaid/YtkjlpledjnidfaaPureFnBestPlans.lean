/- The law FnBestPlans in plain lists: the best choice is one set of bits within the energy, and no other set of bits is better. Conditions: none beside those of the row. -/
import Derived.Test.YtkjlpledjnidfaaHelpFnBestPlans
namespace Go.Proofs.Ytkjlpledjnidfaa.Pure
open Go.RowKit Go.Proofs.Ytkjlpledjnidfaa.PFnBestPlans Go.Proofs.Ytkjlpledjnidfaa.XPure Go.Proofs.Ytkjlpledjnidfaa.PureFnBestPlans Go.Proofs.YtkjlpledjnidfaaW.PrintWords
set_option linter.unusedSimpArgs false

theorem FnBestPlans : laws_FnBestPlans.Pure := by
  intro c hC
  by_cases hb : (c.length : Int) > 1048576
  · refine ⟨0, ?_⟩
    simp only [laws_FnBestPlans.f, laws_big.f, hb, decide_true, Option.bind_some, ↓reduceIte]
  obtain ⟨Q, hQ⟩ : ∃ Q, Q = 1100 := ⟨_, rfl⟩
  obtain ⟨D, hD⟩ : ∃ D, D = c.length + 2000 := ⟨_, rfl⟩
  refine ⟨D + Q, ?_⟩
  obtain ⟨l, e1, h6, hp⟩ := drawPlans_f c (by omega) (D + Q) (by omega)
  obtain ⟨p, e2, h12, hr⟩ := drawPlaces_f c (by omega) (D + Q) (by omega)
  have hs : okS l = true := okS_of (by omega) hp
  have hS := small_of hs
  have hpw : 2 ^ l.length ≤ 2 ^ 10 := Nat.pow_le_pow_right (by decide) (by omega)
  have hp1 : 1 ≤ 2 ^ l.length := Nat.one_le_two_pow
  have g0 : 0 ≤ rd p 0 ∧ rd p 0 < 10000 := hr 0 (by decide)
  have g1 : 0 ≤ rd p 1 ∧ rd p 1 < 10000 := hr 1 (by decide)
  have t0 := Int.tmod_nonneg 120 g0.1
  have e3 := best_f l hs (Int.tmod (rd p 0) 120) t0
  have l0 : (0 : Int) < (p.length : Int) := by omega
  have l1 : (1 : Int) < (p.length : Int) := by omega
  have e4 := e3 (D + Q) (by omega)
  obtain ⟨b, hb1, hb2, hb3⟩ := run_own l _ t0 (2 ^ l.length - 1)
  have e5 := implOwn_f l hs b (D + Q) (by omega)
  simp only [laws_FnBestPlans.f, laws_big.f, hb, decide_false, e1, e2, l0, impl_BestChoice.f, e4, hb2, own, e5, Option.bind_some, ↓reduceIte, Bool.false_eq_true]
  obtain ⟨x, hx⟩ : ∃ x : Nat, rd p 1 = (x : Int) := ⟨(rd p 1).toNat, by omega⟩
  show laws_FnBestPlans.l0 (D + Q) l p _ _ _ true (setOf x 0) ((0 : Nat) : Int) = some true
  refine loop_up l.length (fun k (s : List Int × Int) => laws_FnBestPlans.l0 (k + Q) l p (Int.tmod (rd p 0) 120) (sumB (fe l) b l.length) (sumB (fw l) b l.length) true s.1 s.2) (fun i => (setOf x i, (i : Int))) _ (fun k i hi => ?_) (fun k => ?_) D (by omega)
  · have hu : IntKind.u64.wrap (i : Int) = (i : Int) := by
      rw [IntKind.wrap_u64]
      omega
    have hl := setOf_length x i
    dsimp only
    rw [show k + 1 + Q = k + Q + 1 from by omega]
    generalize k + Q = q
    simp only [laws_FnBestPlans.l0, hu, hx]
    rw [if_pos (by omega), if_pos l1, if_pos (by omega), wrap_next hi (by omega)]
    by_cases ht : x.testBit i = true
    · rw [if_pos ((bit_at x i (by omega) (by omega)).2 ht), if_pos (by omega)]
      conv => rhs; simp only [setOf, ht, ↓reduceIte]
    · rw [if_neg (fun h => ht ((bit_at x i (by omega) (by omega)).1 h))]
      conv => rhs; simp only [setOf, ht, ↓reduceIte, Bool.false_eq_true]
  · dsimp only
    rw [show k + 1 + Q = k + Q + 1 from by omega]
    generalize hq : k + Q = q
    have w1 := implOwn_f l hs x q (by omega)
    have w2 := e3 q (by omega)
    have hm : sumB (fe l) x l.length = sumB (fe l) (x % 2 ^ l.length) l.length ∧ sumB (fw l) x l.length = sumB (fw l) (x % 2 ^ l.length) l.length := by
      have e : ∀ i, i < l.length → x.testBit i = (x % 2 ^ l.length).testBit i := fun i hi => by rw [Nat.testBit_mod_two_pow, decide_eq_true hi, Bool.true_and]
      exact ⟨sumB_congr _ _ _ _ e, sumB_congr _ _ _ _ e⟩
    have hx2 : x % 2 ^ l.length < 2 ^ l.length := Nat.mod_lt _ (by omega)
    have hbest := run_best l (Int.tmod (rd p 0) 120) (2 ^ l.length - 1) (x % 2 ^ l.length) (by omega)
    rw [hb2] at hbest w2
    simp only [own] at hbest w2 hb3
    rw [← hm.1, ← hm.2] at hbest
    simp only [laws_FnBestPlans.l0, w1, impl_BestWorth.f, w2, Option.bind_some, ↓reduceIte]
    rw [if_neg (by omega), if_neg (by omega)]
    by_cases q1 : sumB (fe l) x l.length > Int.tmod (rd p 0) 120
    · rw [if_pos q1]
    · rw [if_neg q1]
      have hbest2 := hbest (by omega)
      by_cases q2 : sumB (fw l) x l.length < sumB (fw l) b l.length
      · rw [if_pos q2]
      · rw [if_neg q2, if_pos (by omega), decide_eq_true (by omega)]

end Go.Proofs.Ytkjlpledjnidfaa.Pure
