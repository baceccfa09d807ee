/- The law FnMoreEnergy in plain lists: the plans that are drawn are fine, and the best set's worth grows with the energy. Conditions: none beside those of the row. -/
import Derived.Test.YtmnmafoojniclaaHelpFnMoreEnergy
namespace Go.Proofs.Ytmnmafoojniclaa.Pure
open Go.RowKit Go.Proofs.Ytmnmafoojniclaa.PFnMoreEnergy Go.Proofs.Ytmnmafoojniclaa.XPure Go.Proofs.Ytmnmafoojniclaa.PureFnMoreEnergy Go.Proofs.YtmnmafoojniclaaW.PrintWords
set_option linter.unusedSimpArgs false

theorem worth_f (l : List S114) (hs : okS l = true) (e : Int) (he : 0 ≤ e) (k : Nat) (hk : 2 ^ l.length + 25 < k) : impl_BestWorth.f k l e = some (run l e (2 ^ l.length - 1)).2.2 := by
  simp only [impl_BestWorth.f, best_f l hs e he k hk, Option.bind_some, ↓reduceIte]
theorem FnMoreEnergy : laws_FnMoreEnergy.Pure := by
  intro c hC
  by_cases hb : (c.length : Int) > 1048576
  · refine ⟨0, ?_⟩
    simp only [laws_FnMoreEnergy.f, laws_big.f, hb, decide_true, Option.bind_some, ↓reduceIte]
  refine ⟨c.length + 2000, ?_⟩
  generalize hK : c.length + 2000 = K
  obtain ⟨l, e1, h6, hp⟩ := drawPlans_f c (by omega) K (by omega)
  obtain ⟨p, e2, h12, hr⟩ := drawPlaces_f c (by omega) K (by omega)
  have hs : okS l = true := okS_of (by omega) hp
  have hS := small_of hs
  have hpw : 2 ^ l.length ≤ 2 ^ 10 := Nat.pow_le_pow_right (by decide) (by omega)
  have p0 : rd p 0 = p.getD 0 0 := rfl
  have p1 : rd p 1 = p.getD 1 0 := rfl
  have g0 := hr 0 (by decide)
  have g1 := hr 1 (by decide)
  rw [← p0] at g0
  rw [← p1] at g1
  have t0 := Int.tmod_nonneg 120 g0.1
  have t1 := Int.tmod_nonneg 30 g1.1
  have u0 := Int.tmod_lt_of_pos (rd p 0) (show (0 : Int) < 120 from by decide)
  have u1 := Int.tmod_lt_of_pos (rd p 1) (show (0 : Int) < 30 from by decide)
  have e3 := worth_f l hs (Int.tmod (rd p 0) 120)
  have hw : wrap64 (Int.tmod (rd p 0) 120 + Int.tmod (rd p 1) 30) = Int.tmod (rd p 0) 120 + Int.tmod (rd p 1) 30 := by
    have v0 := Int.tmod_nonneg 120 g0.1
    have v1 := Int.tmod_lt_of_pos (rd p 0) (show (0 : Int) < 120 from by decide)
    exact wrap_in (by omega) (by omega)
  have v0 := Int.tmod_nonneg 120 g0.1
  have e4 := worth_f l hs (Int.tmod (rd p 0) 120 + Int.tmod (rd p 1) 30) (by omega) K (by omega)
  have e5 := e3 v0 K (by omega)
  have hok : impl_PlansOk.f K l = some true := by rw [implPlans_f l (by omega) K (by omega)]; exact congrArg some hs
  have a1 : (run l (Int.tmod (rd p 0) 120) (2 ^ l.length - 1)).2.2 ≥ 0 := by
    obtain ⟨b, _, h2, _⟩ := run_own l _ v0 (2 ^ l.length - 1)
    rw [h2]
    exact (sumB_bounds hS.2.2 b l.length (Nat.le_refl _)).1
  have a2 : (run l (Int.tmod (rd p 0) 120) (2 ^ l.length - 1)).2.2 ≤ (run l (Int.tmod (rd p 0) 120 + Int.tmod (rd p 1) 30) (2 ^ l.length - 1)).2.2 := by
    obtain ⟨b, h1, h2, h3⟩ := run_own l _ v0 (2 ^ l.length - 1)
    have := run_best l (Int.tmod (rd p 0) 120 + Int.tmod (rd p 1) 30) (2 ^ l.length - 1) b h1 (by omega)
    rw [h2]
    omega
  have l0 : (0 : Int) < (p.length : Int) := by omega
  have l1 : (1 : Int) < (p.length : Int) := by omega
  simp only [laws_FnMoreEnergy.f, laws_big.f, hb, decide_false, e1, e2, hw, e4, e5, hok, a1, a2, l0, l1, Option.bind_some, ↓reduceIte, Bool.false_eq_true]

end Go.Proofs.Ytmnmafoojniclaa.Pure
