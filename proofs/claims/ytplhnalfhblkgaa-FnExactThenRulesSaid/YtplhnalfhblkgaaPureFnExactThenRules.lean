/- The law FnExactThenRules in plain lists: the program and the reference migrate twice to the same variables, and the arguments are left as they were. Conditions: none beside those of the row. -/
import Derived.Test.YtplhnalfhblkgaaHelpFnExactThenRules
namespace Go.Proofs.Ytplhnalfhblkgaa.Pure
open Go.RowKit Go.Proofs.Ytplhnalfhblkgaa.PFnExactThenRules Go.Proofs.Ytplhnalfhblkgaa.XPure Go.Proofs.Ytplhnalfhblkgaa.PureFnExactThenRules Go.Proofs.YtplhnalfhblkgaaW.PrintWords Go.Proofs.YtplhnalfhblkgaaW.PrintLast Go.Proofs.YtplhnalfhblkgaaW.PrintMore
set_option linter.unusedSimpArgs false
set_option linter.unusedVariables false

def sat (x : Int) : Int := if x < -1000000 then -1000000 else if x > 1000000 then 1000000 else x
theorem specSat_f (x : Int) (k : Nat) : spec_Saturate.f (k + 1) x = some (sat x) := by
  unfold sat
  simp only [spec_Saturate.f, spec_Clamp.f, spec_Clamp.j0, decide_eq_true_eq, Option.bind_some]
  rw [if_neg (by decide)]
  by_cases h : x < -1000000
  · rw [if_pos h, if_pos h]
    rfl
  · rw [if_neg h, if_neg h]
    split <;> rfl
theorem mn_mx (x : Int) : mn (mx x (-1000000)) 1000000 = sat x := by
  have h1 : ∀ a b : Int, mx a b = if a < b then b else a := fun _ _ => rfl
  have h2 : ∀ a b : Int, mn a b = if b < a then b else a := fun _ _ => rfl
  rw [h2]
  unfold sat
  by_cases h : x < -1000000
  · have h3 : mx x (-1000000) = -1000000 := by rw [h1, if_pos h]
    rw [h3, if_pos h]
    rfl
  · have h3 : mx x (-1000000) = x := by rw [h1, if_neg h]
    rw [h3, if_neg h]
theorem implSat_f (x : Int) : impl_Saturate.f x = some (sat x) := by
  simp only [impl_Saturate.f, impl_Clamp.f, mn_mx]
  rw [if_neg (by decide), Option.bind_some]
/-- An operand's value. -/
def opv (V : List Int) (a : Int) : Int := if a < 0 then rd V (wrap64 ((-1) - a)) else a
theorem specValue_f (V : List Int) (a : Int) (hV : V.length = 8) (ha : inB a (-8) 999 = true) : spec_l03Value.f V a = some (opv V a) := by
  simp only [inB, Bool.and_eq_true, decide_eq_true_eq] at ha
  unfold spec_l03Value.f opv
  by_cases h : a < 0
  · rw [if_pos h, if_pos h, wrap_in (x := -1 - a) (by omega) (by omega), if_pos (by omega), if_pos (by omega)]
  · rw [if_neg h, if_neg h]
theorem implOperand_f (V : List Int) (a : Int) (hV : V.length = 8) (ha : inB a (-8) 999 = true) : impl_operand.f V a = some (opv V a) := by
  simp only [inB, Bool.and_eq_true, decide_eq_true_eq] at ha
  unfold impl_operand.f opv
  by_cases h : a < 0
  · rw [if_pos h, if_pos h, wrap_in (x := -1 - a) (by omega) (by omega), if_pos (by omega), if_pos (by omega)]
  · rw [if_neg h, if_neg h]
/-- An expression's value. -/
def ev (V : List Int) (a b c : Int) : Int :=
  if a = 1 then sat (wrap64 (sat (opv V b) + sat (opv V c))) else if a = 2 then sat (wrap64 (sat (opv V b) - sat (opv V c))) else if a = 3 then sat (wrap64 (sat (opv V b) * sat (opv V c)))
  else if a = 4 then mn (opv V b) (opv V c) else if a = 5 then mx (opv V b) (opv V c) else if a = 6 then (if decide (opv V b < opv V c) = true then 1 else 0) else (if (opv V b == opv V c) = true then 1 else 0)
theorem ops_ok {a b c : Int} (h : okX a b c = true) : inB b (-8) 999 = true ∧ inB c (-8) 999 = true := by
  unfold okX at h
  rw [Bool.and_eq_true, Bool.and_eq_true] at h
  exact h.2
theorem specEval_f (V : List Int) (a b c : Int) (hV : V.length = 8) (h : okX a b c = true) (k : Nat) : spec_l03Eval.f (k + 1) V a b c = some (ev V a b c) := by
  obtain ⟨hb, hc⟩ := ops_ok h
  simp only [spec_l03Eval.f, spec_AddValues.f, spec_SubValues.f, spec_MulValues.f, spec_l03Bit.f, specValue_f V b hV hb, specValue_f V c hV hc, specSat_f, Option.bind_some, ev]
  repeat' split
  all_goals rfl
theorem implEval_j (V : List Int) (a b c : Int) (hV : V.length = 8) (h : okX a b c = true) (k : Nat) : impl_EvalExpr.j0 (k + 1) V false a b c = some (ev V a b c) := by
  obtain ⟨hb, hc⟩ := ops_ok h
  simp only [impl_EvalExpr.j0, impl_AddValues.f, impl_SubValues.f, impl_MulValues.f, impl_bit.f, implOperand_f V b hV hb, implOperand_f V c hV hc, implSat_f, Option.bind_some, ev, Bool.false_eq_true, ↓reduceIte]
  repeat' split
  all_goals rfl
/-- Valid variables. -/
def okV (l : List Int) : Bool := endsAt (fun i => inB (l.getD i 0) (-1000000) 1000000) (fun _ => false) ((l.length : Int) == 8) l.length 0
theorem okV_len {l : List Int} (h : okV l = true) : l.length = 8 := by
  unfold okV at h
  rw [endsAt_last, Bool.and_eq_true, beq_iff_eq] at h
  omega
theorem specVars_f (l : List Int) (hl : l.length ≤ 1048576) (k : Nat) (hk : l.length < k) : spec_VarsOk.f k l = some (okV l) := by
  unfold spec_VarsOk.f
  refine loop_ends l.length (fun k (s : Int) => spec_VarsOk.l0 k l s) (fun i => (i : Int)) _ _ _ (fun k i hi hc => ?_) (fun k i hi hc => ?_) (fun k => ?_) k hk
  · simp only [spec_VarsOk.l0, rd_nat, specIsValue_f, hc, Option.bind_some, ↓reduceIte]
    rw [if_pos (by omega), if_pos (by omega), wrap_next hi (by omega)]
  · simp only [spec_VarsOk.l0, rd_nat, specIsValue_f, hc, Option.bind_some, Bool.false_eq_true, ↓reduceIte]
    rw [if_pos (by omega), if_pos (by omega)]
  · simp only [spec_VarsOk.l0]
    rw [if_neg (by omega)]
theorem implVars_f (l : List Int) (hl : l.length ≤ 1048576) (k : Nat) (hk : l.length < k) : impl_VarsOk.f k l = some (okV l) := by
  simp only [impl_VarsOk.f, implValues_f l (by omega) k hk, Option.bind_some, okV]
  rw [endsAt_last ((l.length : Int) == 8)]
  by_cases h8 : (l.length : Int) = 8
  · rw [if_pos h8, h8]
    simp [allV]
  · rw [if_neg h8]
    simp [h8]
theorem implEval_f (V : List Int) (a b c : Int) (hV : okV V = true) (h : okX a b c = true) (k : Nat) (hk : 8 < k) : impl_EvalExpr.f k V a b c = some (ev V a b c) := by
  have h8 := okV_len hV
  obtain ⟨q, rfl⟩ : ∃ q, k = q + 1 := ⟨k - 1, by omega⟩
  simp only [impl_EvalExpr.f, implVars_f V (by omega) (q + 1) (by omega), implExprOk_f, hV, h, Option.bind_some, Bool.not_true, ↓reduceIte]
  exact implEval_j V a b c h8 h q
/-- The first i new variables. -/
def mig (V : List Int) (R : List S110) (i : Nat) : List Int := (List.range i).map (fun j => ev V (R.getD j z110).f0 (R.getD j z110).f1 (R.getD j z110).f2)
theorem mig_next (V : List Int) (R : List S110) (i : Nat) : mig V R i ++ [ev V (R.getD i z110).f0 (R.getD i z110).f1 (R.getD i z110).f2] = mig V R (i + 1) := by
  unfold mig
  rw [List.range_succ, List.map_append]
  rfl
theorem mig_length (V : List Int) (R : List S110) (i : Nat) : (mig V R i).length = i := by simp [mig]
theorem okR_at {R : List S110} (h : okR R = true) : R.length = 8 ∧ ∀ i, i < 8 → okX (R.getD i z110).f0 (R.getD i z110).f1 (R.getD i z110).f2 = true := by
  unfold okR at h
  rw [endsAt_last, Bool.and_eq_true, beq_iff_eq, endsAt_true] at h
  exact ⟨by omega, fun i hi => h.1 i (Nat.zero_le _) (by omega)⟩
def migrate (V : List Int) (R : List S110) : List Int × Bool := if okV V = true ∧ okR R = true then (mig V R 8, true) else ([], false)
theorem specMigrate_f (V : List Int) (R : List S110) (hV : V.length ≤ 1048576) (hR : R.length ≤ 1048576) (k : Nat) (hk : V.length + R.length + 12 < k) : spec_Migrate.f k V R = some (migrate V R) := by
  obtain ⟨q, rfl⟩ : ∃ q, k = q + 1 + 1 := ⟨k - 2, by omega⟩
  have e1 := specVars_f V hV (q + 1 + 1) (by omega)
  have e2 := specRules_f R hR (q + 1 + 1) (by omega)
  unfold migrate
  cases h1 : okV V with
  | false => simp only [spec_Migrate.f, spec_Migrate.j0, e1, h1, Option.bind_some, Bool.false_eq_true, ↓reduceIte, false_and]
  | true =>
    cases h2 : okR R with
    | false => simp only [spec_Migrate.f, spec_Migrate.j0, e1, e2, h1, h2, Option.bind_some, Bool.false_eq_true, ↓reduceIte, and_false, Bool.not_false]
    | true =>
      simp only [spec_Migrate.f, spec_Migrate.j0, e1, e2, h1, h2, Option.bind_some, Bool.false_eq_true, ↓reduceIte, and_self, Bool.not_true]
      have h8 := okV_len h1
      obtain ⟨r8, hr⟩ := okR_at h2
      obtain ⟨p, rfl⟩ : ∃ p, q = p + 1 := ⟨q - 1, by omega⟩
      refine loop_up 8 (fun k (s : List Int × Int) => spec_Migrate.l0 (k + 2) V s.1 s.2 R) (fun i => (mig V R i, (i : Int))) _ (fun k i hi => ?_) (fun k => ?_) p (by omega)
      · have hm := mig_length V R i
        have r0 : rd_T110 R (i : Int) = R.getD i z110 := rfl
        dsimp only
        rw [show k + 1 + 2 = (k + 1) + 1 + 1 from rfl]
        simp only [spec_Migrate.l0, r0, specEval_f V _ _ _ h8 (hr i hi), Option.bind_some, mig_next]
        rw [if_pos (by omega), if_pos (by omega), if_pos (by omega), if_pos (by omega), wrap_next (n := 8) hi (by omega)]
      · simp only [spec_Migrate.l0]
        rfl
theorem implMigrate_f (V : List Int) (R : List S110) (hV : V.length ≤ 1048576) (hR : R.length ≤ 1048576) (k : Nat) (hk : V.length + R.length + 22 < k) : impl_Migrate.f k V R = some (migrate V R) := by
  obtain ⟨q, rfl⟩ : ∃ q, k = q + 1 := ⟨k - 1, by omega⟩
  have e1 := implVars_f V hV (q + 1) (by omega)
  have e2 := implRules_f R hR (q + 1) (by omega)
  unfold migrate
  cases h1 : okV V with
  | false => simp only [impl_Migrate.f, impl_Migrate.j0, e1, h1, Option.bind_some, Bool.false_eq_true, ↓reduceIte, false_and]
  | true =>
    cases h2 : okR R with
    | false => simp only [impl_Migrate.f, impl_Migrate.j0, e1, e2, h1, h2, Option.bind_some, Bool.false_eq_true, ↓reduceIte, and_false, Bool.not_false]
    | true =>
      simp only [impl_Migrate.f, impl_Migrate.j0, e1, e2, h1, h2, Option.bind_some, Bool.false_eq_true, ↓reduceIte, and_self, Bool.not_true]
      obtain ⟨r8, hr⟩ := okR_at h2
      obtain ⟨p, rfl⟩ : ∃ p, q = p + 10 := ⟨q - 10, by omega⟩
      refine loop_up 8 (fun k (s : List Int × Int) => impl_Migrate.l0 (k + 10) V s.1 R (R.length : Int) s.2) (fun i => (mig V R i, (i : Int))) _ (fun k i hi => ?_) (fun k => ?_) p (by omega)
      · have hm := mig_length V R i
        have r0 : rd_T110 R (i : Int) = R.getD i z110 := rfl
        dsimp only
        rw [show k + 1 + 10 = (k + 10) + 1 from by omega]
        generalize hg : k + 10 = g
        simp only [impl_Migrate.l0, r0, implEval_f V _ _ _ h1 (hr i hi) g (by omega), Option.bind_some, mig_next]
        rw [if_pos (by omega), if_pos (by omega), if_pos (by omega), if_pos (by omega), wrap_next (n := 8) hi (by omega)]
      · dsimp only
        rw [show k + 1 + 10 = (k + 10) + 1 from by omega]
        generalize k + 10 = g
        simp only [impl_Migrate.l0]
        rw [if_neg (by omega)]
theorem migrate_length (V : List Int) (R : List S110) : (migrate V R).1.length ≤ 8 := by
  unfold migrate
  split
  · rw [mig_length]
    exact Nat.le_refl _
  · exact Nat.zero_le _
def thenR (R : List S110) (l : List Int) (T : List S110) : List Int × Bool := if (migrate l R).2 = true then migrate (migrate l R).1 T else ([], false)
theorem specThen_f (R : List S110) (l : List Int) (T : List S110) (hR : R.length ≤ 1048576) (hl : l.length ≤ 1048576) (hT : T.length ≤ 1048576) (k : Nat) (hk : l.length + R.length + T.length + 30 < k) : spec_ThenRules.f k R l T = some (thenR R l T) := by
  have h8 := migrate_length l R
  simp only [spec_ThenRules.f, specMigrate_f l R hl hR k (by omega), specMigrate_f (migrate l R).1 T (by omega) hT k (by omega), Option.bind_some, thenR]
  split <;> rfl
theorem implThen_f (R : List S110) (l : List Int) (T : List S110) (hR : R.length ≤ 1048576) (hl : l.length ≤ 1048576) (hT : T.length ≤ 1048576) (k : Nat) (hk : l.length + R.length + T.length + 30 < k) : impl_ThenRules.f k R l T = some (thenR R l T) := by
  have h8 := migrate_length l R
  simp only [impl_ThenRules.f, implMigrate_f l R hl hR k (by omega), implMigrate_f (migrate l R).1 T (by omega) hT k (by omega), Option.bind_some, thenR]
  split <;> rfl
theorem thenR_length (R : List S110) (l : List Int) (T : List S110) : (thenR R l T).1.length ≤ 8 := by
  unfold thenR
  split
  · exact migrate_length _ _
  · exact Nat.zero_le _
theorem FnExactThenRules : laws_FnExactThenRules.Pure := by
  intro R l T hG hL hG2
  have hR : R.length ≤ 9223372036854775807 := hG.1
  have hT : T.length ≤ 9223372036854775807 := hG2.1
  by_cases hb : (l.length : Int) > 1048576
  · refine ⟨0, ?_⟩
    unfold laws_FnExactThenRules.f
    rw [if_pos hb]
  have hw : wrap64 (1048576 - (R.length : Int)) = 1048576 - (R.length : Int) := wrap_in (by omega) (by omega)
  by_cases h : (1048576 - (R.length : Int)) < 0
  · refine ⟨0, ?_⟩
    simp only [laws_FnExactThenRules.f, laws_szRules.f, laws_szExprS.f, hb, hw, h, Option.bind_some, ↓reduceIte, Int.reduceNeg, Int.reduceLT]
  have hw2 : wrap64 (1048576 - (R.length : Int) - (T.length : Int)) = 1048576 - (R.length : Int) - (T.length : Int) := wrap_in (by omega) (by omega)
  by_cases h2 : (1048576 - (R.length : Int) - (T.length : Int)) < 0
  · refine ⟨0, ?_⟩
    simp only [laws_FnExactThenRules.f, laws_szRules.f, laws_szExprS.f, hb, hw, h, hw2, h2, Option.bind_some, ↓reduceIte, Int.reduceNeg, Int.reduceLT]
  obtain ⟨q, hq⟩ : ∃ q, l.length + R.length + T.length + 30 < q := ⟨_, Nat.lt_succ_self _⟩
  have e1 := fun k (hk : l.length + R.length + T.length + 30 < k) => toExprS_f R (by omega) k (by omega)
  have t1 := fun k (hk : l.length + R.length + T.length + 30 < k) => toExprS_f T (by omega) k (by omega)
  generalize hR2 : (R.map fun x => (⟨x.f0, x.f1, x.f2⟩ : S110)) = R2 at e1
  generalize hT2 : (T.map fun x => (⟨x.f0, x.f1, x.f2⟩ : S110)) = T2 at t1
  have hlen : R2.length = R.length := by rw [← hR2]; simp
  have hlen2 : T2.length = T.length := by rw [← hT2]; simp
  have e2 := fun k (hk : l.length + R.length + T.length + 30 < k) => eqExprS_f R2 (by omega) k (by omega)
  have t2 := fun k (hk : l.length + R.length + T.length + 30 < k) => eqExprS_f T2 (by omega) k (by omega)
  have e3 := fun k (hk : l.length + R.length + T.length + 30 < k) => toIntS_f l (by omega) k (by omega)
  have e4 := fun k (hk : l.length + R.length + T.length + 30 < k) => eqIntS_f l (by omega) k (by omega)
  have e5 := fun k (hk : l.length + R.length + T.length + 30 < k) => specThen_f R2 l T2 (by omega) (by omega) (by omega) k (by omega)
  have e6 := fun k (hk : l.length + R.length + T.length + 30 < k) => implThen_f R2 l T2 (by omega) (by omega) (by omega) k (by omega)
  have hm := thenR_length R2 l T2
  rcases hmm : thenR R2 l T2 with ⟨g, ok⟩
  rw [hmm] at e5 e6 hm
  dsimp only at hm
  have e7 := fun k (hk : l.length + R.length + T.length + 30 < k) => eqIntS_f g (by omega) k (by omega)
  obtain ⟨r3, m4⟩ := markExprS_g R2 1 (q + 1 + 1) (by omega) (by omega) (by omega) (by omega)
  have m1 := fun k (hk : l.length + R.length + T.length + 30 < k) => markIntS_g l (1 + 3 * (R2.length : Int)) k (by omega) (by omega) (by omega) (by omega)
  obtain ⟨r5, m5⟩ := markExprS_g T2 (1 + 3 * (R2.length : Int) + (l.length : Int)) (q + 1 + 1) (by omega) (by omega) (by omega) (by omega)
  have m2 := fun k (hk : l.length + R.length + T.length + 30 < k) => markIntS_g g 1 k (by omega) (by omega) (by omega) (by omega)
  have m3 := fun k (hk : l.length + R.length + T.length + 30 < k) => heldIntS_g g.length 1 k (by omega) (by omega) (by omega) (by omega)
  have n1 : ¬ (1 + 3 * (R2.length : Int) + (l.length : Int) + 3 * (T2.length : Int)) < 0 := by omega
  have n2 : ¬ (1 + (g.length : Int)) < 0 := by omega
  have n3 : (ok != ok) = false := by simp
  refine ⟨q + 1 + 1 + 1, ?_⟩
  simp (disch := omega) only [laws_FnExactThenRules.f, laws_szRules.f, laws_szExprS.f, laws_toRules.f, hb, hw, h, hw2, h2, e1, t1, e3, e5, e6, e7, n3, Option.bind_some, ↓reduceIte]
  simp (disch := omega) only [laws_FnExactThenRules.j0, laws_toRules.f, laws_eqRules.f, laws_markRules.f, e1, t1, e2, t2, e3, e4, e7, m1, m4, m5, n1, n3, Option.bind_some, ↓reduceIte, Bool.false_eq_true]
  simp (disch := omega) only [laws_FnExactThenRules.j1, laws_toRules.f, e1, t1, e3, e6, e7, m2, m3, n2, n3, Option.bind_some, ↓reduceIte, Bool.false_eq_true]
  simp (disch := omega) only [laws_FnExactThenRules.j2, m3, n2, Option.bind_some, ↓reduceIte, Bool.false_eq_true]

end Go.Proofs.Ytplhnalfhblkgaa.Pure
