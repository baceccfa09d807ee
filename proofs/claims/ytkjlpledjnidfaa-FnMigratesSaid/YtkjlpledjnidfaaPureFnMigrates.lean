/- The law FnMigrates in plain lists: the identity keeps all variables, each new variable is its rule's value, and the identity behind other rules changes nothing. Conditions: none beside those of the row. -/
import Derived.Test.YtkjlpledjnidfaaHelpFnMigrates
namespace Go.Proofs.Ytkjlpledjnidfaa.Pure
open Go.RowKit Go.Proofs.Ytkjlpledjnidfaa.PFnMigrates Go.Proofs.Ytkjlpledjnidfaa.XPure Go.Proofs.Ytkjlpledjnidfaa.PureFnMigrates Go.Proofs.YtkjlpledjnidfaaW.PrintWords Go.Proofs.YtkjlpledjnidfaaW.PrintLast Go.Proofs.YtkjlpledjnidfaaW.PrintMore
set_option linter.unusedSimpArgs false
set_option linter.unusedVariables false

def sat (x : Int) : Int := if x < -1000000 then -1000000 else if x > 1000000 then 1000000 else x
theorem mn_mx (x : Int) : mn (mx x (-1000000)) 1000000 = sat x := by
  have h1 : ∀ a b : Int, mx a b = if a < b then b else a := fun _ _ => rfl
  have h2 : ∀ a b : Int, mn a b = if b < a then b else a := fun _ _ => rfl
  rw [h2]
  unfold sat
  by_cases h : x < -1000000
  · have h3 : mx x (-1000000) = -1000000 := by rw [h1, if_pos h]
    rw [h3, if_pos h]
    rfl
  · have h3 : mx x (-1000000) = x := by rw [h1, if_neg h]
    rw [h3, if_neg h]
theorem implSat_f (x : Int) : impl_Saturate.f x = some (sat x) := by
  simp only [impl_Saturate.f, impl_Clamp.f, mn_mx]
  rw [if_neg (by decide), Option.bind_some]
/-- An operand's value. -/
def opv (V : List Int) (a : Int) : Int := if a < 0 then rd V (wrap64 ((-1) - a)) else a
theorem implOperand_f (V : List Int) (a : Int) (hV : V.length = 8) (ha : inB a (-8) 999 = true) : impl_operand.f V a = some (opv V a) := by
  simp only [inB, Bool.and_eq_true, decide_eq_true_eq] at ha
  unfold impl_operand.f opv
  by_cases h : a < 0
  · rw [if_pos h, if_pos h, wrap_in (x := -1 - a) (by omega) (by omega), if_pos (by omega), if_pos (by omega)]
  · rw [if_neg h, if_neg h]
/-- An expression's value. -/
def ev (V : List Int) (a b c : Int) : Int :=
  if a = 1 then sat (wrap64 (sat (opv V b) + sat (opv V c))) else if a = 2 then sat (wrap64 (sat (opv V b) - sat (opv V c))) else if a = 3 then sat (wrap64 (sat (opv V b) * sat (opv V c)))
  else if a = 4 then mn (opv V b) (opv V c) else if a = 5 then mx (opv V b) (opv V c) else if a = 6 then (if decide (opv V b < opv V c) = true then 1 else 0) else (if (opv V b == opv V c) = true then 1 else 0)
theorem ops_ok {a b c : Int} (h : okX a b c = true) : inB b (-8) 999 = true ∧ inB c (-8) 999 = true := by
  unfold okX at h
  rw [Bool.and_eq_true, Bool.and_eq_true] at h
  exact h.2
theorem implEval_j (V : List Int) (a b c : Int) (hV : V.length = 8) (h : okX a b c = true) (k : Nat) : impl_EvalExpr.j0 (k + 1) V false a b c = some (ev V a b c) := by
  obtain ⟨hb, hc⟩ := ops_ok h
  simp only [impl_EvalExpr.j0, impl_AddValues.f, impl_SubValues.f, impl_MulValues.f, impl_bit.f, implOperand_f V b hV hb, implOperand_f V c hV hc, implSat_f, Option.bind_some, ev, Bool.false_eq_true, ↓reduceIte]
  repeat' split
  all_goals rfl
/-- Valid variables. -/
def okV (l : List Int) : Bool := endsAt (fun i => inB (l.getD i 0) (-1000000) 1000000) (fun _ => false) ((l.length : Int) == 8) l.length 0
theorem okV_len {l : List Int} (h : okV l = true) : l.length = 8 := by
  unfold okV at h
  rw [endsAt_last, Bool.and_eq_true, beq_iff_eq] at h
  omega
theorem implVars_f (l : List Int) (hl : l.length ≤ 1048576) (k : Nat) (hk : l.length < k) : impl_VarsOk.f k l = some (okV l) := by
  simp only [impl_VarsOk.f, implValues_f l (by omega) k hk, Option.bind_some, okV]
  rw [endsAt_last ((l.length : Int) == 8)]
  by_cases h8 : (l.length : Int) = 8
  · rw [if_pos h8, h8]
    simp [allV]
  · rw [if_neg h8]
    simp [h8]
theorem implEval_f (V : List Int) (a b c : Int) (hV : okV V = true) (h : okX a b c = true) (k : Nat) (hk : 8 < k) : impl_EvalExpr.f k V a b c = some (ev V a b c) := by
  have h8 := okV_len hV
  obtain ⟨q, rfl⟩ : ∃ q, k = q + 1 := ⟨k - 1, by omega⟩
  simp only [impl_EvalExpr.f, implVars_f V (by omega) (q + 1) (by omega), implExprOk_f, hV, h, Option.bind_some, Bool.not_true, ↓reduceIte]
  exact implEval_j V a b c h8 h q
/-- The first i new variables. -/
def mig (V : List Int) (R : List S58) (i : Nat) : List Int := (List.range i).map (fun j => ev V (R.getD j z58).f0 (R.getD j z58).f1 (R.getD j z58).f2)
theorem mig_next (V : List Int) (R : List S58) (i : Nat) : mig V R i ++ [ev V (R.getD i z58).f0 (R.getD i z58).f1 (R.getD i z58).f2] = mig V R (i + 1) := by
  unfold mig
  rw [List.range_succ, List.map_append]
  rfl
theorem mig_length (V : List Int) (R : List S58) (i : Nat) : (mig V R i).length = i := by simp [mig]
theorem okR_at {R : List S58} (h : okR R = true) : R.length = 8 ∧ ∀ i, i < 8 → okX (R.getD i z58).f0 (R.getD i z58).f1 (R.getD i z58).f2 = true := by
  unfold okR at h
  rw [endsAt_last, Bool.and_eq_true, beq_iff_eq, endsAt_true] at h
  exact ⟨by omega, fun i hi => h.1 i (Nat.zero_le _) (by omega)⟩
def migrate (V : List Int) (R : List S58) : List Int × Bool := if okV V = true ∧ okR R = true then (mig V R 8, true) else ([], false)
theorem implMigrate_f (V : List Int) (R : List S58) (hV : V.length ≤ 1048576) (hR : R.length ≤ 1048576) (k : Nat) (hk : V.length + R.length + 22 < k) : impl_Migrate.f k V R = some (migrate V R) := by
  obtain ⟨q, rfl⟩ : ∃ q, k = q + 1 := ⟨k - 1, by omega⟩
  have e1 := implVars_f V hV (q + 1) (by omega)
  have e2 := implRules_f R hR (q + 1) (by omega)
  unfold migrate
  cases h1 : okV V with
  | false => simp only [impl_Migrate.f, impl_Migrate.j0, e1, h1, Option.bind_some, Bool.false_eq_true, ↓reduceIte, false_and]
  | true =>
    cases h2 : okR R with
    | false => simp only [impl_Migrate.f, impl_Migrate.j0, e1, e2, h1, h2, Option.bind_some, Bool.false_eq_true, ↓reduceIte, and_false, Bool.not_false]
    | true =>
      simp only [impl_Migrate.f, impl_Migrate.j0, e1, e2, h1, h2, Option.bind_some, Bool.false_eq_true, ↓reduceIte, and_self, Bool.not_true]
      obtain ⟨r8, hr⟩ := okR_at h2
      obtain ⟨p, rfl⟩ : ∃ p, q = p + 10 := ⟨q - 10, by omega⟩
      refine loop_up 8 (fun k (s : List Int × Int) => impl_Migrate.l0 (k + 10) V s.1 R (R.length : Int) s.2) (fun i => (mig V R i, (i : Int))) _ (fun k i hi => ?_) (fun k => ?_) p (by omega)
      · have hm := mig_length V R i
        have r0 : rd_T58 R (i : Int) = R.getD i z58 := rfl
        dsimp only
        rw [show k + 1 + 10 = (k + 10) + 1 from by omega]
        generalize hg : k + 10 = g
        simp only [impl_Migrate.l0, r0, implEval_f V _ _ _ h1 (hr i hi) g (by omega), Option.bind_some, mig_next]
        rw [if_pos (by omega), if_pos (by omega), if_pos (by omega), if_pos (by omega), wrap_next (n := 8) hi (by omega)]
      · dsimp only
        rw [show k + 1 + 10 = (k + 10) + 1 from by omega]
        generalize k + 10 = g
        simp only [impl_Migrate.l0]
        rw [if_neg (by omega)]
theorem migrate_length (V : List Int) (R : List S58) : (migrate V R).1.length ≤ 8 := by
  unfold migrate
  split
  · rw [mig_length]
    exact Nat.le_refl _
  · exact Nat.zero_le _
theorem getD_left {α : Type} (g : List α) (x z : α) {i : Nat} (h : i < g.length) : (g ++ [x]).getD i z = g.getD i z := by
  rw [List.getD_eq_getElem?_getD, List.getElem?_append_left h, ← List.getD_eq_getElem?_getD]
theorem getD_end {α : Type} (g : List α) (x z : α) : (g ++ [x]).getD g.length z = x := by
  rw [List.getD_eq_getElem?_getD, List.getElem?_append_right (Nat.le_refl _), Nat.sub_self]
  rfl
theorem getD_put {α : Type} (l : List α) (i j : Nat) (x z : α) (hi : i < l.length) : (l.set i x).getD j z = if i = j then x else l.getD j z := by
  rw [List.getD_eq_getElem?_getD, List.getElem?_set]
  by_cases h : i = j
  · rw [if_pos h, if_pos h, if_pos hi]
    rfl
  · rw [if_neg h, if_neg h, ← List.getD_eq_getElem?_getD]
theorem ext_getD (l m : List Int) (h : l.length = m.length) (he : ∀ i, i < l.length → l.getD i 0 = m.getD i 0) : l = m := by
  apply List.ext_getElem h
  intro i h1 h2
  have := he i h1
  rw [getD_lt h1, getD_lt h2] at this
  exact this
theorem same_f (l : List Int) (hl : l.length ≤ 1048576) (k : Nat) (hk : l.length < k) : laws_sameInts.f k l l = some true := by
  unfold laws_sameInts.f
  rw [if_pos rfl]
  refine loop_up l.length (fun k (s : Int) => laws_sameInts.l0 k l l s) (fun i => (i : Int)) _ (fun k i hi => ?_) (fun k => ?_) k hk
  · simp only [laws_sameInts.l0, ↓reduceIte]
    rw [if_pos (by omega), if_pos (by omega), if_pos (by omega), wrap_next hi (by omega)]
  · simp only [laws_sameInts.l0]
    rw [if_neg (by omega)]
/-- The rules under which all variables keep their values. -/
def idR : List S58 := [⟨1, -1, 0⟩, ⟨1, -2, 0⟩, ⟨1, -3, 0⟩, ⟨1, -4, 0⟩, ⟨1, -5, 0⟩, ⟨1, -6, 0⟩, ⟨1, -7, 0⟩, ⟨1, -8, 0⟩]
theorem idR_next {i : Nat} (hi : i < 8) : idR.take i ++ [(⟨1, -1 - (i : Int), 0⟩ : S58)] = idR.take (i + 1) ∧ (idR.take i).length = i := by
  have : i = 0 ∨ i = 1 ∨ i = 2 ∨ i = 3 ∨ i = 4 ∨ i = 5 ∨ i = 6 ∨ i = 7 := by omega
  rcases this with rfl | rfl | rfl | rfl | rfl | rfl | rfl | rfl <;> exact ⟨rfl, rfl⟩
theorem specId_f (q : Nat) : spec_IdentityRules.f (q + 9) = some idR := by
  unfold spec_IdentityRules.f
  refine loop_up 8 (fun k (s : Int × List S58) => spec_IdentityRules.l0 k s.1 s.2) (fun i => ((i : Int), idR.take i)) _ (fun k i hi => ?_) (fun k => ?_) (q + 9) (by omega)
  · obtain ⟨h1, h2⟩ := idR_next hi
    simp only [spec_IdentityRules.l0]
    rw [if_pos (by omega), if_pos (by omega), wrap_next (n := 8) hi (by omega), wrap_in (x := -1 - (i : Int)) (by omega) (by omega), h1]
  · rfl
theorem implId_f (q : Nat) : impl_IdentityRules.f (q + 9) = some idR := by
  unfold impl_IdentityRules.f
  refine loop_up 8 (fun k (s : Int × List S58) => impl_IdentityRules.l0 k s.1 s.2) (fun i => ((i : Int), idR.take i)) _ (fun k i hi => ?_) (fun k => ?_) (q + 9) (by omega)
  · obtain ⟨h1, h2⟩ := idR_next hi
    simp only [impl_IdentityRules.l0]
    rw [if_pos (by omega), if_pos (by omega), wrap_next (n := 8) hi (by omega), wrap_in (x := -1 - (i : Int)) (by omega) (by omega), h1]
  · rfl
theorem okR_id : okR idR = true := by decide
/-- One of a list. -/
theorem drawPick_g (c : List Int) (hc : c.length ≤ 1048576) (p s : Int) (h0 : 0 ≤ p) (l : List Int) (hl : 0 < l.length) : ∃ n p' s', n < l.length ∧ spec_l01PickInt.f c p s l = some (l.getD n 0, p', s') ∧ 0 ≤ p' := by
  obtain ⟨v, p', s', e, a1, a2, a3⟩ := drawBelow_f c hc p s h0 (l.length : Int) (by omega)
  simp only [spec_l01PickInt.f, e, Option.bind_some]
  rw [if_pos a1, if_pos a2]
  obtain ⟨n, rfl⟩ : ∃ n : Nat, v = (n : Int) := ⟨v.toNat, by omega⟩
  exact ⟨n, p', s', by omega, by rw [rd_nat], a3⟩
theorem drawVars_l (c : List Int) (hc : c.length ≤ 1048576) (k : Nat) (p s : Int) (h0 : 0 ≤ p) (hk : 9 < k) : ∃ (v : List Int) (p' s' : Int), spec_l03Vars.f k c p s = some (v, p', s') ∧ okV v = true := by
  have key : ∀ d i k (g : List Int) (p s : Int), 8 - i = d → i ≤ 8 → d < k → 0 ≤ p → g.length = i → (∀ j, j < i → -1000000 ≤ g.getD j 0 ∧ g.getD j 0 ≤ 1000000) → ∃ (r : List Int) (p' s' : Int), spec_l03Vars.l0 k g (i : Int) c p s = some (r, p', s') ∧ r.length = 8 ∧ ∀ j, j < 8 → -1000000 ≤ r.getD j 0 ∧ r.getD j 0 ≤ 1000000 := by
    intro d
    induction d with
    | zero =>
      intro i k g p s h1 h2 h3 h4 h5 h6
      obtain ⟨q, rfl⟩ : ∃ q, k = q + 1 := ⟨k - 1, by omega⟩
      simp only [spec_l03Vars.l0]
      rw [if_neg (by omega)]
      exact ⟨g, _, _, rfl, by omega, fun j hj => h6 j (by omega)⟩
    | succ d ih =>
      intro i k g p s h1 h2 h3 h4 h5 h6
      obtain ⟨q, rfl⟩ : ∃ q, k = q + 1 := ⟨k - 1, by omega⟩
      obtain ⟨v, p', s', e, a1, a2, a3⟩ := drawBelow_f c hc p s h4 2000 (by decide)
      have hw : wrap64 (v - 1000) = v - 1000 := wrap_in (by omega) (by omega)
      obtain ⟨n, p2, s2, hn, e2, b3⟩ := drawPick_g c hc p' s' a3 [0, 1, 2, 5, wrap64 (v - 1000), 1000000] (show 0 < 6 from by decide)
      simp only [spec_l03Vars.l0, e, e2, Option.bind_some]
      rw [if_pos (by omega), if_pos (by omega), wrap_next (n := 8) (by omega) (by omega)]
      have hb : -1000000 ≤ ([0, 1, 2, 5, wrap64 (v - 1000), 1000000] : List Int).getD n 0 ∧ ([0, 1, 2, 5, wrap64 (v - 1000), 1000000] : List Int).getD n 0 ≤ 1000000 := by
        rw [hw]
        have hn6 : n < 6 := hn
        have : n = 0 ∨ n = 1 ∨ n = 2 ∨ n = 3 ∨ n = 4 ∨ n = 5 := by omega
        rcases this with rfl | rfl | rfl | rfl | rfl | rfl <;> simp only [List.getD_cons_zero, List.getD_cons_succ] <;> omega
      generalize ([0, 1, 2, 5, wrap64 (v - 1000), 1000000] : List Int).getD n 0 = x at hb
      refine ih (i + 1) q _ _ _ (by omega) (by omega) (by omega) b3 (by simp [h5]) (fun j hj => ?_)
      rcases Nat.lt_succ_iff_lt_or_eq.1 hj with h | h
      · rw [getD_left _ _ _ (by omega)]
        exact h6 j h
      · rw [h, ← h5, getD_end]
        exact hb
  obtain ⟨r, p', s', e, h1, h2⟩ := key 8 0 k [] p s rfl (by omega) (by omega) h0 rfl (fun j hj => absurd hj (Nat.not_lt_zero j))
  refine ⟨r, p', s', e, ?_⟩
  unfold okV
  rw [endsAt_last, Bool.and_eq_true, endsAt_true, beq_iff_eq]
  refine ⟨fun j _ hj => ?_, by omega⟩
  have := h2 j (by omega)
  simp only [inB, Bool.and_eq_true, decide_eq_true_eq]
  omega
theorem drawVars_f (c : List Int) (hc : c.length ≤ 1048576) (k : Nat) (hk : c.length + 9 < k) : ∃ v : List Int, spec_DrawVars.f k c = some v ∧ okV v = true := by
  obtain ⟨s, hs⟩ := drawNew_f c hc k (by omega)
  obtain ⟨v, p', s', e, h⟩ := drawVars_l c hc k 0 s (Int.le_refl _) (by omega)
  simp only [spec_DrawVars.f, hs, e, Option.bind_some]
  exact ⟨v, rfl, h⟩
theorem drawOperand_f (c : List Int) (hc : c.length ≤ 1048576) (p s : Int) (h0 : 0 ≤ p) : ∃ v p' s', spec_l03Operand.f c p s = some (v, p', s') ∧ inB v (-8) 999 = true ∧ 0 ≤ p' := by
  obtain ⟨v, p', s', e, a1, a2, a3⟩ := drawBelow_f c hc p s h0 2 (by decide)
  obtain ⟨v2, p2, s2, e2, b1, b2, b3⟩ := drawBelow_f c hc p' s' a3 5 (by decide)
  obtain ⟨n, p3, s3, hn, e3, c3⟩ := drawPick_g c hc p' s' a3 [0, 1, 2, 3, 10, 999] (by decide)
  simp only [spec_l03Operand.f, spec_l01Once.f, e, e2, e3, Option.bind_some]
  by_cases h : (v == 0) = true
  · rw [if_pos h, wrap_in (x := -1 - v2) (by omega) (by omega)]
    refine ⟨_, _, _, rfl, ?_, b3⟩
    simp only [inB, Bool.and_eq_true, decide_eq_true_eq]
    omega
  · rw [if_neg h]
    refine ⟨_, _, _, rfl, ?_, c3⟩
    have hn6 : n < 6 := hn
    have : n = 0 ∨ n = 1 ∨ n = 2 ∨ n = 3 ∨ n = 4 ∨ n = 5 := by omega
    rcases this with rfl | rfl | rfl | rfl | rfl | rfl <;> decide
theorem drawExpr_f (c : List Int) (hc : c.length ≤ 1048576) (p s : Int) (h0 : 0 ≤ p) : ∃ x y z p' s', spec_l03Expr.f c p s = some (x, y, z, p', s') ∧ okX x y z = true ∧ 0 ≤ p' := by
  obtain ⟨v, p', s', e, a1, a2, a3⟩ := drawBelow_f c hc p s h0 7 (by decide)
  obtain ⟨y, p2, s2, e2, b1, b2⟩ := drawOperand_f c hc p' s' a3
  obtain ⟨z, p3, s3, e3, c1, c2⟩ := drawOperand_f c hc p2 s2 b2
  simp only [spec_l03Expr.f, e, e2, e3, Option.bind_some]
  rw [wrap_in (x := 1 + v) (by omega) (by omega)]
  refine ⟨_, _, _, _, _, rfl, ?_, c2⟩
  unfold okX
  rw [b1, c1]
  simp only [inB, Bool.and_eq_true, decide_eq_true_eq, Bool.and_true, Bool.and_self]
  omega
theorem drawRules_l (c : List Int) (hc : c.length ≤ 1048576) (k : Nat) (p s : Int) (h0 : 0 ≤ p) (hk : 14 < k) : ∃ (R : List S58) (p' s' : Int), spec_l36Rules.f k c p s = some (R, p', s') ∧ okR R = true := by
  have key : ∀ (d i k : Nat) (g : List S58) (p s : Int), 4 - i = d → i ≤ 3 → d < k → 0 ≤ p → g.length = 8 → (∀ j, j < 8 → okX (g.getD j z58).f0 (g.getD j z58).f1 (g.getD j z58).f2 = true) →
      ∃ (r : List S58) (p' s' : Int), spec_l36Rules.l0 k (i : Int) c p s g = some (r, p', s') ∧ r.length = 8 ∧ ∀ j, j < 8 → okX (r.getD j z58).f0 (r.getD j z58).f1 (r.getD j z58).f2 = true := by
    intro d
    induction d with
    | zero =>
      intro i k g p s h1 h2 h3 h4 h5 h6
      omega
    | succ d ih =>
      intro i k g p s h1 h2 h3 h4 h5 h6
      obtain ⟨q, rfl⟩ : ∃ q, k = q + 1 := ⟨k - 1, by omega⟩
      obtain ⟨v, p', s', e, a1, a2, a3⟩ := drawBelow_f c hc p s h4 4 (by decide)
      obtain ⟨v2, p2, s2, e2, b1, b2, b3⟩ := drawBelow_f c hc p' s' a3 8 (by decide)
      obtain ⟨x, y, z, p3, s3, e3, c1, c2⟩ := drawExpr_f c hc p2 s2 b3
      simp only [spec_l36Rules.l0, e, e2, e3, Option.bind_some]
      by_cases h : (i : Int) < v
      · rw [if_pos h, if_pos (by omega), if_pos (by omega), wrap_next (n := 12) (by omega) (by omega)]
        refine ih (i + 1) q _ _ _ (by omega) (by omega) (by omega) c2 (by simp [h5]) (fun j hj => ?_)
        rw [getD_put _ _ _ _ _ (by omega)]
        split
        · exact c1
        · exact h6 j hj
      · rw [if_neg h]
        exact ⟨g, _, _, rfl, h5, h6⟩
  obtain ⟨q, rfl⟩ : ∃ q, k = q + 9 := ⟨k - 9, by omega⟩
  simp only [spec_l36Rules.f, specId_f q, Option.bind_some]
  obtain ⟨r, p', s', e, h1, h2⟩ := key 4 0 (q + 9) idR p s rfl (by omega) (by omega) h0 rfl (okR_at okR_id).2
  refine ⟨r, p', s', e, ?_⟩
  unfold okR
  rw [endsAt_last, Bool.and_eq_true, endsAt_true, beq_iff_eq]
  exact ⟨fun j _ hj => h2 j (by omega), by omega⟩
theorem drawRules_f (c : List Int) (hc : c.length ≤ 1048576) (k : Nat) (hk : c.length + 14 < k) : ∃ R : List S58, spec_DrawRules.f k c = some R ∧ okR R = true := by
  obtain ⟨s, hs⟩ := drawNew_f c hc k (by omega)
  obtain ⟨v, p', s', e, h⟩ := drawRules_l c hc k 0 s (Int.le_refl _) (by omega)
  simp only [spec_DrawRules.f, hs, e, Option.bind_some]
  exact ⟨v, rfl, h⟩
theorem okV_at {v : List Int} (h : okV v = true) : ∀ i, i < 8 → -1000000 ≤ v.getD i 0 ∧ v.getD i 0 ≤ 1000000 := fun i hi => by
  have h8 := okV_len h
  unfold okV at h
  rw [endsAt_last, Bool.and_eq_true, endsAt_true] at h
  have := h.1 i (Nat.zero_le _) (by omega)
  simp only [inB, Bool.and_eq_true, decide_eq_true_eq] at this
  omega
theorem sat_in (x : Int) : -1000000 ≤ sat x ∧ sat x ≤ 1000000 := by
  unfold sat
  split
  · omega
  · split <;> omega
theorem sat_id {x : Int} (h : -1000000 ≤ x ∧ x ≤ 1000000) : sat x = x := by
  unfold sat
  rw [if_neg (by omega), if_neg (by omega)]
theorem opv_in {v : List Int} (h : okV v = true) {a : Int} (ha : inB a (-8) 999 = true) : -1000000 ≤ opv v a ∧ opv v a ≤ 1000000 := by
  simp only [inB, Bool.and_eq_true, decide_eq_true_eq] at ha
  unfold opv
  by_cases h1 : a < 0
  · obtain ⟨n, hn⟩ : ∃ n : Nat, -1 - a = (n : Int) := ⟨(-1 - a).toNat, by omega⟩
    rw [if_pos h1, wrap_in (x := -1 - a) (by omega) (by omega), hn, rd_nat]
    exact okV_at h n (by omega)
  · rw [if_neg h1]
    omega
theorem ev_in {v : List Int} (h : okV v = true) {a b c : Int} (hx : okX a b c = true) : -1000000 ≤ ev v a b c ∧ ev v a b c ≤ 1000000 := by
  obtain ⟨hb, hc⟩ := ops_ok hx
  have h1 := opv_in h hb
  have h2 := opv_in h hc
  have m1 : mn (opv v b) (opv v c) = if opv v c < opv v b then opv v c else opv v b := rfl
  have m2 : mx (opv v b) (opv v c) = if opv v b < opv v c then opv v c else opv v b := rfl
  unfold ev
  rw [m1, m2]
  repeat' split
  all_goals first | exact sat_in _ | omega
theorem mig_at (v : List Int) (R : List S58) {i n : Nat} (h : i < n) : (mig v R n).getD i 0 = ev v (R.getD i z58).f0 (R.getD i z58).f1 (R.getD i z58).f2 := by
  unfold mig
  rw [List.getD_eq_getElem?_getD, List.getElem?_map, List.getElem?_range h]
  rfl
theorem okV_mig {v : List Int} {R : List S58} (h : okV v = true) (hR : okR R = true) : okV (mig v R 8) = true := by
  have h8 := mig_length v R 8
  have hr := (okR_at hR).2
  unfold okV
  rw [endsAt_last, Bool.and_eq_true, endsAt_true, beq_iff_eq]
  refine ⟨fun j _ hj => ?_, by omega⟩
  rw [mig_at v R (show j < 8 by omega)]
  have := ev_in h (hr j (by omega))
  simp only [inB, Bool.and_eq_true, decide_eq_true_eq]
  omega
/-- The identity keeps what it is given. -/
theorem mig_id {v : List Int} (h : okV v = true) : mig v idR 8 = v := by
  have h8 := okV_len h
  refine ext_getD _ _ (by rw [mig_length, h8]) (fun i hi => ?_)
  rw [mig_length] at hi
  rw [mig_at v idR hi]
  have hb := okV_at h i hi
  have he : ∀ a : Int, a = -1 - (i : Int) → ev v 1 a 0 = v.getD i 0 := fun a ha => by
    have o1 : opv v a = v.getD i 0 := by
      unfold opv
      rw [if_pos (by omega), ha, wrap_in (by omega) (by omega), show (-1 - (-1 - (i : Int))) = (i : Int) from by omega, rd_nat]
    have o2 : opv v 0 = 0 := rfl
    unfold ev
    rw [if_pos rfl, o1, o2, sat_id hb, show sat 0 = 0 from rfl, Int.add_zero, wrap_in (by omega) (by omega), sat_id hb]
  have : i = 0 ∨ i = 1 ∨ i = 2 ∨ i = 3 ∨ i = 4 ∨ i = 5 ∨ i = 6 ∨ i = 7 := by omega
  rcases this with rfl | rfl | rfl | rfl | rfl | rfl | rfl | rfl <;> exact he _ rfl
theorem migrate_ok {v : List Int} {R : List S58} (h : okV v = true) (hR : okR R = true) : migrate v R = (mig v R 8, true) := by
  unfold migrate
  rw [if_pos ⟨h, hR⟩]
theorem FnMigrates : laws_FnMigrates.Pure := by
  intro c hC
  by_cases hb : (c.length : Int) > 1048576
  · refine ⟨0, ?_⟩
    simp only [laws_FnMigrates.f, laws_big.f, hb, decide_true, Option.bind_some, ↓reduceIte]
  obtain ⟨k, hk⟩ : ∃ k, k = c.length + 60 := ⟨_, rfl⟩
  obtain ⟨v, e1, hv⟩ := drawVars_f c (by omega) (k + 9) (by omega)
  obtain ⟨R, e2, hR⟩ := drawRules_f c (by omega) (k + 9) (by omega)
  obtain ⟨p, e3, hp, hp2⟩ := drawPlaces_f c (by omega) (k + 9) (by omega)
  have e4 := implId_f k
  have hv8 := okV_len hv
  have hR8 := okR_at hR
  have hg8 := mig_length v R 8
  have hgv := okV_mig hv hR
  have e5 := implMigrate_f v idR (by omega) (by decide) (k + 9) (by have : idR.length = 8 := rfl; omega)
  have e6 := implMigrate_f v R (by omega) (by omega) (k + 9) (by omega)
  have e7 := implMigrate_f (mig v R 8) idR (by omega) (by decide) (k + 9) (by have : idR.length = 8 := rfl; omega)
  rw [migrate_ok hv okR_id, mig_id hv] at e5
  rw [migrate_ok hv hR] at e6
  rw [migrate_ok hgv okR_id, mig_id hgv] at e7
  have e8 := same_f v (by omega) (k + 9) (by omega)
  have e9 := same_f (mig v R 8) (by omega) (k + 9) (by omega)
  have e10 := implRules_f R (by omega) (k + 9) (by omega)
  have h0 := hp2 0 (by omega)
  have r0 : rd p 0 = p.getD 0 0 := rfl
  obtain ⟨n, hn⟩ : ∃ n : Nat, p.getD 0 0 = (n : Int) := ⟨(p.getD 0 0).toNat, by omega⟩
  have ht : Int.tmod (rd p 0) 8 = ((n % 8 : Nat) : Int) := by
    rw [r0, hn]
    exact Int.ofNat_tmod n 8
  have hn8 : n % 8 < 8 := Nat.mod_lt _ (by omega)
  generalize n % 8 = i at ht hn8
  have e11 := implEval_f v _ _ _ hv (hR8.2 i hn8) (k + 9) (by omega)
  have r1 : rd_T58 R ((i : Nat) : Int) = R.getD i z58 := rfl
  have r2 : rd (mig v R 8) (i : Int) = ev v (R.getD i z58).f0 (R.getD i z58).f1 (R.getD i z58).f2 := by
    rw [rd_nat, mig_at v R hn8]
  refine ⟨k + 9, ?_⟩
  simp only [laws_FnMigrates.f, laws_big.f, impl_ThenRules.f, hb, decide_false, e1, e2, e3, e4, e5, e6, e7, e8, e9, e10, hR, ht, r1, r2, e11, Option.bind_some, Bool.false_eq_true, ↓reduceIte]
  rw [if_pos (by omega), if_pos (by omega), if_pos (by omega), if_pos (by omega), if_pos (by omega)]

end Go.Proofs.Ytkjlpledjnidfaa.Pure
