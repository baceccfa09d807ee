/- The law FnFinished in plain lists: no job is finished before its release, and the finished jobs need no more work than there was. Conditions: none beside those of the row. -/
import Derived.Test.YtniiebpibdkgjaaHelpFnFinished
namespace Go.Proofs.Ytniiebpibdkgjaa.Pure
open Go.RowKit Go.Proofs.Ytniiebpibdkgjaa.PFnFinished Go.Proofs.Ytniiebpibdkgjaa.XPure Go.Proofs.Ytniiebpibdkgjaa.PureFnFinished Go.Proofs.YtniiebpibdkgjaaW.PrintWords Go.Proofs.YtniiebpibdkgjaaW.PrintLast Go.Proofs.YtniiebpibdkgjaaW.PrintMore
set_option linter.unusedSimpArgs false
set_option linter.unusedVariables false

/-- With enough rounds, and with any more, it ends so. -/
def Ev {ρ : Type} (f : Nat → Option ρ) (r : ρ) : Prop := ∃ k0, ∀ k, k0 ≤ k → f k = some r
theorem Ev.step {ρ : Type} {f g : Nat → Option ρ} {r : ρ} (k0 : Nat) (c : ∀ k, k0 ≤ k → f (k + 1) = g k) (h : Ev g r) : Ev f r := by
  obtain ⟨k1, h⟩ := h
  refine ⟨k0 + k1 + 1, fun k hk => ?_⟩
  obtain ⟨q, rfl⟩ : ∃ q, k = q + 1 := ⟨k - 1, by omega⟩
  rw [c q (by omega)]
  exact h q (by omega)
theorem Ev.last {ρ : Type} {f : Nat → Option ρ} {r : ρ} (k0 : Nat) (c : ∀ k, k0 ≤ k → f (k + 1) = some r) : Ev f r := by
  refine ⟨k0 + 1, fun k hk => ?_⟩
  obtain ⟨q, rfl⟩ : ∃ q, k = q + 1 := ⟨k - 1, by omega⟩
  exact c q (by omega)
def rel (l : List S43) (i : Nat) : Int := (l.getD i z43).f0
def dead (l : List S43) (i : Nat) : Int := (l.getD i z43).f1
def todo (l : List S43) (i : Nat) : Int := (l.getD i z43).f2
/-- The most urgent of the first i jobs in tick t. -/
def nxt (l : List S43) (left : List Int) (t : Int) : Nat → Int
  | 0 => -1
  | i + 1 => if left.getD i 0 > 0 ∧ rel l i ≤ t ∧ (nxt l left t i < 0 ∨ dead l i < dead l (nxt l left t i).toNat) then (i : Int) else nxt l left t i
theorem nxt_in (l : List S43) (left : List Int) (t : Int) : ∀ i, -1 ≤ nxt l left t i ∧ nxt l left t i < (i : Int)
  | 0 => ⟨Int.le_refl _, show (-1 : Int) < 0 from by decide⟩
  | i + 1 => by
    have := nxt_in l left t i
    unfold nxt
    split <;> omega
theorem nxt_left (l : List S43) (left : List Int) (t : Int) : ∀ i, 0 ≤ nxt l left t i → left.getD (nxt l left t i).toNat 0 > 0
  | 0 => fun h => absurd h (show ¬ (0 : Int) ≤ -1 from by decide)
  | i + 1 => by
    have := nxt_left l left t i
    unfold nxt
    split
    · rename_i h
      intro _
      exact h.1
    · exact this
/-- One unit of work in tick t. -/
def unit (l : List S43) (t : Int) (s : List Int × List Int) : List Int × List Int :=
  if nxt l s.2 t l.length < 0 then s
  else
    (if (s.2.getD (nxt l s.2 t l.length).toNat 0) - 1 = 0 then s.1.set (nxt l s.2 t l.length).toNat t else s.1,
     s.2.set (nxt l s.2 t l.length).toNat (s.2.getD (nxt l s.2 t l.length).toNat 0 - 1))
def units (l : List S43) (t : Int) (s : List Int × List Int) : Nat → List Int × List Int
  | 0 => s
  | n + 1 => unit l t (units l t s n)
def ticks (l : List S43) (w : List Int) (s : List Int × List Int) : Nat → List Int × List Int
  | 0 => s
  | t + 1 => units l (t : Int) (ticks l w s t) (w.getD t 0).toNat
/-- What holds of a state. -/
def Fine (l : List S43) (s : List Int × List Int) : Prop := s.1.length = l.length ∧ s.2.length = l.length ∧ ∀ i, 0 ≤ s.2.getD i 0 ∧ s.2.getD i 0 ≤ 100
theorem getD_set (l : List Int) (i j : Nat) (x : Int) (hi : i < l.length) : (l.set i x).getD j 0 = if i = j then x else l.getD j 0 := by
  rw [List.getD_eq_getElem?_getD, List.getElem?_set]
  by_cases h : i = j
  · rw [if_pos h, if_pos h, if_pos hi]
    rfl
  · rw [if_neg h, if_neg h, ← List.getD_eq_getElem?_getD]
theorem unit_fine {l : List S43} {t : Int} {s : List Int × List Int} (h : Fine l s) : Fine l (unit l t s) := by
  obtain ⟨h1, h2, h3⟩ := h
  unfold unit
  split
  · exact ⟨h1, h2, h3⟩
  · rename_i hn
    have hb := nxt_in l s.2 t l.length
    have hl := nxt_left l s.2 t l.length (by omega)
    refine ⟨?_, by simp [h2], fun i => ?_⟩
    · dsimp only
      split
      · simp [h1]
      · exact h1
    · dsimp only
      rw [getD_set _ _ _ _ (by omega)]
      have := h3 (nxt l s.2 t l.length).toNat
      split
      · omega
      · exact h3 i
theorem units_fine {l : List S43} {t : Int} {s : List Int × List Int} (h : Fine l s) : ∀ n, Fine l (units l t s n)
  | 0 => h
  | n + 1 => unit_fine (units_fine h n)
theorem ticks_fine {l : List S43} {w : List Int} {s : List Int × List Int} (h : Fine l s) : ∀ n, Fine l (ticks l w s n)
  | 0 => h
  | n + 1 => units_fine (ticks_fine h n) _
theorem units_stop {l : List S43} {t : Int} {s : List Int × List Int} {n : Nat} (h : nxt l (units l t s n).2 t l.length < 0) : ∀ d, units l t s (n + d) = units l t s n
  | 0 => rfl
  | d + 1 => by
    show unit l t (units l t s (n + d)) = _
    rw [units_stop h d]
    unfold unit
    rw [if_pos h]
theorem urgent_f (l : List S43) (left : List Int) (hl : left.length = l.length) (h8 : l.length ≤ 1048576) (t : Int) (k : Nat) (hk : l.length < k) : impl_urgent.f k l left t = some (nxt l left t l.length) := by
  unfold impl_urgent.f
  refine loop_up l.length (fun k (s : Int × Int) => impl_urgent.l0 k l left t s.1 l (l.length : Int) s.2) (fun i => (nxt l left t i, (i : Int))) _ (fun k i hi => ?_) (fun k => ?_) k hk
  · have hb := nxt_in l left t i
    have r0 : (rd_T43 l (i : Int)).f0 = rel l i := rfl
    have r1 : (rd_T43 l (i : Int)).f1 = dead l i := rfl
    have r2 : rd left (i : Int) = left.getD i 0 := rfl
    have r3 : (rd_T43 l (nxt l left t i)).f1 = dead l (nxt l left t i).toNat := rfl
    simp only [impl_urgent.l0, r0, r1, r3]
    rw [if_pos (by omega), if_pos (by omega), if_pos (by omega), if_pos (by omega), wrap_next hi (by omega)]
    conv => rhs; simp only [nxt]
    generalize nxt l left t i = b at hb
    rw [r2]
    by_cases h1 : left.getD i 0 > 0
    · rw [if_pos h1]
      by_cases h2 : rel l i ≤ t
      · rw [if_pos h2]
        by_cases h3 : b < 0
        · rw [if_pos h3, if_pos (c := left.getD i 0 > 0 ∧ rel l i ≤ t ∧ (b < 0 ∨ dead l i < dead l b.toNat)) ⟨h1, h2, Or.inl h3⟩]
        · rw [if_neg h3, if_pos (by omega), if_pos (by omega)]
          by_cases h4 : dead l i < dead l b.toNat
          · rw [if_pos h4, if_pos (c := left.getD i 0 > 0 ∧ rel l i ≤ t ∧ (b < 0 ∨ dead l i < dead l b.toNat)) ⟨h1, h2, Or.inr h4⟩]
          · rw [if_neg h4, if_neg (c := left.getD i 0 > 0 ∧ rel l i ≤ t ∧ (b < 0 ∨ dead l i < dead l b.toNat)) (fun h => h.2.2.elim h3 h4)]
      · rw [if_neg h2, if_neg (c := left.getD i 0 > 0 ∧ rel l i ≤ t ∧ (b < 0 ∨ dead l i < dead l b.toNat)) (fun h => h2 h.2.1)]
    · rw [if_neg h1, if_neg (c := left.getD i 0 > 0 ∧ rel l i ≤ t ∧ (b < 0 ∨ dead l i < dead l b.toNat)) (fun h => h1 h.1)]
  · simp only [impl_urgent.l0]
    rw [if_neg (by omega)]
/-- One round of the program's inner loop. -/
theorem implUnit (l : List S43) (w : List Int) (s : List Int × List Int) (h : Fine l s) (h8 : l.length ≤ 1048576) (t : Nat) (n m : Int) (hm : m ≤ 50) (hn0 : 0 ≤ n) (hnm : n < m) (k : Nat) (hk : l.length < k) :
    impl_FinishTicks.l2 (k + 1) l s.1 s.2 (t : Int) w (w.length : Int) (t : Int) m n = (if nxt l s.2 (t : Int) l.length < 0 then impl_FinishTicks.l1 k l s.1 s.2 w (w.length : Int) (wrap64 ((t : Int) + 1)) else impl_FinishTicks.l2 k l (unit l (t : Int) s).1 (unit l (t : Int) s).2 (t : Int) w (w.length : Int) (t : Int) m (n + 1)) := by
  obtain ⟨h1, h2, h3⟩ := h
  have hb := nxt_in l s.2 (t : Int) l.length
  simp only [impl_FinishTicks.l2, urgent_f l s.2 h2 h8 (t : Int) k hk, Option.bind_some]
  rw [if_pos hnm, wrap_in (x := n + 1) (by omega) (by omega)]
  by_cases hn : nxt l s.2 (t : Int) l.length < 0
  · rw [if_pos hn, if_pos hn]
  · rw [if_neg hn, if_neg hn]
    have hu : unit l (t : Int) s = (if (s.2.getD (nxt l s.2 (t : Int) l.length).toNat 0) - 1 = 0 then s.1.set (nxt l s.2 (t : Int) l.length).toNat (t : Int) else s.1, s.2.set (nxt l s.2 (t : Int) l.length).toNat (s.2.getD (nxt l s.2 (t : Int) l.length).toNat 0 - 1)) := by
      unfold unit
      rw [if_neg hn]
    rw [hu]
    generalize hN : nxt l s.2 (t : Int) l.length = N at hb hn
    obtain ⟨j, rfl⟩ : ∃ j : Nat, N = (j : Int) := ⟨N.toNat, by omega⟩
    have h4 := h3 j
    have r1 : rd s.2 (j : Int) = s.2.getD j 0 := rfl
    rw [r1, wrap_in (x := s.2.getD j 0 - 1) (by omega) (by omega), Int.toNat_natCast, if_pos (by omega), if_pos (by omega)]
    have r2 : rd (s.2.set j (s.2.getD j 0 - 1)) (j : Int) = s.2.getD j 0 - 1 := by
      rw [rd_nat, getD_set _ _ _ _ (by omega), if_pos rfl]
    rw [r2]
    dsimp only
    by_cases h5 : s.2.getD j 0 - 1 = 0
    · rw [if_pos h5, if_pos (by omega), if_pos h5]
    · rw [if_neg h5, if_neg h5]
theorem implInner (l : List S43) (w : List Int) (s : List Int × List Int) (h : Fine l s) (h8 : l.length ≤ 1048576) (t m : Nat) (ht : t < w.length) (hw : w.length ≤ 1048576) (hm : m ≤ 50) (r : List Int)
    (hr : Ev (fun k => impl_FinishTicks.l1 k l (units l (t : Int) s m).1 (units l (t : Int) s m).2 w (w.length : Int) ((t + 1 : Nat) : Int)) r) :
    ∀ d n, n + d = m → Ev (fun k => impl_FinishTicks.l2 k l (units l (t : Int) s n).1 (units l (t : Int) s n).2 (t : Int) w (w.length : Int) (t : Int) (m : Int) (n : Int)) r := by
  intro d
  induction d with
  | zero =>
    intro n hn
    have : n = m := by omega
    subst this
    refine Ev.step 0 (fun k _ => ?_) hr
    simp only [impl_FinishTicks.l2]
    rw [if_neg (by omega), wrap_next ht (by omega)]
  | succ d ih =>
    intro n hn
    have hf := units_fine (t := (t : Int)) h n
    by_cases hx : nxt l (units l (t : Int) s n).2 (t : Int) l.length < 0
    · have hs := units_stop hx (d + 1)
      rw [show n + (d + 1) = m from hn] at hs
      rw [hs] at hr
      refine Ev.step (l.length + 1) (fun k hk => ?_) hr
      rw [implUnit l w _ hf h8 t (n : Int) (m : Int) (by omega) (by omega) (by omega) k (by omega), if_pos hx, wrap_next ht (by omega)]
    · refine Ev.step (l.length + 1) (fun k hk => ?_) (ih (n + 1) (by omega))
      rw [implUnit l w _ hf h8 t (n : Int) (m : Int) (by omega) (by omega) (by omega) k (by omega), if_neg hx]
      rfl
theorem implOuter (l : List S43) (w : List Int) (s : List Int × List Int) (h : Fine l s) (h8 : l.length ≤ 1048576) (hw : w.length ≤ 1048576) (hws : ∀ i, i < w.length → 0 ≤ w.getD i 0 ∧ w.getD i 0 ≤ 50) :
    ∀ d t, t + d = w.length → Ev (fun k => impl_FinishTicks.l1 k l (ticks l w s t).1 (ticks l w s t).2 w (w.length : Int) (t : Int)) (ticks l w s w.length).1 := by
  intro d
  induction d with
  | zero =>
    intro t ht
    have : t = w.length := by omega
    subst this
    refine Ev.last 0 (fun k _ => ?_)
    simp only [impl_FinishTicks.l1]
    rw [if_neg (by omega)]
  | succ d ih =>
    intro t ht
    have hb := hws t (by omega)
    have hi := implInner l w (ticks l w s t) (ticks_fine h t) h8 t (w.getD t 0).toNat (by omega) hw (by omega) _ (ih (t + 1) (by omega)) (w.getD t 0).toNat 0 (by omega)
    refine Ev.step 0 (fun k _ => ?_) hi
    simp only [impl_FinishTicks.l1]
    have r1 : rd w (t : Int) = w.getD t 0 := rfl
    rw [if_pos (by omega), if_pos (by omega), if_pos (by omega), r1, Int.toNat_of_nonneg hb.1]
    rfl
def outs (i : Nat) : List Int := List.replicate i (-1)
def lefts (l : List S43) (i : Nat) : List Int := (List.range i).map (todo l)
theorem outs_next (i : Nat) : outs i ++ [-1] = outs (i + 1) := (List.replicate_succ' ..).symm
theorem lefts_next (l : List S43) (i : Nat) : lefts l i ++ [todo l i] = lefts l (i + 1) := by
  unfold lefts
  rw [List.range_succ, List.map_append]
  rfl
theorem outs_length (i : Nat) : (outs i).length = i := List.length_replicate ..
theorem lefts_length (l : List S43) (i : Nat) : (lefts l i).length = i := by simp [lefts]
theorem implInit (l : List S43) (w : List Int) (h8 : l.length ≤ 1048576) (r : List Int) (hr : Ev (fun k => impl_FinishTicks.l1 k l (outs l.length) (lefts l l.length) w (w.length : Int) 0) r) :
    ∀ d i, i + d = l.length → Ev (fun k => impl_FinishTicks.l0 k l w (outs i) (lefts l i) l (l.length : Int) (i : Int)) r := by
  intro d
  induction d with
  | zero =>
    intro i hi
    have : i = l.length := by omega
    subst this
    refine Ev.step 0 (fun k _ => ?_) hr
    simp only [impl_FinishTicks.l0]
    rw [if_neg (by omega)]
  | succ d ih =>
    intro i hi
    refine Ev.step 0 (fun k _ => ?_) (ih (i + 1) (by omega))
    have o1 := outs_length i
    have o2 := lefts_length l i
    have r1 : (rd_T43 l (i : Int)).f2 = todo l i := rfl
    simp only [impl_FinishTicks.l0, r1, Option.bind_some, outs_next, lefts_next, List.length_cons, List.length_nil]
    rw [if_pos (by omega), if_pos (by omega), if_pos (by omega), if_pos (by omega), if_pos (by omega), wrap_next (n := l.length) (by omega) (by omega)]
def okW (w : List Int) : Bool := endsAt (fun i => inB (w.getD i 0) 0 50) (fun _ => false) true w.length 0
theorem implWork_f (w : List Int) (hw : w.length ≤ 1048576) (k : Nat) (hk : w.length < k) : slices_ContainsFunc_int_int_at_impl_FinishTicks_1.f k w = some (!okW w) := by
  have h : slices_IndexFunc_int_int_at_impl_FinishTicks_1.f k w = some (endsAt (fun i => inB (w.getD i 0) 0 50) (fun i => (i : Int)) (-1) w.length 0) := by
    unfold slices_IndexFunc_int_int_at_impl_FinishTicks_1.f
    refine loop_ends w.length (fun k (s : Int) => slices_IndexFunc_int_int_at_impl_FinishTicks_1.l0 k w (w.length : Int) s) (fun i => (i : Int)) _ _ _ (fun k i hi hc => ?_) (fun k i hi hc => ?_) (fun k => ?_) k hk
    · simp only [slices_IndexFunc_int_int_at_impl_FinishTicks_1.l0, rd_nat, impl_FinishTicks_1.f, within_f, hc, Option.bind_some, Bool.not_true, Bool.false_eq_true, ↓reduceIte]
      rw [if_pos (by omega), if_pos (by omega), if_pos (by omega), wrap_next hi (by omega)]
    · simp only [slices_IndexFunc_int_int_at_impl_FinishTicks_1.l0, rd_nat, impl_FinishTicks_1.f, within_f, hc, Option.bind_some, Bool.not_false, ↓reduceIte]
      rw [if_pos (by omega), if_pos (by omega), if_pos (by omega)]
    · simp only [slices_IndexFunc_int_int_at_impl_FinishTicks_1.l0]
      rw [if_neg (by omega)]
  simp only [slices_ContainsFunc_int_int_at_impl_FinishTicks_1.f, h, Option.bind_some, endsAt_place]
  rfl
def okJ (l : List S43) : Bool := endsAt (fun i => okJobs (l.getD i z43)) (fun _ => false) (decide ((l.length : Int) ≤ 8)) l.length 0
theorem fine_init {l : List S43} (h : okJ l = true) : Fine l (outs l.length, lefts l l.length) := by
  unfold okJ at h
  rw [endsAt_last, Bool.and_eq_true, endsAt_true] at h
  refine ⟨outs_length _, lefts_length _ _, fun i => ?_⟩
  unfold lefts
  by_cases hi : i < l.length
  · have h2 := h.1 i (Nat.zero_le _) (by omega)
    simp only [okJobs, inB, Bool.and_eq_true, decide_eq_true_eq] at h2
    dsimp only
    rw [range_get _ _ _ hi]
    unfold todo
    omega
  · dsimp only
    rw [List.getD_eq_getElem?_getD, List.getElem?_eq_none (by simp; omega)]
    exact ⟨Int.le_refl _, by decide⟩
theorem implTicks (l : List S43) (w : List Int) (h1 : okJ l = true) (h2 : okW w = true) (h3 : w.length ≤ 500) : Ev (fun k => impl_FinishTicks.f k l w) (ticks l w (outs l.length, lefts l l.length) w.length).1 := by
  have hl : l.length ≤ 8 := by
    unfold okJ at h1
    rw [endsAt_last, Bool.and_eq_true, decide_eq_true_eq] at h1
    omega
  have f2 : ∀ k, l.length < k → impl_JobsOk.f k l = some (okJ l) := fun k hk => implJobs_f l (by omega) k hk
  have f4 := implWork_f w (by omega)
  have hf := fine_init h1
  have hws : ∀ i, i < w.length → 0 ≤ w.getD i 0 ∧ w.getD i 0 ≤ 50 := fun i hi => by
    have := (endsAt_true _ _).1 h2 i (Nat.zero_le _) (by omega)
    simp only [inB, Bool.and_eq_true, decide_eq_true_eq] at this
    exact this
  obtain ⟨k0, hk0⟩ := implInit l w (by omega) _ (implOuter l w _ hf (by omega) (by omega) hws w.length 0 (by omega)) l.length 0 (by omega)
  refine ⟨k0 + l.length + w.length + 2, fun k hk => ?_⟩
  obtain ⟨q, rfl⟩ : ∃ q, k = q + 1 := ⟨k - 1, by omega⟩
  simp only [impl_FinishTicks.f, f2 (q + 1) (by omega), f4 (q + 1) (by omega), h1, h2, show ¬ (w.length : Int) > 500 from by omega, Bool.not_true, Option.bind_some, ↓reduceIte, impl_FinishTicks.j0, Bool.false_eq_true]
  exact hk0 q (by omega)
theorem getD_left {α : Type} (g : List α) (x z : α) {i : Nat} (h : i < g.length) : (g ++ [x]).getD i z = g.getD i z := by
  rw [List.getD_eq_getElem?_getD, List.getElem?_append_left h, ← List.getD_eq_getElem?_getD]
theorem getD_end {α : Type} (g : List α) (x z : α) : (g ++ [x]).getD g.length z = x := by
  rw [List.getD_eq_getElem?_getD, List.getElem?_append_right (Nat.le_refl _), Nat.sub_self]
  rfl
theorem drawJobs_l (c : List Int) (hc : c.length ≤ 1048576) (k : Nat) (p s : Int) (h0 : 0 ≤ p) (hk : 6 < k) : ∃ (l : List S43) (p' s' : Int), spec_l34Jobs.f k c p s = some (l, p', s') ∧ 0 ≤ p' ∧ l.length ≤ 5 ∧ ∀ i, i < l.length → okJobs (l.getD i z43) = true := by
  have key : ∀ d i k (g : List S43) (p s : Int), 6 - i = d → i ≤ 5 → d < k → 0 ≤ p → g.length = i → (∀ j, j < i → okJobs (g.getD j z43) = true) → ∃ (r : List S43) (p' s' : Int), spec_l34Jobs.l0 k g (i : Int) c p s = some (r, p', s') ∧ 0 ≤ p' ∧ r.length ≤ 5 ∧ ∀ i, i < r.length → okJobs (r.getD i z43) = true := by
    intro d
    induction d with
    | zero =>
      intro i k g p s h1 h2 h3 h4 h5 h6
      omega
    | succ d ih =>
      intro i k g p s h1 h2 h3 h4 h5 h6
      obtain ⟨q, rfl⟩ : ∃ q, k = q + 1 := ⟨k - 1, by omega⟩
      obtain ⟨v, p', s', e, a1, a2, a3⟩ := drawBelow_f c hc p s h4 5 (by decide)
      obtain ⟨v2, p2, s2, e2, b1, b2, b3⟩ := drawBelow_f c hc p' s' a3 10 (by decide)
      obtain ⟨v3, p3, s3, e3, c1, c2, c3⟩ := drawBelow_f c hc p2 s2 b3 12 (by decide)
      obtain ⟨v4, p4, s4, e4, d1, d2, d3⟩ := drawBelow_f c hc p3 s3 c3 6 (by decide)
      simp only [spec_l34Jobs.l0, e, e2, e3, e4, Option.bind_some]
      by_cases h : (i : Int) < v
      · rw [if_pos h, if_pos (by omega), wrap_next (n := 12) (by omega) (by omega), wrap_in (x := v2 + v3) (by omega) (by omega), wrap_in (x := 1 + v4) (by omega) (by omega)]
        refine ih (i + 1) q _ _ _ (by omega) (by omega) (by omega) d3 (by simp [h5]) (fun j hj => ?_)
        rcases Nat.lt_succ_iff_lt_or_eq.1 hj with h | h
        · rw [getD_left _ _ _ (by omega)]
          exact h6 j h
        · rw [h, ← h5, getD_end]
          simp only [okJobs, inB, Bool.and_eq_true, decide_eq_true_eq]
          omega
      · rw [if_neg h]
        exact ⟨g, _, _, rfl, a3, by omega, fun j hj => h6 j (by omega)⟩
  exact key 6 0 k [] p s (by omega) (by omega) (by omega) h0 rfl (fun j hj => absurd hj (Nat.not_lt_zero j))
theorem drawPick_f (c : List Int) (hc : c.length ≤ 1048576) (p s : Int) (h0 : 0 ≤ p) : ∃ v p' s', spec_l01PickInt.f c p s [0, 0, 1, 2, 5] = some (v, p', s') ∧ 0 ≤ v ∧ v ≤ 5 ∧ 0 ≤ p' := by
  obtain ⟨v, p', s', e, a1, a2, a3⟩ := drawBelow_f c hc p s h0 5 (by decide)
  have hl : (([0, 0, 1, 2, 5] : List Int).length : Int) = 5 := rfl
  simp only [spec_l01PickInt.f, hl, e, Option.bind_some]
  rw [if_pos a1, if_pos a2]
  refine ⟨_, _, _, rfl, ?_, ?_, a3⟩
  all_goals
    obtain ⟨n, rfl⟩ : ∃ n : Nat, v = (n : Int) := ⟨v.toNat, by omega⟩
    rw [rd_nat]
    have : n = 0 ∨ n = 1 ∨ n = 2 ∨ n = 3 ∨ n = 4 := by omega
    rcases this with rfl | rfl | rfl | rfl | rfl <;> decide
theorem drawWork_l (c : List Int) (hc : c.length ≤ 1048576) (k : Nat) (p s : Int) (h0 : 0 ≤ p) (hk : 26 < k) : ∃ (w : List Int) (p' s' : Int), spec_l34Work.f k c p s = some (w, p', s') ∧ w.length ≤ 24 ∧ ∀ i, i < w.length → 0 ≤ w.getD i 0 ∧ w.getD i 0 ≤ 5 := by
  have key : ∀ d i k (g : List Int) (p s : Int), 25 - i = d → i ≤ 24 → d < k → 0 ≤ p → g.length = i → (∀ j, j < i → 0 ≤ g.getD j 0 ∧ g.getD j 0 ≤ 5) → ∃ (r : List Int) (p' s' : Int), spec_l34Work.l0 k g (i : Int) c p s = some (r, p', s') ∧ r.length ≤ 24 ∧ ∀ i, i < r.length → 0 ≤ r.getD i 0 ∧ r.getD i 0 ≤ 5 := by
    intro d
    induction d with
    | zero =>
      intro i k g p s h1 h2 h3 h4 h5 h6
      omega
    | succ d ih =>
      intro i k g p s h1 h2 h3 h4 h5 h6
      obtain ⟨q, rfl⟩ : ∃ q, k = q + 1 := ⟨k - 1, by omega⟩
      obtain ⟨v, p', s', e, a1, a2, a3⟩ := drawBelow_f c hc p s h4 24 (by decide)
      obtain ⟨v2, p2, s2, e2, b1, b2, b3⟩ := drawPick_f c hc p' s' a3
      simp only [spec_l34Work.l0, e, e2, Option.bind_some]
      by_cases h : (i : Int) < v
      · rw [if_pos h, if_pos (by omega), wrap_next (n := 30) (by omega) (by omega)]
        refine ih (i + 1) q _ _ _ (by omega) (by omega) (by omega) b3 (by simp [h5]) (fun j hj => ?_)
        rcases Nat.lt_succ_iff_lt_or_eq.1 hj with h | h
        · rw [getD_left _ _ _ (by omega)]
          exact h6 j h
        · rw [h, ← h5, getD_end]
          exact ⟨b1, b2⟩
      · rw [if_neg h]
        exact ⟨g, _, _, rfl, by omega, fun j hj => h6 j (by omega)⟩
  exact key 25 0 k [] p s (by omega) (by omega) (by omega) h0 rfl (fun j hj => absurd hj (Nat.not_lt_zero j))
theorem drawJobs_f (c : List Int) (hc : c.length ≤ 1048576) (k : Nat) (hk : c.length + 26 < k) : ∃ (l : List S43) (w : List Int), spec_DrawJobs.f k c = some (l, w) ∧ okJ l = true ∧ okW w = true ∧ l.length ≤ 5 ∧ w.length ≤ 24 ∧ (∀ i, i < w.length → 0 ≤ w.getD i 0 ∧ w.getD i 0 ≤ 5) := by
  obtain ⟨s, hs⟩ := drawNew_f c hc k (by omega)
  obtain ⟨l, p1, s1, e1, h1, h2, h3⟩ := drawJobs_l c hc k 0 s (Int.le_refl _) (by omega)
  obtain ⟨w, p2, s2, e2, h4, h5⟩ := drawWork_l c hc k p1 s1 h1 (by omega)
  simp only [spec_DrawJobs.f, hs, e1, e2, Option.bind_some]
  refine ⟨l, w, rfl, ?_, ?_, h2, h4, h5⟩
  · unfold okJ
    rw [endsAt_last, Bool.and_eq_true, endsAt_true]
    exact ⟨fun j _ hj => h3 j (by omega), decide_eq_true (by omega)⟩
  · unfold okW
    rw [endsAt_true]
    intro j _ hj
    have := h5 j (by omega)
    simp only [inB, Bool.and_eq_true, decide_eq_true_eq]
    omega
def wsum (w : List Int) : Nat → Int
  | 0 => 0
  | t + 1 => wsum w t + w.getD t 0
theorem wsum_bounds {w : List Int} (h : ∀ i, i < w.length → 0 ≤ w.getD i 0 ∧ w.getD i 0 ≤ 50) : ∀ t, t ≤ w.length → 0 ≤ wsum w t ∧ wsum w t ≤ 50 * (t : Int)
  | 0, _ => ⟨Int.le_refl _, Int.le_refl _⟩
  | t + 1, ht => by
    have := wsum_bounds h t (by omega)
    have := h t (by omega)
    unfold wsum
    omega
def spent (l : List S43) (left : List Int) : Nat → Int
  | 0 => 0
  | i + 1 => spent l left i + (todo l i - left.getD i 0)
theorem spent_set (l : List S43) (left : List Int) (j : Nat) (hj : j < left.length) : ∀ n, spent l (left.set j (left.getD j 0 - 1)) n = spent l left n + (if j < n then 1 else 0)
  | 0 => by simp [spent]
  | n + 1 => by
    unfold spent
    rw [spent_set l left j hj n, getD_set _ _ _ _ hj]
    by_cases h : j = n
    · subst h
      rw [if_pos rfl, if_neg (Nat.lt_irrefl _), if_pos (Nat.lt_succ_self _)]
      omega
    · rw [if_neg h]
      by_cases h2 : j < n
      · rw [if_pos h2, if_pos (by omega)]
        omega
      · rw [if_neg h2, if_neg (by omega)]
        omega
theorem nxt_rel (l : List S43) (left : List Int) (t : Int) : ∀ i, 0 ≤ nxt l left t i → rel l (nxt l left t i).toNat ≤ t
  | 0 => fun h => absurd h (show ¬ (0 : Int) ≤ -1 from by decide)
  | i + 1 => by
    have := nxt_rel l left t i
    unfold nxt
    split
    · rename_i h
      intro _
      exact h.2.1
    · exact this
/-- What a unit of work does, if it does anything. -/
theorem unit_cases (l : List S43) (t : Int) (s : List Int × List Int) (h : Fine l s) : unit l t s = s ∨ ∃ j, j < l.length ∧ nxt l s.2 t l.length = (j : Int) ∧ 0 < s.2.getD j 0 ∧ rel l j ≤ t ∧ unit l t s = (if s.2.getD j 0 - 1 = 0 then s.1.set j t else s.1, s.2.set j (s.2.getD j 0 - 1)) := by
  have hb := nxt_in l s.2 t l.length
  by_cases hn : nxt l s.2 t l.length < 0
  · refine Or.inl ?_
    unfold unit
    rw [if_pos hn]
  · have h1 := nxt_left l s.2 t l.length (by omega)
    have h2 := nxt_rel l s.2 t l.length (by omega)
    refine Or.inr ⟨(nxt l s.2 t l.length).toNat, by omega, by omega, h1, h2, ?_⟩
    unfold unit
    rw [if_neg hn]
theorem spent_unit (l : List S43) (t : Int) (s : List Int × List Int) (h : Fine l s) : spent l (unit l t s).2 l.length ≤ spent l s.2 l.length + 1 := by
  rcases unit_cases l t s h with e | ⟨j, hj, _, _, _, e⟩
  · rw [e]
    omega
  · rw [e]
    dsimp only
    rw [spent_set l s.2 j (by rw [h.2.1]; exact hj), if_pos hj]
    exact Int.le_refl _
theorem spent_units (l : List S43) (t : Int) (s : List Int × List Int) (h : Fine l s) : ∀ n, spent l (units l t s n).2 l.length ≤ spent l s.2 l.length + (n : Int)
  | 0 => by
    show spent l s.2 l.length ≤ _
    omega
  | n + 1 => by
    have h1 := spent_units l t s h n
    have h2 := spent_unit l t (units l t s n) (units_fine h n)
    show spent l (unit l t (units l t s n)).2 l.length ≤ _
    omega
theorem spent_ticks (l : List S43) (w : List Int) (hw : ∀ i, i < w.length → 0 ≤ w.getD i 0 ∧ w.getD i 0 ≤ 50) (s : List Int × List Int) (h : Fine l s) : ∀ t, t ≤ w.length → spent l (ticks l w s t).2 l.length ≤ spent l s.2 l.length + wsum w t
  | 0, _ => by
    show spent l s.2 l.length ≤ spent l s.2 l.length + 0
    omega
  | t + 1, ht => by
    have h1 := spent_ticks l w hw s h t (by omega)
    have h2 := spent_units l (t : Int) (ticks l w s t) (ticks_fine h t) (w.getD t 0).toNat
    have h3 := hw t (by omega)
    show spent l (units l (t : Int) (ticks l w s t) (w.getD t 0).toNat).2 l.length ≤ spent l s.2 l.length + (wsum w t + w.getD t 0)
    omega
theorem spent_zero (l : List S43) : ∀ n, n ≤ l.length → spent l (lefts l l.length) n = 0
  | 0, _ => rfl
  | n + 1, h => by
    unfold spent
    rw [spent_zero l n (by omega)]
    unfold lefts
    rw [range_get _ _ _ (show n < l.length from h)]
    omega
/-- An invariant of a unit of work in the ticks from a to b is one of these ticks. -/
theorem units_keep {l : List S43} {t : Int} (P : List Int × List Int → Prop) (hu : ∀ s, Fine l s → P s → P (unit l t s)) {s : List Int × List Int} (hf : Fine l s) (h : P s) : ∀ n, P (units l t s n)
  | 0 => h
  | n + 1 => hu _ (units_fine hf n) (units_keep P hu hf h n)
/-- A job is open, or it was finished in a tick behind its release, and no work is left. -/
def Done (l : List S43) (T : Int) (s : List Int × List Int) : Prop := ∀ i, i < l.length → s.2.getD i 0 ≤ todo l i ∧ (s.1.getD i 0 = -1 ∨ rel l i ≤ s.1.getD i 0 ∧ 0 ≤ s.1.getD i 0 ∧ s.1.getD i 0 < T ∧ s.2.getD i 0 = 0)
theorem done_unit {l : List S43} (t : Int) (ht : 0 ≤ t) (s : List Int × List Int) (hf : Fine l s) (h : Done l (t + 1) s) : Done l (t + 1) (unit l t s) := by
  rcases unit_cases l t s hf with e | ⟨j, hj, _, hp, hr, e⟩
  · rw [e]
    exact h
  · rw [e]
    intro i hi
    have hi0 := h i hi
    have hj0 := h j hj
    have l1 : j < s.1.length := by rw [hf.1]; exact hj
    have l2 : j < s.2.length := by rw [hf.2.1]; exact hj
    dsimp only
    rw [getD_set _ _ _ _ l2]
    by_cases hij : j = i
    · subst hij
      rw [if_pos rfl]
      by_cases h0 : s.2.getD j 0 - 1 = 0
      · rw [if_pos h0, getD_set _ _ _ _ l1, if_pos rfl]
        omega
      · rw [if_neg h0]
        omega
    · rw [if_neg hij]
      split
      · rw [getD_set _ _ _ _ l1, if_neg hij]
        exact hi0
      · exact hi0
theorem done_next {l : List S43} {T : Int} {s : List Int × List Int} (h : Done l T s) : Done l (T + 1) s := fun i hi => by
  have := h i hi
  omega
theorem done_ticks (l : List S43) (w : List Int) (s : List Int × List Int) (hf : Fine l s) (h : Done l 0 s) : ∀ t : Nat, Done l (t : Int) (ticks l w s t)
  | 0 => h
  | t + 1 => by
    have h1 := units_keep (t := (t : Int)) (fun s => Done l ((t : Int) + 1) s) (fun s a b => done_unit (t : Int) (by omega) s a b) (ticks_fine (w := w) hf t) (done_next (done_ticks l w s hf h t)) (w.getD t 0).toNat
    rw [show ((t + 1 : Nat) : Int) = (t : Int) + 1 from by omega]
    exact h1
/-- What has work left at tick T0 is finished then or later. -/
theorem later (l : List S43) (w : List Int) (s : List Int × List Int) (hf : Fine l s) (h : Done l 0 s) (T : Nat) : ∀ d i, i < l.length → (ticks l w s T).2.getD i 0 = 0 ∨ (ticks l w s (T + d)).1.getD i 0 = -1 ∨ (T : Int) ≤ (ticks l w s (T + d)).1.getD i 0
  | 0, i, hi => by
    have := done_ticks l w s hf h T i hi
    rw [Nat.add_zero]
    omega
  | d + 1, i, hi => by
    have ih := later l w s hf h T d i hi
    have hk := units_keep (l := l) (t := ((T + d : Nat) : Int)) (fun q => (ticks l w s T).2.getD i 0 = 0 ∨ q.1.getD i 0 = -1 ∨ (T : Int) ≤ q.1.getD i 0) (fun q hq hP => by
      rcases unit_cases l ((T + d : Nat) : Int) q hq with e | ⟨j, hj, _, hp, hr, e⟩
      · rw [e]
        exact hP
      · rw [e]
        dsimp only
        split
        · rw [getD_set _ _ _ _ (by rw [hq.1]; exact hj)]
          split
          · exact Or.inr (Or.inr (by omega))
          · exact hP
        · exact hP) (ticks_fine (w := w) hf (T + d)) ih (w.getD (T + d) 0).toNat
    exact hk
theorem mono_more {ρ : Type} {f : Nat → Option ρ} (h : ∀ k, LeO (f k) (f (k + 1))) {k : Nat} {r : ρ} (e : f k = some r) : ∀ d, f (k + d) = some r
  | 0 => e
  | d + 1 => h (k + d) r (mono_more h e d)
theorem before_f (w : List Int) (hw : ∀ i, i < w.length → 0 ≤ w.getD i 0 ∧ w.getD i 0 ≤ 50) (hl : w.length ≤ 1048576) (T : Nat) (hT : T ≤ w.length) (k : Nat) (hk : w.length < k) : impl_WorkBefore.f k w 0 (T : Int) = some (wsum w T) := by
  unfold impl_WorkBefore.f
  have hm : wsum w T = wsum w (min w.length T) := by rw [Nat.min_eq_right hT]
  rw [hm]
  refine loop_up w.length (fun k (s : Int × Int) => impl_WorkBefore.l0 k 0 (T : Int) s.1 w (w.length : Int) s.2) (fun i => (wsum w (min i T), (i : Int))) _ (fun k i hi => ?_) (fun k => ?_) k hk
  · have r1 : rd w (i : Int) = w.getD i 0 := rfl
    simp only [impl_WorkBefore.l0, r1]
    rw [if_pos (by omega), if_pos (by omega), if_pos (by omega), if_pos (by omega), wrap_next hi (by omega)]
    by_cases h : i < T
    · have hb := wsum_bounds hw i (by omega)
      have hi2 := hw i hi
      rw [if_pos (by omega), Nat.min_eq_left (by omega), Nat.min_eq_left (by omega), wrap_in (by omega) (by omega)]
      rfl
    · rw [if_neg (by omega), Nat.min_eq_right (by omega), Nat.min_eq_right (by omega)]
  · simp only [impl_WorkBefore.l0]
    rw [if_neg (by omega)]
theorem sum_f (w : List Int) (hw : ∀ i, i < w.length → 0 ≤ w.getD i 0 ∧ w.getD i 0 ≤ 50) (hl : w.length ≤ 1048576) (k : Nat) (hk : w.length < k) : laws_sumOf.f k w = some (wsum w w.length) := by
  unfold laws_sumOf.f
  refine loop_up w.length (fun k (s : Int × Int) => laws_sumOf.l0 k w s.1 s.2) (fun i => (wsum w i, (i : Int))) _ (fun k i hi => ?_) (fun k => ?_) k hk
  · have hb := wsum_bounds hw i (by omega)
    have hi2 := hw i hi
    have r1 : rd w (i : Int) = w.getD i 0 := rfl
    simp only [laws_sumOf.l0, r1]
    rw [if_pos (by omega), if_pos (by omega), wrap_next hi (by omega), wrap_in (by omega) (by omega)]
    rfl
  · simp only [laws_sumOf.l0]
    rw [if_neg (by omega)]
/-- The work of the finished ones of the first i jobs, and the last tick in which one was finished. -/
def need (l : List S43) (out : List Int) : Nat → Int
  | 0 => 0
  | i + 1 => if out.getD i 0 ≥ 0 then need l out i + todo l i else need l out i
def lastOf (out : List Int) : Nat → Int
  | 0 => -1
  | i + 1 => if out.getD i 0 ≥ 0 then mx (lastOf out i) (out.getD i 0) else lastOf out i
theorem lastOf_le {out : List Int} {M : Int} (hM : -1 ≤ M) : ∀ n, (∀ i, i < n → out.getD i 0 ≤ M) → lastOf out n ≤ M ∧ -1 ≤ lastOf out n
  | 0, _ => ⟨hM, Int.le_refl _⟩
  | n + 1, h => by
    have h1 := lastOf_le hM n (fun i hi => h i (by omega))
    have h2 := h n (by omega)
    unfold lastOf mx
    split
    · split <;> omega
    · exact h1
theorem lastOf_ge (out : List Int) : ∀ n i, i < n → out.getD i 0 ≤ lastOf out n
  | 0, i, h => absurd h (Nat.not_lt_zero i)
  | n + 1, i, h => by
    unfold lastOf mx
    rcases Nat.lt_succ_iff_lt_or_eq.1 h with h1 | h1
    · have := lastOf_ge out n i h1
      split
      · split <;> omega
      · exact this
    · subst h1
      split
      · split <;> omega
      · have : ∀ n, -1 ≤ lastOf out n := fun n => by
          induction n with
          | zero => exact Int.le_refl _
          | succ n ih =>
            unfold lastOf mx
            split
            · split <;> omega
            · exact ih
        have := this i
        omega
theorem need_spent (l : List S43) (out left : List Int) : ∀ n, (∀ i, i < n → left.getD i 0 ≤ todo l i ∧ (out.getD i 0 ≥ 0 → left.getD i 0 = 0)) → need l out n ≤ spent l left n
  | 0, _ => Int.le_refl _
  | n + 1, h => by
    have h1 := need_spent l out left n (fun i hi => h i (by omega))
    have h2 := h n (by omega)
    unfold need spent
    split
    · rename_i h3
      have := h2.2 h3
      omega
    · omega
theorem need_bounds (l : List S43) (out : List Int) (h : ∀ i, i < l.length → 0 ≤ todo l i ∧ todo l i ≤ 100) : ∀ n, n ≤ l.length → 0 ≤ need l out n ∧ need l out n ≤ 100 * (n : Int)
  | 0, _ => ⟨Int.le_refl _, Int.le_refl _⟩
  | n + 1, hn => by
    have := need_bounds l out h n (by omega)
    have := h n (by omega)
    unfold need
    split <;> omega
theorem FnFinished : laws_FnFinished.Pure := by
  intro c hC
  by_cases hb : (c.length : Int) > 1048576
  · refine ⟨0, ?_⟩
    simp only [laws_FnFinished.f, laws_big.f, hb, decide_true, Option.bind_some, ↓reduceIte]
  obtain ⟨l, w, e1, hJ, hW, h5, h24, hw5⟩ := drawJobs_f c (by omega) (c.length + 27) (by omega)
  obtain ⟨k0, E⟩ := implTicks l w hJ hW (by omega)
  have hf := fine_init hJ
  have hws : ∀ i, i < w.length → 0 ≤ w.getD i 0 ∧ w.getD i 0 ≤ 50 := fun i hi => by
    have := hw5 i hi
    omega
  have htodo : ∀ i, i < l.length → 1 ≤ todo l i ∧ todo l i ≤ 100 := fun i hi => by
    have h := hJ
    unfold okJ at h
    rw [endsAt_last, Bool.and_eq_true, endsAt_true] at h
    have h2 := h.1 i (Nat.zero_le _) (by omega)
    simp only [okJobs, inB, Bool.and_eq_true, decide_eq_true_eq] at h2
    unfold todo
    omega
  have hD0 : Done l 0 (outs l.length, lefts l l.length) := fun i hi => by
    have h1 : (lefts l l.length).getD i 0 = todo l i := by
      unfold lefts
      exact range_get _ _ _ hi 0
    have h2 : (outs l.length).getD i 0 = -1 := by
      unfold outs
      rw [getD_lt (by rw [List.length_replicate]; exact hi), List.getElem_replicate]
    refine ⟨?_, Or.inl h2⟩
    show (lefts l l.length).getD i 0 ≤ _
    omega
  have hD := done_ticks l w _ hf hD0 w.length
  have hL := fun T d => later l w _ hf hD0 T d
  have hS := spent_ticks l w hws _ hf
  have hDT := done_ticks l w _ hf hD0
  have hlen := (ticks_fine (w := w) hf w.length).1
  rw [spent_zero l l.length (Nat.le_refl _)] at hS
  generalize hO : (ticks l w (outs l.length, lefts l l.length) w.length).1 = out at hD hL hlen E
  obtain ⟨K, hK⟩ : ∃ K, K = k0 + 100 := ⟨_, rfl⟩
  obtain ⟨M, hM⟩ : ∃ M, M = 60 := ⟨_, rfl⟩
  refine ⟨c.length + 27 + (K + M), ?_⟩
  have e2 := mono_more (f := fun k => spec_DrawJobs.f k c) (fun k => spec_DrawJobs.mono c k) e1 (K + M)
  have e3 := E (c.length + 27 + (K + M)) (by omega)
  simp only [laws_FnFinished.f, laws_big.f, hb, decide_false, e2, e3, Option.bind_some, Bool.false_eq_true, ↓reduceIte]
  rw [if_pos (by omega), show c.length + 27 + (K + M) = (c.length + 27 + K) + M from by omega]
  refine loop_up l.length (fun k (s : Int × Int × Int) => laws_FnFinished.l0 (k + M) l w out s.1 s.2.1 s.2.2) (fun i => (need l out i, lastOf out i, (i : Int))) _ (fun k i hi => ?_) (fun k => ?_) (c.length + 27 + K) (by omega)
  · dsimp only
    rw [show k + 1 + M = k + M + 1 from by omega]
    generalize k + M = q
    have r1 : rd out (i : Int) = out.getD i 0 := rfl
    have r2 : (rd_T43 l (i : Int)).f0 = rel l i := rfl
    have r3 : (rd_T43 l (i : Int)).f2 = todo l i := rfl
    have d1 := hD i hi
    have b1 := need_bounds l out (fun i hi => by have := htodo i hi; omega) i (by omega)
    have b2 := htodo i hi
    rw [hO] at d1
    simp only [laws_FnFinished.l0, r1, r2, r3]
    rw [if_pos (by omega), if_pos (by omega), wrap_next hi (by omega), wrap_in (x := need l out i + todo l i) (by omega) (by omega)]
    by_cases h : out.getD i 0 ≥ 0
    · rw [if_pos h, if_pos (by omega), if_neg (by omega), if_neg (by omega)]
      conv => rhs; simp only [need, lastOf, h, ↓reduceIte]
    · rw [if_neg h]
      conv => rhs; simp only [need, lastOf, h, ↓reduceIte]
  · dsimp only
    rw [show k + 1 + M = k + M + 1 from by omega]
    generalize hq : k + M = q
    have hle := lastOf_le (out := out) (M := (w.length : Int) - 1) (by omega) l.length (fun i hi => by
      have d1 := hD i hi
      rw [hO] at d1
      omega)
    obtain ⟨T, hT⟩ : ∃ T : Nat, lastOf out l.length + 1 = (T : Int) := ⟨(lastOf out l.length + 1).toNat, by omega⟩
    have hneed : need l out l.length ≤ wsum w T := by
      have h1 := hS T (by omega)
      have h2 := need_spent l out (ticks l w (outs l.length, lefts l l.length) T).2 l.length (fun i hi => by
        have d1 := hDT T i hi
        have d2 := hL T (w.length - T) i hi
        rw [show T + (w.length - T) = w.length from by omega, hO] at d2
        have d3 := lastOf_ge out l.length i hi
        omega)
      omega
    have f1 := before_f w hws (by omega) T (by omega) q (by omega)
    have f2 := before_f w hws (by omega) w.length (Nat.le_refl _) q (by omega)
    have f3 := sum_f w hws (by omega) q (by omega)
    simp only [laws_FnFinished.l0, hT, wrap_in (x := (T : Int)) (by omega) (by omega), f1, f2, f3, Option.bind_some, hneed, ↓reduceIte, beq_self_eq_true]
    rw [if_neg (by omega)]

end Go.Proofs.Ytniiebpibdkgjaa.Pure
