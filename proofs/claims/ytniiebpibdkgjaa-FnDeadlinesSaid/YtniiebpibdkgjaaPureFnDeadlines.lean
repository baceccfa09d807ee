/- The law FnDeadlines in plain lists: all jobs are finished in time exactly if, between each release and each deadline, the work can be done. Conditions: none beside those of the row. -/
import Derived.Test.YtniiebpibdkgjaaHelpFnDeadlines
namespace Go.Proofs.Ytniiebpibdkgjaa.Pure
open Go.RowKit Go.Proofs.Ytniiebpibdkgjaa.PFnDeadlines Go.Proofs.Ytniiebpibdkgjaa.XPure Go.Proofs.Ytniiebpibdkgjaa.PureFnDeadlines Go.Proofs.YtniiebpibdkgjaaW.PrintWords Go.Proofs.YtniiebpibdkgjaaW.PrintLast Go.Proofs.YtniiebpibdkgjaaW.PrintMore
set_option linter.unusedSimpArgs false
set_option linter.unusedVariables false

/-- With enough rounds, and with any more, it ends so. -/
def Ev {ρ : Type} (f : Nat → Option ρ) (r : ρ) : Prop := ∃ k0, ∀ k, k0 ≤ k → f k = some r
theorem Ev.step {ρ : Type} {f g : Nat → Option ρ} {r : ρ} (k0 : Nat) (c : ∀ k, k0 ≤ k → f (k + 1) = g k) (h : Ev g r) : Ev f r := by
  obtain ⟨k1, h⟩ := h
  refine ⟨k0 + k1 + 1, fun k hk => ?_⟩
  obtain ⟨q, rfl⟩ : ∃ q, k = q + 1 := ⟨k - 1, by omega⟩
  rw [c q (by omega)]
  exact h q (by omega)
theorem Ev.last {ρ : Type} {f : Nat → Option ρ} {r : ρ} (k0 : Nat) (c : ∀ k, k0 ≤ k → f (k + 1) = some r) : Ev f r := by
  refine ⟨k0 + 1, fun k hk => ?_⟩
  obtain ⟨q, rfl⟩ : ∃ q, k = q + 1 := ⟨k - 1, by omega⟩
  exact c q (by omega)
def rel (l : List S43) (i : Nat) : Int := (l.getD i z43).f0
def dead (l : List S43) (i : Nat) : Int := (l.getD i z43).f1
def todo (l : List S43) (i : Nat) : Int := (l.getD i z43).f2
/-- The most urgent of the first i jobs in tick t. -/
def nxt (l : List S43) (left : List Int) (t : Int) : Nat → Int
  | 0 => -1
  | i + 1 => if left.getD i 0 > 0 ∧ rel l i ≤ t ∧ (nxt l left t i < 0 ∨ dead l i < dead l (nxt l left t i).toNat) then (i : Int) else nxt l left t i
theorem nxt_in (l : List S43) (left : List Int) (t : Int) : ∀ i, -1 ≤ nxt l left t i ∧ nxt l left t i < (i : Int)
  | 0 => ⟨Int.le_refl _, show (-1 : Int) < 0 from by decide⟩
  | i + 1 => by
    have := nxt_in l left t i
    unfold nxt
    split <;> omega
theorem nxt_left (l : List S43) (left : List Int) (t : Int) : ∀ i, 0 ≤ nxt l left t i → left.getD (nxt l left t i).toNat 0 > 0
  | 0 => fun h => absurd h (show ¬ (0 : Int) ≤ -1 from by decide)
  | i + 1 => by
    have := nxt_left l left t i
    unfold nxt
    split
    · rename_i h
      intro _
      exact h.1
    · exact this
/-- One unit of work in tick t. -/
def unit (l : List S43) (t : Int) (s : List Int × List Int) : List Int × List Int :=
  if nxt l s.2 t l.length < 0 then s
  else
    (if (s.2.getD (nxt l s.2 t l.length).toNat 0) - 1 = 0 then s.1.set (nxt l s.2 t l.length).toNat t else s.1,
     s.2.set (nxt l s.2 t l.length).toNat (s.2.getD (nxt l s.2 t l.length).toNat 0 - 1))
def units (l : List S43) (t : Int) (s : List Int × List Int) : Nat → List Int × List Int
  | 0 => s
  | n + 1 => unit l t (units l t s n)
def ticks (l : List S43) (w : List Int) (s : List Int × List Int) : Nat → List Int × List Int
  | 0 => s
  | t + 1 => units l (t : Int) (ticks l w s t) (w.getD t 0).toNat
/-- What holds of a state. -/
def Fine (l : List S43) (s : List Int × List Int) : Prop := s.1.length = l.length ∧ s.2.length = l.length ∧ ∀ i, 0 ≤ s.2.getD i 0 ∧ s.2.getD i 0 ≤ 100
theorem getD_set (l : List Int) (i j : Nat) (x : Int) (hi : i < l.length) : (l.set i x).getD j 0 = if i = j then x else l.getD j 0 := by
  rw [List.getD_eq_getElem?_getD, List.getElem?_set]
  by_cases h : i = j
  · rw [if_pos h, if_pos h, if_pos hi]
    rfl
  · rw [if_neg h, if_neg h, ← List.getD_eq_getElem?_getD]
theorem unit_fine {l : List S43} {t : Int} {s : List Int × List Int} (h : Fine l s) : Fine l (unit l t s) := by
  obtain ⟨h1, h2, h3⟩ := h
  unfold unit
  split
  · exact ⟨h1, h2, h3⟩
  · rename_i hn
    have hb := nxt_in l s.2 t l.length
    have hl := nxt_left l s.2 t l.length (by omega)
    refine ⟨?_, by simp [h2], fun i => ?_⟩
    · dsimp only
      split
      · simp [h1]
      · exact h1
    · dsimp only
      rw [getD_set _ _ _ _ (by omega)]
      have := h3 (nxt l s.2 t l.length).toNat
      split
      · omega
      · exact h3 i
theorem units_fine {l : List S43} {t : Int} {s : List Int × List Int} (h : Fine l s) : ∀ n, Fine l (units l t s n)
  | 0 => h
  | n + 1 => unit_fine (units_fine h n)
theorem ticks_fine {l : List S43} {w : List Int} {s : List Int × List Int} (h : Fine l s) : ∀ n, Fine l (ticks l w s n)
  | 0 => h
  | n + 1 => units_fine (ticks_fine h n) _
theorem units_stop {l : List S43} {t : Int} {s : List Int × List Int} {n : Nat} (h : nxt l (units l t s n).2 t l.length < 0) : ∀ d, units l t s (n + d) = units l t s n
  | 0 => rfl
  | d + 1 => by
    show unit l t (units l t s (n + d)) = _
    rw [units_stop h d]
    unfold unit
    rw [if_pos h]
theorem urgent_f (l : List S43) (left : List Int) (hl : left.length = l.length) (h8 : l.length ≤ 1048576) (t : Int) (k : Nat) (hk : l.length < k) : impl_urgent.f k l left t = some (nxt l left t l.length) := by
  unfold impl_urgent.f
  refine loop_up l.length (fun k (s : Int × Int) => impl_urgent.l0 k l left t s.1 l (l.length : Int) s.2) (fun i => (nxt l left t i, (i : Int))) _ (fun k i hi => ?_) (fun k => ?_) k hk
  · have hb := nxt_in l left t i
    have r0 : (rd_T43 l (i : Int)).f0 = rel l i := rfl
    have r1 : (rd_T43 l (i : Int)).f1 = dead l i := rfl
    have r2 : rd left (i : Int) = left.getD i 0 := rfl
    have r3 : (rd_T43 l (nxt l left t i)).f1 = dead l (nxt l left t i).toNat := rfl
    simp only [impl_urgent.l0, r0, r1, r3]
    rw [if_pos (by omega), if_pos (by omega), if_pos (by omega), if_pos (by omega), wrap_next hi (by omega)]
    conv => rhs; simp only [nxt]
    generalize nxt l left t i = b at hb
    rw [r2]
    by_cases h1 : left.getD i 0 > 0
    · rw [if_pos h1]
      by_cases h2 : rel l i ≤ t
      · rw [if_pos h2]
        by_cases h3 : b < 0
        · rw [if_pos h3, if_pos (c := left.getD i 0 > 0 ∧ rel l i ≤ t ∧ (b < 0 ∨ dead l i < dead l b.toNat)) ⟨h1, h2, Or.inl h3⟩]
        · rw [if_neg h3, if_pos (by omega), if_pos (by omega)]
          by_cases h4 : dead l i < dead l b.toNat
          · rw [if_pos h4, if_pos (c := left.getD i 0 > 0 ∧ rel l i ≤ t ∧ (b < 0 ∨ dead l i < dead l b.toNat)) ⟨h1, h2, Or.inr h4⟩]
          · rw [if_neg h4, if_neg (c := left.getD i 0 > 0 ∧ rel l i ≤ t ∧ (b < 0 ∨ dead l i < dead l b.toNat)) (fun h => h.2.2.elim h3 h4)]
      · rw [if_neg h2, if_neg (c := left.getD i 0 > 0 ∧ rel l i ≤ t ∧ (b < 0 ∨ dead l i < dead l b.toNat)) (fun h => h2 h.2.1)]
    · rw [if_neg h1, if_neg (c := left.getD i 0 > 0 ∧ rel l i ≤ t ∧ (b < 0 ∨ dead l i < dead l b.toNat)) (fun h => h1 h.1)]
  · simp only [impl_urgent.l0]
    rw [if_neg (by omega)]
/-- One round of the program's inner loop. -/
theorem implUnit (l : List S43) (w : List Int) (s : List Int × List Int) (h : Fine l s) (h8 : l.length ≤ 1048576) (t : Nat) (n m : Int) (hm : m ≤ 50) (hn0 : 0 ≤ n) (hnm : n < m) (k : Nat) (hk : l.length < k) :
    impl_FinishTicks.l2 (k + 1) l s.1 s.2 (t : Int) w (w.length : Int) (t : Int) m n = (if nxt l s.2 (t : Int) l.length < 0 then impl_FinishTicks.l1 k l s.1 s.2 w (w.length : Int) (wrap64 ((t : Int) + 1)) else impl_FinishTicks.l2 k l (unit l (t : Int) s).1 (unit l (t : Int) s).2 (t : Int) w (w.length : Int) (t : Int) m (n + 1)) := by
  obtain ⟨h1, h2, h3⟩ := h
  have hb := nxt_in l s.2 (t : Int) l.length
  simp only [impl_FinishTicks.l2, urgent_f l s.2 h2 h8 (t : Int) k hk, Option.bind_some]
  rw [if_pos hnm, wrap_in (x := n + 1) (by omega) (by omega)]
  by_cases hn : nxt l s.2 (t : Int) l.length < 0
  · rw [if_pos hn, if_pos hn]
  · rw [if_neg hn, if_neg hn]
    have hu : unit l (t : Int) s = (if (s.2.getD (nxt l s.2 (t : Int) l.length).toNat 0) - 1 = 0 then s.1.set (nxt l s.2 (t : Int) l.length).toNat (t : Int) else s.1, s.2.set (nxt l s.2 (t : Int) l.length).toNat (s.2.getD (nxt l s.2 (t : Int) l.length).toNat 0 - 1)) := by
      unfold unit
      rw [if_neg hn]
    rw [hu]
    generalize hN : nxt l s.2 (t : Int) l.length = N at hb hn
    obtain ⟨j, rfl⟩ : ∃ j : Nat, N = (j : Int) := ⟨N.toNat, by omega⟩
    have h4 := h3 j
    have r1 : rd s.2 (j : Int) = s.2.getD j 0 := rfl
    rw [r1, wrap_in (x := s.2.getD j 0 - 1) (by omega) (by omega), Int.toNat_natCast, if_pos (by omega), if_pos (by omega)]
    have r2 : rd (s.2.set j (s.2.getD j 0 - 1)) (j : Int) = s.2.getD j 0 - 1 := by
      rw [rd_nat, getD_set _ _ _ _ (by omega), if_pos rfl]
    rw [r2]
    dsimp only
    by_cases h5 : s.2.getD j 0 - 1 = 0
    · rw [if_pos h5, if_pos (by omega), if_pos h5]
    · rw [if_neg h5, if_neg h5]
theorem implInner (l : List S43) (w : List Int) (s : List Int × List Int) (h : Fine l s) (h8 : l.length ≤ 1048576) (t m : Nat) (ht : t < w.length) (hw : w.length ≤ 1048576) (hm : m ≤ 50) (r : List Int)
    (hr : Ev (fun k => impl_FinishTicks.l1 k l (units l (t : Int) s m).1 (units l (t : Int) s m).2 w (w.length : Int) ((t + 1 : Nat) : Int)) r) :
    ∀ d n, n + d = m → Ev (fun k => impl_FinishTicks.l2 k l (units l (t : Int) s n).1 (units l (t : Int) s n).2 (t : Int) w (w.length : Int) (t : Int) (m : Int) (n : Int)) r := by
  intro d
  induction d with
  | zero =>
    intro n hn
    have : n = m := by omega
    subst this
    refine Ev.step 0 (fun k _ => ?_) hr
    simp only [impl_FinishTicks.l2]
    rw [if_neg (by omega), wrap_next ht (by omega)]
  | succ d ih =>
    intro n hn
    have hf := units_fine (t := (t : Int)) h n
    by_cases hx : nxt l (units l (t : Int) s n).2 (t : Int) l.length < 0
    · have hs := units_stop hx (d + 1)
      rw [show n + (d + 1) = m from hn] at hs
      rw [hs] at hr
      refine Ev.step (l.length + 1) (fun k hk => ?_) hr
      rw [implUnit l w _ hf h8 t (n : Int) (m : Int) (by omega) (by omega) (by omega) k (by omega), if_pos hx, wrap_next ht (by omega)]
    · refine Ev.step (l.length + 1) (fun k hk => ?_) (ih (n + 1) (by omega))
      rw [implUnit l w _ hf h8 t (n : Int) (m : Int) (by omega) (by omega) (by omega) k (by omega), if_neg hx]
      rfl
theorem implOuter (l : List S43) (w : List Int) (s : List Int × List Int) (h : Fine l s) (h8 : l.length ≤ 1048576) (hw : w.length ≤ 1048576) (hws : ∀ i, i < w.length → 0 ≤ w.getD i 0 ∧ w.getD i 0 ≤ 50) :
    ∀ d t, t + d = w.length → Ev (fun k => impl_FinishTicks.l1 k l (ticks l w s t).1 (ticks l w s t).2 w (w.length : Int) (t : Int)) (ticks l w s w.length).1 := by
  intro d
  induction d with
  | zero =>
    intro t ht
    have : t = w.length := by omega
    subst this
    refine Ev.last 0 (fun k _ => ?_)
    simp only [impl_FinishTicks.l1]
    rw [if_neg (by omega)]
  | succ d ih =>
    intro t ht
    have hb := hws t (by omega)
    have hi := implInner l w (ticks l w s t) (ticks_fine h t) h8 t (w.getD t 0).toNat (by omega) hw (by omega) _ (ih (t + 1) (by omega)) (w.getD t 0).toNat 0 (by omega)
    refine Ev.step 0 (fun k _ => ?_) hi
    simp only [impl_FinishTicks.l1]
    have r1 : rd w (t : Int) = w.getD t 0 := rfl
    rw [if_pos (by omega), if_pos (by omega), if_pos (by omega), r1, Int.toNat_of_nonneg hb.1]
    rfl
def outs (i : Nat) : List Int := List.replicate i (-1)
def lefts (l : List S43) (i : Nat) : List Int := (List.range i).map (todo l)
theorem outs_next (i : Nat) : outs i ++ [-1] = outs (i + 1) := (List.replicate_succ' ..).symm
theorem lefts_next (l : List S43) (i : Nat) : lefts l i ++ [todo l i] = lefts l (i + 1) := by
  unfold lefts
  rw [List.range_succ, List.map_append]
  rfl
theorem outs_length (i : Nat) : (outs i).length = i := List.length_replicate ..
theorem lefts_length (l : List S43) (i : Nat) : (lefts l i).length = i := by simp [lefts]
theorem implInit (l : List S43) (w : List Int) (h8 : l.length ≤ 1048576) (r : List Int) (hr : Ev (fun k => impl_FinishTicks.l1 k l (outs l.length) (lefts l l.length) w (w.length : Int) 0) r) :
    ∀ d i, i + d = l.length → Ev (fun k => impl_FinishTicks.l0 k l w (outs i) (lefts l i) l (l.length : Int) (i : Int)) r := by
  intro d
  induction d with
  | zero =>
    intro i hi
    have : i = l.length := by omega
    subst this
    refine Ev.step 0 (fun k _ => ?_) hr
    simp only [impl_FinishTicks.l0]
    rw [if_neg (by omega)]
  | succ d ih =>
    intro i hi
    refine Ev.step 0 (fun k _ => ?_) (ih (i + 1) (by omega))
    have o1 := outs_length i
    have o2 := lefts_length l i
    have r1 : (rd_T43 l (i : Int)).f2 = todo l i := rfl
    simp only [impl_FinishTicks.l0, r1, Option.bind_some, outs_next, lefts_next, List.length_cons, List.length_nil]
    rw [if_pos (by omega), if_pos (by omega), if_pos (by omega), if_pos (by omega), if_pos (by omega), wrap_next (n := l.length) (by omega) (by omega)]
def okW (w : List Int) : Bool := endsAt (fun i => inB (w.getD i 0) 0 50) (fun _ => false) true w.length 0
theorem implWork_f (w : List Int) (hw : w.length ≤ 1048576) (k : Nat) (hk : w.length < k) : slices_ContainsFunc_int_int_at_impl_FinishTicks_1.f k w = some (!okW w) := by
  have h : slices_IndexFunc_int_int_at_impl_FinishTicks_1.f k w = some (endsAt (fun i => inB (w.getD i 0) 0 50) (fun i => (i : Int)) (-1) w.length 0) := by
    unfold slices_IndexFunc_int_int_at_impl_FinishTicks_1.f
    refine loop_ends w.length (fun k (s : Int) => slices_IndexFunc_int_int_at_impl_FinishTicks_1.l0 k w (w.length : Int) s) (fun i => (i : Int)) _ _ _ (fun k i hi hc => ?_) (fun k i hi hc => ?_) (fun k => ?_) k hk
    · simp only [slices_IndexFunc_int_int_at_impl_FinishTicks_1.l0, rd_nat, impl_FinishTicks_1.f, within_f, hc, Option.bind_some, Bool.not_true, Bool.false_eq_true, ↓reduceIte]
      rw [if_pos (by omega), if_pos (by omega), if_pos (by omega), wrap_next hi (by omega)]
    · simp only [slices_IndexFunc_int_int_at_impl_FinishTicks_1.l0, rd_nat, impl_FinishTicks_1.f, within_f, hc, Option.bind_some, Bool.not_false, ↓reduceIte]
      rw [if_pos (by omega), if_pos (by omega), if_pos (by omega)]
    · simp only [slices_IndexFunc_int_int_at_impl_FinishTicks_1.l0]
      rw [if_neg (by omega)]
  simp only [slices_ContainsFunc_int_int_at_impl_FinishTicks_1.f, h, Option.bind_some, endsAt_place]
  rfl
def okJ (l : List S43) : Bool := endsAt (fun i => okJobs (l.getD i z43)) (fun _ => false) (decide ((l.length : Int) ≤ 8)) l.length 0
theorem fine_init {l : List S43} (h : okJ l = true) : Fine l (outs l.length, lefts l l.length) := by
  unfold okJ at h
  rw [endsAt_last, Bool.and_eq_true, endsAt_true] at h
  refine ⟨outs_length _, lefts_length _ _, fun i => ?_⟩
  unfold lefts
  by_cases hi : i < l.length
  · have h2 := h.1 i (Nat.zero_le _) (by omega)
    simp only [okJobs, inB, Bool.and_eq_true, decide_eq_true_eq] at h2
    dsimp only
    rw [range_get _ _ _ hi]
    unfold todo
    omega
  · dsimp only
    rw [List.getD_eq_getElem?_getD, List.getElem?_eq_none (by simp; omega)]
    exact ⟨Int.le_refl _, by decide⟩
theorem implTicks (l : List S43) (w : List Int) (h1 : okJ l = true) (h2 : okW w = true) (h3 : w.length ≤ 500) : Ev (fun k => impl_FinishTicks.f k l w) (ticks l w (outs l.length, lefts l l.length) w.length).1 := by
  have hl : l.length ≤ 8 := by
    unfold okJ at h1
    rw [endsAt_last, Bool.and_eq_true, decide_eq_true_eq] at h1
    omega
  have f2 : ∀ k, l.length < k → impl_JobsOk.f k l = some (okJ l) := fun k hk => implJobs_f l (by omega) k hk
  have f4 := implWork_f w (by omega)
  have hf := fine_init h1
  have hws : ∀ i, i < w.length → 0 ≤ w.getD i 0 ∧ w.getD i 0 ≤ 50 := fun i hi => by
    have := (endsAt_true _ _).1 h2 i (Nat.zero_le _) (by omega)
    simp only [inB, Bool.and_eq_true, decide_eq_true_eq] at this
    exact this
  obtain ⟨k0, hk0⟩ := implInit l w (by omega) _ (implOuter l w _ hf (by omega) (by omega) hws w.length 0 (by omega)) l.length 0 (by omega)
  refine ⟨k0 + l.length + w.length + 2, fun k hk => ?_⟩
  obtain ⟨q, rfl⟩ : ∃ q, k = q + 1 := ⟨k - 1, by omega⟩
  simp only [impl_FinishTicks.f, f2 (q + 1) (by omega), f4 (q + 1) (by omega), h1, h2, show ¬ (w.length : Int) > 500 from by omega, Bool.not_true, Option.bind_some, ↓reduceIte, impl_FinishTicks.j0, Bool.false_eq_true]
  exact hk0 q (by omega)
theorem getD_left {α : Type} (g : List α) (x z : α) {i : Nat} (h : i < g.length) : (g ++ [x]).getD i z = g.getD i z := by
  rw [List.getD_eq_getElem?_getD, List.getElem?_append_left h, ← List.getD_eq_getElem?_getD]
theorem getD_end {α : Type} (g : List α) (x z : α) : (g ++ [x]).getD g.length z = x := by
  rw [List.getD_eq_getElem?_getD, List.getElem?_append_right (Nat.le_refl _), Nat.sub_self]
  rfl
theorem drawJobs_l (c : List Int) (hc : c.length ≤ 1048576) (k : Nat) (p s : Int) (h0 : 0 ≤ p) (hk : 6 < k) : ∃ (l : List S43) (p' s' : Int), spec_l34Jobs.f k c p s = some (l, p', s') ∧ 0 ≤ p' ∧ l.length ≤ 5 ∧ ∀ i, i < l.length → okJobs (l.getD i z43) = true := by
  have key : ∀ d i k (g : List S43) (p s : Int), 6 - i = d → i ≤ 5 → d < k → 0 ≤ p → g.length = i → (∀ j, j < i → okJobs (g.getD j z43) = true) → ∃ (r : List S43) (p' s' : Int), spec_l34Jobs.l0 k g (i : Int) c p s = some (r, p', s') ∧ 0 ≤ p' ∧ r.length ≤ 5 ∧ ∀ i, i < r.length → okJobs (r.getD i z43) = true := by
    intro d
    induction d with
    | zero =>
      intro i k g p s h1 h2 h3 h4 h5 h6
      omega
    | succ d ih =>
      intro i k g p s h1 h2 h3 h4 h5 h6
      obtain ⟨q, rfl⟩ : ∃ q, k = q + 1 := ⟨k - 1, by omega⟩
      obtain ⟨v, p', s', e, a1, a2, a3⟩ := drawBelow_f c hc p s h4 5 (by decide)
      obtain ⟨v2, p2, s2, e2, b1, b2, b3⟩ := drawBelow_f c hc p' s' a3 10 (by decide)
      obtain ⟨v3, p3, s3, e3, c1, c2, c3⟩ := drawBelow_f c hc p2 s2 b3 12 (by decide)
      obtain ⟨v4, p4, s4, e4, d1, d2, d3⟩ := drawBelow_f c hc p3 s3 c3 6 (by decide)
      simp only [spec_l34Jobs.l0, e, e2, e3, e4, Option.bind_some]
      by_cases h : (i : Int) < v
      · rw [if_pos h, if_pos (by omega), wrap_next (n := 12) (by omega) (by omega), wrap_in (x := v2 + v3) (by omega) (by omega), wrap_in (x := 1 + v4) (by omega) (by omega)]
        refine ih (i + 1) q _ _ _ (by omega) (by omega) (by omega) d3 (by simp [h5]) (fun j hj => ?_)
        rcases Nat.lt_succ_iff_lt_or_eq.1 hj with h | h
        · rw [getD_left _ _ _ (by omega)]
          exact h6 j h
        · rw [h, ← h5, getD_end]
          simp only [okJobs, inB, Bool.and_eq_true, decide_eq_true_eq]
          omega
      · rw [if_neg h]
        exact ⟨g, _, _, rfl, a3, by omega, fun j hj => h6 j (by omega)⟩
  exact key 6 0 k [] p s (by omega) (by omega) (by omega) h0 rfl (fun j hj => absurd hj (Nat.not_lt_zero j))
theorem drawPick_f (c : List Int) (hc : c.length ≤ 1048576) (p s : Int) (h0 : 0 ≤ p) : ∃ v p' s', spec_l01PickInt.f c p s [0, 0, 1, 2, 5] = some (v, p', s') ∧ 0 ≤ v ∧ v ≤ 5 ∧ 0 ≤ p' := by
  obtain ⟨v, p', s', e, a1, a2, a3⟩ := drawBelow_f c hc p s h0 5 (by decide)
  have hl : (([0, 0, 1, 2, 5] : List Int).length : Int) = 5 := rfl
  simp only [spec_l01PickInt.f, hl, e, Option.bind_some]
  rw [if_pos a1, if_pos a2]
  refine ⟨_, _, _, rfl, ?_, ?_, a3⟩
  all_goals
    obtain ⟨n, rfl⟩ : ∃ n : Nat, v = (n : Int) := ⟨v.toNat, by omega⟩
    rw [rd_nat]
    have : n = 0 ∨ n = 1 ∨ n = 2 ∨ n = 3 ∨ n = 4 := by omega
    rcases this with rfl | rfl | rfl | rfl | rfl <;> decide
theorem drawWork_l (c : List Int) (hc : c.length ≤ 1048576) (k : Nat) (p s : Int) (h0 : 0 ≤ p) (hk : 26 < k) : ∃ (w : List Int) (p' s' : Int), spec_l34Work.f k c p s = some (w, p', s') ∧ w.length ≤ 24 ∧ ∀ i, i < w.length → 0 ≤ w.getD i 0 ∧ w.getD i 0 ≤ 5 := by
  have key : ∀ d i k (g : List Int) (p s : Int), 25 - i = d → i ≤ 24 → d < k → 0 ≤ p → g.length = i → (∀ j, j < i → 0 ≤ g.getD j 0 ∧ g.getD j 0 ≤ 5) → ∃ (r : List Int) (p' s' : Int), spec_l34Work.l0 k g (i : Int) c p s = some (r, p', s') ∧ r.length ≤ 24 ∧ ∀ i, i < r.length → 0 ≤ r.getD i 0 ∧ r.getD i 0 ≤ 5 := by
    intro d
    induction d with
    | zero =>
      intro i k g p s h1 h2 h3 h4 h5 h6
      omega
    | succ d ih =>
      intro i k g p s h1 h2 h3 h4 h5 h6
      obtain ⟨q, rfl⟩ : ∃ q, k = q + 1 := ⟨k - 1, by omega⟩
      obtain ⟨v, p', s', e, a1, a2, a3⟩ := drawBelow_f c hc p s h4 24 (by decide)
      obtain ⟨v2, p2, s2, e2, b1, b2, b3⟩ := drawPick_f c hc p' s' a3
      simp only [spec_l34Work.l0, e, e2, Option.bind_some]
      by_cases h : (i : Int) < v
      · rw [if_pos h, if_pos (by omega), wrap_next (n := 30) (by omega) (by omega)]
        refine ih (i + 1) q _ _ _ (by omega) (by omega) (by omega) b3 (by simp [h5]) (fun j hj => ?_)
        rcases Nat.lt_succ_iff_lt_or_eq.1 hj with h | h
        · rw [getD_left _ _ _ (by omega)]
          exact h6 j h
        · rw [h, ← h5, getD_end]
          exact ⟨b1, b2⟩
      · rw [if_neg h]
        exact ⟨g, _, _, rfl, by omega, fun j hj => h6 j (by omega)⟩
  exact key 25 0 k [] p s (by omega) (by omega) (by omega) h0 rfl (fun j hj => absurd hj (Nat.not_lt_zero j))
theorem drawJobs_f (c : List Int) (hc : c.length ≤ 1048576) (k : Nat) (hk : c.length + 26 < k) : ∃ (l : List S43) (w : List Int), spec_DrawJobs.f k c = some (l, w) ∧ okJ l = true ∧ okW w = true ∧ l.length ≤ 5 ∧ w.length ≤ 24 ∧ (∀ i, i < w.length → 0 ≤ w.getD i 0 ∧ w.getD i 0 ≤ 5) := by
  obtain ⟨s, hs⟩ := drawNew_f c hc k (by omega)
  obtain ⟨l, p1, s1, e1, h1, h2, h3⟩ := drawJobs_l c hc k 0 s (Int.le_refl _) (by omega)
  obtain ⟨w, p2, s2, e2, h4, h5⟩ := drawWork_l c hc k p1 s1 h1 (by omega)
  simp only [spec_DrawJobs.f, hs, e1, e2, Option.bind_some]
  refine ⟨l, w, rfl, ?_, ?_, h2, h4, h5⟩
  · unfold okJ
    rw [endsAt_last, Bool.and_eq_true, endsAt_true]
    exact ⟨fun j _ hj => h3 j (by omega), decide_eq_true (by omega)⟩
  · unfold okW
    rw [endsAt_true]
    intro j _ hj
    have := h5 j (by omega)
    simp only [inB, Bool.and_eq_true, decide_eq_true_eq]
    omega
def wsum (w : List Int) : Nat → Int
  | 0 => 0
  | t + 1 => wsum w t + w.getD t 0
theorem wsum_bounds {w : List Int} (h : ∀ i, i < w.length → 0 ≤ w.getD i 0 ∧ w.getD i 0 ≤ 50) : ∀ t, t ≤ w.length → 0 ≤ wsum w t ∧ wsum w t ≤ 50 * (t : Int)
  | 0, _ => ⟨Int.le_refl _, Int.le_refl _⟩
  | t + 1, ht => by
    have := wsum_bounds h t (by omega)
    have := h t (by omega)
    unfold wsum
    omega
def spent (l : List S43) (left : List Int) : Nat → Int
  | 0 => 0
  | i + 1 => spent l left i + (todo l i - left.getD i 0)
theorem spent_set (l : List S43) (left : List Int) (j : Nat) (hj : j < left.length) : ∀ n, spent l (left.set j (left.getD j 0 - 1)) n = spent l left n + (if j < n then 1 else 0)
  | 0 => by simp [spent]
  | n + 1 => by
    unfold spent
    rw [spent_set l left j hj n, getD_set _ _ _ _ hj]
    by_cases h : j = n
    · subst h
      rw [if_pos rfl, if_neg (Nat.lt_irrefl _), if_pos (Nat.lt_succ_self _)]
      omega
    · rw [if_neg h]
      by_cases h2 : j < n
      · rw [if_pos h2, if_pos (by omega)]
        omega
      · rw [if_neg h2, if_neg (by omega)]
        omega
theorem nxt_rel (l : List S43) (left : List Int) (t : Int) : ∀ i, 0 ≤ nxt l left t i → rel l (nxt l left t i).toNat ≤ t
  | 0 => fun h => absurd h (show ¬ (0 : Int) ≤ -1 from by decide)
  | i + 1 => by
    have := nxt_rel l left t i
    unfold nxt
    split
    · rename_i h
      intro _
      exact h.2.1
    · exact this
/-- What a unit of work does, if it does anything. -/
theorem unit_cases (l : List S43) (t : Int) (s : List Int × List Int) (h : Fine l s) : unit l t s = s ∨ ∃ j, j < l.length ∧ nxt l s.2 t l.length = (j : Int) ∧ 0 < s.2.getD j 0 ∧ rel l j ≤ t ∧ unit l t s = (if s.2.getD j 0 - 1 = 0 then s.1.set j t else s.1, s.2.set j (s.2.getD j 0 - 1)) := by
  have hb := nxt_in l s.2 t l.length
  by_cases hn : nxt l s.2 t l.length < 0
  · refine Or.inl ?_
    unfold unit
    rw [if_pos hn]
  · have h1 := nxt_left l s.2 t l.length (by omega)
    have h2 := nxt_rel l s.2 t l.length (by omega)
    refine Or.inr ⟨(nxt l s.2 t l.length).toNat, by omega, by omega, h1, h2, ?_⟩
    unfold unit
    rw [if_neg hn]
theorem spent_unit (l : List S43) (t : Int) (s : List Int × List Int) (h : Fine l s) : spent l (unit l t s).2 l.length ≤ spent l s.2 l.length + 1 := by
  rcases unit_cases l t s h with e | ⟨j, hj, _, _, _, e⟩
  · rw [e]
    omega
  · rw [e]
    dsimp only
    rw [spent_set l s.2 j (by rw [h.2.1]; exact hj), if_pos hj]
    exact Int.le_refl _
theorem spent_units (l : List S43) (t : Int) (s : List Int × List Int) (h : Fine l s) : ∀ n, spent l (units l t s n).2 l.length ≤ spent l s.2 l.length + (n : Int)
  | 0 => by
    show spent l s.2 l.length ≤ _
    omega
  | n + 1 => by
    have h1 := spent_units l t s h n
    have h2 := spent_unit l t (units l t s n) (units_fine h n)
    show spent l (unit l t (units l t s n)).2 l.length ≤ _
    omega
theorem spent_ticks (l : List S43) (w : List Int) (hw : ∀ i, i < w.length → 0 ≤ w.getD i 0 ∧ w.getD i 0 ≤ 50) (s : List Int × List Int) (h : Fine l s) : ∀ t, t ≤ w.length → spent l (ticks l w s t).2 l.length ≤ spent l s.2 l.length + wsum w t
  | 0, _ => by
    show spent l s.2 l.length ≤ spent l s.2 l.length + 0
    omega
  | t + 1, ht => by
    have h1 := spent_ticks l w hw s h t (by omega)
    have h2 := spent_units l (t : Int) (ticks l w s t) (ticks_fine h t) (w.getD t 0).toNat
    have h3 := hw t (by omega)
    show spent l (units l (t : Int) (ticks l w s t) (w.getD t 0).toNat).2 l.length ≤ spent l s.2 l.length + (wsum w t + w.getD t 0)
    omega
theorem spent_zero (l : List S43) : ∀ n, n ≤ l.length → spent l (lefts l l.length) n = 0
  | 0, _ => rfl
  | n + 1, h => by
    unfold spent
    rw [spent_zero l n (by omega)]
    unfold lefts
    rw [range_get _ _ _ (show n < l.length from h)]
    omega
/-- An invariant of a unit of work in the ticks from a to b is one of these ticks. -/
theorem units_keep {l : List S43} {t : Int} (P : List Int × List Int → Prop) (hu : ∀ s, Fine l s → P s → P (unit l t s)) {s : List Int × List Int} (hf : Fine l s) (h : P s) : ∀ n, P (units l t s n)
  | 0 => h
  | n + 1 => hu _ (units_fine hf n) (units_keep P hu hf h n)
/-- A job is open, or it was finished in a tick behind its release, and no work is left. -/
def Done (l : List S43) (T : Int) (s : List Int × List Int) : Prop := ∀ i, i < l.length → s.2.getD i 0 ≤ todo l i ∧ (s.1.getD i 0 = -1 ∨ rel l i ≤ s.1.getD i 0 ∧ 0 ≤ s.1.getD i 0 ∧ s.1.getD i 0 < T ∧ s.2.getD i 0 = 0)
theorem done_unit {l : List S43} (t : Int) (ht : 0 ≤ t) (s : List Int × List Int) (hf : Fine l s) (h : Done l (t + 1) s) : Done l (t + 1) (unit l t s) := by
  rcases unit_cases l t s hf with e | ⟨j, hj, _, hp, hr, e⟩
  · rw [e]
    exact h
  · rw [e]
    intro i hi
    have hi0 := h i hi
    have hj0 := h j hj
    have l1 : j < s.1.length := by rw [hf.1]; exact hj
    have l2 : j < s.2.length := by rw [hf.2.1]; exact hj
    dsimp only
    rw [getD_set _ _ _ _ l2]
    by_cases hij : j = i
    · subst hij
      rw [if_pos rfl]
      by_cases h0 : s.2.getD j 0 - 1 = 0
      · rw [if_pos h0, getD_set _ _ _ _ l1, if_pos rfl]
        omega
      · rw [if_neg h0]
        omega
    · rw [if_neg hij]
      split
      · rw [getD_set _ _ _ _ l1, if_neg hij]
        exact hi0
      · exact hi0
theorem done_next {l : List S43} {T : Int} {s : List Int × List Int} (h : Done l T s) : Done l (T + 1) s := fun i hi => by
  have := h i hi
  omega
theorem done_ticks (l : List S43) (w : List Int) (s : List Int × List Int) (hf : Fine l s) (h : Done l 0 s) : ∀ t : Nat, Done l (t : Int) (ticks l w s t)
  | 0 => h
  | t + 1 => by
    have h1 := units_keep (t := (t : Int)) (fun s => Done l ((t : Int) + 1) s) (fun s a b => done_unit (t : Int) (by omega) s a b) (ticks_fine (w := w) hf t) (done_next (done_ticks l w s hf h t)) (w.getD t 0).toNat
    rw [show ((t + 1 : Nat) : Int) = (t : Int) + 1 from by omega]
    exact h1
/-- What has work left at tick T0 is finished then or later. -/
theorem later (l : List S43) (w : List Int) (s : List Int × List Int) (hf : Fine l s) (h : Done l 0 s) (T : Nat) : ∀ d i, i < l.length → (ticks l w s T).2.getD i 0 = 0 ∨ (ticks l w s (T + d)).1.getD i 0 = -1 ∨ (T : Int) ≤ (ticks l w s (T + d)).1.getD i 0
  | 0, i, hi => by
    have := done_ticks l w s hf h T i hi
    rw [Nat.add_zero]
    omega
  | d + 1, i, hi => by
    have ih := later l w s hf h T d i hi
    have hk := units_keep (l := l) (t := ((T + d : Nat) : Int)) (fun q => (ticks l w s T).2.getD i 0 = 0 ∨ q.1.getD i 0 = -1 ∨ (T : Int) ≤ q.1.getD i 0) (fun q hq hP => by
      rcases unit_cases l ((T + d : Nat) : Int) q hq with e | ⟨j, hj, _, hp, hr, e⟩
      · rw [e]
        exact hP
      · rw [e]
        dsimp only
        split
        · rw [getD_set _ _ _ _ (by rw [hq.1]; exact hj)]
          split
          · exact Or.inr (Or.inr (by omega))
          · exact hP
        · exact hP) (ticks_fine (w := w) hf (T + d)) ih (w.getD (T + d) 0).toNat
    exact hk
theorem nxt_succ (l : List S43) (left : List Int) (t : Int) (n : Nat) : nxt l left t (n + 1) = if left.getD n 0 > 0 ∧ rel l n ≤ t ∧ (nxt l left t n < 0 ∨ dead l n < dead l (nxt l left t n).toNat) then (n : Int) else nxt l left t n := rfl
theorem nxt_none (l : List S43) (left : List Int) (t : Int) : ∀ n, nxt l left t n < 0 → ∀ i, i < n → left.getD i 0 > 0 → rel l i ≤ t → False
  | 0, _, i, hi, _, _ => absurd hi (Nat.not_lt_zero i)
  | n + 1, h, i, hi, h1, h2 => by
    rw [nxt_succ] at h
    split at h
    · omega
    · rename_i hn
      rcases Nat.lt_succ_iff_lt_or_eq.1 hi with h3 | h3
      · exact nxt_none l left t n h i h3 h1 h2
      · subst h3
        exact hn ⟨h1, h2, Or.inl h⟩
theorem nxt_min (l : List S43) (left : List Int) (t : Int) : ∀ n, 0 ≤ nxt l left t n → ∀ i, i < n → left.getD i 0 > 0 → rel l i ≤ t → dead l (nxt l left t n).toNat ≤ dead l i
  | 0, _, i, hi, _, _ => absurd hi (Nat.not_lt_zero i)
  | n + 1, h, i, hi, h1, h2 => by
    rw [nxt_succ] at h ⊢
    by_cases hc : left.getD n 0 > 0 ∧ rel l n ≤ t ∧ (nxt l left t n < 0 ∨ dead l n < dead l (nxt l left t n).toNat)
    · rw [if_pos hc, Int.toNat_natCast]
      rcases Nat.lt_succ_iff_lt_or_eq.1 hi with h3 | h3
      · rcases hc.2.2 with h4 | h4
        · exact absurd (nxt_none l left t n h4 i h3 h1 h2) id
        · by_cases h5 : 0 ≤ nxt l left t n
          · have := nxt_min l left t n h5 i h3 h1 h2
            omega
          · exact absurd (nxt_none l left t n (by omega) i h3 h1 h2) id
      · subst h3
        exact Int.le_refl _
    · rw [if_neg hc] at h ⊢
      rcases Nat.lt_succ_iff_lt_or_eq.1 hi with h3 | h3
      · exact nxt_min l left t n h i h3 h1 h2
      · subst h3
        exact Int.not_lt.1 (fun h5 => hc ⟨h1, h2, Or.inr h5⟩)
/-- The work done on the jobs of a choice. -/
def sp (l : List S43) (q : Nat → Bool) (left : List Int) : Nat → Int
  | 0 => 0
  | i + 1 => sp l q left i + (if q i = true then todo l i - left.getD i 0 else 0)
theorem sp_set (l : List S43) (q : Nat → Bool) (left : List Int) (j : Nat) (hj : j < left.length) : ∀ n, sp l q (left.set j (left.getD j 0 - 1)) n = sp l q left n + (if j < n ∧ q j = true then 1 else 0)
  | 0 => by simp [sp]
  | n + 1 => by
    unfold sp
    rw [sp_set l q left j hj n, getD_set _ _ _ _ hj]
    by_cases h : j = n
    · subst h
      rw [if_pos rfl]
      by_cases hq : q j = true
      · rw [if_pos hq, if_pos hq, if_neg (show ¬ (j < j ∧ q j = true) from fun h => Nat.lt_irrefl _ h.1), if_pos (show j < j + 1 ∧ q j = true from ⟨Nat.lt_succ_self _, hq⟩)]
        omega
      · rw [if_neg hq, if_neg hq, if_neg (show ¬ (j < j ∧ q j = true) from fun h => hq h.2), if_neg (show ¬ (j < j + 1 ∧ q j = true) from fun h => hq h.2)]
    · rw [if_neg h]
      by_cases h2 : j < n ∧ q j = true
      · rw [if_pos h2, if_pos (show j < n + 1 ∧ q j = true from ⟨by omega, h2.2⟩)]
        omega
      · rw [if_neg h2, if_neg (show ¬ (j < n + 1 ∧ q j = true) from fun h3 => h2 ⟨by omega, h3.2⟩)]
        omega
theorem sp_unit (l : List S43) (q : Nat → Bool) (t : Int) (s : List Int × List Int) (h : Fine l s) : sp l q (unit l t s).2 l.length ≤ sp l q s.2 l.length + 1 := by
  rcases unit_cases l t s h with e | ⟨j, hj, _, _, _, e⟩
  · rw [e]
    omega
  · rw [e]
    dsimp only
    rw [sp_set l q s.2 j (by rw [h.2.1]; exact hj)]
    split <;> omega
theorem sp_units (l : List S43) (q : Nat → Bool) (t : Int) (s : List Int × List Int) (h : Fine l s) : ∀ n, sp l q (units l t s n).2 l.length ≤ sp l q s.2 l.length + (n : Int)
  | 0 => by
    show sp l q s.2 l.length ≤ _
    omega
  | n + 1 => by
    have h1 := sp_units l q t s h n
    have h2 := sp_unit l q t (units l t s n) (units_fine h n)
    show sp l q (unit l t (units l t s n)).2 l.length ≤ _
    omega
theorem sp_ticks (l : List S43) (q : Nat → Bool) (w : List Int) (hw : ∀ i, i < w.length → 0 ≤ w.getD i 0 ∧ w.getD i 0 ≤ 50) (s : List Int × List Int) (h : Fine l s) (a : Nat) : ∀ d, a + d ≤ w.length → sp l q (ticks l w s (a + d)).2 l.length ≤ sp l q (ticks l w s a).2 l.length + (wsum w (a + d) - wsum w a)
  | 0, _ => by
    rw [Nat.add_zero]
    omega
  | d + 1, ht => by
    have h1 := sp_ticks l q w hw s h a d (by omega)
    have h2 := sp_units l q ((a + d : Nat) : Int) (ticks l w s (a + d)) (ticks_fine h (a + d)) (w.getD (a + d) 0).toNat
    have h3 := hw (a + d) (by omega)
    show sp l q (units l ((a + d : Nat) : Int) (ticks l w s (a + d)) (w.getD (a + d) 0).toNat).2 l.length ≤ sp l q (ticks l w s a).2 l.length + ((wsum w (a + d) + w.getD (a + d) 0) - wsum w a)
    omega
/-- Before its release no work is done on a job. -/
theorem left_rel (l : List S43) (w : List Int) (s : List Int × List Int) (hf : Fine l s) (i : Nat) : ∀ t : Nat, (t : Int) ≤ rel l i → (ticks l w s t).2.getD i 0 = s.2.getD i 0
  | 0, _ => rfl
  | t + 1, ht => by
    have ih := left_rel l w s hf i t (by omega)
    exact units_keep (l := l) (t := (t : Int)) (fun q => q.2.getD i 0 = s.2.getD i 0) (fun q hq hP => by
      rcases unit_cases l (t : Int) q hq with e | ⟨j, hj, _, hp, hr, e⟩
      · rw [e]
        exact hP
      · rw [e]
        dsimp only
        rw [getD_set _ _ _ _ (by rw [hq.2.1]; exact hj)]
        by_cases h : j = i
        · subst h
          omega
        · rw [if_neg h]
          exact hP) (ticks_fine (w := w) hf t) ih (w.getD t 0).toNat
/-- What is not finished has work left. -/
def Open (l : List S43) (s : List Int × List Int) : Prop := ∀ i, i < l.length → s.1.getD i 0 = -1 → 0 < s.2.getD i 0
theorem open_ticks (l : List S43) (w : List Int) (s : List Int × List Int) (hf : Fine l s) (h : Open l s) : ∀ t : Nat, Open l (ticks l w s t)
  | 0 => h
  | t + 1 => units_keep (l := l) (t := (t : Int)) (fun q => Open l q) (fun q hq hP => by
      rcases unit_cases l (t : Int) q hq with e | ⟨j, hj, _, hp, hr, e⟩
      · rw [e]
        exact hP
      · rw [e]
        intro i hi
        have hi0 := hP i hi
        have l1 : j < q.1.length := by rw [hq.1]; exact hj
        have l2 : j < q.2.length := by rw [hq.2.1]; exact hj
        dsimp only
        rw [getD_set _ _ _ _ l2]
        by_cases hij : j = i
        · subst hij
          rw [if_pos rfl]
          by_cases h0 : q.2.getD j 0 - 1 = 0
          · rw [if_pos h0, getD_set _ _ _ _ l1, if_pos rfl]
            omega
          · intro _
            omega
        · rw [if_neg hij]
          split
          · rw [getD_set _ _ _ _ l1, if_neg hij]
            exact hi0
          · exact hi0) (ticks_fine (w := w) hf t) (open_ticks l w s hf h t) (w.getD t 0).toNat
/-- A finished job stays as it is. -/
theorem stays (l : List S43) (w : List Int) (s : List Int × List Int) (hf : Fine l s) (T i : Nat) (h : (ticks l w s T).2.getD i 0 = 0) : ∀ d, (ticks l w s (T + d)).2.getD i 0 = 0 ∧ (ticks l w s (T + d)).1.getD i 0 = (ticks l w s T).1.getD i 0
  | 0 => ⟨h, rfl⟩
  | d + 1 => units_keep (l := l) (t := ((T + d : Nat) : Int)) (fun q => q.2.getD i 0 = 0 ∧ q.1.getD i 0 = (ticks l w s T).1.getD i 0) (fun q hq hP => by
      rcases unit_cases l ((T + d : Nat) : Int) q hq with e | ⟨j, hj, _, hp, hr, e⟩
      · rw [e]
        exact hP
      · rw [e]
        have l1 : j < q.1.length := by rw [hq.1]; exact hj
        have l2 : j < q.2.length := by rw [hq.2.1]; exact hj
        have hij : j ≠ i := fun h => by
          subst h
          omega
        dsimp only
        rw [getD_set _ _ _ _ l2, if_neg hij]
        split
        · rw [getD_set _ _ _ _ l1, if_neg hij]
          exact hP
        · exact hP) (ticks_fine (w := w) hf (T + d)) (stays l w s hf T i h d) (w.getD (T + d) 0).toNat
/-- In a tick all the work goes to jobs with deadlines up to D, or no such job is open afterwards. -/
def qd (l : List S43) (D : Int) (i : Nat) : Bool := decide (dead l i ≤ D)
theorem tick_full (l : List S43) (t D : Int) (s : List Int × List Int) (hf : Fine l s) : ∀ n, sp l (qd l D) (units l t s n).2 l.length = sp l (qd l D) s.2 l.length + (n : Int) ∨ ∀ i, i < l.length → dead l i ≤ D → (units l t s n).2.getD i 0 = 0 ∨ t < rel l i
  | 0 => Or.inl (by
    show sp l (qd l D) s.2 l.length = _
    omega)
  | n + 1 => by
    have hu := units_fine (t := t) hf n
    have ih := tick_full l t D s hf n
    show sp l (qd l D) (unit l t (units l t s n)).2 l.length = _ ∨ ∀ i, i < l.length → dead l i ≤ D → (unit l t (units l t s n)).2.getD i 0 = 0 ∨ t < rel l i
    generalize units l t s n = u at hu ih
    rcases unit_cases l t u hu with e | ⟨j, hj, hN, hp, hr, e⟩
    · rcases ih with ih | ih
      · by_cases hn : nxt l u.2 t l.length < 0
        · refine Or.inr (fun i hi hd => ?_)
          rw [e]
          have h0 := hu.2.2 i
          by_cases h1 : rel l i ≤ t
          · by_cases h2 : u.2.getD i 0 > 0
            · exact absurd (nxt_none l u.2 t l.length hn i hi h2 h1) id
            · omega
          · omega
        · have hp := nxt_left l u.2 t l.length (by omega)
          have hb := nxt_in l u.2 t l.length
          unfold unit at e
          rw [if_neg hn] at e
          have e2 : (u.2.set (nxt l u.2 t l.length).toNat (u.2.getD (nxt l u.2 t l.length).toNat 0 - 1)).getD (nxt l u.2 t l.length).toNat 0 = u.2.getD (nxt l u.2 t l.length).toNat 0 := congrArg (fun s : List Int × List Int => s.2.getD (nxt l u.2 t l.length).toNat 0) e
          rw [getD_set _ _ _ _ (by rw [hu.2.1]; omega), if_pos rfl] at e2
          omega
      · refine Or.inr ?_
        rw [e]
        exact ih
    · have l2 : j < u.2.length := by rw [hu.2.1]; exact hj
      rw [e]
      dsimp only
      rcases ih with ih | ih
      · by_cases hD : dead l j ≤ D
        · refine Or.inl ?_
          rw [sp_set l _ u.2 j l2, if_pos (show j < l.length ∧ qd l D j = true from ⟨hj, decide_eq_true hD⟩)]
          omega
        · refine Or.inr (fun i hi hd => ?_)
          have hij : j ≠ i := fun h => hD (h ▸ hd)
          rw [getD_set _ _ _ _ l2, if_neg hij]
          have h0 := hu.2.2 i
          by_cases h1 : rel l i ≤ t
          · by_cases h2 : u.2.getD i 0 > 0
            · have h3 := nxt_min l u.2 t l.length (by omega) i hi h2 h1
              rw [hN, Int.toNat_natCast] at h3
              omega
            · omega
          · omega
      · refine Or.inr (fun i hi hd => ?_)
        have h1 := ih i hi hd
        rw [getD_set _ _ _ _ l2]
        by_cases hij : j = i
        · subst hij
          omega
        · rw [if_neg hij]
          exact h1
/-- From some tick on, all the work goes to jobs with deadlines up to D, and what was released before is finished. -/
theorem start (l : List S43) (w : List Int) (hw : ∀ i, i < w.length → 0 ≤ w.getD i 0 ∧ w.getD i 0 ≤ 50) (s : List Int × List Int) (hf : Fine l s) (hr : ∀ i, i < l.length → 0 ≤ rel l i) (D : Int) : ∀ T, T ≤ w.length → ∃ t0, t0 ≤ T ∧ sp l (qd l D) (ticks l w s T).2 l.length = sp l (qd l D) (ticks l w s t0).2 l.length + (wsum w T - wsum w t0) ∧ ∀ i, i < l.length → dead l i ≤ D → (ticks l w s t0).2.getD i 0 = 0 ∨ (t0 : Int) ≤ rel l i
  | 0, _ => ⟨0, Nat.le_refl _, by omega, fun i hi _ => Or.inr (hr i hi)⟩
  | T + 1, hT => by
    rcases tick_full l (T : Int) D (ticks l w s T) (ticks_fine (w := w) hf T) (w.getD T 0).toNat with h | h
    · obtain ⟨t0, h1, h2, h3⟩ := start l w hw s hf hr D T (by omega)
      refine ⟨t0, by omega, ?_, h3⟩
      have h4 := hw T (by omega)
      show sp l (qd l D) (units l (T : Int) (ticks l w s T) (w.getD T 0).toNat).2 l.length = sp l (qd l D) (ticks l w s t0).2 l.length + ((wsum w T + w.getD T 0) - wsum w t0)
      omega
    · refine ⟨T + 1, Nat.le_refl _, by omega, fun i hi hd => ?_⟩
      have h1 := h i hi hd
      show (units l (T : Int) (ticks l w s T) (w.getD T 0).toNat).2.getD i 0 = 0 ∨ _
      omega
theorem least_of (P : Nat → Prop) (f : Nat → Int) : ∀ n, (∃ i, i < n ∧ P i) → ∃ i, i < n ∧ P i ∧ ∀ j, j < n → P j → f i ≤ f j
  | 0, ⟨i, hi, _⟩ => absurd hi (Nat.not_lt_zero i)
  | n + 1, h => by
    by_cases h1 : ∃ i, i < n ∧ P i
    · obtain ⟨i, hi, hp, hm⟩ := least_of P f n h1
      by_cases h2 : P n ∧ f n < f i
      · refine ⟨n, Nat.lt_succ_self n, h2.1, fun j hj hpj => ?_⟩
        rcases Nat.lt_succ_iff_lt_or_eq.1 hj with h3 | h3
        · have := hm j h3 hpj
          omega
        · have : f j = f n := by rw [h3]
          omega
      · refine ⟨i, by omega, hp, fun j hj hpj => ?_⟩
        rcases Nat.lt_succ_iff_lt_or_eq.1 hj with h3 | h3
        · exact hm j h3 hpj
        · subst h3
          exact Int.not_lt.1 (fun h4 => h2 ⟨hpj, h4⟩)
    · obtain ⟨i, hi, hp⟩ := h
      have h4 : i = n := by
        rcases Nat.lt_succ_iff_lt_or_eq.1 hi with h3 | h3
        · exact absurd ⟨i, h3, hp⟩ h1
        · exact h3
      refine ⟨i, hi, hp, fun j hj hpj => ?_⟩
      rcases Nat.lt_succ_iff_lt_or_eq.1 hj with h3 | h3
      · exact absurd ⟨j, h3, hpj⟩ h1
      · have : f j = f i := by rw [h3, h4]
        omega
/-- The work that has to be done between r and d. -/
def dem (l : List S43) (r d : Int) : Nat → Int
  | 0 => 0
  | j + 1 => if rel l j ≥ r ∧ dead l j ≤ d then dem l r d j + todo l j else dem l r d j
theorem dem_bounds (l : List S43) (r d : Int) (h : ∀ i, i < l.length → 1 ≤ todo l i ∧ todo l i ≤ 100) : ∀ n, n ≤ l.length → 0 ≤ dem l r d n ∧ dem l r d n ≤ 100 * (n : Int)
  | 0, _ => ⟨Int.le_refl _, Int.le_refl _⟩
  | n + 1, hn => by
    have := dem_bounds l r d h n (by omega)
    have := h n (by omega)
    unfold dem
    split <;> omega
theorem over (l : List S43) (a b : List Int) (r D : Int) (m : Nat) (h1 : ∀ i, i < l.length → dead l i ≤ D → rel l i < r → a.getD i 0 = 0) (h2 : ∀ i, i < l.length → a.getD i 0 ≤ todo l i) (h3 : ∀ i, 0 ≤ b.getD i 0)
    (h4 : dead l m ≤ D) (h5 : rel l m ≥ r) (h6 : 0 < b.getD m 0) : ∀ n, n ≤ l.length → sp l (qd l D) b n - sp l (qd l D) a n + (if m < n then 1 else 0) ≤ dem l r D n
  | 0, _ => by
    rw [if_neg (Nat.not_lt_zero m)]
    exact Int.le_refl _
  | n + 1, hn => by
    have ih := over l a b r D m h1 h2 h3 h4 h5 h6 n (by omega)
    have q1 := h1 n (by omega)
    have q2 := h2 n (by omega)
    have q3 := h3 n
    unfold sp dem
    by_cases hd : dead l n ≤ D
    · have hq : qd l D n = true := decide_eq_true hd
      rw [if_pos hq, if_pos hq]
      by_cases hr : rel l n ≥ r
      · rw [if_pos (show rel l n ≥ r ∧ dead l n ≤ D from ⟨hr, hd⟩)]
        by_cases hm : m = n
        · subst hm
          rw [if_neg (Nat.lt_irrefl _)] at ih
          rw [if_pos (Nat.lt_succ_self _)]
          omega
        · by_cases hmn : m < n
          · rw [if_pos hmn] at ih
            rw [if_pos (by omega)]
            omega
          · rw [if_neg hmn] at ih
            rw [if_neg (by omega)]
            omega
      · rw [if_neg (show ¬ (rel l n ≥ r ∧ dead l n ≤ D) from fun h => hr h.1)]
        have q4 := q1 hd (by omega)
        have hm : m ≠ n := fun h => hr (h ▸ h5)
        by_cases hmn : m < n
        · rw [if_pos hmn] at ih
          rw [if_pos (by omega)]
          omega
        · rw [if_neg hmn] at ih
          rw [if_neg (by omega)]
          omega
    · have hq : ¬ qd l D n = true := fun h => hd (of_decide_eq_true h)
      have hm : m ≠ n := fun h => hd (h ▸ h4)
      rw [if_neg hq, if_neg hq, if_neg (show ¬ (rel l n ≥ r ∧ dead l n ≤ D) from fun h => hd h.2)]
      by_cases hmn : m < n
      · rw [if_pos hmn] at ih
        rw [if_pos (by omega)]
        omega
      · rw [if_neg hmn] at ih
        rw [if_neg (by omega)]
        omega
def qs (l : List S43) (r D : Int) (i : Nat) : Bool := decide (rel l i ≥ r ∧ dead l i ≤ D)
theorem sp_none (l : List S43) (a : List Int) (r D : Int) (h : ∀ i, i < l.length → rel l i ≥ r → dead l i ≤ D → a.getD i 0 = todo l i) : ∀ n, n ≤ l.length → sp l (qs l r D) a n = 0
  | 0, _ => rfl
  | n + 1, hn => by
    unfold sp
    rw [sp_none l a r D h n (by omega)]
    split
    · rename_i hq
      have h1 := of_decide_eq_true hq
      have := h n (by omega) h1.1 h1.2
      omega
    · rfl
theorem sp_all (l : List S43) (b : List Int) (r D : Int) (h : ∀ i, i < l.length → rel l i ≥ r → dead l i ≤ D → b.getD i 0 = 0) : ∀ n, n ≤ l.length → sp l (qs l r D) b n = dem l r D n
  | 0, _ => rfl
  | n + 1, hn => by
    unfold sp dem
    rw [sp_all l b r D h n (by omega)]
    by_cases hq : rel l n ≥ r ∧ dead l n ≤ D
    · rw [if_pos hq, if_pos (show qs l r D n = true from decide_eq_true hq)]
      have := h n (by omega) hq.1 hq.2
      omega
    · rw [if_neg hq, if_neg (show ¬ qs l r D n = true from fun h => hq (of_decide_eq_true h))]
      omega
theorem dem_none (l : List S43) (r D : Int) (h : ∀ i, i < l.length → rel l i ≥ r → dead l i ≤ D → False) : ∀ n, n ≤ l.length → dem l r D n = 0
  | 0, _ => rfl
  | n + 1, hn => by
    unfold dem
    rw [if_neg (show ¬ (rel l n ≥ r ∧ dead l n ≤ D) from fun hq => h n (by omega) hq.1 hq.2)]
    exact dem_none l r D h n (by omega)
/-- The work between r and d. -/
def wb (w : List Int) (r d : Int) : Nat → Int
  | 0 => 0
  | i + 1 => if (i : Int) ≥ r ∧ (i : Int) < d then wb w r d i + w.getD i 0 else wb w r d i
theorem wb_bounds {w : List Int} (r d : Int) (h : ∀ i, i < w.length → 0 ≤ w.getD i 0 ∧ w.getD i 0 ≤ 50) : ∀ t, t ≤ w.length → 0 ≤ wb w r d t ∧ wb w r d t ≤ 50 * (t : Int)
  | 0, _ => ⟨Int.le_refl _, Int.le_refl _⟩
  | t + 1, ht => by
    have := wb_bounds r d h t (by omega)
    have := h t (by omega)
    unfold wb
    split <;> omega
theorem wb_late (w : List Int) (r d : Int) (h : d ≤ r) : ∀ n, wb w r d n = 0
  | 0 => rfl
  | n + 1 => by
    unfold wb
    rw [if_neg (by omega)]
    exact wb_late w r d h n
theorem wb_sum (w : List Int) (r d : Nat) (h : r ≤ d) : ∀ n, wb w (r : Int) (d : Int) n = wsum w (min n d) - wsum w (min n r)
  | 0 => by
    rw [Nat.zero_min, Nat.zero_min]
    rfl
  | n + 1 => by
    have ih := wb_sum w r d h n
    unfold wb
    by_cases h1 : n < r
    · rw [if_neg (by omega), ih, Nat.min_eq_left (show n ≤ d from by omega), Nat.min_eq_left (show n ≤ r from by omega), Nat.min_eq_left (show n + 1 ≤ d from by omega), Nat.min_eq_left (show n + 1 ≤ r from by omega)]
      omega
    · rw [Nat.min_eq_right (show r ≤ n from by omega)] at ih
      rw [Nat.min_eq_right (show r ≤ n + 1 from by omega)]
      by_cases h2 : n < d
      · rw [Nat.min_eq_left (show n ≤ d from by omega)] at ih
        rw [if_pos (by omega), ih, Nat.min_eq_left (show n + 1 ≤ d from by omega)]
        show _ = wsum w n + w.getD n 0 - wsum w r
        omega
      · rw [Nat.min_eq_right (show d ≤ n from by omega)] at ih
        rw [if_neg (by omega), ih, Nat.min_eq_right (show d ≤ n + 1 from by omega)]
theorem wsum_le {w : List Int} (h : ∀ i, i < w.length → 0 ≤ w.getD i 0 ∧ w.getD i 0 ≤ 50) (a : Nat) : ∀ d, a + d ≤ w.length → wsum w a ≤ wsum w (a + d)
  | 0, _ => Int.le_refl _
  | d + 1, hd => by
    have h1 := wsum_le h a d (by omega)
    have h2 := h (a + d) (by omega)
    show wsum w a ≤ wsum w (a + d) + w.getD (a + d) 0
    omega
/-- All jobs are finished in time exactly if, between each release and each deadline, the work can be done. -/
theorem edf (l : List S43) (w : List Int) (hw : ∀ i, i < w.length → 0 ≤ w.getD i 0 ∧ w.getD i 0 ≤ 50) (s : List Int × List Int) (hf : Fine l s) (hs : ∀ i, i < l.length → s.2.getD i 0 = todo l i) (ht : ∀ i, i < l.length → 1 ≤ todo l i ∧ todo l i ≤ 100)
    (hr : ∀ i, i < l.length → 0 ≤ rel l i ∧ rel l i ≤ dead l i) (hD : Done l 0 s) :
    (∀ m, m < l.length → (ticks l w s (min w.length (dead l m).toNat)).2.getD m 0 = 0) ↔ ∀ i k, i < l.length → k < l.length → dem l (rel l i) (dead l k) l.length ≤ wb w (rel l i) (dead l k) w.length := by
  constructor
  · intro h i k hi hk
    have hri := hr i hi
    have hrk := hr k hk
    have hwb := wb_bounds (rel l i) (dead l k) hw w.length (Nat.le_refl _)
    by_cases hd : dead l k ≤ rel l i
    · rw [dem_none l (rel l i) (dead l k) (fun j hj h1 h2 => ?_) l.length (Nat.le_refl _)]
      · exact hwb.1
      · have h3 := h j hj
        have h4 := hr j hj
        rw [left_rel l w s hf j _ (by omega), hs j hj] at h3
        have := ht j hj
        omega
    · obtain ⟨r, hR⟩ : ∃ r : Nat, rel l i = (r : Int) := ⟨(rel l i).toNat, by omega⟩
      obtain ⟨d, hDD⟩ : ∃ d : Nat, dead l k = (d : Int) := ⟨(dead l k).toNat, by omega⟩
      rw [hR, hDD, wb_sum w r d (by omega)]
      have h1 := sp_none l (ticks l w s (min w.length r)).2 (r : Int) (d : Int) (fun j hj h1 h2 => by
        rw [left_rel l w s hf j _ (by omega), hs j hj]) l.length (Nat.le_refl _)
      have h2 := sp_all l (ticks l w s (min w.length d)).2 (r : Int) (d : Int) (fun j hj h1 h2 => by
        have h3 := h j hj
        have h4 := stays l w s hf _ j h3 (min w.length d - min w.length (dead l j).toNat)
        rw [show min w.length (dead l j).toNat + (min w.length d - min w.length (dead l j).toNat) = min w.length d from by omega] at h4
        exact h4.1) l.length (Nat.le_refl _)
      have h3 := sp_ticks l (qs l (r : Int) (d : Int)) w hw s hf (min w.length r) (min w.length d - min w.length r) (by omega)
      rw [show min w.length r + (min w.length d - min w.length r) = min w.length d from by omega] at h3
      omega
  · intro h m hm
    have hb := (ticks_fine (w := w) hf (min w.length (dead l m).toNat)).2.2
    by_cases h0 : (ticks l w s (min w.length (dead l m).toNat)).2.getD m 0 = 0
    · exact h0
    · have hpos := hb m
      obtain ⟨t0, h1, h2, h3⟩ := start l w hw s hf (fun i hi => (hr i hi).1) (dead l m) (min w.length (dead l m).toNat) (by omega)
      have hm0 := h3 m hm (Int.le_refl _)
      have hmt : (t0 : Int) ≤ rel l m := by
        rcases hm0 with q | q
        · have h4 := stays l w s hf t0 m q (min w.length (dead l m).toNat - t0)
          rw [show t0 + (min w.length (dead l m).toNat - t0) = min w.length (dead l m).toNat from by omega] at h4
          exact absurd h4.1 h0
        · exact q
      obtain ⟨i, hi, ⟨p1, p2⟩, p3⟩ := least_of (fun i => dead l i ≤ dead l m ∧ (t0 : Int) ≤ rel l i) (rel l) l.length ⟨m, hm, Int.le_refl _, hmt⟩
      have hD0 := done_ticks l w s hf hD t0
      have h4 := over l (ticks l w s t0).2 (ticks l w s (min w.length (dead l m).toNat)).2 (rel l i) (dead l m) m (fun j hj q1 q2 => by
        rcases h3 j hj q1 with q | q
        · exact q
        · have := p3 j hj ⟨q1, q⟩
          omega) (fun j hj => (hD0 j hj).1) (fun i => (hb i).1) (Int.le_refl _) (p3 m hm ⟨Int.le_refl _, hmt⟩) (by omega) l.length (Nat.le_refl _)
      rw [if_pos hm] at h4
      have h5 := h i m hi hm
      have hri := hr i hi
      have hrm := hr m hm
      have h6 : wb w (rel l i) (dead l m) w.length ≤ wsum w (min w.length (dead l m).toNat) - wsum w t0 := by
        have h7 := wsum_le hw t0 (min w.length (dead l m).toNat - t0) (by omega)
        rw [show t0 + (min w.length (dead l m).toNat - t0) = min w.length (dead l m).toNat from by omega] at h7
        by_cases hd : dead l m ≤ rel l i
        · rw [wb_late w _ _ hd]
          omega
        · obtain ⟨r, hR⟩ : ∃ r : Nat, rel l i = (r : Int) := ⟨(rel l i).toNat, by omega⟩
          obtain ⟨d, hDD⟩ : ∃ d : Nat, dead l m = (d : Int) := ⟨(dead l m).toNat, by omega⟩
          rw [hDD] at h7 h1 ⊢
          rw [Int.toNat_natCast] at h7 h1 ⊢
          rw [hR, wb_sum w r d (by omega)]
          have h8 := wsum_le hw t0 (min w.length r - t0) (by omega)
          rw [show t0 + (min w.length r - t0) = min w.length r from by omega] at h8
          omega
      omega
theorem mono_more {ρ : Type} {f : Nat → Option ρ} (h : ∀ k, LeO (f k) (f (k + 1))) {k : Nat} {r : ρ} (e : f k = some r) : ∀ d, f (k + d) = some r
  | 0 => e
  | d + 1 => h (k + d) r (mono_more h e d)
theorem between_f (w : List Int) (hw : ∀ i, i < w.length → 0 ≤ w.getD i 0 ∧ w.getD i 0 ≤ 50) (hl : w.length ≤ 1048576) (r d : Int) (k : Nat) (hk : w.length < k) : impl_WorkBefore.f k w r d = some (wb w r d w.length) := by
  unfold impl_WorkBefore.f
  refine loop_up w.length (fun k (s : Int × Int) => impl_WorkBefore.l0 k r d s.1 w (w.length : Int) s.2) (fun i => (wb w r d i, (i : Int))) _ (fun k i hi => ?_) (fun k => ?_) k hk
  · have r1 : rd w (i : Int) = w.getD i 0 := rfl
    have hb := wb_bounds r d hw i (by omega)
    have hi2 := hw i hi
    simp only [impl_WorkBefore.l0, r1]
    rw [if_pos (by omega), if_pos (by omega), if_pos (by omega), wrap_next hi (by omega), wrap_in (x := wb w r d i + w.getD i 0) (by omega) (by omega)]
    by_cases h : (i : Int) ≥ r
    · rw [if_pos h]
      by_cases h2 : (i : Int) < d
      · rw [if_pos h2]
        conv => rhs; simp only [wb, if_pos (show (i : Int) ≥ r ∧ (i : Int) < d from ⟨h, h2⟩)]
      · rw [if_neg h2]
        conv => rhs; simp only [wb, if_neg (show ¬ ((i : Int) ≥ r ∧ (i : Int) < d) from fun q => h2 q.2)]
    · rw [if_neg h]
      conv => rhs; simp only [wb, if_neg (show ¬ ((i : Int) ≥ r ∧ (i : Int) < d) from fun q => h q.1)]
  · simp only [impl_WorkBefore.l0]
    rw [if_neg (by omega)]
/-- Is job i missed? -/
def late (J : List S43) (t : List Int) (i : Nat) : Bool := decide (t.getD i 0 = -1 ∨ t.getD i 0 ≥ (J.getD i z43).f1)
theorem missed_f (J : List S43) (t : List Int) (h : J.length = t.length) (hl : J.length ≤ 1048576) (k : Nat) (hk : J.length < k) : impl_Missed.f k J t = some (col (late J t) J.length) := by
  unfold impl_Missed.f
  rw [if_pos (by omega)]
  exact loop_up J.length (fun k (s : List Int × Int) => impl_Missed.l0 k J s.1 t (t.length : Int) s.2) (fun i => (col (late J t) i, (i : Int))) (col (late J t) J.length) (fun k i hi => by
    have hc := col_length (late J t) i
    simp only [impl_Missed.l0]
    rw [if_pos (by omega), if_pos (by omega), if_pos (by omega), rd_nat, wrap_next hi (by omega)]
    by_cases h1 : t.getD i 0 = -1
    · rw [if_pos h1, if_pos (by omega), col_yes (show late J t i = true from decide_eq_true (.inl h1))]
    · rw [if_neg h1, if_pos (by omega)]
      by_cases h2 : t.getD i 0 ≥ (rd_T43 J (i : Int)).f1
      · rw [if_pos h2, if_pos (by omega), col_yes (show late J t i = true from decide_eq_true (.inr h2))]
      · rw [if_neg h2, col_no (show late J t i = false from decide_eq_false (fun h => h.elim h1 h2))]) (fun k => by
    simp only [impl_Missed.l0]
    rw [if_neg (by omega)]) k hk
theorem col_none (c : Nat → Bool) : ∀ n, (col c n).length = 0 ↔ ∀ i, i < n → c i = false
  | 0 => ⟨fun _ i hi => absurd hi (Nat.not_lt_zero i), fun _ => rfl⟩
  | n + 1 => by
    have ih := col_none c n
    cases hc : c n with
    | true =>
      rw [col_yes hc, List.length_append]
      constructor
      · intro h
        simp at h
      · intro h
        have := h n (by omega)
        rw [hc] at this
        cases this
    | false =>
      rw [col_no hc, ih]
      constructor
      · intro h i hi
        rcases Nat.lt_succ_iff_lt_or_eq.1 hi with h3 | h3
        · exact h i h3
        · rw [h3]
          exact hc
      · intro h i hi
        exact h i (by omega)
/-- Do all pairs ahead of (i, k) fit? -/
def fk (l : List S43) (w : List Int) (i : Nat) (x : Bool) : Nat → Bool
  | 0 => x
  | k + 1 => fk l w i x k && decide (dem l (rel l i) (dead l k) l.length ≤ wb w (rel l i) (dead l k) w.length)
def fi (l : List S43) (w : List Int) : Nat → Bool
  | 0 => true
  | i + 1 => fk l w i (fi l w i) l.length
theorem fk_true (l : List S43) (w : List Int) (i : Nat) (x : Bool) : ∀ n, fk l w i x n = true ↔ x = true ∧ ∀ k, k < n → dem l (rel l i) (dead l k) l.length ≤ wb w (rel l i) (dead l k) w.length
  | 0 => ⟨fun h => ⟨h, fun k hk => absurd hk (Nat.not_lt_zero k)⟩, fun h => h.1⟩
  | n + 1 => by
    unfold fk
    rw [Bool.and_eq_true, fk_true l w i x n, decide_eq_true_eq]
    constructor
    · intro h
      refine ⟨h.1.1, fun k hk => ?_⟩
      rcases Nat.lt_succ_iff_lt_or_eq.1 hk with h3 | h3
      · exact h.1.2 k h3
      · rw [h3]
        exact h.2
    · intro h
      exact ⟨⟨h.1, fun k hk => h.2 k (by omega)⟩, h.2 n (by omega)⟩
theorem fi_true (l : List S43) (w : List Int) : ∀ n, fi l w n = true ↔ ∀ i k, i < n → k < l.length → dem l (rel l i) (dead l k) l.length ≤ wb w (rel l i) (dead l k) w.length
  | 0 => ⟨fun _ i _ hi => absurd hi (Nat.not_lt_zero i), fun _ => rfl⟩
  | n + 1 => by
    unfold fi
    rw [fk_true, fi_true l w n]
    constructor
    · intro h i k hi hk
      rcases Nat.lt_succ_iff_lt_or_eq.1 hi with h3 | h3
      · exact h.1 i k h3 hk
      · rw [h3]
        exact h.2 k hk
    · intro h
      exact ⟨fun i k hi hk => h i k (by omega) hk, fun k hk => h n k (by omega) hk⟩
section
variable (l : List S43) (w : List Int) (ms : List Int) (h8 : l.length ≤ 8) (hw5 : w.length ≤ 500) (hw : ∀ i, i < w.length → 0 ≤ w.getD i 0 ∧ w.getD i 0 ≤ 50) (ht : ∀ i, i < l.length → 1 ≤ todo l i ∧ todo l i ≤ 100) (r : Bool)
include h8 hw5 hw ht
theorem lawInner (i kk : Nat) (hi : i < l.length) (hk : kk < l.length) (x : Bool)
    (hr : Ev (fun k => laws_FnDeadlines.l1 k l w ms (x && decide (dem l (rel l i) (dead l kk) l.length ≤ wb w (rel l i) (dead l kk) w.length)) (i : Int) ((kk + 1 : Nat) : Int)) r) :
    ∀ d j, j + d = l.length → Ev (fun k => laws_FnDeadlines.l2 k l w ms x (i : Int) (kk : Int) (dem l (rel l i) (dead l kk) j) (j : Int)) r := by
  intro d
  induction d with
  | zero =>
    intro j hj
    have : j = l.length := by omega
    subst this
    have r1 : (rd_T43 l (i : Int)).f0 = rel l i := rfl
    have r2 : (rd_T43 l (kk : Int)).f1 = dead l kk := rfl
    refine Ev.step (w.length + 1) (fun k hkk => ?_) hr
    simp only [laws_FnDeadlines.l2, r1, r2, between_f w hw (by omega) (rel l i) (dead l kk) k (by omega), Option.bind_some]
    rw [if_neg (by omega), wrap_next (n := l.length) hk (by omega)]
    cases x with
    | true =>
      rw [if_pos rfl, if_pos (by omega), if_pos (by omega), if_pos (by omega), if_pos (by omega), Bool.true_and]
    | false =>
      rw [if_neg (by decide), Bool.false_and]
  | succ d ih =>
    intro j hj
    have r1 : (rd_T43 l (i : Int)).f0 = rel l i := rfl
    have r2 : (rd_T43 l (kk : Int)).f1 = dead l kk := rfl
    have r3 : (rd_T43 l (j : Int)).f0 = rel l j := rfl
    have r4 : (rd_T43 l (j : Int)).f1 = dead l j := rfl
    have r5 : (rd_T43 l (j : Int)).f2 = todo l j := rfl
    have hb := dem_bounds l (rel l i) (dead l kk) ht j (by omega)
    have hj2 := ht j (by omega)
    refine Ev.step 0 (fun k _ => ?_) (ih (j + 1) (by omega))
    simp only [laws_FnDeadlines.l2, r1, r2, r3, r4, r5]
    rw [if_pos (by omega), if_pos (by omega), if_pos (by omega), if_pos (by omega), wrap_next (n := l.length) (by omega) (by omega), wrap_in (x := dem l (rel l i) (dead l kk) j + todo l j) (by omega) (by omega)]
    by_cases q1 : rel l j ≥ rel l i
    · rw [if_pos q1, if_pos (by omega), if_pos (by omega)]
      by_cases q2 : dead l j ≤ dead l kk
      · rw [if_pos q2]
        conv => rhs; simp only [dem, if_pos (show rel l j ≥ rel l i ∧ dead l j ≤ dead l kk from ⟨q1, q2⟩)]
      · rw [if_neg q2]
        conv => rhs; simp only [dem, if_neg (show ¬ (rel l j ≥ rel l i ∧ dead l j ≤ dead l kk) from fun q => q2 q.2)]
    · rw [if_neg q1]
      conv => rhs; simp only [dem, if_neg (show ¬ (rel l j ≥ rel l i ∧ dead l j ≤ dead l kk) from fun q => q1 q.1)]
theorem lawMiddle (i : Nat) (hi : i < l.length) (x : Bool) (hr : Ev (fun k => laws_FnDeadlines.l0 k l w ms (fk l w i x l.length) ((i + 1 : Nat) : Int)) r) :
    ∀ d kk, kk + d = l.length → Ev (fun k => laws_FnDeadlines.l1 k l w ms (fk l w i x kk) (i : Int) (kk : Int)) r := by
  intro d
  induction d with
  | zero =>
    intro kk hk
    have : kk = l.length := by omega
    subst this
    refine Ev.step 0 (fun k _ => ?_) hr
    simp only [laws_FnDeadlines.l1]
    rw [if_neg (by omega), wrap_next (n := l.length) hi (by omega)]
  | succ d ih =>
    intro kk hk
    have h := lawInner l w ms h8 hw5 hw ht r i kk hi (by omega) (fk l w i x kk) (ih (kk + 1) (by omega)) l.length 0 (by omega)
    refine Ev.step 0 (fun k _ => ?_) h
    simp only [laws_FnDeadlines.l1]
    rw [if_pos (by omega)]
    rfl
theorem lawOuter (hr : r = (fi l w l.length == ((ms.length : Int) == 0))) : ∀ d i, i + d = l.length → Ev (fun k => laws_FnDeadlines.l0 k l w ms (fi l w i) (i : Int)) r := by
  intro d
  induction d with
  | zero =>
    intro i hi
    have : i = l.length := by omega
    subst this
    refine Ev.last 0 (fun k _ => ?_)
    simp only [laws_FnDeadlines.l0]
    rw [if_neg (by omega), hr]
  | succ d ih =>
    intro i hi
    have h := lawMiddle l w ms h8 hw5 hw ht r i (by omega) (fi l w i) (ih (i + 1) (by omega)) l.length 0 (by omega)
    refine Ev.step 0 (fun k _ => ?_) h
    simp only [laws_FnDeadlines.l0]
    rw [if_pos (by omega)]
    rfl
end
theorem FnDeadlines : laws_FnDeadlines.Pure := by
  intro c hC
  by_cases hb : (c.length : Int) > 1048576
  · refine ⟨0, ?_⟩
    simp only [laws_FnDeadlines.f, laws_big.f, hb, decide_true, Option.bind_some, ↓reduceIte]
  obtain ⟨l, w, e1, hJ, hW, h5, h24, hw5⟩ := drawJobs_f c (by omega) (c.length + 27) (by omega)
  obtain ⟨k0, E⟩ := implTicks l w hJ hW (by omega)
  have hf := fine_init hJ
  have hws : ∀ i, i < w.length → 0 ≤ w.getD i 0 ∧ w.getD i 0 ≤ 50 := fun i hi => by
    have := hw5 i hi
    omega
  have hok : ∀ i, i < l.length → (1 ≤ todo l i ∧ todo l i ≤ 100) ∧ 0 ≤ rel l i ∧ rel l i ≤ dead l i := fun i hi => by
    have h := hJ
    unfold okJ at h
    rw [endsAt_last, Bool.and_eq_true, endsAt_true] at h
    have h2 := h.1 i (Nat.zero_le _) (by omega)
    simp only [okJobs, inB, Bool.and_eq_true, decide_eq_true_eq] at h2
    unfold todo rel dead
    omega
  have hs : ∀ i, i < l.length → (lefts l l.length).getD i 0 = todo l i := fun i hi => by
    unfold lefts
    exact range_get _ _ _ hi 0
  have ho : ∀ i, i < l.length → (outs l.length).getD i 0 = -1 := fun i hi => by
    unfold outs
    rw [getD_lt (by rw [List.length_replicate]; exact hi), List.getElem_replicate]
  have hD0 : Done l 0 (outs l.length, lefts l l.length) := fun i hi => by
    have h1 := hs i hi
    refine ⟨?_, Or.inl (ho i hi)⟩
    show (lefts l l.length).getD i 0 ≤ _
    omega
  have hO0 : Open l (outs l.length, lefts l l.length) := fun i hi _ => by
    have h1 := hs i hi
    have h2 := hok i hi
    show 0 < (lefts l l.length).getD i 0
    omega
  have hE := edf l w hws _ hf hs (fun i hi => (hok i hi).1) (fun i hi => (hok i hi).2) hD0
  have hlen := (ticks_fine (w := w) hf w.length).1
  have hlate : (∀ i, i < l.length → late l (ticks l w (outs l.length, lefts l l.length) w.length).1 i = false) ↔ ∀ m, m < l.length → (ticks l w (outs l.length, lefts l l.length) (min w.length (dead l m).toNat)).2.getD m 0 = 0 := by
    have key : ∀ m, m < l.length → (late l (ticks l w (outs l.length, lefts l l.length) w.length).1 m = false ↔ (ticks l w (outs l.length, lefts l l.length) (min w.length (dead l m).toNat)).2.getD m 0 = 0) := fun m hm => by
      have hm2 := hok m hm
      have hT : min w.length (dead l m).toNat + (w.length - min w.length (dead l m).toNat) = w.length := by omega
      have q1 := later l w _ hf hD0 (min w.length (dead l m).toNat) (w.length - min w.length (dead l m).toNat) m hm
      have q2 := done_ticks l w _ hf hD0 w.length m hm
      have q3 := done_ticks l w _ hf hD0 (min w.length (dead l m).toNat) m hm
      have q4 := open_ticks l w _ hf hO0 (min w.length (dead l m).toNat) m hm
      have q5 := fun h => stays l w _ hf (min w.length (dead l m).toNat) m h (w.length - min w.length (dead l m).toNat)
      rw [hT] at q1 q5
      unfold late
      rw [decide_eq_false_iff_not]
      have r4 : (l.getD m z43).f1 = dead l m := rfl
      rw [r4]
      constructor
      · intro h
        omega
      · intro h
        have q6 := (q5 h).2
        omega
    exact ⟨fun h m hm => (key m hm).1 (h m hm), fun h m hm => (key m hm).2 (h m hm)⟩
  generalize hO : (ticks l w (outs l.length, lefts l l.length) w.length).1 = out at hlate hlen E
  have eM := missed_f l out (by rw [hlen]) (by omega)
  have hlast : (fi l w l.length == (((col (late l out) l.length).length : Int) == 0)) = true := by
    have h1 := fi_true l w l.length
    have h2 := col_none (late l out) l.length
    rw [hlate, hE, ← h1] at h2
    rw [beq_iff_eq]
    cases hfi : fi l w l.length with
    | true =>
      have := h2.2 hfi
      rw [this]
      rfl
    | false =>
      symm
      rw [beq_eq_false_iff_ne]
      intro h
      have := h2.1 (by omega)
      rw [hfi] at this
      cases this
  obtain ⟨k1, E1⟩ := lawOuter l w (col (late l out) l.length) (by omega) (by omega) hws (fun i hi => (hok i hi).1) true hlast.symm l.length 0 (by omega)
  refine ⟨c.length + 27 + (k0 + k1), ?_⟩
  have e2 := mono_more (f := fun k => spec_DrawJobs.f k c) (fun k => spec_DrawJobs.mono c k) e1 (k0 + k1)
  have e3 := E (c.length + 27 + (k0 + k1)) (by omega)
  have e4 := eM (c.length + 27 + (k0 + k1)) (by omega)
  have e5 := E1 (c.length + 27 + (k0 + k1)) (by omega)
  simp only [laws_FnDeadlines.f, laws_big.f, hb, decide_false, e2, e3, e4, Option.bind_some, Bool.false_eq_true, ↓reduceIte]
  rw [if_pos (by omega)]
  exact e5

end Go.Proofs.Ytniiebpibdkgjaa.Pure
