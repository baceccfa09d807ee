/- The law FnExactFinishTicks in plain lists: the program works on the same jobs in the same ticks as the reference, again at a second call, and shares no memory with the arguments. Conditions: none beside those of the row. -/
import Derived.Test.YtniiebpibdkgjaaHelpFnExactFinishTicks
namespace Go.Proofs.Ytniiebpibdkgjaa.Pure
open Go.RowKit Go.Proofs.Ytniiebpibdkgjaa.PFnExactFinishTicks Go.Proofs.Ytniiebpibdkgjaa.XPure Go.Proofs.Ytniiebpibdkgjaa.PureFnExactFinishTicks Go.Proofs.YtniiebpibdkgjaaW.PrintWords
set_option linter.unusedSimpArgs false

/-- With enough rounds, and with any more, it ends so. -/
def Ev {ρ : Type} (f : Nat → Option ρ) (r : ρ) : Prop := ∃ k0, ∀ k, k0 ≤ k → f k = some r
theorem Ev.step {ρ : Type} {f g : Nat → Option ρ} {r : ρ} (k0 : Nat) (c : ∀ k, k0 ≤ k → f (k + 1) = g k) (h : Ev g r) : Ev f r := by
  obtain ⟨k1, h⟩ := h
  refine ⟨k0 + k1 + 1, fun k hk => ?_⟩
  obtain ⟨q, rfl⟩ : ∃ q, k = q + 1 := ⟨k - 1, by omega⟩
  rw [c q (by omega)]
  exact h q (by omega)
theorem Ev.last {ρ : Type} {f : Nat → Option ρ} {r : ρ} (k0 : Nat) (c : ∀ k, k0 ≤ k → f (k + 1) = some r) : Ev f r := by
  refine ⟨k0 + 1, fun k hk => ?_⟩
  obtain ⟨q, rfl⟩ : ∃ q, k = q + 1 := ⟨k - 1, by omega⟩
  exact c q (by omega)
def rel (l : List S43) (i : Nat) : Int := (l.getD i z43).f0
def dead (l : List S43) (i : Nat) : Int := (l.getD i z43).f1
def todo (l : List S43) (i : Nat) : Int := (l.getD i z43).f2
/-- The most urgent of the first i jobs in tick t. -/
def nxt (l : List S43) (left : List Int) (t : Int) : Nat → Int
  | 0 => -1
  | i + 1 => if left.getD i 0 > 0 ∧ rel l i ≤ t ∧ (nxt l left t i < 0 ∨ dead l i < dead l (nxt l left t i).toNat) then (i : Int) else nxt l left t i
theorem nxt_in (l : List S43) (left : List Int) (t : Int) : ∀ i, -1 ≤ nxt l left t i ∧ nxt l left t i < (i : Int)
  | 0 => ⟨Int.le_refl _, show (-1 : Int) < 0 from by decide⟩
  | i + 1 => by
    have := nxt_in l left t i
    unfold nxt
    split <;> omega
theorem nxt_left (l : List S43) (left : List Int) (t : Int) : ∀ i, 0 ≤ nxt l left t i → left.getD (nxt l left t i).toNat 0 > 0
  | 0 => fun h => absurd h (show ¬ (0 : Int) ≤ -1 from by decide)
  | i + 1 => by
    have := nxt_left l left t i
    unfold nxt
    split
    · rename_i h
      intro _
      exact h.1
    · exact this
/-- One unit of work in tick t. -/
def unit (l : List S43) (t : Int) (s : List Int × List Int) : List Int × List Int :=
  if nxt l s.2 t l.length < 0 then s
  else
    (if (s.2.getD (nxt l s.2 t l.length).toNat 0) - 1 = 0 then s.1.set (nxt l s.2 t l.length).toNat t else s.1,
     s.2.set (nxt l s.2 t l.length).toNat (s.2.getD (nxt l s.2 t l.length).toNat 0 - 1))
def units (l : List S43) (t : Int) (s : List Int × List Int) : Nat → List Int × List Int
  | 0 => s
  | n + 1 => unit l t (units l t s n)
def ticks (l : List S43) (w : List Int) (s : List Int × List Int) : Nat → List Int × List Int
  | 0 => s
  | t + 1 => units l (t : Int) (ticks l w s t) (w.getD t 0).toNat
/-- What holds of a state. -/
def Fine (l : List S43) (s : List Int × List Int) : Prop := s.1.length = l.length ∧ s.2.length = l.length ∧ ∀ i, 0 ≤ s.2.getD i 0 ∧ s.2.getD i 0 ≤ 100
theorem getD_set (l : List Int) (i j : Nat) (x : Int) (hi : i < l.length) : (l.set i x).getD j 0 = if i = j then x else l.getD j 0 := by
  rw [List.getD_eq_getElem?_getD, List.getElem?_set]
  by_cases h : i = j
  · rw [if_pos h, if_pos h, if_pos hi]
    rfl
  · rw [if_neg h, if_neg h, ← List.getD_eq_getElem?_getD]
theorem unit_fine {l : List S43} {t : Int} {s : List Int × List Int} (h : Fine l s) : Fine l (unit l t s) := by
  obtain ⟨h1, h2, h3⟩ := h
  unfold unit
  split
  · exact ⟨h1, h2, h3⟩
  · rename_i hn
    have hb := nxt_in l s.2 t l.length
    have hl := nxt_left l s.2 t l.length (by omega)
    refine ⟨?_, by simp [h2], fun i => ?_⟩
    · dsimp only
      split
      · simp [h1]
      · exact h1
    · dsimp only
      rw [getD_set _ _ _ _ (by omega)]
      have := h3 (nxt l s.2 t l.length).toNat
      split
      · omega
      · exact h3 i
theorem units_fine {l : List S43} {t : Int} {s : List Int × List Int} (h : Fine l s) : ∀ n, Fine l (units l t s n)
  | 0 => h
  | n + 1 => unit_fine (units_fine h n)
theorem ticks_fine {l : List S43} {w : List Int} {s : List Int × List Int} (h : Fine l s) : ∀ n, Fine l (ticks l w s n)
  | 0 => h
  | n + 1 => units_fine (ticks_fine h n) _
theorem units_stop {l : List S43} {t : Int} {s : List Int × List Int} {n : Nat} (h : nxt l (units l t s n).2 t l.length < 0) : ∀ d, units l t s (n + d) = units l t s n
  | 0 => rfl
  | d + 1 => by
    show unit l t (units l t s (n + d)) = _
    rw [units_stop h d]
    unfold unit
    rw [if_pos h]
theorem urgent_f (l : List S43) (left : List Int) (hl : left.length = l.length) (h8 : l.length ≤ 1048576) (t : Int) (k : Nat) (hk : l.length < k) : impl_urgent.f k l left t = some (nxt l left t l.length) := by
  unfold impl_urgent.f
  refine loop_up l.length (fun k (s : Int × Int) => impl_urgent.l0 k l left t s.1 l (l.length : Int) s.2) (fun i => (nxt l left t i, (i : Int))) _ (fun k i hi => ?_) (fun k => ?_) k hk
  · have hb := nxt_in l left t i
    have r0 : (rd_T43 l (i : Int)).f0 = rel l i := rfl
    have r1 : (rd_T43 l (i : Int)).f1 = dead l i := rfl
    have r2 : rd left (i : Int) = left.getD i 0 := rfl
    have r3 : (rd_T43 l (nxt l left t i)).f1 = dead l (nxt l left t i).toNat := rfl
    simp only [impl_urgent.l0, r0, r1, r3]
    rw [if_pos (by omega), if_pos (by omega), if_pos (by omega), if_pos (by omega), wrap_next hi (by omega)]
    conv => rhs; simp only [nxt]
    generalize nxt l left t i = b at hb
    rw [r2]
    by_cases h1 : left.getD i 0 > 0
    · rw [if_pos h1]
      by_cases h2 : rel l i ≤ t
      · rw [if_pos h2]
        by_cases h3 : b < 0
        · rw [if_pos h3, if_pos (c := left.getD i 0 > 0 ∧ rel l i ≤ t ∧ (b < 0 ∨ dead l i < dead l b.toNat)) ⟨h1, h2, Or.inl h3⟩]
        · rw [if_neg h3, if_pos (by omega), if_pos (by omega)]
          by_cases h4 : dead l i < dead l b.toNat
          · rw [if_pos h4, if_pos (c := left.getD i 0 > 0 ∧ rel l i ≤ t ∧ (b < 0 ∨ dead l i < dead l b.toNat)) ⟨h1, h2, Or.inr h4⟩]
          · rw [if_neg h4, if_neg (c := left.getD i 0 > 0 ∧ rel l i ≤ t ∧ (b < 0 ∨ dead l i < dead l b.toNat)) (fun h => h.2.2.elim h3 h4)]
      · rw [if_neg h2, if_neg (c := left.getD i 0 > 0 ∧ rel l i ≤ t ∧ (b < 0 ∨ dead l i < dead l b.toNat)) (fun h => h2 h.2.1)]
    · rw [if_neg h1, if_neg (c := left.getD i 0 > 0 ∧ rel l i ≤ t ∧ (b < 0 ∨ dead l i < dead l b.toNat)) (fun h => h1 h.1)]
  · simp only [impl_urgent.l0]
    rw [if_neg (by omega)]
theorem next_f (l : List S43) (left : List Int) (hl : left.length = l.length) (hn : ∀ i, 0 ≤ left.getD i 0) (h8 : l.length ≤ 1048576) (t : Int) (k : Nat) (hk : l.length < k) : spec_l34Next.f (2 * k) l left t = some (nxt l left t l.length) := by
  unfold spec_l34Next.f
  refine loop_up l.length (fun k (s : Int × Int) => spec_l34Next.l0 (2 * k) l left t s.1 s.2) (fun i => (nxt l left t i, (i : Int))) _ (fun k i hi => ?_) (fun k => ?_) k hk
  · have hb := nxt_in l left t i
    have hp := hn i
    have r0 : (rd_T43 l (i : Int)).f0 = rel l i := rfl
    have r1 : (rd_T43 l (i : Int)).f1 = dead l i := rfl
    have r2 : rd left (i : Int) = left.getD i 0 := rfl
    have r3 : (rd_T43 l (nxt l left t i)).f1 = dead l (nxt l left t i).toNat := rfl
    dsimp only
    rw [show 2 * (k + 1) = 2 * k + 1 + 1 from by omega]
    simp only [spec_l34Next.l0, spec_l34Next.j1, r0, r1, r3]
    rw [if_pos (by omega), if_pos (by omega), if_pos (by omega), wrap_next hi (by omega)]
    conv => rhs; simp only [nxt]
    generalize nxt l left t i = b at hb
    rw [r2]
    by_cases h1 : left.getD i 0 = 0
    · rw [if_pos h1, if_pos trivial, if_neg (c := left.getD i 0 > 0 ∧ rel l i ≤ t ∧ (b < 0 ∨ dead l i < dead l b.toNat)) (fun h => by omega)]
    · rw [if_neg h1]
      by_cases h2 : rel l i > t
      · rw [decide_eq_true h2, if_pos rfl, if_neg (c := left.getD i 0 > 0 ∧ rel l i ≤ t ∧ (b < 0 ∨ dead l i < dead l b.toNat)) (fun h => by omega)]
      · rw [decide_eq_false h2, if_neg (by decide)]
        by_cases h3 : b < 0
        · rw [if_pos h3, if_pos (c := left.getD i 0 > 0 ∧ rel l i ≤ t ∧ (b < 0 ∨ dead l i < dead l b.toNat)) ⟨by omega, by omega, Or.inl h3⟩]
        · rw [if_neg h3, if_pos (by omega), if_pos (by omega), if_pos (by omega), if_pos (by omega)]
          by_cases h4 : dead l i < dead l b.toNat
          · rw [if_pos h4, if_pos (c := left.getD i 0 > 0 ∧ rel l i ≤ t ∧ (b < 0 ∨ dead l i < dead l b.toNat)) ⟨by omega, by omega, Or.inr h4⟩]
          · rw [if_neg h4, if_neg (c := left.getD i 0 > 0 ∧ rel l i ≤ t ∧ (b < 0 ∨ dead l i < dead l b.toNat)) (fun h => h.2.2.elim h3 h4)]
  · dsimp only
    rw [show 2 * (k + 1) = 2 * k + 1 + 1 from by omega]
    simp only [spec_l34Next.l0]
    rw [if_neg (by omega)]
/-- One round of the program's inner loop. -/
theorem implUnit (l : List S43) (w : List Int) (s : List Int × List Int) (h : Fine l s) (h8 : l.length ≤ 1048576) (t : Nat) (n m : Int) (hm : m ≤ 50) (hn0 : 0 ≤ n) (hnm : n < m) (k : Nat) (hk : l.length < k) :
    impl_FinishTicks.l2 (k + 1) l s.1 s.2 (t : Int) w (w.length : Int) (t : Int) m n = (if nxt l s.2 (t : Int) l.length < 0 then impl_FinishTicks.l1 k l s.1 s.2 w (w.length : Int) (wrap64 ((t : Int) + 1)) else impl_FinishTicks.l2 k l (unit l (t : Int) s).1 (unit l (t : Int) s).2 (t : Int) w (w.length : Int) (t : Int) m (n + 1)) := by
  obtain ⟨h1, h2, h3⟩ := h
  have hb := nxt_in l s.2 (t : Int) l.length
  simp only [impl_FinishTicks.l2, urgent_f l s.2 h2 h8 (t : Int) k hk, Option.bind_some]
  rw [if_pos hnm, wrap_in (x := n + 1) (by omega) (by omega)]
  by_cases hn : nxt l s.2 (t : Int) l.length < 0
  · rw [if_pos hn, if_pos hn]
  · rw [if_neg hn, if_neg hn]
    have hu : unit l (t : Int) s = (if (s.2.getD (nxt l s.2 (t : Int) l.length).toNat 0) - 1 = 0 then s.1.set (nxt l s.2 (t : Int) l.length).toNat (t : Int) else s.1, s.2.set (nxt l s.2 (t : Int) l.length).toNat (s.2.getD (nxt l s.2 (t : Int) l.length).toNat 0 - 1)) := by
      unfold unit
      rw [if_neg hn]
    rw [hu]
    generalize hN : nxt l s.2 (t : Int) l.length = N at hb hn
    obtain ⟨j, rfl⟩ : ∃ j : Nat, N = (j : Int) := ⟨N.toNat, by omega⟩
    have h4 := h3 j
    have r1 : rd s.2 (j : Int) = s.2.getD j 0 := rfl
    rw [r1, wrap_in (x := s.2.getD j 0 - 1) (by omega) (by omega), Int.toNat_natCast, if_pos (by omega), if_pos (by omega)]
    have r2 : rd (s.2.set j (s.2.getD j 0 - 1)) (j : Int) = s.2.getD j 0 - 1 := by
      rw [rd_nat, getD_set _ _ _ _ (by omega), if_pos rfl]
    rw [r2]
    dsimp only
    by_cases h5 : s.2.getD j 0 - 1 = 0
    · rw [if_pos h5, if_pos (by omega), if_pos h5]
    · rw [if_neg h5, if_neg h5]
theorem implInner (l : List S43) (w : List Int) (s : List Int × List Int) (h : Fine l s) (h8 : l.length ≤ 1048576) (t m : Nat) (ht : t < w.length) (hw : w.length ≤ 1048576) (hm : m ≤ 50) (r : List Int)
    (hr : Ev (fun k => impl_FinishTicks.l1 k l (units l (t : Int) s m).1 (units l (t : Int) s m).2 w (w.length : Int) ((t + 1 : Nat) : Int)) r) :
    ∀ d n, n + d = m → Ev (fun k => impl_FinishTicks.l2 k l (units l (t : Int) s n).1 (units l (t : Int) s n).2 (t : Int) w (w.length : Int) (t : Int) (m : Int) (n : Int)) r := by
  intro d
  induction d with
  | zero =>
    intro n hn
    have : n = m := by omega
    subst this
    refine Ev.step 0 (fun k _ => ?_) hr
    simp only [impl_FinishTicks.l2]
    rw [if_neg (by omega), wrap_next ht (by omega)]
  | succ d ih =>
    intro n hn
    have hf := units_fine (t := (t : Int)) h n
    by_cases hx : nxt l (units l (t : Int) s n).2 (t : Int) l.length < 0
    · have hs := units_stop hx (d + 1)
      rw [show n + (d + 1) = m from hn] at hs
      rw [hs] at hr
      refine Ev.step (l.length + 1) (fun k hk => ?_) hr
      rw [implUnit l w _ hf h8 t (n : Int) (m : Int) (by omega) (by omega) (by omega) k (by omega), if_pos hx, wrap_next ht (by omega)]
    · refine Ev.step (l.length + 1) (fun k hk => ?_) (ih (n + 1) (by omega))
      rw [implUnit l w _ hf h8 t (n : Int) (m : Int) (by omega) (by omega) (by omega) k (by omega), if_neg hx]
      rfl
theorem implOuter (l : List S43) (w : List Int) (s : List Int × List Int) (h : Fine l s) (h8 : l.length ≤ 1048576) (hw : w.length ≤ 1048576) (hws : ∀ i, i < w.length → 0 ≤ w.getD i 0 ∧ w.getD i 0 ≤ 50) :
    ∀ d t, t + d = w.length → Ev (fun k => impl_FinishTicks.l1 k l (ticks l w s t).1 (ticks l w s t).2 w (w.length : Int) (t : Int)) (ticks l w s w.length).1 := by
  intro d
  induction d with
  | zero =>
    intro t ht
    have : t = w.length := by omega
    subst this
    refine Ev.last 0 (fun k _ => ?_)
    simp only [impl_FinishTicks.l1]
    rw [if_neg (by omega)]
  | succ d ih =>
    intro t ht
    have hb := hws t (by omega)
    have hi := implInner l w (ticks l w s t) (ticks_fine h t) h8 t (w.getD t 0).toNat (by omega) hw (by omega) _ (ih (t + 1) (by omega)) (w.getD t 0).toNat 0 (by omega)
    refine Ev.step 0 (fun k _ => ?_) hi
    simp only [impl_FinishTicks.l1]
    have r1 : rd w (t : Int) = w.getD t 0 := rfl
    rw [if_pos (by omega), if_pos (by omega), if_pos (by omega), r1, Int.toNat_of_nonneg hb.1]
    rfl
theorem next_f2 (l : List S43) (left : List Int) (hl : left.length = l.length) (hn : ∀ i, 0 ≤ left.getD i 0) (h8 : l.length ≤ 1048576) (t : Int) (k : Nat) (hk : 2 * l.length + 3 < k) : spec_l34Next.f k l left t = some (nxt l left t l.length) := by
  rcases Nat.mod_two_eq_zero_or_one k with h | h
  · rw [show k = 2 * (k / 2) from by omega]
    exact next_f l left hl hn h8 t (k / 2) (by omega)
  · rw [show k = 2 * (k / 2) + 1 from by omega]
    exact spec_l34Next.mono l left t (2 * (k / 2)) _ (next_f l left hl hn h8 t (k / 2) (by omega))
/-- One round of the reference's inner loop. -/
theorem specUnit (l : List S43) (w : List Int) (s : List Int × List Int) (h : Fine l s) (h8 : l.length ≤ 1048576) (t : Nat) (ht : t < w.length) (n m : Int) (hmw : w.getD t 0 = m) (hm : m ≤ 50) (hn0 : 0 ≤ n) (hnm : n < m) (k : Nat) (hk : 2 * l.length + 3 < k) :
    spec_FinishTicks.l2 (k + 1) l w s.1 s.2 (t : Int) n = (if nxt l s.2 (t : Int) l.length < 0 then spec_FinishTicks.l1 k l w s.1 s.2 (wrap64 ((t : Int) + 1)) else spec_FinishTicks.l2 k l w (unit l (t : Int) s).1 (unit l (t : Int) s).2 (t : Int) (n + 1)) := by
  obtain ⟨h1, h2, h3⟩ := h
  have hb := nxt_in l s.2 (t : Int) l.length
  have r0 : rd w (t : Int) = m := hmw
  simp only [spec_FinishTicks.l2, next_f2 l s.2 h2 (fun i => (h3 i).1) h8 (t : Int) k hk, r0, Option.bind_some]
  rw [if_pos (by omega), if_pos (by omega), if_pos hnm, wrap_in (x := n + 1) (by omega) (by omega)]
  by_cases hn : nxt l s.2 (t : Int) l.length < 0
  · rw [if_pos hn, if_pos hn]
  · rw [if_neg hn, if_neg hn]
    have hu : unit l (t : Int) s = (if (s.2.getD (nxt l s.2 (t : Int) l.length).toNat 0) - 1 = 0 then s.1.set (nxt l s.2 (t : Int) l.length).toNat (t : Int) else s.1, s.2.set (nxt l s.2 (t : Int) l.length).toNat (s.2.getD (nxt l s.2 (t : Int) l.length).toNat 0 - 1)) := by
      unfold unit
      rw [if_neg hn]
    rw [hu]
    generalize hN : nxt l s.2 (t : Int) l.length = N at hb hn
    obtain ⟨j, rfl⟩ : ∃ j : Nat, N = (j : Int) := ⟨N.toNat, by omega⟩
    have h4 := h3 j
    have r1 : rd s.2 (j : Int) = s.2.getD j 0 := rfl
    rw [r1, wrap_in (x := s.2.getD j 0 - 1) (by omega) (by omega), Int.toNat_natCast, if_pos (by omega), if_pos (by omega)]
    have r2 : rd (s.2.set j (s.2.getD j 0 - 1)) (j : Int) = s.2.getD j 0 - 1 := by
      rw [rd_nat, getD_set _ _ _ _ (by omega), if_pos rfl]
    rw [r2]
    dsimp only
    by_cases h5 : s.2.getD j 0 - 1 = 0
    · rw [if_pos h5, if_pos (by omega), if_pos h5]
    · rw [if_neg h5, if_neg h5]
theorem specInner (l : List S43) (w : List Int) (s : List Int × List Int) (h : Fine l s) (h8 : l.length ≤ 1048576) (t m : Nat) (ht : t < w.length) (hmw : w.getD t 0 = (m : Int)) (hw : w.length ≤ 1048576) (hm : m ≤ 50) (r : List Int)
    (hr : Ev (fun k => spec_FinishTicks.l1 k l w (units l (t : Int) s m).1 (units l (t : Int) s m).2 ((t + 1 : Nat) : Int)) r) :
    ∀ d n, n + d = m → Ev (fun k => spec_FinishTicks.l2 k l w (units l (t : Int) s n).1 (units l (t : Int) s n).2 (t : Int) (n : Int)) r := by
  intro d
  induction d with
  | zero =>
    intro n hn
    have : n = m := by omega
    subst this
    have r0 : rd w (t : Int) = (n : Int) := hmw
    refine Ev.step 0 (fun k _ => ?_) hr
    simp only [spec_FinishTicks.l2, r0]
    rw [if_pos (by omega), if_pos (by omega), if_neg (by omega), wrap_next ht (by omega)]
  | succ d ih =>
    intro n hn
    have hf := units_fine (t := (t : Int)) h n
    by_cases hx : nxt l (units l (t : Int) s n).2 (t : Int) l.length < 0
    · have hs := units_stop hx (d + 1)
      rw [show n + (d + 1) = m from hn] at hs
      rw [hs] at hr
      refine Ev.step (2 * l.length + 4) (fun k hk => ?_) hr
      rw [specUnit l w _ hf h8 t ht (n : Int) (m : Int) hmw (by omega) (by omega) (by omega) k (by omega), if_pos hx, wrap_next ht (by omega)]
    · refine Ev.step (2 * l.length + 4) (fun k hk => ?_) (ih (n + 1) (by omega))
      rw [specUnit l w _ hf h8 t ht (n : Int) (m : Int) hmw (by omega) (by omega) (by omega) k (by omega), if_neg hx]
      rfl
theorem specOuter (l : List S43) (w : List Int) (s : List Int × List Int) (h : Fine l s) (h8 : l.length ≤ 1048576) (hw : w.length ≤ 1048576) (hws : ∀ i, i < w.length → 0 ≤ w.getD i 0 ∧ w.getD i 0 ≤ 50) :
    ∀ d t, t + d = w.length → Ev (fun k => spec_FinishTicks.l1 k l w (ticks l w s t).1 (ticks l w s t).2 (t : Int)) (ticks l w s w.length).1 := by
  intro d
  induction d with
  | zero =>
    intro t ht
    have : t = w.length := by omega
    subst this
    refine Ev.last 0 (fun k _ => ?_)
    simp only [spec_FinishTicks.l1]
    rw [if_neg (by omega)]
  | succ d ih =>
    intro t ht
    have hb := hws t (by omega)
    have hi := specInner l w (ticks l w s t) (ticks_fine h t) h8 t (w.getD t 0).toNat (by omega) (by omega) hw (by omega) _ (ih (t + 1) (by omega)) (w.getD t 0).toNat 0 (by omega)
    refine Ev.step 0 (fun k _ => ?_) hi
    simp only [spec_FinishTicks.l1]
    rw [if_pos (by omega)]
    rfl
def outs (i : Nat) : List Int := List.replicate i (-1)
def lefts (l : List S43) (i : Nat) : List Int := (List.range i).map (todo l)
theorem outs_next (i : Nat) : outs i ++ [-1] = outs (i + 1) := (List.replicate_succ' ..).symm
theorem lefts_next (l : List S43) (i : Nat) : lefts l i ++ [todo l i] = lefts l (i + 1) := by
  unfold lefts
  rw [List.range_succ, List.map_append]
  rfl
theorem outs_length (i : Nat) : (outs i).length = i := List.length_replicate ..
theorem lefts_length (l : List S43) (i : Nat) : (lefts l i).length = i := by simp [lefts]
theorem specInit (l : List S43) (w : List Int) (h8 : l.length ≤ 1048576) (r : List Int) (hr : Ev (fun k => spec_FinishTicks.l1 k l w (outs l.length) (lefts l l.length) 0) r) :
    ∀ d i, i + d = l.length → Ev (fun k => spec_FinishTicks.l0 k l w (outs i) (lefts l i) (i : Int)) r := by
  intro d
  induction d with
  | zero =>
    intro i hi
    have : i = l.length := by omega
    subst this
    refine Ev.step 0 (fun k _ => ?_) hr
    simp only [spec_FinishTicks.l0]
    rw [if_neg (by omega)]
  | succ d ih =>
    intro i hi
    refine Ev.step 0 (fun k _ => ?_) (ih (i + 1) (by omega))
    have o1 := outs_length i
    have o2 := lefts_length l i
    have r1 : (rd_T43 l (i : Int)).f2 = todo l i := rfl
    simp only [spec_FinishTicks.l0, r1, outs_next, lefts_next]
    rw [if_pos (by omega), if_pos (by omega), if_pos (by omega), if_pos (by omega), wrap_next (n := l.length) (by omega) (by omega)]
theorem implInit (l : List S43) (w : List Int) (h8 : l.length ≤ 1048576) (r : List Int) (hr : Ev (fun k => impl_FinishTicks.l1 k l (outs l.length) (lefts l l.length) w (w.length : Int) 0) r) :
    ∀ d i, i + d = l.length → Ev (fun k => impl_FinishTicks.l0 k l w (outs i) (lefts l i) l (l.length : Int) (i : Int)) r := by
  intro d
  induction d with
  | zero =>
    intro i hi
    have : i = l.length := by omega
    subst this
    refine Ev.step 0 (fun k _ => ?_) hr
    simp only [impl_FinishTicks.l0]
    rw [if_neg (by omega)]
  | succ d ih =>
    intro i hi
    refine Ev.step 0 (fun k _ => ?_) (ih (i + 1) (by omega))
    have o1 := outs_length i
    have o2 := lefts_length l i
    have r1 : (rd_T43 l (i : Int)).f2 = todo l i := rfl
    simp only [impl_FinishTicks.l0, r1, Option.bind_some, outs_next, lefts_next, List.length_cons, List.length_nil]
    rw [if_pos (by omega), if_pos (by omega), if_pos (by omega), if_pos (by omega), if_pos (by omega), wrap_next (n := l.length) (by omega) (by omega)]
def okW (w : List Int) : Bool := endsAt (fun i => inB (w.getD i 0) 0 50) (fun _ => false) true w.length 0
theorem specWork_f (w : List Int) (hw : w.length ≤ 1048576) (k : Nat) (hk : w.length < k) : spec_l34WorkOk.f k w = some (okW w && decide ((w.length : Int) ≤ 500)) := by
  unfold okW
  rw [← endsAt_last]
  unfold spec_l34WorkOk.f
  refine loop_ends w.length (fun k (s : Int) => spec_l34WorkOk.l0 k w s) (fun i => (i : Int)) _ _ _ (fun k i hi hc => ?_) (fun k i hi hc => ?_) (fun k => ?_) k hk
  · simp only [spec_l34WorkOk.l0, rd_nat, in_f, hc, Option.bind_some, ↓reduceIte]
    rw [if_pos (by omega), if_pos (by omega), wrap_next hi (by omega)]
  · simp only [spec_l34WorkOk.l0, rd_nat, in_f, hc, Option.bind_some, Bool.false_eq_true, ↓reduceIte]
    rw [if_pos (by omega), if_pos (by omega)]
  · simp only [spec_l34WorkOk.l0]
    rw [if_neg (by omega)]
theorem implWork_f (w : List Int) (hw : w.length ≤ 1048576) (k : Nat) (hk : w.length < k) : slices_ContainsFunc_int_int_at_impl_FinishTicks_1.f k w = some (!okW w) := by
  have h : slices_IndexFunc_int_int_at_impl_FinishTicks_1.f k w = some (endsAt (fun i => inB (w.getD i 0) 0 50) (fun i => (i : Int)) (-1) w.length 0) := by
    unfold slices_IndexFunc_int_int_at_impl_FinishTicks_1.f
    refine loop_ends w.length (fun k (s : Int) => slices_IndexFunc_int_int_at_impl_FinishTicks_1.l0 k w (w.length : Int) s) (fun i => (i : Int)) _ _ _ (fun k i hi hc => ?_) (fun k i hi hc => ?_) (fun k => ?_) k hk
    · simp only [slices_IndexFunc_int_int_at_impl_FinishTicks_1.l0, rd_nat, impl_FinishTicks_1.f, within_f, hc, Option.bind_some, Bool.not_true, Bool.false_eq_true, ↓reduceIte]
      rw [if_pos (by omega), if_pos (by omega), if_pos (by omega), wrap_next hi (by omega)]
    · simp only [slices_IndexFunc_int_int_at_impl_FinishTicks_1.l0, rd_nat, impl_FinishTicks_1.f, within_f, hc, Option.bind_some, Bool.not_false, ↓reduceIte]
      rw [if_pos (by omega), if_pos (by omega), if_pos (by omega)]
    · simp only [slices_IndexFunc_int_int_at_impl_FinishTicks_1.l0]
      rw [if_neg (by omega)]
  simp only [slices_ContainsFunc_int_int_at_impl_FinishTicks_1.f, h, Option.bind_some, endsAt_place]
  rfl
def okJ (l : List S43) : Bool := endsAt (fun i => okJobs (l.getD i z43)) (fun _ => false) (decide ((l.length : Int) ≤ 8)) l.length 0
theorem fine_init {l : List S43} (h : okJ l = true) : Fine l (outs l.length, lefts l l.length) := by
  unfold okJ at h
  rw [endsAt_last, Bool.and_eq_true, endsAt_true] at h
  refine ⟨outs_length _, lefts_length _ _, fun i => ?_⟩
  unfold lefts
  by_cases hi : i < l.length
  · have h2 := h.1 i (Nat.zero_le _) (by omega)
    simp only [okJobs, inB, Bool.and_eq_true, decide_eq_true_eq] at h2
    dsimp only
    rw [range_get _ _ _ hi]
    unfold todo
    omega
  · dsimp only
    rw [List.getD_eq_getElem?_getD, List.getElem?_eq_none (by simp; omega)]
    exact ⟨Int.le_refl _, by decide⟩
theorem sameTicks (l : List S43) (w : List Int) (hl : l.length ≤ 1048576) (hw : w.length ≤ 1048576) : ∃ r : List Int, r.length ≤ l.length ∧ Ev (fun k => spec_FinishTicks.f k l w) r ∧ Ev (fun k => impl_FinishTicks.f k l w) r := by
  have f1 : ∀ k, l.length < k → spec_JobsOk.f k l = some (okJ l) := fun k hk => specJobs_f l hl k hk
  have f2 : ∀ k, l.length < k → impl_JobsOk.f k l = some (okJ l) := fun k hk => implJobs_f l hl k hk
  have f3 := specWork_f w hw
  have f4 := implWork_f w hw
  by_cases h : okJ l = true ∧ okW w = true ∧ (w.length : Int) ≤ 500
  · obtain ⟨h1, h2, h3⟩ := h
    have hf := fine_init h1
    have hws : ∀ i, i < w.length → 0 ≤ w.getD i 0 ∧ w.getD i 0 ≤ 50 := fun i hi => by
      have := (endsAt_true _ _).1 h2 i (Nat.zero_le _) (by omega)
      simp only [inB, Bool.and_eq_true, decide_eq_true_eq] at this
      exact this
    refine ⟨(ticks l w (outs l.length, lefts l l.length) w.length).1, Nat.le_of_eq (ticks_fine hf w.length).1, ?_, ?_⟩
    · obtain ⟨k0, hk0⟩ := specInit l w hl _ (specOuter l w _ hf hl hw hws w.length 0 (by omega)) l.length 0 (by omega)
      refine ⟨k0 + l.length + w.length + 2, fun k hk => ?_⟩
      obtain ⟨q, rfl⟩ : ∃ q, k = q + 1 := ⟨k - 1, by omega⟩
      simp only [spec_FinishTicks.f, f1 (q + 1) (by omega), f3 (q + 1) (by omega), h1, h2, h3, decide_true, Bool.and_self, Bool.not_true, Option.bind_some, ↓reduceIte, spec_FinishTicks.j0, Bool.false_eq_true]
      exact hk0 q (by omega)
    · obtain ⟨k0, hk0⟩ := implInit l w hl _ (implOuter l w _ hf hl hw hws w.length 0 (by omega)) l.length 0 (by omega)
      refine ⟨k0 + l.length + w.length + 2, fun k hk => ?_⟩
      obtain ⟨q, rfl⟩ : ∃ q, k = q + 1 := ⟨k - 1, by omega⟩
      simp only [impl_FinishTicks.f, f2 (q + 1) (by omega), f4 (q + 1) (by omega), h1, h2, show ¬ (w.length : Int) > 500 from by omega, Bool.not_true, Option.bind_some, ↓reduceIte, impl_FinishTicks.j0, Bool.false_eq_true]
      exact hk0 q (by omega)
  · refine ⟨[], Nat.zero_le _, ⟨l.length + w.length + 2, fun k hk => ?_⟩, ⟨l.length + w.length + 2, fun k hk => ?_⟩⟩
    · obtain ⟨q, rfl⟩ : ∃ q, k = q + 1 := ⟨k - 1, by omega⟩
      simp only [spec_FinishTicks.f, f1 (q + 1) (by omega), f3 (q + 1) (by omega), Option.bind_some, spec_FinishTicks.j0]
      by_cases h1 : okJ l = true
      · rw [if_pos h1]
        by_cases h2 : okW w = true
        · rw [h2, decide_eq_false (fun h3 => h ⟨h1, h2, h3⟩)]
          rfl
        · rw [Bool.eq_false_iff.2 h2]
          rfl
      · rw [if_neg h1]
        rfl
    · obtain ⟨q, rfl⟩ : ∃ q, k = q + 1 := ⟨k - 1, by omega⟩
      simp only [impl_FinishTicks.f, f2 (q + 1) (by omega), f4 (q + 1) (by omega), Option.bind_some, impl_FinishTicks.j0]
      by_cases h1 : okJ l = true
      · rw [if_pos h1]
        by_cases h3 : (w.length : Int) > 500
        · rw [if_pos h3]
          rfl
        · rw [if_neg h3]
          by_cases h2 : okW w = true
          · exact absurd ⟨h1, h2, by omega⟩ h
          · rw [Bool.eq_false_iff.2 h2]
            rfl
      · rw [if_neg h1]
        rfl
theorem FnExactFinishTicks : laws_FnExactFinishTicks.Pure := by
  intro l w hG hW
  have hl : l.length ≤ 9223372036854775807 := hG.1
  by_cases hwl : (w.length : Int) > 1048576
  · refine ⟨0, ?_⟩
    unfold laws_FnExactFinishTicks.f
    rw [if_pos hwl]
  have hw : wrap64 (1048576 - (l.length : Int)) = 1048576 - (l.length : Int) := wrap_in (by omega) (by omega)
  by_cases h : (1048576 - (l.length : Int)) < 0
  · refine ⟨0, ?_⟩
    simp only [laws_FnExactFinishTicks.f, laws_szJobS.f, hwl, hw, h, Option.bind_some, ↓reduceIte, Int.reduceNeg, Int.reduceLT]
  have e1 := toJobS_f l (by omega)
  generalize hl2 : (l.map fun x => (⟨x.f0, x.f1, x.f2⟩ : S43)) = l2 at e1
  have hlen : l2.length = l.length := by rw [← hl2]; simp
  obtain ⟨r, hr, ⟨k1, E1⟩, ⟨k2, E2⟩⟩ := sameTicks l2 w (by omega) (by omega)
  obtain ⟨K, hK⟩ : ∃ K, K = k1 + k2 + l.length + w.length + 1 := ⟨_, rfl⟩
  refine ⟨K + 1, ?_⟩
  have e2 := eqJobS_f l2 (by omega)
  have b1 := toIntS_f w (by omega)
  have b2 := eqIntS_f w (by omega)
  have e3 := E1 (K + 1) (by omega)
  have e4 := E2 (K + 1) (by omega)
  have e4b := E2 K (by omega)
  have e7 := eqIntS_f r (by omega)
  have m1 := markIntS_g w (1 + 3 * (l2.length : Int)) (K + 1) (by omega) (by omega) (by omega) (by omega)
  have m2 := markIntS_g r 1
  have m3 := heldIntS_g r.length 1
  obtain ⟨l3, m4⟩ := markJobS_g l2 1 (K + 1) (by omega) (by omega) (by omega) (by omega)
  have n1 : ¬ (1 + 3 * (l2.length : Int) + (w.length : Int)) < 0 := by omega
  have n2 : ¬ (1 + (r.length : Int)) < 0 := by omega
  simp (disch := omega) only [laws_FnExactFinishTicks.f, laws_szJobS.f, hwl, hw, h, e1, b1, b2, e3, e4, e7, e2, m4, m1, n1, Option.bind_some, ↓reduceIte, eq_self, Bool.not_true, Bool.false_eq_true]
  simp (disch := omega) only [laws_FnExactFinishTicks.j0, m2, m3, e1, b1, e4b, e7, n2, Option.bind_some, ↓reduceIte, Bool.false_eq_true, eq_self]

end Go.Proofs.Ytniiebpibdkgjaa.Pure
