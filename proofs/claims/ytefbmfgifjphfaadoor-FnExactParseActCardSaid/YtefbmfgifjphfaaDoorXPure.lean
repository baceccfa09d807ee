/- Plain facts on whole numbers, lists and rounds, without any program. No conditions. -/
import Derived.Test.YtefbmfgifjphfaaDoorWWords
import Derived.Test.YtefbmfgifjphfaaDoorWMore
namespace Go.Proofs.YtefbmfgifjphfaaDoor.XPure
open Go.RowKit Go.Proofs.YtefbmfgifjphfaaDoorW.PrintWords Go.Proofs.YtefbmfgifjphfaaDoorW.PrintMore
theorem wrap_in {x : Int} (h0 : -9223372036854775808 ≤ x) (h1 : x ≤ 9223372036854775807) : wrap64 x = x := by
  unfold wrap64
  omega
theorem wrap_next {i n : Nat} (h : i < n) (hn : n ≤ 140737488355328) : wrap64 ((i : Int) + 1) = ((i + 1 : Nat) : Int) := by
  rw [wrap_in (by omega) (by omega)]
  omega
theorem wf_bounds {x : Int} (h : (Lit.int .i64 x).wf = true) : -9223372036854775808 ≤ x ∧ x ≤ 9223372036854775807 := by
  simp only [Lit.wf, Bool.and_eq_true, decide_eq_true_eq] at h
  have e1 : IntKind.min .i64 = -9223372036854775808 := by decide
  have e2 : IntKind.max .i64 = 9223372036854775807 := by decide
  rw [e1, e2] at h
  exact h
/-- What a loop that goes up from 0 to n comes to. -/
theorem loop_up {σ ρ : Type} (n : Nat) (L : Nat → σ → Option ρ) (S : Nat → σ) (r : ρ) (step : ∀ k i, i < n → L (k + 1) (S i) = L k (S (i + 1))) (stop : ∀ k, L (k + 1) (S n) = some r) :
    ∀ k, n < k → L k (S 0) = some r := by
  have h : ∀ d i k, i + d = n → d < k → L k (S i) = some r := by
    intro d
    induction d with
    | zero =>
      intro i k hi hk
      obtain ⟨k, rfl⟩ : ∃ m, k = m + 1 := ⟨k - 1, by omega⟩
      obtain rfl : i = n := by omega
      exact stop k
    | succ d ih =>
      intro i k hi hk
      obtain ⟨k, rfl⟩ : ∃ m, k = m + 1 := ⟨k - 1, by omega⟩
      rw [step k i (by omega)]
      exact ih (i + 1) k (by omega) (by omega)
  exact fun k hk => h n 0 k (by omega) hk
/-- The same, by what holds at each round. -/
theorem loop_inv {σ ρ : Type} (n : Nat) (L : Nat → σ → Option ρ) (I : Nat → σ → Prop) (Q : ρ → Prop) (step : ∀ k i s, i < n → I i s → ∃ s', I (i + 1) s' ∧ L (k + 1) s = L k s') (stop : ∀ k s, I n s → ∃ r, Q r ∧ L (k + 1) s = some r) :
    ∀ k s, n < k → I 0 s → ∃ r, Q r ∧ L k s = some r := by
  have h : ∀ d i k s, i + d = n → d < k → I i s → ∃ r, Q r ∧ L k s = some r := by
    intro d
    induction d with
    | zero =>
      intro i k s hi hk hI
      obtain ⟨k, rfl⟩ : ∃ m, k = m + 1 := ⟨k - 1, by omega⟩
      obtain rfl : i = n := by omega
      exact stop k s hI
    | succ d ih =>
      intro i k s hi hk hI
      obtain ⟨k, rfl⟩ : ∃ m, k = m + 1 := ⟨k - 1, by omega⟩
      obtain ⟨s', hI', e⟩ := step k i s (by omega) hI
      rw [e]
      exact ih (i + 1) k s' (by omega) (by omega) hI'
  exact fun k s hk hI => h n 0 k s (by omega) hk hI
/-- The same, of a loop that may end at once: what it then answers. -/
def endsAt {ρ : Type} (c : Nat → Bool) (out : Nat → ρ) (last : ρ) : Nat → Nat → ρ
  | 0, _ => last
  | d + 1, i => if c i then endsAt c out last d (i + 1) else out i
theorem loop_ends {σ ρ : Type} (n : Nat) (L : Nat → σ → Option ρ) (S : Nat → σ) (c : Nat → Bool) (out : Nat → ρ) (last : ρ) (go : ∀ k i, i < n → c i = true → L (k + 1) (S i) = L k (S (i + 1)))
    (leave : ∀ k i, i < n → c i = false → L (k + 1) (S i) = some (out i)) (stop : ∀ k, L (k + 1) (S n) = some last) : ∀ k, n < k → L k (S 0) = some (endsAt c out last n 0) := by
  have h : ∀ d i k, i + d = n → d < k → L k (S i) = some (endsAt c out last d i) := by
    intro d
    induction d with
    | zero =>
      intro i k hi hk
      obtain ⟨k, rfl⟩ : ∃ m, k = m + 1 := ⟨k - 1, by omega⟩
      obtain rfl : i = n := by omega
      exact stop k
    | succ d ih =>
      intro i k hi hk
      obtain ⟨k, rfl⟩ : ∃ m, k = m + 1 := ⟨k - 1, by omega⟩
      unfold endsAt
      cases hc : c i with
      | true => rw [go k i (by omega) hc, if_pos rfl]; exact ih (i + 1) k (by omega) (by omega)
      | false => rw [leave k i (by omega) hc, if_neg (by simp)]
  exact fun k hk => h n 0 k (by omega) hk
theorem endsAt_all {ρ : Type} {c : Nat → Bool} {out : Nat → ρ} {last : ρ} : ∀ (d i : Nat), (∀ j, i ≤ j → j < i + d → c j = true) → endsAt c out last d i = last := by
  intro d
  induction d with
  | zero => intro i _; rfl
  | succ d ih =>
    intro i h
    unfold endsAt
    rw [if_pos (h i (by omega) (by omega))]
    exact ih (i + 1) (fun j h1 h2 => h j (by omega) (by omega))
theorem endsAt_congr {ρ : Type} {c c' : Nat → Bool} {out out' : Nat → ρ} {last : ρ} : ∀ (d i : Nat), (∀ j, i ≤ j → j < i + d → c j = c' j ∧ out j = out' j) → endsAt c out last d i = endsAt c' out' last d i := by
  intro d
  induction d with
  | zero => intro i _; rfl
  | succ d ih =>
    intro i h
    unfold endsAt
    rw [(h i (by omega) (by omega)).1, (h i (by omega) (by omega)).2, ih (i + 1) (fun j h1 h2 => h j (by omega) (by omega))]
/-- A test of all elements: false at the first that fails. -/
theorem endsAt_true {c : Nat → Bool} : ∀ (d i : Nat), endsAt c (fun _ => false) true d i = true ↔ ∀ j, i ≤ j → j < i + d → c j = true := by
  intro d
  induction d with
  | zero => intro i; exact ⟨fun _ j h1 h2 => by omega, fun _ => rfl⟩
  | succ d ih =>
    intro i
    unfold endsAt
    cases hc : c i with
    | true =>
      rw [if_pos rfl, ih (i + 1)]
      refine ⟨fun h j h1 h2 => ?_, fun h j h1 h2 => h j (by omega) (by omega)⟩
      by_cases hj : j = i
      · rw [hj]; exact hc
      · exact h j (by omega) (by omega)
    | false =>
      rw [if_neg (by simp)]
      refine ⟨fun h => (by cases h), fun h => ?_⟩
      have := h i (by omega) (by omega)
      rw [hc] at this
      cases this
/-- The place of the first that fails, against a test of all. -/
theorem endsAt_place {c : Nat → Bool} : ∀ (d i : Nat), decide (endsAt c (fun j => (j : Int)) (-1) d i ≥ 0) = !(endsAt c (fun _ => false) true d i) := by
  intro d
  induction d with
  | zero => intro i; rfl
  | succ d ih =>
    intro i
    unfold endsAt
    cases hc : c i with
    | true => rw [if_pos rfl, if_pos rfl, ih (i + 1)]
    | false =>
      rw [if_neg (by simp), if_neg (by simp)]
      simp
theorem endsAt_last {c : Nat → Bool} (b : Bool) : ∀ (d i : Nat), endsAt c (fun _ => false) b d i = (endsAt c (fun _ => false) true d i && b) := by
  intro d
  induction d with
  | zero => intro i; simp [endsAt]
  | succ d ih =>
    intro i
    unfold endsAt
    cases hc : c i with
    | true => rw [if_pos rfl, if_pos rfl, ih (i + 1)]
    | false => simp
/-- The numbers below i that pass, in order. -/
def col (c : Nat → Bool) (i : Nat) : List Int := ((List.range i).filter c).map (fun j : Nat => (j : Int))
theorem col_zero (c : Nat → Bool) : col c 0 = [] := rfl
theorem col_yes {c : Nat → Bool} {i : Nat} (h : c i = true) : col c (i + 1) = col c i ++ [(i : Int)] := by
  unfold col
  rw [List.range_succ, List.filter_append, List.map_append]
  simp [h]
theorem col_no {c : Nat → Bool} {i : Nat} (h : c i = false) : col c (i + 1) = col c i := by
  unfold col
  rw [List.range_succ, List.filter_append, List.map_append]
  simp [h]
theorem col_length (c : Nat → Bool) (i : Nat) : (col c i).length ≤ i := by
  unfold col
  rw [List.length_map]
  exact Nat.le_trans (List.length_filter_le _ _) (by simp)
theorem getD_lt {α : Type} {l : List α} {d : α} {i : Nat} (h : i < l.length) : l.getD i d = l[i] := by
  rw [List.getD_eq_getElem?_getD, List.getElem?_eq_getElem h]
  rfl
theorem getD_wf {m : List Int} (h : ∀ x ∈ m, (Lit.int .i64 x).wf = true) (i : Nat) : m.getD i 0 ≤ 9223372036854775807 := by
  by_cases hi : i < m.length
  · rw [getD_lt hi]
    exact (wf_bounds (h _ (List.getElem_mem hi))).2
  · rw [List.getD_eq_getElem?_getD, List.getElem?_eq_none (by omega)]
    decide
theorem rd_nat (l : List Int) (i : Nat) : rd l (i : Int) = l.getD i 0 := rfl
theorem rdOf_nat {α : Type} (d : α) (l : List α) (i : Nat) : rdOf d l (i : Int) = l.getD i d := rfl
/-- A list that is filled from the front, behind i steps. -/
def filled {α β : Type} (z : β) (f : α → β) (l : List α) (i : Nat) : List β := (l.take i).map f ++ List.replicate (l.length - i) z
theorem filled_zero {α β : Type} (z : β) (f : α → β) (l : List α) : filled z f l 0 = List.replicate l.length z := by simp [filled]
theorem filled_all {α β : Type} (z : β) (f : α → β) (l : List α) : filled z f l l.length = l.map f := by simp [filled]
theorem filled_length {α β : Type} (z : β) (f : α → β) (l : List α) (i : Nat) (h : i ≤ l.length) : (filled z f l i).length = l.length := by
  simp [filled]
  omega
theorem filled_set {α β : Type} (z : β) (f : α → β) (l : List α) (i : Nat) (h : i < l.length) : (filled z f l i).set i (f l[i]) = filled z f l (i + 1) := by
  apply List.ext_getElem?
  intro j
  unfold filled
  by_cases hj : j = i
  · subst hj
    rw [List.getElem?_set_self (by simp; omega), List.getElem?_append_left (by simp; omega)]
    simp [h]
  · rw [List.getElem?_set_ne (by omega)]
    by_cases hl : j < i
    · rw [List.getElem?_append_left (by simp; omega), List.getElem?_append_left (by simp; omega)]
      simp [hl, show j < i + 1 from by omega]
    · rw [List.getElem?_append_right (by simp; omega), List.getElem?_append_right (by simp; omega)]
      simp [List.getElem?_replicate]
      congr 1
      simp
      omega
/-- A list that is overwritten from the front by f 0, f 1, .., behind i steps. -/
def over {α : Type} (f : Nat → α) (l : List α) (i : Nat) : List α := (List.range i).map f ++ l.drop i
theorem over_zero {α : Type} (f : Nat → α) (l : List α) : over f l 0 = l := by simp [over]
theorem over_length {α : Type} (f : Nat → α) (l : List α) (i : Nat) (h : i ≤ l.length) : (over f l i).length = l.length := by
  simp [over]
  omega
theorem over_all {α : Type} (f : Nat → α) (l : List α) : over f l l.length = (List.range l.length).map f := by simp [over]
theorem over_set {α : Type} (f : Nat → α) (l : List α) (i : Nat) (h : i < l.length) : (over f l i).set i (f i) = over f l (i + 1) := by
  apply List.ext_getElem?
  intro j
  unfold over
  by_cases hj : j = i
  · subst hj
    rw [List.getElem?_set_self (by simp; omega), List.getElem?_append_left (by simp)]
    simp
  · rw [List.getElem?_set_ne (by omega)]
    by_cases hl : j < i
    · rw [List.getElem?_append_left (by simp; omega), List.getElem?_append_left (by simp; omega)]
      simp [hl, show j < i + 1 from by omega]
    · rw [List.getElem?_append_right (by simp; omega), List.getElem?_append_right (by simp; omega)]
      simp
      congr 1
      omega
theorem over_get {α : Type} (f : Nat → α) (l : List α) (i : Nat) (h : i < l.length) (d : α) : (over f l i).getD i d = l[i] := by
  unfold over
  rw [List.getD_eq_getElem?_getD, List.getElem?_append_right (by simp)]
  simp [h]
theorem range_get {α : Type} (f : Nat → α) (n i : Nat) (h : i < n) (d : α) : ((List.range n).map f).getD i d = f i := by
  rw [List.getD_eq_getElem?_getD]
  simp [h]
end Go.Proofs.YtefbmfgifjphfaaDoor.XPure
