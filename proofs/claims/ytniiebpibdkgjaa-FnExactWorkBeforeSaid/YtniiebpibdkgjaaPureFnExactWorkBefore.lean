/- The law FnExactWorkBefore, in plain numbers and lists: for all arguments the program's sum and the reference's sum of the elements of a list with an index in a range are equal, and the list that was handed over is unchanged. Conditions: the list is one that a machine can hold (its bytes at most 2^47), its elements and both bounds are 64 bit integers. -/
import Derived.Test.YtniiebpibdkgjaaPFnExactWorkBeforex1
namespace Go.Proofs.Ytniiebpibdkgjaa.Pure
open Go.RowKit Go.Proofs.Ytniiebpibdkgjaa.PFnExactWorkBefore Go.Proofs.YtniiebpibdkgjaaW.PrintWords Go.Proofs.YtniiebpibdkgjaaW.PrintLast

theorem wrap_in {x : Int} (h0 : -9223372036854775808 ≤ x) (h1 : x ≤ 9223372036854775807) : wrap64 x = x := by
  unfold wrap64
  omega
theorem wrap_next {i n : Nat} (h : i < n) (hn : n ≤ 140737488355328) : wrap64 ((i : Int) + 1) = ((i + 1 : Nat) : Int) := by
  rw [wrap_in (by omega) (by omega)]
  omega
theorem rd_nat (l : List Int) (i : Nat) : rd l (i : Int) = l.getD i 0 := rfl
theorem toIntS_l0 (l : List Int) (hl : l.length ≤ 140737488355328) : ∀ (d k i : Nat) (y : List Int), y.length = l.length → (∀ j, j < i → y[j]? = l[j]?) →
    l.length = i + d → d < k → laws_toIntS.l0 k l y (i : Int) = some l := by
  intro d
  induction d with
  | zero =>
    intro k i y hy hp hd hk
    obtain ⟨k, rfl⟩ : ∃ m, k = m + 1 := ⟨k - 1, by omega⟩
    simp only [laws_toIntS.l0]
    rw [if_neg (by omega)]
    congr 1
    apply List.ext_getElem?
    intro j
    by_cases h : j < i
    · exact hp j h
    · rw [List.getElem?_eq_none (by omega), List.getElem?_eq_none (by omega)]
  | succ d ih =>
    intro k i y hy hp hd hk
    obtain ⟨k, rfl⟩ : ∃ m, k = m + 1 := ⟨k - 1, by omega⟩
    simp only [laws_toIntS.l0]
    rw [if_pos (by omega), if_pos (by omega), if_pos (by omega), wrap_next (n := l.length) (by omega) hl]
    refine ih k (i + 1) _ (by simpa using hy) ?_ (by omega) (by omega)
    intro j hj
    rw [rd_nat, Int.toNat_natCast]
    by_cases h : j = i
    · subst h
      rw [List.getElem?_set_self (by omega), List.getD_eq_getElem?_getD, List.getElem?_eq_getElem (by omega : j < l.length)]
      rfl
    · rw [List.getElem?_set_ne (by omega)]
      exact hp j (by omega)
theorem toIntS_f (l : List Int) (hl : l.length * 8 ≤ 140737488351232) (k : Nat) (hk : l.length < k) : laws_toIntS.f k l = some l := by
  unfold laws_toIntS.f
  rw [if_pos (by omega), if_pos (by omega)]
  exact toIntS_l0 l (by omega) l.length k 0 _ (by simp) (fun j hj => by omega) (by omega) (by omega)
theorem eqIntS_l0 (l : List Int) (hl : l.length ≤ 140737488355328) : ∀ (d k i : Nat), l.length = i + d → d < k → laws_eqIntS.l0 k l l (i : Int) = some true := by
  intro d
  induction d with
  | zero =>
    intro k i hd hk
    obtain ⟨k, rfl⟩ : ∃ m, k = m + 1 := ⟨k - 1, by omega⟩
    simp only [laws_eqIntS.l0]
    rw [if_neg (by omega)]
  | succ d ih =>
    intro k i hd hk
    obtain ⟨k, rfl⟩ : ∃ m, k = m + 1 := ⟨k - 1, by omega⟩
    simp only [laws_eqIntS.l0]
    rw [if_pos (by omega), if_pos (by omega), if_pos (by omega), if_true, wrap_next (n := l.length) (by omega) hl]
    exact ih k (i + 1) (by omega) (by omega)
theorem eqIntS_f (l : List Int) (hl : l.length * 8 ≤ 140737488351232) (k : Nat) (hk : l.length < k) : laws_eqIntS.f k l l = some true := by
  unfold laws_eqIntS.f
  rw [if_pos rfl]
  exact eqIntS_l0 l (by omega) l.length k 0 (by omega) (by omega)

/-- The sum of d elements from place i on, of those between lo and hi, behind acc. -/
def between (l : List Int) (lo hi : Int) : Nat → Nat → Int → Int
  | 0, _, acc => acc
  | d + 1, i, acc => between l lo hi d (i + 1) (if (i : Int) ≥ lo then (if (i : Int) < hi then wrap64 (acc + l.getD i 0) else acc) else acc)
theorem between_past (l : List Int) (lo hi : Int) : ∀ (d i : Nat) (acc : Int), hi ≤ (i : Int) → between l lo hi d i acc = acc := by
  intro d
  induction d with
  | zero => intro i acc _; rfl
  | succ d ih =>
    intro i acc h
    unfold between
    rw [if_neg (c := (i : Int) < hi) (by omega), ite_self]
    exact ih (i + 1) acc (by omega)
theorem between_skip (l : List Int) (lo hi : Int) (m : Nat) : ∀ (d i : Nat) (acc : Int), ((i + m : Nat) : Int) ≤ lo → between l lo hi (m + d) i acc = between l lo hi d (i + m) acc := by
  induction m with
  | zero => intro d i acc _; simp
  | succ m ih =>
    intro d i acc h
    rw [show m + 1 + d = (m + d) + 1 from by omega]
    conv => lhs; unfold between
    rw [if_neg (by omega), ih d (i + 1) acc (by omega), show i + 1 + m = i + (m + 1) from by omega]
theorem impl_l0 (l : List Int) (hl : l.length ≤ 140737488355328) (lo hi : Int) : ∀ (d k i : Nat) (acc : Int), l.length = i + d → d < k →
    impl_WorkBefore.l0 k lo hi acc l (l.length : Int) (i : Int) = some (between l lo hi d i acc) := by
  intro d
  induction d with
  | zero =>
    intro k i acc hd hk
    obtain ⟨k, rfl⟩ : ∃ m, k = m + 1 := ⟨k - 1, by omega⟩
    simp only [impl_WorkBefore.l0]
    rw [if_neg (by omega)]
    rfl
  | succ d ih =>
    intro k i acc hd hk
    obtain ⟨k, rfl⟩ : ∃ m, k = m + 1 := ⟨k - 1, by omega⟩
    simp only [impl_WorkBefore.l0]
    rw [if_pos (by omega), if_pos (by omega), if_pos (by omega), wrap_next (n := l.length) (by omega) hl, rd_nat]
    unfold between
    by_cases h1 : (i : Int) ≥ lo
    · rw [if_pos h1, if_pos h1]
      by_cases h2 : (i : Int) < hi
      · rw [if_pos h2, if_pos h2]
        exact ih k (i + 1) _ (by omega) (by omega)
      · rw [if_neg h2, if_neg h2]
        exact ih k (i + 1) _ (by omega) (by omega)
    · rw [if_neg h1, if_neg h1]
      exact ih k (i + 1) _ (by omega) (by omega)
theorem spec_l0 (l : List Int) (hl : l.length ≤ 140737488355328) (lo hi : Int) : ∀ (d k i : Nat) (acc : Int), l.length = i + d → d < k → lo ≤ (i : Int) →
    spec_WorkBefore.l0 k l hi acc (i : Int) = some (between l lo hi d i acc) := by
  intro d
  induction d with
  | zero =>
    intro k i acc hd hk _
    obtain ⟨k, rfl⟩ : ∃ m, k = m + 1 := ⟨k - 1, by omega⟩
    simp only [spec_WorkBefore.l0]
    rw [if_neg (by omega)]
    rfl
  | succ d ih =>
    intro k i acc hd hk hlo
    obtain ⟨k, rfl⟩ : ∃ m, k = m + 1 := ⟨k - 1, by omega⟩
    simp only [spec_WorkBefore.l0]
    rw [if_pos (by omega)]
    by_cases h2 : (i : Int) < hi
    · rw [if_pos h2, if_pos (by omega), wrap_next (n := l.length) (by omega) hl, rd_nat]
      unfold between
      rw [if_pos hlo, if_pos h2]
      exact ih k (i + 1) _ (by omega) (by omega) (by omega)
    · rw [if_neg h2, between_past _ _ _ _ _ _ (by omega)]
theorem impl_f (l : List Int) (hl : l.length * 8 ≤ 140737488351232) (lo hi : Int) (k : Nat) (hk : l.length < k) : impl_WorkBefore.f k l lo hi = some (between l lo hi l.length 0 0) :=
  impl_l0 l (by omega) lo hi l.length k 0 0 (by omega) hk
theorem spec_f (l : List Int) (hl : l.length * 8 ≤ 140737488351232) (lo hi : Int) (k : Nat) (hk : l.length < k) : spec_WorkBefore.f k l lo hi = some (between l lo hi l.length 0 0) := by
  unfold spec_WorkBefore.f mx
  by_cases h : 0 < lo
  · rw [if_pos h]
    obtain ⟨m, rfl⟩ := Int.eq_ofNat_of_zero_le (by omega : 0 ≤ lo)
    by_cases hm : m < l.length
    · rw [spec_l0 l (by omega) (m : Int) hi (l.length - m) k m 0 (by omega) (by omega) (by omega)]
      have e := between_skip l (m : Int) hi m (l.length - m) 0 0 (by omega)
      rw [show m + (l.length - m) = l.length from by omega, Nat.zero_add] at e
      rw [e]
    · obtain ⟨k, rfl⟩ : ∃ q, k = q + 1 := ⟨k - 1, by omega⟩
      simp only [spec_WorkBefore.l0]
      rw [if_neg (by omega)]
      have e := between_skip l (m : Int) hi l.length 0 0 0 (by omega)
      rw [Nat.add_zero] at e
      rw [e]
      rfl
  · rw [if_neg h]
    exact spec_l0 l (by omega) lo hi l.length k 0 0 (by omega) hk (by omega)

/-- The law: the program's answer is the reference's, and the argument is left as it was. -/
theorem FnExactWorkBefore : laws_FnExactWorkBefore.Pure := by
  intro l a b _ hl _ _ _
  refine ⟨l.length + 1, ?_⟩
  unfold laws_FnExactWorkBefore.f
  by_cases h : (l.length : Int) > 1048576
  · rw [if_pos h]
  · rw [if_neg h]
    simp only [toIntS_f l hl _ (Nat.lt_succ_self _), spec_f l hl a b _ (Nat.lt_succ_self _), impl_f l hl a b _ (Nat.lt_succ_self _), eqIntS_f l hl _ (Nat.lt_succ_self _), Option.bind_some, if_true]

end Go.Proofs.Ytniiebpibdkgjaa.Pure
