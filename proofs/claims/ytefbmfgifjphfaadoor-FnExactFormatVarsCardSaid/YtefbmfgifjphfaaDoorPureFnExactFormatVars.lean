/- The law FnExactFormatVars in plain lists: both sides give the same text. Conditions: none beside those of the row. -/
import Derived.Test.YtefbmfgifjphfaaDoorHelpFnExactFormatVars
import Derived.Lib.ItoaLen
import Derived.Lib.ItoaMem
import Derived.Lib.ItoaNum
namespace Go.Proofs.YtefbmfgifjphfaaDoor.Pure
open Go.RowKit Go.Proofs.YtefbmfgifjphfaaDoor.PFnExactFormatVars Go.Proofs.YtefbmfgifjphfaaDoor.XPure Go.Proofs.YtefbmfgifjphfaaDoor.PureFnExactFormatVars Go.Proofs.YtefbmfgifjphfaaDoorW.PrintWords Go.Proofs.YtefbmfgifjphfaaDoorW.PrintLast Go.Proofs.YtefbmfgifjphfaaDoorW.PrintMore
set_option linter.unusedSimpArgs false
set_option linter.unusedVariables false

/-- A text out of its bytes. -/
def bs (l : List UInt8) : ByteArray := ⟨l.toArray⟩
/-- A text's bytes as numbers. -/
def nums (l : List UInt8) : List Int := l.map fun b => (b.toNat : Int)
theorem bs_append (a b : List UInt8) : bs a ++ bs b = bs (a ++ b) := by
  apply ByteArray.ext
  simp [bs]
theorem bs_size (a : List UInt8) : (bs a).size = a.length := by simp [bs, ByteArray.size]
theorem nums_append (a b : List UInt8) : nums a ++ nums b = nums (a ++ b) := by simp [nums]
theorem nums_length (a : List UInt8) : (nums a).length = a.length := by simp [nums]
theorem str_nums (a : List UInt8) : strOfNums (nums a) = bs a := by
  unfold strOfNums bs nums
  congr 2
  rw [List.map_map]
  conv => rhs; rw [← List.map_id a]
  refine List.map_congr_left fun x _ => ?_
  simp
theorem bytesOf_bs (a : List UInt8) : bytesOf (bs a) = nums a := by simp [bytesOf, bs, nums]
theorem if_then {c : Prop} [Decidable c] {α : Type} {x y r : α} (h : c) (hx : x = r) : (if c then x else y) = r := (if_pos h).trans hx
theorem if_else {c : Prop} [Decidable c] {α : Type} {x y r : α} (h : ¬ c) (hy : y = r) : (if c then x else y) = r := (if_neg h).trans hy
theorem bind_of {α β : Type} {o : Option α} {a : α} {f : α → Option β} {r : Option β} (h : o = some a) (hf : f a = r) : o.bind f = r := by rw [h]; exact hf
/-- The digits of a number, none of zero. -/
def dig (u : Nat) : List UInt8 := if u = 0 then [] else Lib.decDigits u
theorem dig_step (u : Nat) (h : u ≠ 0) : dig u = dig (u / 10) ++ [UInt8.ofNat (48 + u % 10)] := by
  unfold dig
  rw [if_neg h]
  by_cases hu : u < 10
  · rw [Lib.decDigits_one hu, if_pos (by omega), Nat.mod_eq_of_lt hu]
    rfl
  · rw [if_neg (by omega), Lib.decDigits, dif_neg hu]
theorem figure_f (d : Nat) (h : d < 10) : spec_l01Figure.f (d : Int) = some ((48 + d : Nat) : Int) := by
  unfold spec_l01Figure.f
  rw [if_pos (by omega), wrap_in (by omega) (by omega)]
  congr 1
  omega
theorem one_digit (d : Nat) (h : d < 10) : strOfNums [((48 + d : Nat) : Int)] = bs [UInt8.ofNat (48 + d)] := rfl
theorem tmod_cases (x : Int) : (x = ((x.natAbs : Nat) : Int) ∧ Int.tmod x 10 = ((x.natAbs % 10 : Nat) : Int) ∧ Int.tdiv x 10 = ((x.natAbs / 10 : Nat) : Int)) ∨ (x = -((x.natAbs : Nat) : Int) ∧ Int.tmod x 10 = -((x.natAbs % 10 : Nat) : Int) ∧ Int.tdiv x 10 = -((x.natAbs / 10 : Nat) : Int)) := by
  rcases Int.natAbs_eq x with h | h
  · refine Or.inl ⟨h, ?_, ?_⟩
    · conv => lhs; rw [h]
      exact (Int.ofNat_tmod _ 10).symm
    · conv => lhs; rw [h]
      exact (Int.ofNat_tdiv _ 10).symm
  · refine Or.inr ⟨h, ?_, ?_⟩
    · conv => lhs; rw [h]
      rw [Int.neg_tmod]
      exact congrArg _ (Int.ofNat_tmod _ 10).symm
    · conv => lhs; rw [h]
      rw [Int.neg_tdiv]
      exact congrArg _ (Int.ofNat_tdiv _ 10).symm
theorem pick_digit (A : Int → Option ByteArray) (x : Int) : (if Int.tmod x 10 < 0 then A (wrap64 (-(Int.tmod x 10))) else A (Int.tmod x 10)) = A ((x.natAbs % 10 : Nat) : Int) := by
  rcases tmod_cases x with ⟨_, h, _⟩ | ⟨_, h, _⟩
  · rw [h]
    exact if_else (by omega) rfl
  · rw [h]
    by_cases hz : x.natAbs % 10 = 0
    · rw [hz]
      exact if_else (by decide) rfl
    · refine if_then (by omega) ?_
      rw [Int.neg_neg, wrap_in (by omega) (by omega)]
theorem fi_step (k : Nat) (x : Int) (b : Bool) (acc : List UInt8) (hx : x ≠ 0) (h0 : -9223372036854775808 ≤ x) (h1 : x ≤ 9223372036854775807) (ha : acc.length ≤ 1000) :
    spec_FormatInt.l0 (k + 1) x b (bs acc) = spec_FormatInt.l0 k (Int.tdiv x 10) b (bs (UInt8.ofNat (48 + x.natAbs % 10) :: acc)) := by
  have hd : wrap64 (Int.tdiv x 10) = Int.tdiv x 10 := by
    rcases tmod_cases x with ⟨_, _, h⟩ | ⟨_, _, h⟩
    · rw [h]; exact wrap_in (by omega) (by omega)
    · rw [h]; exact wrap_in (by omega) (by omega)
  simp only [spec_FormatInt.l0]
  refine if_else hx ?_
  refine (pick_digit (fun t => (spec_l01Figure.f t).bind fun t101 => ((some (([t101] : List Int) : List Int)).bind fun y102 => (if (strOfNums y102).size + (bs acc).size ≤ 9223372036854775807 then (spec_FormatInt.l0 k (wrap64 (Int.tdiv x 10)) b ((strOfNums y102) ++ (bs acc))) else (none)))) x).trans ?_
  refine bind_of (figure_f (x.natAbs % 10) (by omega)) (bind_of rfl ?_)
  rw [one_digit _ (by omega), hd, bs_append]
  refine if_then ?_ rfl
  rw [bs_size, bs_size, List.length_singleton]
  omega
theorem fi_loop (b : Bool) : ∀ (d : Nat) (x : Int) (acc : List UInt8) (k : Nat), x.natAbs < 10 ^ d → -9223372036854775808 ≤ x → x ≤ 9223372036854775807 → d < k → acc.length + d ≤ 1000 →
    spec_FormatInt.l0 k x b (bs acc) = some (bs ((if b then [45] else []) ++ (dig x.natAbs ++ acc))) := by
  have zero : ∀ (k : Nat) (acc : List UInt8), acc.length ≤ 1000 → spec_FormatInt.l0 (k + 1) 0 b (bs acc) = some (bs ((if b then [45] else []) ++ (dig (0 : Int).natAbs ++ acc))) := by
    intro k acc ha
    simp only [spec_FormatInt.l0]
    refine if_then trivial ?_
    have hn : dig (0 : Int).natAbs ++ acc = acc := rfl
    rw [hn]
    cases b with
    | true =>
      refine if_then rfl (if_then ?_ ?_)
      · rw [bs_size]; omega
      · exact congrArg some (bs_append [45] acc)
    | false => exact if_else (by decide) rfl
  intro d
  induction d with
  | zero =>
    intro x acc k hu h0 h1 hk ha
    obtain ⟨k, rfl⟩ : ∃ m, k = m + 1 := ⟨k - 1, by omega⟩
    obtain rfl : x = 0 := by simp at hu; omega
    exact zero k acc (by omega)
  | succ d ih =>
    intro x acc k hu h0 h1 hk ha
    obtain ⟨k, rfl⟩ : ∃ m, k = m + 1 := ⟨k - 1, by omega⟩
    by_cases hx : x = 0
    · subst hx
      exact zero k acc (by omega)
    · have hq : (Int.tdiv x 10).natAbs = x.natAbs / 10 := by
        rcases tmod_cases x with ⟨_, _, h⟩ | ⟨_, _, h⟩
        · rw [h]; omega
        · rw [h]; omega
      have hb : -9223372036854775808 ≤ Int.tdiv x 10 ∧ Int.tdiv x 10 ≤ 9223372036854775807 := by
        rcases tmod_cases x with ⟨_, _, h⟩ | ⟨_, _, h⟩
        · rw [h]; omega
        · rw [h]; omega
      rw [fi_step k x b acc hx h0 h1 (by omega), ih (Int.tdiv x 10) (UInt8.ofNat (48 + x.natAbs % 10) :: acc) k (by rw [hq]; rw [Nat.pow_succ] at hu; omega) hb.1 hb.2 (by omega) (by rw [List.length_cons]; omega), hq, dig_step x.natAbs (by omega), List.append_assoc]
      rfl
theorem specFormatInt_f (x : Int) (h0 : -9223372036854775808 ≤ x) (h1 : x ≤ 9223372036854775807) (k : Nat) (hk : 19 < k) : spec_FormatInt.f k x = some (bs (Lib.itoa x)) := by
  unfold spec_FormatInt.f
  by_cases hx : x = 0
  · subst hx
    refine if_then rfl ?_
    have : Lib.itoa 0 = [48] := (Lib.itoa_nonneg 0).trans (Lib.decDigits_one (by decide))
    rw [this]
    rfl
  · refine if_else hx ?_
    refine (fi_loop (decide (x < 0)) 19 x [] k (show x.natAbs < 10000000000000000000 by omega) h0 h1 hk (by decide)).trans ?_
    rw [List.append_nil]
    unfold Lib.itoa dig
    rw [if_neg (show ¬ x.natAbs = 0 by omega)]
    by_cases hn : x < 0
    · rw [decide_eq_true hn, if_pos hn]
      rfl
    · rw [decide_eq_false hn, if_neg hn, show x.natAbs = x.toNat by omega]
      rfl
theorem implFormatInt_f (x : Int) (h0 : -9223372036854775808 ≤ x) (h1 : x ≤ 9223372036854775807) (k : Nat) : impl_FormatInt.f k x = some (bs (Lib.itoa x)) := by
  unfold impl_FormatInt.f strconv_Itoa_36.f
  rw [if_pos ⟨h0, h1⟩]
  rfl
theorem wf_range {x : Int} (h : (Lit.int .i64 x).wf = true) : -9223372036854775808 ≤ x ∧ x ≤ 9223372036854775807 := by
  have h' : (decide ((-9223372036854775808 : Int) ≤ x) && decide (x ≤ 9223372036854775807)) = true := h
  simpa using h'
/-- A loop that goes up, its fuel above a bound throughout. -/
theorem loop_at {σ ρ : Type} (n B : Nat) (L : Nat → σ → Option ρ) (S : Nat → σ) (r : ρ) (step : ∀ k i, i < n → B < k → L (k + 1) (S i) = L k (S (i + 1))) (stop : ∀ k, L (k + 1) (S n) = some r) : ∀ k, n + B + 1 < k → L k (S 0) = some r := by
  have h : ∀ d i k, i + d = n → d + B + 1 < k → L k (S i) = some r := by
    intro d
    induction d with
    | zero =>
      intro i k hi hk
      obtain ⟨k, rfl⟩ : ∃ m, k = m + 1 := ⟨k - 1, by omega⟩
      obtain rfl : i = n := by omega
      exact stop k
    | succ d ih =>
      intro i k hi hk
      obtain ⟨k, rfl⟩ : ∃ m, k = m + 1 := ⟨k - 1, by omega⟩
      rw [step k i (by omega) (by omega)]
      exact ih (i + 1) k (by omega) (by omega)
  exact fun k hk => h n 0 k (by omega) (by omega)
/-- What the first i numbers come to, a space ahead of each but the first. -/
def pre (l : List Int) : Nat → List UInt8
  | 0 => []
  | i + 1 => (if i = 0 then [] else pre l i ++ [32]) ++ Lib.itoa (l.getD i 0)
theorem in_range {l : List Int} (h : ∀ x ∈ l, (Lit.int .i64 x).wf = true) (i : Nat) : -9223372036854775808 ≤ l.getD i 0 ∧ l.getD i 0 ≤ 9223372036854775807 := by
  by_cases hi : i < l.length
  · rw [getD_lt hi]
    exact wf_range (h _ (List.getElem_mem hi))
  · rw [List.getD_eq_getElem?_getD, List.getElem?_eq_none (by omega)]
    exact ⟨by decide, by decide⟩
theorem pre_length {l : List Int} (h : ∀ x ∈ l, (Lit.int .i64 x).wf = true) : ∀ i, (pre l i).length ≤ 22 * i := by
  intro i
  induction i with
  | zero => exact Nat.le_refl 0
  | succ i ih =>
    have := Lib.itoa_length_le (l.getD i 0) (in_range h i).1 (in_range h i).2
    unfold pre
    split
    · rw [List.length_append, List.length_nil]; omega
    · rw [List.length_append, List.length_append, List.length_singleton]; omega
theorem specFormatVars_f (l : List Int) (hl : l.length ≤ 1048576) (h : ∀ x ∈ l, (Lit.int .i64 x).wf = true) (k : Nat) (hk : l.length + 21 < k) : spec_FormatVars.f k l = some (bs (pre l l.length)) := by
  unfold spec_FormatVars.f
  refine loop_at l.length 20 (fun k (s : List Int × Int) => spec_FormatVars.l0 k l s.1 s.2) (fun i => (nums (pre l i), (i : Int))) (bs (pre l l.length)) (fun k i hi hk => ?_) (fun k => ?_) k hk
  · have e := specFormatInt_f (l.getD i 0) (in_range h i).1 (in_range h i).2 k (by omega)
    have hp := pre_length h i
    have hn := Lib.itoa_length_le (l.getD i 0) (in_range h i).1 (in_range h i).2
    simp only [spec_FormatVars.l0, rd_nat]
    refine if_then (by omega) ?_
    by_cases h0 : i = 0
    · refine if_else (by omega) (if_then (by omega) (bind_of e (if_then ?_ ?_)))
      · rw [nums_length, bs_size]; omega
      · rw [wrap_next hi (by omega), bytesOf_bs, nums_append]
        subst h0
        rfl
    · refine if_then (by omega) (if_then (by rw [nums_length]; omega) (bind_of rfl (if_then (by omega) (bind_of e (if_then ?_ ?_)))))
      · rw [List.length_append, nums_length, bs_size, List.length_singleton]; omega
      · have e32 : nums (pre l i) ++ [32] = nums (pre l i ++ [32]) := nums_append (pre l i) [32]
        rw [wrap_next hi (by omega), bytesOf_bs, e32, nums_append]
        have ep : pre l (i + 1) = pre l i ++ [32] ++ Lib.itoa (l.getD i 0) := by
          conv => lhs; unfold pre
          rw [if_neg h0]
        rw [ep]
  · simp only [spec_FormatVars.l0]
    refine if_else (by omega) ?_
    rw [str_nums]
theorem implSpaced_f (l : List Int) (hl : l.length ≤ 1048576) (h0 : 0 < l.length) (h : ∀ x ∈ l, (Lit.int .i64 x).wf = true) (k : Nat) (hk : l.length + 21 < k) : impl_spaced.f k (bs (pre l 1)) (l.drop 1) = some (bs (pre l l.length)) := by
  unfold impl_spaced.f
  have hd : (l.drop 1).length = l.length - 1 := List.length_drop
  have hg : ∀ i, (l.drop 1).getD i 0 = l.getD (i + 1) 0 := fun i => by
    rw [List.getD_eq_getElem?_getD, List.getD_eq_getElem?_getD, List.getElem?_drop, Nat.add_comm 1 i]
  refine loop_at (l.length - 1) 0 (fun k (s : ByteArray × Int) => impl_spaced.l0 k s.1 (l.drop 1) ((l.drop 1).length : Int) s.2) (fun i => (bs (pre l (i + 1)), (i : Int))) (bs (pre l l.length)) (fun k i hi hk => ?_) (fun k => ?_) k (by omega)
  · have e := implFormatInt_f (l.getD (i + 1) 0) (in_range h (i + 1)).1 (in_range h (i + 1)).2 k
    have hp := pre_length h (i + 1)
    have hn := Lib.itoa_length_le (l.getD (i + 1) 0) (in_range h (i + 1)).1 (in_range h (i + 1)).2
    have e32 : (⟨#[32]⟩ : ByteArray) = bs [32] := rfl
    simp only [impl_spaced.l0, rd_nat, hg, e32]
    refine if_then (by omega) (if_then (by omega) (if_then (by omega) (bind_of e ?_)))
    rw [bs_append, bs_size, bs_size, bs_size, bs_append, List.length_append, List.length_singleton, wrap_next hi (by omega)]
    refine if_then (by omega) (if_then (by omega) ?_)
    have ep : pre l (i + 1 + 1) = pre l (i + 1) ++ ([32] ++ Lib.itoa (l.getD (i + 1) 0)) := by
      conv => lhs; unfold pre
      rw [if_neg (by omega), List.append_assoc]
    rw [ep]
  · simp only [impl_spaced.l0]
    refine if_else (by omega) ?_
    rw [show l.length - 1 + 1 = l.length by omega]
theorem implFormatVars_f (l : List Int) (hl : l.length ≤ 1048576) (h : ∀ x ∈ l, (Lit.int .i64 x).wf = true) (k : Nat) (hk : l.length + 21 < k) : impl_FormatVars.f k l = some (bs (pre l l.length)) := by
  unfold impl_FormatVars.f
  by_cases h0 : l.length = 0
  · refine if_then (by omega) ?_
    rw [h0]
    rfl
  · refine if_else (by omega) (if_then (by omega) (bind_of (implFormatInt_f (rd l 0) (in_range h 0).1 (in_range h 0).2 k) (if_then (by omega) ?_)))
    have e1 : bs (Lib.itoa (rd l 0)) = bs (pre l 1) := rfl
    rw [e1]
    exact bind_of (implSpaced_f l hl (by omega) h k hk) rfl
/-- The law. -/
theorem FnExactFormatVars : laws_FnExactFormatVars.Pure := by
  intro l hG
  refine ⟨l.length + 100, ?_⟩
  unfold laws_FnExactFormatVars.f
  by_cases hb : (l.length : Int) > 1048576
  · exact if_then hb rfl
  · refine if_else hb ?_
    have e1 := toIntS_f l (by omega) (l.length + 100) (by omega)
    have e2 := specFormatVars_f l (by omega) hG.2 (l.length + 100) (by omega)
    have e3 := implFormatVars_f l (by omega) hG.2 (l.length + 100) (by omega)
    have e4 := eqIntS_f l (by omega) (l.length + 100) (by omega)
    exact bind_of e1 (bind_of e2 (bind_of e1 (bind_of e3 (if_then rfl (bind_of e1 (bind_of e4 (if_then rfl rfl)))))))
end Go.Proofs.YtefbmfgifjphfaaDoor.Pure
