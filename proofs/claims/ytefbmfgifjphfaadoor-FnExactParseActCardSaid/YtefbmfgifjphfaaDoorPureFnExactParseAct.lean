/- The law FnExactParseAct in plain lists: The program's ParseAct returns what the reference's returns, for all lines. Conditions: none beside those of the row. -/
import Derived.Test.YtefbmfgifjphfaaDoorHelpFnExactParseAct
import Derived.Lib.ItoaLen
import Derived.Lib.ItoaMem
import Derived.Lib.ItoaNum
import Derived.Lib.AtoiAllCases
namespace Go.Proofs.YtefbmfgifjphfaaDoor.Pure
open Go.RowKit Go.Proofs.YtefbmfgifjphfaaDoor.PFnExactParseAct Go.Proofs.YtefbmfgifjphfaaDoor.XPure Go.Proofs.YtefbmfgifjphfaaDoor.PureFnExactParseAct Go.Proofs.YtefbmfgifjphfaaDoorW.PrintWords Go.Proofs.YtefbmfgifjphfaaDoorW.PrintLast Go.Proofs.YtefbmfgifjphfaaDoorW.PrintMore
set_option linter.unusedSimpArgs false
set_option linter.unusedVariables false

/-- A text's bytes as numbers. -/
def nums (l : List UInt8) : List Int := l.map fun b => (b.toNat : Int)
theorem bs_append (a b : List UInt8) : bs a ++ bs b = bs (a ++ b) := by
  apply ByteArray.ext
  simp [bs]
theorem bs_size (a : List UInt8) : (bs a).size = a.length := by simp [bs, ByteArray.size]
theorem nums_append (a b : List UInt8) : nums a ++ nums b = nums (a ++ b) := by simp [nums]
theorem nums_length (a : List UInt8) : (nums a).length = a.length := by simp [nums]
theorem str_nums (a : List UInt8) : strOfNums (nums a) = bs a := by
  unfold strOfNums bs nums
  congr 2
  rw [List.map_map]
  conv => rhs; rw [← List.map_id a]
  refine List.map_congr_left fun x _ => ?_
  simp
theorem bytesOf_bs (a : List UInt8) : bytesOf (bs a) = nums a := by simp [bytesOf, bs, nums]
theorem if_then {c : Prop} [Decidable c] {α : Type} {x y r : α} (h : c) (hx : x = r) : (if c then x else y) = r := (if_pos h).trans hx
theorem if_else {c : Prop} [Decidable c] {α : Type} {x y r : α} (h : ¬ c) (hy : y = r) : (if c then x else y) = r := (if_neg h).trans hy
theorem bind_of {α β : Type} {o : Option α} {a : α} {f : α → Option β} {r : Option β} (h : o = some a) (hf : f a = r) : o.bind f = r := by rw [h]; exact hf
/-- The digits of a number, none of zero. -/
def dig (u : Nat) : List UInt8 := if u = 0 then [] else Lib.decDigits u
theorem dig_step (u : Nat) (h : u ≠ 0) : dig u = dig (u / 10) ++ [UInt8.ofNat (48 + u % 10)] := by
  unfold dig
  rw [if_neg h]
  by_cases hu : u < 10
  · rw [Lib.decDigits_one hu, if_pos (by omega), Nat.mod_eq_of_lt hu]
    rfl
  · rw [if_neg (by omega), Lib.decDigits, dif_neg hu]
theorem figure_f (d : Nat) (h : d < 10) : spec_l01Figure.f (d : Int) = some ((48 + d : Nat) : Int) := by
  unfold spec_l01Figure.f
  rw [if_pos (by omega), wrap_in (by omega) (by omega)]
  congr 1
  omega
theorem one_digit (d : Nat) (h : d < 10) : strOfNums [((48 + d : Nat) : Int)] = bs [UInt8.ofNat (48 + d)] := rfl
theorem tmod_cases (x : Int) : (x = ((x.natAbs : Nat) : Int) ∧ Int.tmod x 10 = ((x.natAbs % 10 : Nat) : Int) ∧ Int.tdiv x 10 = ((x.natAbs / 10 : Nat) : Int)) ∨ (x = -((x.natAbs : Nat) : Int) ∧ Int.tmod x 10 = -((x.natAbs % 10 : Nat) : Int) ∧ Int.tdiv x 10 = -((x.natAbs / 10 : Nat) : Int)) := by
  rcases Int.natAbs_eq x with h | h
  · refine Or.inl ⟨h, ?_, ?_⟩
    · conv => lhs; rw [h]
      exact (Int.ofNat_tmod _ 10).symm
    · conv => lhs; rw [h]
      exact (Int.ofNat_tdiv _ 10).symm
  · refine Or.inr ⟨h, ?_, ?_⟩
    · conv => lhs; rw [h]
      rw [Int.neg_tmod]
      exact congrArg _ (Int.ofNat_tmod _ 10).symm
    · conv => lhs; rw [h]
      rw [Int.neg_tdiv]
      exact congrArg _ (Int.ofNat_tdiv _ 10).symm
theorem pick_digit (A : Int → Option ByteArray) (x : Int) : (if Int.tmod x 10 < 0 then A (wrap64 (-(Int.tmod x 10))) else A (Int.tmod x 10)) = A ((x.natAbs % 10 : Nat) : Int) := by
  rcases tmod_cases x with ⟨_, h, _⟩ | ⟨_, h, _⟩
  · rw [h]
    exact if_else (by omega) rfl
  · rw [h]
    by_cases hz : x.natAbs % 10 = 0
    · rw [hz]
      exact if_else (by decide) rfl
    · refine if_then (by omega) ?_
      rw [Int.neg_neg, wrap_in (by omega) (by omega)]
theorem fi_step (k : Nat) (x : Int) (b : Bool) (acc : List UInt8) (hx : x ≠ 0) (h0 : -9223372036854775808 ≤ x) (h1 : x ≤ 9223372036854775807) (ha : acc.length ≤ 1000) :
    spec_FormatInt.l0 (k + 1) x b (bs acc) = spec_FormatInt.l0 k (Int.tdiv x 10) b (bs (UInt8.ofNat (48 + x.natAbs % 10) :: acc)) := by
  have hd : wrap64 (Int.tdiv x 10) = Int.tdiv x 10 := by
    rcases tmod_cases x with ⟨_, _, h⟩ | ⟨_, _, h⟩
    · rw [h]; exact wrap_in (by omega) (by omega)
    · rw [h]; exact wrap_in (by omega) (by omega)
  simp only [spec_FormatInt.l0]
  refine if_else hx ?_
  refine (pick_digit (fun t => (spec_l01Figure.f t).bind fun t101 => ((some (([t101] : List Int) : List Int)).bind fun y102 => (if (strOfNums y102).size + (bs acc).size ≤ 9223372036854775807 then (spec_FormatInt.l0 k (wrap64 (Int.tdiv x 10)) b ((strOfNums y102) ++ (bs acc))) else (none)))) x).trans ?_
  refine bind_of (figure_f (x.natAbs % 10) (by omega)) (bind_of rfl ?_)
  rw [one_digit _ (by omega), hd, bs_append]
  refine if_then ?_ rfl
  rw [bs_size, bs_size, List.length_singleton]
  omega
theorem fi_loop (b : Bool) : ∀ (d : Nat) (x : Int) (acc : List UInt8) (k : Nat), x.natAbs < 10 ^ d → -9223372036854775808 ≤ x → x ≤ 9223372036854775807 → d < k → acc.length + d ≤ 1000 →
    spec_FormatInt.l0 k x b (bs acc) = some (bs ((if b then [45] else []) ++ (dig x.natAbs ++ acc))) := by
  have zero : ∀ (k : Nat) (acc : List UInt8), acc.length ≤ 1000 → spec_FormatInt.l0 (k + 1) 0 b (bs acc) = some (bs ((if b then [45] else []) ++ (dig (0 : Int).natAbs ++ acc))) := by
    intro k acc ha
    simp only [spec_FormatInt.l0]
    refine if_then trivial ?_
    have hn : dig (0 : Int).natAbs ++ acc = acc := rfl
    rw [hn]
    cases b with
    | true =>
      refine if_then rfl (if_then ?_ ?_)
      · rw [bs_size]; omega
      · exact congrArg some (bs_append [45] acc)
    | false => exact if_else (by decide) rfl
  intro d
  induction d with
  | zero =>
    intro x acc k hu h0 h1 hk ha
    obtain ⟨k, rfl⟩ : ∃ m, k = m + 1 := ⟨k - 1, by omega⟩
    obtain rfl : x = 0 := by simp at hu; omega
    exact zero k acc (by omega)
  | succ d ih =>
    intro x acc k hu h0 h1 hk ha
    obtain ⟨k, rfl⟩ : ∃ m, k = m + 1 := ⟨k - 1, by omega⟩
    by_cases hx : x = 0
    · subst hx
      exact zero k acc (by omega)
    · have hq : (Int.tdiv x 10).natAbs = x.natAbs / 10 := by
        rcases tmod_cases x with ⟨_, _, h⟩ | ⟨_, _, h⟩
        · rw [h]; omega
        · rw [h]; omega
      have hb : -9223372036854775808 ≤ Int.tdiv x 10 ∧ Int.tdiv x 10 ≤ 9223372036854775807 := by
        rcases tmod_cases x with ⟨_, _, h⟩ | ⟨_, _, h⟩
        · rw [h]; omega
        · rw [h]; omega
      rw [fi_step k x b acc hx h0 h1 (by omega), ih (Int.tdiv x 10) (UInt8.ofNat (48 + x.natAbs % 10) :: acc) k (by rw [hq]; rw [Nat.pow_succ] at hu; omega) hb.1 hb.2 (by omega) (by rw [List.length_cons]; omega), hq, dig_step x.natAbs (by omega), List.append_assoc]
      rfl
theorem specFormatInt_f (x : Int) (h0 : -9223372036854775808 ≤ x) (h1 : x ≤ 9223372036854775807) (k : Nat) (hk : 19 < k) : spec_FormatInt.f k x = some (bs (Lib.itoa x)) := by
  unfold spec_FormatInt.f
  by_cases hx : x = 0
  · subst hx
    refine if_then rfl ?_
    have : Lib.itoa 0 = [48] := (Lib.itoa_nonneg 0).trans (Lib.decDigits_one (by decide))
    rw [this]
    rfl
  · refine if_else hx ?_
    refine (fi_loop (decide (x < 0)) 19 x [] k (show x.natAbs < 10000000000000000000 by omega) h0 h1 hk (by decide)).trans ?_
    rw [List.append_nil]
    unfold Lib.itoa dig
    rw [if_neg (show ¬ x.natAbs = 0 by omega)]
    by_cases hn : x < 0
    · rw [decide_eq_true hn, if_pos hn]
      rfl
    · rw [decide_eq_false hn, if_neg hn, show x.natAbs = x.toNat by omega]
      rfl
theorem implFormatInt_f (x : Int) (h0 : -9223372036854775808 ≤ x) (h1 : x ≤ 9223372036854775807) (k : Nat) : impl_FormatInt.f k x = some (bs (Lib.itoa x)) := by
  unfold impl_FormatInt.f strconv_Itoa_36.f
  rw [if_pos ⟨h0, h1⟩]
  rfl
theorem wf_range {x : Int} (h : (Lit.int .i64 x).wf = true) : -9223372036854775808 ≤ x ∧ x ≤ 9223372036854775807 := by
  have h' : (decide ((-9223372036854775808 : Int) ≤ x) && decide (x ≤ 9223372036854775807)) = true := h
  simpa using h'
/-- A loop that goes up, its fuel above a bound throughout. -/
theorem loop_at {σ ρ : Type} (n B : Nat) (L : Nat → σ → Option ρ) (S : Nat → σ) (r : ρ) (step : ∀ k i, i < n → B < k → L (k + 1) (S i) = L k (S (i + 1))) (stop : ∀ k, L (k + 1) (S n) = some r) : ∀ k, n + B + 1 < k → L k (S 0) = some r := by
  have h : ∀ d i k, i + d = n → d + B + 1 < k → L k (S i) = some r := by
    intro d
    induction d with
    | zero =>
      intro i k hi hk
      obtain ⟨k, rfl⟩ : ∃ m, k = m + 1 := ⟨k - 1, by omega⟩
      obtain rfl : i = n := by omega
      exact stop k
    | succ d ih =>
      intro i k hi hk
      obtain ⟨k, rfl⟩ : ∃ m, k = m + 1 := ⟨k - 1, by omega⟩
      rw [step k i (by omega) (by omega)]
      exact ih (i + 1) k (by omega) (by omega)
  exact fun k hk => h n 0 k (by omega) (by omega)
theorem within_in (a b c : Int) : impl_within.f a b c = spec_l01In.f a b c := rfl
theorem in_some (a b c : Int) : spec_l01In.f a b c = some (decide (b ≤ a ∧ a ≤ c)) := by
  unfold spec_l01In.f
  by_cases h : a ≥ b
  · rw [if_pos h]
    simp [show b ≤ a from h]
  · rw [if_neg h]
    simp [show ¬ b ≤ a from h]
theorem span_some (a b : Int) : spec_SpanOk.f a b = some (decide (0 ≤ a ∧ a ≤ b ∧ b ≤ 1000000)) := by
  unfold spec_SpanOk.f
  by_cases h : a ≥ 0
  · by_cases h2 : a ≤ b
    · rw [if_pos h, if_pos h2]; simp [show 0 ≤ a from h, h2]
    · rw [if_pos h, if_neg h2]; simp [h2]
  · rw [if_neg h]; simp [show ¬ 0 ≤ a from h]
theorem act_same (a b c : Int) : impl_ActOk.f a b c = spec_ActOk.f a b c := by
  have hs : impl_SpanOk.f b c = spec_SpanOk.f b c := rfl
  simp only [impl_ActOk.f, spec_ActOk.f, within_in, impl_isHarvest.f, impl_IsValue.f, spec_IsValue.f, hs, in_some, Option.bind_some]
  by_cases h1 : a = 1
  · rw [if_pos h1, if_pos h1]
  · rw [if_neg h1, if_neg h1]
    by_cases h2 : a = 2
    · rw [if_pos h2, if_pos h2]
      by_cases g1 : b ≥ 0
      · by_cases g2 : b ≤ c
        · rw [if_pos g1, if_pos g2]
          by_cases g3 : c ≤ 10000
          · rw [if_pos (decide_eq_true (by omega)), decide_eq_true g3, decide_eq_true (by omega)]
          · rw [if_neg (by rw [decide_eq_false (by omega)]; decide), decide_eq_false g3]
        · rw [if_pos g1, if_neg g2]
          split
          · rw [decide_eq_false (by omega)]
          · rfl
      · rw [if_neg g1]
        split
        · rw [decide_eq_false (by omega)]
        · rfl
    · rw [if_neg h2, if_neg h2]
theorem act_some (a b c : Int) : ∃ v, spec_ActOk.f a b c = some v := by
  simp only [spec_ActOk.f, in_some, span_some, spec_IsValue.f, Option.bind_some]
  repeat' split
  all_goals exact ⟨_, rfl⟩
theorem act_kind {a b c : Int} (h : spec_ActOk.f a b c = some true) : a = 1 ∨ a = 2 ∨ a = 3 ∨ a = 4 ∨ a = 5 := by
  by_cases h1 : a = 1
  · exact Or.inl h1
  by_cases h2 : a = 2
  · exact Or.inr (Or.inl h2)
  by_cases h3 : a = 3
  · exact Or.inr (Or.inr (Or.inl h3))
  by_cases h4 : a = 4
  · exact Or.inr (Or.inr (Or.inr (Or.inl h4)))
  by_cases h5 : a = 5
  · exact Or.inr (Or.inr (Or.inr (Or.inr h5)))
  unfold spec_ActOk.f at h
  rw [if_neg h1, if_neg h2, if_neg h3, if_neg h4, if_neg h5] at h
  cases h
/-- A space and a number, i times. -/
def sp (l : List Int) : Nat → List UInt8
  | 0 => []
  | i + 1 => sp l i ++ ([32] ++ Lib.itoa (l.getD i 0))
theorem sp_length {l : List Int} (h : ∀ i, -9223372036854775808 ≤ l.getD i 0 ∧ l.getD i 0 ≤ 9223372036854775807) : ∀ i, (sp l i).length ≤ 22 * i := by
  intro i
  induction i with
  | zero => exact Nat.le_refl 0
  | succ i ih =>
    have := Lib.itoa_length_le (l.getD i 0) (h i).1 (h i).2
    unfold sp
    rw [List.length_append, List.length_append, List.length_singleton]
    omega
theorem spaced_f (w : List UInt8) (l : List Int) (hw : w.length ≤ 100000000) (hl : l.length ≤ 1048576) (h : ∀ i, -9223372036854775808 ≤ l.getD i 0 ∧ l.getD i 0 ≤ 9223372036854775807) (k : Nat) (hk : l.length + 1 < k) : impl_spaced.f k (bs w) l = some (bs (w ++ sp l l.length)) := by
  unfold impl_spaced.f
  have h0 : bs w = bs (w ++ sp l 0) := by unfold sp; rw [List.append_nil]
  rw [h0]
  refine loop_at l.length 0 (fun k (s : ByteArray × Int) => impl_spaced.l0 k s.1 l (l.length : Int) s.2) (fun i => (bs (w ++ sp l i), (i : Int))) (bs (w ++ sp l l.length)) (fun k i hi hk => ?_) (fun k => ?_) k (by omega)
  · have e := implFormatInt_f (l.getD i 0) (h i).1 (h i).2 k
    have hp := sp_length h i
    have hn := Lib.itoa_length_le (l.getD i 0) (h i).1 (h i).2
    have e32 : (⟨#[32]⟩ : ByteArray) = bs [32] := rfl
    simp only [impl_spaced.l0, rd_nat, e32]
    refine if_then (by omega) (if_then (by omega) (if_then (by omega) (bind_of e ?_)))
    rw [bs_append, bs_size, bs_size, bs_size, bs_append, List.length_append, List.length_append, List.length_singleton, wrap_next hi (by omega)]
    refine if_then (by omega) (if_then (by omega) ?_)
    have ep : w ++ sp l (i + 1) = w ++ sp l i ++ ([32] ++ Lib.itoa (l.getD i 0)) := by
      conv => lhs; unfold sp
      rw [List.append_assoc]
    rw [ep]
  · simp only [impl_spaced.l0]
    exact if_else (by omega) rfl
theorem two_text (w : List UInt8) (b c : Int) : bs w ++ (((bs [32] ++ bs (Lib.itoa b)) ++ bs [32]) ++ bs (Lib.itoa c)) = bs (w ++ sp [b, c] 2) := by
  simp [bs_append, sp]
theorem one_text (w : List UInt8) (b : Int) : bs (w ++ [32]) ++ bs (Lib.itoa b) = bs (w ++ sp [b] 1) := by
  simp [bs_append, sp]
theorem range_one {b : Int} (h0 : -9223372036854775808 ≤ b) (h1 : b ≤ 9223372036854775807) : ∀ i, -9223372036854775808 ≤ ([b] : List Int).getD i 0 ∧ ([b] : List Int).getD i 0 ≤ 9223372036854775807 := by
  intro i
  match i with
  | 0 => exact ⟨h0, h1⟩
  | i + 1 => exact ⟨show (-9223372036854775808 : Int) ≤ 0 by decide, show (0 : Int) ≤ 9223372036854775807 by decide⟩
theorem range_two {b c : Int} (h0 : -9223372036854775808 ≤ b) (h1 : b ≤ 9223372036854775807) (h2 : -9223372036854775808 ≤ c) (h3 : c ≤ 9223372036854775807) : ∀ i, -9223372036854775808 ≤ ([b, c] : List Int).getD i 0 ∧ ([b, c] : List Int).getD i 0 ≤ 9223372036854775807 := by
  intro i
  match i with
  | 0 => exact ⟨h0, h1⟩
  | 1 => exact ⟨h2, h3⟩
  | i + 2 => exact ⟨show (-9223372036854775808 : Int) ≤ 0 by decide, show (0 : Int) ≤ 9223372036854775807 by decide⟩
/-- The name of a kind. -/
def nm (a : Int) : List UInt8 := if a = 1 then [116, 105, 99, 107] else if a = 2 then [100, 97, 114, 107] else if a = 3 then [117, 112, 108, 105, 110, 107] else if a = 4 then [99, 108, 111, 99, 107] else [114, 101, 97, 100, 105, 110, 103]
/-- The words of an act. -/
def wordsOf (a b c : Int) : List (List UInt8) := if a = 5 then [nm a, Lib.itoa b] else [nm a, Lib.itoa b, Lib.itoa c]
theorem two_words (w : List UInt8) (b c : Int) : w ++ sp [b, c] 2 = Lib.join [w, Lib.itoa b, Lib.itoa c] [32] := by
  simp [sp, Lib.join, List.intercalate, List.intersperse]
theorem one_word (w : List UInt8) (b : Int) : w ++ sp [b] 1 = Lib.join [w, Lib.itoa b] [32] := by
  simp [sp, Lib.join, List.intercalate, List.intersperse]
theorem act_bounds {a b c : Int} (h : spec_ActOk.f a b c = some true) : (-1000000 ≤ b ∧ b ≤ 1000000) ∧ -1000000 ≤ c ∧ c ≤ 1000000 ∧ (a = 5 → c = 0) := by
  rcases act_kind h with rfl | rfl | rfl | rfl | rfl
  · simp only [spec_ActOk.f, in_some, Option.bind_some, if_true] at h
    by_cases g : 1 ≤ b ∧ b ≤ 50
    · rw [if_pos (decide_eq_true g)] at h
      have := of_decide_eq_true (Option.some.inj h)
      omega
    · rw [if_neg (by simpa using g)] at h
      cases h
  · simp only [spec_ActOk.f, in_some, Option.bind_some, show ¬ ((2 : Int) = 1) by decide, if_false, if_true] at h
    by_cases g : 0 ≤ c ∧ c ≤ 10000
    · rw [if_pos (decide_eq_true g)] at h
      have := of_decide_eq_true (Option.some.inj h)
      omega
    · rw [if_neg (by simpa using g)] at h
      cases h
  · simp only [spec_ActOk.f, in_some, Option.bind_some, show ¬ ((3 : Int) = 1) by decide, show ¬ ((3 : Int) = 2) by decide, if_false, if_true] at h
    by_cases g : 0 ≤ b ∧ b ≤ 24
    · rw [if_pos (decide_eq_true g)] at h
      have := of_decide_eq_true (Option.some.inj h)
      omega
    · rw [if_neg (by simpa using g)] at h
      cases h
  · simp only [spec_ActOk.f, span_some, Option.bind_some, show ¬ ((4 : Int) = 1) by decide, show ¬ ((4 : Int) = 2) by decide, show ¬ ((4 : Int) = 3) by decide, if_false, if_true] at h
    have := of_decide_eq_true (Option.some.inj h)
    omega
  · simp only [spec_ActOk.f, spec_IsValue.f, in_some, Option.bind_some, show ¬ ((5 : Int) = 1) by decide, show ¬ ((5 : Int) = 2) by decide, show ¬ ((5 : Int) = 3) by decide, show ¬ ((5 : Int) = 4) by decide, if_false, if_true] at h
    by_cases g : -1000000 ≤ b ∧ b ≤ 1000000
    · rw [if_pos (decide_eq_true g)] at h
      have : c = 0 := by simpa using h
      omega
    · rw [if_neg (by simpa using g)] at h
      cases h
theorem format_words (a b c : Int) (b0 : -9223372036854775808 ≤ b) (b1 : b ≤ 9223372036854775807) (c0 : -9223372036854775808 ≤ c) (c1 : c ≤ 9223372036854775807) (k : Nat) (hk : 24 < k) :
    ∃ (t : List UInt8) (v : Bool), spec_FormatAct.f k a b c = some (bs t, v) ∧ impl_FormatAct.f k a b c = some (bs t, v) ∧ t.length ≤ 100 ∧ (v = true → t = Lib.join (wordsOf a b c) [32]) ∧ spec_ActOk.f a b c = some v := by
  obtain ⟨v, hv⟩ := act_some a b c
  have hi : impl_ActOk.f a b c = some v := (act_same a b c).trans hv
  cases v with
  | false =>
    refine ⟨[], false, ?_, ?_, by decide, (fun h => by cases h), hv⟩
    · exact bind_of hv (if_else (by decide) rfl)
    · exact bind_of hi (if_else (by decide) rfl)
  | true =>
    have e1 := specFormatInt_f b b0 b1 k (by omega)
    have e2 := specFormatInt_f c c0 c1 k (by omega)
    have n1 := Lib.itoa_length_le b b0 b1
    have n2 := Lib.itoa_length_le c c0 c1
    have s32 : (⟨#[32]⟩ : ByteArray).size = 1 := rfl
    have r2 := range_two b0 b1 c0 c1
    have r1 := range_one b0 b1
    have l2 := sp_length r2 2
    have l1 := sp_length r1 1
    have S1 : 1 + (bs (Lib.itoa b)).size ≤ 9223372036854775807 := by rw [bs_size]; omega
    have S2 : ((⟨#[32]⟩ : ByteArray) ++ bs (Lib.itoa b)).size + 1 ≤ 9223372036854775807 := by rw [ByteArray.size_append, bs_size, s32]; omega
    have S3 : (((⟨#[32]⟩ : ByteArray) ++ bs (Lib.itoa b)) ++ (⟨#[32]⟩ : ByteArray)).size + (bs (Lib.itoa c)).size ≤ 9223372036854775807 := by rw [ByteArray.size_append, ByteArray.size_append, bs_size, bs_size, s32]; omega
    have S4 : ∀ n, n ≤ 8 → n + ((((⟨#[32]⟩ : ByteArray) ++ bs (Lib.itoa b)) ++ (⟨#[32]⟩ : ByteArray)) ++ bs (Lib.itoa c)).size ≤ 9223372036854775807 := fun n hn => by rw [ByteArray.size_append, ByteArray.size_append, ByteArray.size_append, bs_size, bs_size, s32]; omega
    have S5 : 8 + (bs (Lib.itoa b)).size ≤ 9223372036854775807 := by rw [bs_size]; omega
    rcases act_kind hv with rfl | rfl | rfl | rfl | rfl
    · refine ⟨[116, 105, 99, 107] ++ sp [b, c] 2, true, ?_, ?_, by rw [List.length_append]; simp only [List.length_cons, List.length_nil]; omega, fun _ => two_words [116, 105, 99, 107] b c, hv⟩
      · exact bind_of hv (if_then rfl (bind_of e1 (if_then S1 (if_then S2 (bind_of e2 (if_then S3 (if_then rfl (if_then (S4 4 (by decide)) (congrArg (fun x => some (x, true)) (two_text [116, 105, 99, 107] b c))))))))))
      · exact bind_of hi (if_then rfl (if_else (by decide) (bind_of rfl (if_then (by decide) (if_then (by decide) (bind_of (spaced_f [116, 105, 99, 107] [b, c] (by decide) (show 2 ≤ 1048576 by decide) r2 k (show 2 + 1 < k by omega)) rfl))))))
    · refine ⟨[100, 97, 114, 107] ++ sp [b, c] 2, true, ?_, ?_, by rw [List.length_append]; simp only [List.length_cons, List.length_nil]; omega, fun _ => two_words [100, 97, 114, 107] b c, hv⟩
      · exact bind_of hv (if_then rfl (bind_of e1 (if_then S1 (if_then S2 (bind_of e2 (if_then S3 (if_else (by decide) (if_then rfl (if_then (S4 4 (by decide)) (congrArg (fun x => some (x, true)) (two_text [100, 97, 114, 107] b c)))))))))))
      · exact bind_of hi (if_then rfl (if_else (by decide) (bind_of rfl (if_then (by decide) (if_then (by decide) (bind_of (spaced_f [100, 97, 114, 107] [b, c] (by decide) (show 2 ≤ 1048576 by decide) r2 k (show 2 + 1 < k by omega)) rfl))))))
    · refine ⟨[117, 112, 108, 105, 110, 107] ++ sp [b, c] 2, true, ?_, ?_, by rw [List.length_append]; simp only [List.length_cons, List.length_nil]; omega, fun _ => two_words [117, 112, 108, 105, 110, 107] b c, hv⟩
      · exact bind_of hv (if_then rfl (bind_of e1 (if_then S1 (if_then S2 (bind_of e2 (if_then S3 (if_else (by decide) (if_else (by decide) (if_then rfl (if_then (S4 6 (by decide)) (congrArg (fun x => some (x, true)) (two_text [117, 112, 108, 105, 110, 107] b c))))))))))))
      · exact bind_of hi (if_then rfl (if_else (by decide) (bind_of rfl (if_then (by decide) (if_then (by decide) (bind_of (spaced_f [117, 112, 108, 105, 110, 107] [b, c] (by decide) (show 2 ≤ 1048576 by decide) r2 k (show 2 + 1 < k by omega)) rfl))))))
    · refine ⟨[99, 108, 111, 99, 107] ++ sp [b, c] 2, true, ?_, ?_, by rw [List.length_append]; simp only [List.length_cons, List.length_nil]; omega, fun _ => two_words [99, 108, 111, 99, 107] b c, hv⟩
      · exact bind_of hv (if_then rfl (bind_of e1 (if_then S1 (if_then S2 (bind_of e2 (if_then S3 (if_else (by decide) (if_else (by decide) (if_else (by decide) (if_then rfl (if_then (S4 5 (by decide)) (congrArg (fun x => some (x, true)) (two_text [99, 108, 111, 99, 107] b c)))))))))))))
      · exact bind_of hi (if_then rfl (if_else (by decide) (bind_of rfl (if_then (by decide) (if_then (by decide) (bind_of (spaced_f [99, 108, 111, 99, 107] [b, c] (by decide) (show 2 ≤ 1048576 by decide) r2 k (show 2 + 1 < k by omega)) rfl))))))
    · refine ⟨[114, 101, 97, 100, 105, 110, 103] ++ sp [b] 1, true, ?_, ?_, by rw [List.length_append]; simp only [List.length_cons, List.length_nil]; omega, fun _ => one_word [114, 101, 97, 100, 105, 110, 103] b, hv⟩
      · exact bind_of hv (if_then rfl (bind_of e1 (if_then S1 (if_then S2 (bind_of e2 (if_then S3 (if_else (by decide) (if_else (by decide) (if_else (by decide) (if_else (by decide) (bind_of e1 (if_then S5 (congrArg (fun x => some (x, true)) (one_text [114, 101, 97, 100, 105, 110, 103] b))))))))))))))
      · exact bind_of hi (if_then rfl (if_then rfl (bind_of (spaced_f [114, 101, 97, 100, 105, 110, 103] [b] (by decide) (show 1 ≤ 1048576 by decide) r1 k (show 1 + 1 < k by omega)) rfl)))
theorem bt_at (p : List UInt8) (b : UInt8) (r : List UInt8) : bt (bs (p ++ b :: r)) ((p.length : Nat) : Int) = (b.toNat : Int) := by
  rw [← rd_bytesOf, bytesOf_bs, rd_nat]
  unfold nums
  rw [List.getD_eq_getElem?_getD, List.getElem?_map, List.getElem?_append_right (Nat.le_refl _), Nat.sub_self]
  rfl
theorem extract_bs (p cur r : List UInt8) : (bs (p ++ cur ++ r)).extract (((p.length : Nat) : Int)).toNat (((p.length + cur.length : Nat) : Int)).toNat = bs cur := by
  rw [Int.toNat_natCast, Int.toNat_natCast]
  apply ByteArray.ext
  simp [bs, List.drop_append, List.take_append]
theorem isSp_ok {b : UInt8} (h : okByte b = true) : Lib.isSp b = (b == 32) := by
  unfold okByte at h
  unfold Lib.isSp
  have h1 : 32 ≤ b.toNat := by simp at h; exact h.1
  have n9 : (b == 9) = false := by
    rw [beq_eq_false_iff_ne]; intro e; subst e; revert h1; decide
  have n10 : (b == 10) = false := by
    rw [beq_eq_false_iff_ne]; intro e; subst e; revert h1; decide
  have n11 : (b == 11) = false := by
    rw [beq_eq_false_iff_ne]; intro e; subst e; revert h1; decide
  have n12 : (b == 12) = false := by
    rw [beq_eq_false_iff_ne]; intro e; subst e; revert h1; decide
  have n13 : (b == 13) = false := by
    rw [beq_eq_false_iff_ne]; intro e; subst e; revert h1; decide
  rw [n9, n10, n11, n12, n13]
  rfl
theorem split_loop : ∀ (r p cur : List UInt8) (acc : List (List UInt8)) (k : Nat), p.length + cur.length + r.length ≤ 600 → acc.length + r.length ≤ 1000 → 3 * r.length + 5 < k →
    spec_SplitFields.l0 k (bs (p ++ cur ++ r)) (acc.map bs) ((p.length : Nat) : Int) ((p.length + cur.length : Nat) : Int) = some (splitDone (r.all okByte) (acc ++ Lib.fieldsGo cur r)) := by
  intro r
  induction r with
  | nil =>
    intro p cur acc k hl ha hk
    obtain ⟨k, rfl⟩ : ∃ m, k = m + 4 := ⟨k - 4, by omega⟩
    have hs : (bs (p ++ cur ++ [])).size = p.length + cur.length := by rw [bs_size, List.append_nil, List.length_append]
    have hw : wrap64 (((p.length + cur.length : Nat) : Int) + 1) = ((p.length + cur.length + 1 : Nat) : Int) := wrap_next (n := 601) (by simp at hl; omega) (by omega)
    have last : ∀ acc' : List (List UInt8), spec_SplitFields.l0 (k + 1) (bs (p ++ cur ++ [])) (acc'.map bs) ((p.length + cur.length + 1 : Nat) : Int) ((p.length + cur.length + 1 : Nat) : Int) = some (splitDone true acc') := by
      intro acc'
      simp only [spec_SplitFields.l0]
      refine if_else (by rw [hs]; omega) ?_
      unfold splitDone
      rw [List.length_map, if_pos rfl]
      by_cases h24 : acc'.length > 24
      · rw [if_pos h24]; exact if_then (by omega) rfl
      · rw [if_neg h24]; exact if_else (by omega) rfl
    rw [spec_SplitFields.l0]
    refine if_then (by rw [hs]; omega) (if_else (by rw [hs]; omega) ?_)
    rw [spec_SplitFields.j1]
    refine if_else (by decide) (if_else (by rw [hs]; omega) ?_)
    rw [spec_SplitFields.j2]
    refine if_else (by decide) ?_
    rw [hw]
    by_cases hc : cur = []
    · subst hc
      refine if_else (by simp) ?_
      refine (last acc).trans ?_
      simp [Lib.fieldsGo]
    · have hcl : 0 < cur.length := List.length_pos_iff.mpr hc
      refine if_then (by omega) (if_then (by omega) (if_then (by omega) (if_then (by rw [hs]; omega) (if_then (by rw [List.length_map]; simp at ha; omega) ?_))))
      rw [extract_bs, show acc.map bs ++ [bs cur] = (acc ++ [cur]).map bs by simp]
      refine (last (acc ++ [cur])).trans ?_
      simp [Lib.fieldsGo, hc]
  | cons b r ih =>
    intro p cur acc k hl ha hk
    obtain ⟨k, rfl⟩ : ∃ m, k = m + 3 := ⟨k - 3, by simp at hk; omega⟩
    rw [List.length_cons] at hl ha hk
    have hs : (bs (p ++ cur ++ b :: r)).size = p.length + cur.length + r.length + 1 := by rw [bs_size, List.length_append, List.length_append, List.length_cons]; omega
    have hb : bt (bs (p ++ cur ++ b :: r)) ((p.length + cur.length : Nat) : Int) = (b.toNat : Int) := by
      have := bt_at (p ++ cur) b r
      rw [List.length_append] at this
      exact this
    have hw : wrap64 (((p.length + cur.length : Nat) : Int) + 1) = ((p.length + cur.length + 1 : Nat) : Int) := wrap_next (n := 601) (by omega) (by omega)
    rw [spec_SplitFields.l0]
    refine if_then (by rw [hs]; omega) (if_then (by rw [hs]; omega) (if_then (by omega) ?_))
    rw [hb]
    have bad : ∀ m, spec_SplitFields.j1 (m + 1) (bs (p ++ cur ++ b :: r)) (acc.map bs) ((p.length : Nat) : Int) ((p.length + cur.length : Nat) : Int) true = some (([] : List ByteArray), false) := fun m => by rw [spec_SplitFields.j1]; exact if_then rfl rfl
    cases hok : okByte b with
    | false =>
      have hd : splitDone ((b :: r).all okByte) (acc ++ Lib.fieldsGo cur (b :: r)) = ([], false) := by simp [splitDone, hok]
      rw [hd]
      by_cases h32 : (b.toNat : Int) < 32
      · exact if_then h32 (bad _)
      · refine if_else h32 ?_
        have h126 : (b.toNat : Int) > 126 := by
          unfold okByte at hok
          simp at hok
          omega
        rw [decide_eq_true h126]
        exact bad _
    | true =>
      have hrange : 32 ≤ b.toNat ∧ b.toNat ≤ 126 := by unfold okByte at hok; simpa using hok
      refine if_else (by omega) ?_
      rw [decide_eq_false (show ¬ (b.toNat : Int) > 126 by omega), spec_SplitFields.j1]
      refine if_else (by decide) (if_then (by rw [hs]; omega) (if_then (by omega) ?_))
      rw [hb, spec_SplitFields.j2, hw]
      have hsp := isSp_ok hok
      by_cases h32 : b = 32
      · have hv : ((b.toNat : Int) != 32) = false := by rw [h32]; rfl
        have hp : p ++ cur ++ b :: r = (p ++ cur ++ [b]) ++ [] ++ r := by simp
        have hn : (p ++ cur ++ [b]).length = p.length + cur.length + 1 := by simp; omega
        have next : ∀ acc' : List (List UInt8), acc'.length + r.length ≤ 1000 → spec_SplitFields.l0 k (bs (p ++ cur ++ b :: r)) (acc'.map bs) ((p.length + cur.length + 1 : Nat) : Int) ((p.length + cur.length + 1 : Nat) : Int) = some (splitDone (r.all okByte) (acc' ++ Lib.fieldsGo [] r)) := by
          intro acc' ha'
          have := ih (p ++ cur ++ [b]) [] acc' k (by rw [hn, List.length_nil]; omega) ha' (by omega)
          rw [hn, List.length_nil, Nat.add_zero, ← hp] at this
          exact this
        rw [hv]
        refine if_else (by decide) ?_
        have hall : (b :: r).all okByte = r.all okByte := by simp [hok]
        have h1 : Lib.isSp b = true := by rw [hsp, h32]; rfl
        rw [hall]
        by_cases hc : cur = []
        · subst hc
          refine if_else (by simp) ?_
          refine (next acc (by omega)).trans ?_
          simp [Lib.fieldsGo, h1]
        · have hcl : 0 < cur.length := List.length_pos_iff.mpr hc
          refine if_then (by omega) (if_then (by omega) (if_then (by omega) (if_then (by rw [hs]; omega) (if_then (by rw [List.length_map]; omega) ?_))))
          rw [extract_bs, show acc.map bs ++ [bs cur] = (acc ++ [cur]).map bs by simp]
          refine (next (acc ++ [cur]) (by rw [List.length_append, List.length_singleton]; omega)).trans ?_
          simp [Lib.fieldsGo, h1, hc]
      · have hv : ((b.toNat : Int) != 32) = true := by
          rw [bne_iff_ne]
          intro e
          apply h32
          have : b.toNat = 32 := by omega
          exact UInt8.toNat_inj.mp this
        rw [hv]
        refine if_then rfl ?_
        have hp : p ++ cur ++ b :: r = p ++ (cur ++ [b]) ++ r := by simp
        have := ih p (cur ++ [b]) acc k (by rw [List.length_append, List.length_singleton]; omega) (by omega) (by omega)
        rw [List.length_append, List.length_singleton, ← Nat.add_assoc, ← hp] at this
        rw [this]
        have hne : (b == 32) = false := by rw [beq_eq_false_iff_ne]; exact h32
        simp [Lib.fieldsGo, hsp, hne, hok]
theorem specSplit_f (l : List UInt8) (k : Nat) (hk : 2000 < k) : spec_SplitFields.f k (bs l) = some (if l.length > 600 then ([], false) else splitDone (l.all okByte) (Lib.fields l)) := by
  unfold spec_SplitFields.f
  refine bind_of rfl ?_
  by_cases h : l.length > 600
  · rw [if_pos h]
    exact if_then (by rw [bs_size]; omega) rfl
  · rw [if_neg h]
    refine if_else (by rw [bs_size]; omega) ?_
    have := split_loop l [] [] [] k (by simp; omega) (by simp; omega) (by omega)
    simpa [Lib.fields] using this
/-- A word: not empty, no space in it. -/
def Word (w : List UInt8) : Prop := w ≠ [] ∧ ∀ b ∈ w, Lib.isSp b = false
theorem fieldsGo_word : ∀ (w cur r : List UInt8), (∀ b ∈ w, Lib.isSp b = false) → Lib.fieldsGo cur (w ++ r) = Lib.fieldsGo (cur ++ w) r := by
  intro w
  induction w with
  | nil => intro cur r _; simp
  | cons b w ih =>
    intro cur r h
    have hb : Lib.isSp b = false := h b (List.mem_cons_self ..)
    have := ih (cur ++ [b]) r (fun x hx => h x (List.mem_cons_of_mem _ hx))
    simp only [List.cons_append, Lib.fieldsGo, hb]
    rw [if_neg (by decide), this, List.append_assoc]
    rfl
theorem fieldsGo_end (cur : List UInt8) (h : cur ≠ []) : Lib.fieldsGo cur [] = [cur] := by simp [Lib.fieldsGo, h]
theorem fieldsGo_space (cur r : List UInt8) (h : cur ≠ []) : Lib.fieldsGo cur (32 :: r) = cur :: Lib.fieldsGo [] r := by
  have h1 : Lib.isSp 32 = true := by decide
  simp [Lib.fieldsGo, h, h1]
theorem fields_join : ∀ (ws : List (List UInt8)), (∀ w ∈ ws, Word w) → Lib.fields (Lib.join ws [32]) = ws := by
  intro ws
  unfold Lib.fields Lib.join
  induction ws with
  | nil => intro _; rfl
  | cons w ws ih =>
    intro h
    have hw := h w (List.mem_cons_self ..)
    have ih := ih (fun x hx => h x (List.mem_cons_of_mem _ hx))
    cases ws with
    | nil =>
      have e : List.intercalate [32] [w] = w ++ [] := by simp [List.intercalate, List.intersperse]
      rw [e, fieldsGo_word w [] [] hw.2, List.nil_append, fieldsGo_end w hw.1]
    | cons v ws =>
      have e : List.intercalate [32] (w :: v :: ws) = w ++ 32 :: List.intercalate [32] (v :: ws) := by simp [List.intercalate, List.intersperse]
      rw [e, fieldsGo_word w [] _ hw.2, List.nil_append, fieldsGo_space w _ hw.1, ih]
/-- Every field of a line is a word. -/
theorem fields_words : ∀ (l cur : List UInt8), (∀ b ∈ cur, Lib.isSp b = false) → ∀ w ∈ Lib.fieldsGo cur l, Word w := by
  intro l
  induction l with
  | nil =>
    intro cur hc w hw
    unfold Lib.fieldsGo at hw
    by_cases he : cur = []
    · subst he; simp at hw
    · have hi : cur.isEmpty = false := by simp [he]
      rw [hi] at hw
      simp at hw
      subst hw
      exact ⟨he, hc⟩
  | cons b l ih =>
    intro cur hc w hw
    unfold Lib.fieldsGo at hw
    cases hb : Lib.isSp b with
    | true =>
      rw [hb, if_pos rfl] at hw
      by_cases he : cur = []
      · subst he
        rw [if_pos (by rfl)] at hw
        exact ih [] (by simp) w hw
      · have hi : ¬ (cur.isEmpty = true) := by simp [he]
        rw [if_neg hi] at hw
        rcases List.mem_cons.1 hw with rfl | hw
        · exact ⟨he, hc⟩
        · exact ih [] (by simp) w hw
    | false =>
      rw [hb, if_neg (by decide)] at hw
      refine ih (cur ++ [b]) (fun x hx => ?_) w hw
      rcases List.mem_append.1 hx with hx | hx
      · exact hc x hx
      · rw [List.mem_singleton.1 hx]; exact hb
theorem join_inj {ws vs : List (List UInt8)} (hw : ∀ w ∈ ws, Word w) (hv : ∀ w ∈ vs, Word w) (h : Lib.join ws [32] = Lib.join vs [32]) : ws = vs := by
  rw [← fields_join ws hw, ← fields_join vs hv, h]
/-- The digits of a numeral. -/
theorem decDigits_digit : ∀ (u : Nat) (b : UInt8), b ∈ Lib.decDigits u → 48 ≤ b.toNat ∧ b.toNat ≤ 57 := by
  intro u
  induction u using Nat.strongRecOn with
  | _ u ih =>
    intro b hb
    by_cases hu : u < 10
    · rw [Lib.decDigits_one hu] at hb
      rw [List.mem_singleton.1 hb, UInt8.toNat_ofNat']
      omega
    · rw [Lib.decDigits, dif_neg hu] at hb
      rcases List.mem_append.1 hb with hb | hb
      · exact ih (u / 10) (by omega) b hb
      · rw [List.mem_singleton.1 hb, UInt8.toNat_ofNat']
        omega
theorem digit_noSp {b : UInt8} (h : 33 ≤ b.toNat) : Lib.isSp b = false := by
  unfold Lib.isSp
  simp only [Bool.or_eq_false_iff, beq_eq_false_iff_ne, ne_eq]
  refine ⟨⟨⟨⟨⟨?_, ?_⟩, ?_⟩, ?_⟩, ?_⟩, ?_⟩ <;> (intro e; subst e; revert h; decide)
theorem decDigits_ne (u : Nat) : Lib.decDigits u ≠ [] := by
  intro h
  have := Lib.decDigits_length u
  have hp := Lib.nDigits_pos u
  rw [h] at this
  simp at this
  omega
theorem itoa_word (x : Int) : Word (Lib.itoa x) := by
  unfold Lib.itoa
  by_cases hx : x < 0
  · rw [if_pos hx]
    refine ⟨by simp, fun b hb => ?_⟩
    rcases List.mem_cons.1 hb with rfl | hb
    · decide
    · exact digit_noSp (by have := decDigits_digit _ _ hb; omega)
  · rw [if_neg hx]
    exact ⟨decDigits_ne _, fun b hb => digit_noSp (by have := decDigits_digit _ _ hb; omega)⟩
/-- One digit more. -/
def digStep (n : Nat) (b : UInt8) : Nat := 10 * n + (b.toNat - 48)
theorem digit_toNat (d : Nat) (h : d < 10) : (UInt8.ofNat (48 + d)).toNat = 48 + d := by
  rw [UInt8.toNat_ofNat']
  omega
theorem fold_digits : ∀ u : Nat, (Lib.decDigits u).foldl digStep 0 = u := by
  intro u
  induction u using Nat.strongRecOn with
  | _ u ih =>
    by_cases hu : u < 10
    · rw [Lib.decDigits_one hu]
      show digStep 0 (UInt8.ofNat (48 + u)) = u
      unfold digStep
      rw [digit_toNat u hu]
      omega
    · rw [Lib.decDigits, dif_neg hu, List.foldl_append, ih (u / 10) (by omega)]
      show digStep (u / 10) (UInt8.ofNat (48 + u % 10)) = u
      unfold digStep
      rw [digit_toNat (u % 10) (by omega)]
      omega
theorem parse_append : ∀ (l r : List UInt8) (acc n : Nat), Lib.parseUint10 acc l = .ok n → Lib.parseUint10 acc (l ++ r) = Lib.parseUint10 n r := by
  intro l
  induction l with
  | nil =>
    intro r acc n h
    simp only [Lib.parseUint10] at h
    injection h with h
    subst h
    rfl
  | cons c l ih =>
    intro r acc n h
    simp only [Lib.parseUint10, List.cons_append] at h ⊢
    split at h
    · rename_i h1
      rw [if_pos h1]
      split at h
      · cases h
      · rename_i h2
        rw [if_neg h2]
        split at h
        · cases h
        · rename_i h3
          rw [if_neg h3]
          exact ih r _ n h
    · cases h
theorem parse_digits : ∀ u : Nat, u < 1000000000 → Lib.parseUint10 0 (Lib.decDigits u) = .ok u := by
  intro u
  induction u using Nat.strongRecOn with
  | _ u ih =>
    intro hb
    by_cases hu : u < 10
    · rw [Lib.decDigits_one hu]
      simp only [Lib.parseUint10]
      rw [digit_toNat u hu, if_pos ⟨by omega, by omega⟩, if_neg (by omega), if_neg (by omega)]
      congr 1
      omega
    · rw [Lib.decDigits, dif_neg hu, parse_append _ _ _ _ (ih (u / 10) (by omega) (by omega))]
      simp only [Lib.parseUint10]
      rw [digit_toNat (u % 10) (by omega), if_pos ⟨by omega, by omega⟩, if_neg (by omega), if_neg (by omega)]
      congr 1
      omega
theorem digits_cons (u : Nat) : ∃ (c : UInt8) (r : List UInt8), Lib.decDigits u = c :: r ∧ 48 ≤ c.toNat ∧ c.toNat ≤ 57 := by
  cases h : Lib.decDigits u with
  | nil => exact absurd h (decDigits_ne u)
  | cons c r => exact ⟨c, r, rfl, decDigits_digit u c (by rw [h]; exact List.mem_cons_self ..)⟩
theorem atoi_itoa (x : Int) (h0 : -1000000 ≤ x) (h1 : x ≤ 1000000) : Lib.atoiAll (Lib.itoa x) = .ok x := by
  unfold Lib.itoa
  by_cases hx : x < 0
  · rw [if_pos hx]
    have hm : Lib.parseMag (Lib.decDigits x.natAbs) = .ok x.natAbs := by
      unfold Lib.parseMag
      rw [if_neg (decDigits_ne _)]
      exact parse_digits _ (by omega)
    have e45 : (45 : UInt8).toNat = 45 := rfl
    unfold Lib.atoiAll
    simp only [e45, or_true, if_true, hm, not_true_eq_false, false_and, if_false, true_and]
    rw [if_neg (by omega)]
    congr 1
    omega
  · rw [if_neg hx]
    have hm : Lib.parseMag (Lib.decDigits x.toNat) = .ok x.toNat := by
      unfold Lib.parseMag
      rw [if_neg (decDigits_ne _)]
      exact parse_digits _ (by omega)
    obtain ⟨c, r, e, c0, c1⟩ := digits_cons x.toNat
    rw [e] at hm ⊢
    have n43 : ¬ (c.toNat = 43 ∨ c.toNat = 45) := by omega
    have n45 : ¬ (c.toNat = 45) := by omega
    unfold Lib.atoiAll
    simp only [n43, if_false, hm]
    show (if ¬ (c.toNat = 45) ∧ 9223372036854775808 ≤ x.toNat then Lib.NumEnd.range else if c.toNat = 45 ∧ 9223372036854775808 < x.toNat then Lib.NumEnd.range else Lib.NumEnd.ok (if c.toNat = 45 then -((x.toNat : Nat) : Int) else ((x.toNat : Nat) : Int))) = Lib.NumEnd.ok x
    rw [if_neg (by omega), if_neg (by omega), if_neg n45]
    congr 1
    omega
theorem nd_le : ∀ (k u : Nat), 1 ≤ k → u < 10 ^ k → Lib.nDigits u ≤ k := by
  intro k
  induction k with
  | zero => intro u h _; omega
  | succ k ih =>
    intro u _ hu
    by_cases h : u < 10
    · rw [Lib.nDigits_small h]; omega
    · rw [Lib.nDigits_big h]
      have hk : 1 ≤ k := by
        cases k with
        | zero => simp at hu; omega
        | succ k => omega
      have := ih (u / 10) hk (by rw [Nat.pow_succ] at hu; omega)
      omega
theorem num_loop : ∀ (r p : List UInt8) (acc : Nat) (s : Int) (k : Nat), p.length + r.length ≤ 8 → (∀ b ∈ r, 48 ≤ b.toNat ∧ b.toNat ≤ 57) → acc < 10 ^ p.length → r.length < k →
    spec_l40Number.l0 k (bs (p ++ r)) s (acc : Int) ((p.length : Nat) : Int) = some (wrap64 (s * ((r.foldl digStep acc : Nat) : Int))) := by
  intro r
  induction r with
  | nil =>
    intro p acc s k hl hd ha hk
    obtain ⟨k, rfl⟩ : ∃ m, k = m + 1 := ⟨k - 1, by omega⟩
    rw [spec_l40Number.l0]
    refine if_else (by rw [bs_size, List.append_nil]; omega) rfl
  | cons b r ih =>
    intro p acc s k hl hd ha hk
    obtain ⟨k, rfl⟩ : ∃ m, k = m + 1 := ⟨k - 1, by omega⟩
    rw [List.length_cons] at hl hk
    have hb := hd b (List.mem_cons_self ..)
    have hp : 10 ^ p.length ≤ 10 ^ 7 := Nat.pow_le_pow_right (by decide) (by omega)
    have e7 : (10 : Nat) ^ 7 = 10000000 := by decide
    have hacc : acc < 10000000 := by omega
    have hnext : digStep acc b < 10 ^ (p.length + 1) := by
      rw [Nat.pow_succ]
      unfold digStep
      clear hp
      generalize 10 ^ p.length = q at ha ⊢
      omega
    have l1 : (p ++ [b]).length + r.length ≤ 8 := by rw [List.length_append, List.length_singleton]; omega
    have l2 : r.length < k := by omega
    have l3 : (48 : Int) ≤ (b.toNat : Int) ∧ (b.toNat : Int) ≤ 57 := by omega
    have d1 : -9223372036854775808 ≤ (b.toNat : Int) ∧ (b.toNat : Int) ≤ 9223372036854775807 := by omega
    have d2 : -9223372036854775808 ≤ 10 * (acc : Int) ∧ 10 * (acc : Int) ≤ 9223372036854775807 := by omega
    have d3 : -9223372036854775808 ≤ 10 * (acc : Int) + (b.toNat : Int) ∧ 10 * (acc : Int) + (b.toNat : Int) ≤ 9223372036854775807 := by omega
    have d4 : -9223372036854775808 ≤ 10 * (acc : Int) + (b.toNat : Int) - 48 ∧ 10 * (acc : Int) + (b.toNat : Int) - 48 ≤ 9223372036854775807 := by omega
    have d5 : 10 * (acc : Int) + (b.toNat : Int) - 48 = ((digStep acc b : Nat) : Int) := by
      unfold digStep
      omega
    have l4 : p.length < 9 := by omega
    have l5 : ((p.length : Nat) : Int) < ((bs (p ++ b :: r)).size : Int) := by rw [bs_size, List.length_append, List.length_cons]; omega
    have l6 : 0 ≤ ((p.length : Nat) : Int) := by omega
    have w1 : wrap64 (b.toNat : Int) = (b.toNat : Int) := wrap_in d1.1 d1.2
    have w2 : wrap64 (10 * (acc : Int)) = 10 * (acc : Int) := wrap_in d2.1 d2.2
    have w3 : wrap64 (10 * (acc : Int) + (b.toNat : Int)) = 10 * (acc : Int) + (b.toNat : Int) := wrap_in d3.1 d3.2
    have w4 : wrap64 (10 * (acc : Int) + (b.toNat : Int) - 48) = ((digStep acc b : Nat) : Int) := (wrap_in d4.1 d4.2).trans d5
    have w5 : wrap64 (((p.length : Nat) : Int) + 1) = ((p.length + 1 : Nat) : Int) := wrap_next l4 (by decide)
    rw [spec_l40Number.l0, bt_at]
    refine if_then l5 (if_then l6 ?_)
    rw [w1, w2, w3, w4, w5, in_some]
    refine bind_of rfl (if_then (decide_eq_true l3) ?_)
    have := ih (p ++ [b]) (digStep acc b) s k l1 (fun x hx => hd x (List.mem_cons_of_mem _ hx)) (by rw [List.length_append, List.length_singleton]; exact hnext) l2
    rw [List.length_append, List.length_singleton, List.append_assoc, List.singleton_append] at this
    exact this
theorem extract_one (a : UInt8) (l : List UInt8) : (bs (a :: l)).extract 1 (bs (a :: l)).size = bs l := by
  rw [bs_size]
  apply ByteArray.ext
  simp [bs]
theorem num_behind (u : Nat) (hu : u < 10000000) (s : Int) (k : Nat) (hk : 12 < k) : spec_l40Number.j1 k (bs (Lib.decDigits u)) s 0 = some (wrap64 (s * (u : Int))) := by
  obtain ⟨k, rfl⟩ : ∃ m, k = m + 2 := ⟨k - 2, by omega⟩
  have hl : (Lib.decDigits u).length ≤ 7 := by rw [Lib.decDigits_length]; exact nd_le 7 u (by decide) hu
  have hp : 0 < (Lib.decDigits u).length := List.length_pos_iff.mpr (decDigits_ne u)
  rw [spec_l40Number.j1]
  refine if_else (by rw [bs_size]; omega) ?_
  rw [decide_eq_false (by rw [bs_size]; omega), spec_l40Number.j2]
  refine if_else (by decide) ?_
  have := num_loop (Lib.decDigits u) [] 0 s k (by rw [List.length_nil]; omega) (decDigits_digit u) (by decide) (by omega)
  rw [fold_digits] at this
  exact this
theorem l40_itoa (x : Int) (h0 : -1000000 ≤ x) (h1 : x ≤ 1000000) (k : Nat) (hk : 20 < k) : spec_l40Number.f k (bs (Lib.itoa x)) = some x := by
  obtain ⟨k, rfl⟩ : ∃ m, k = m + 1 := ⟨k - 1, by omega⟩
  unfold spec_l40Number.f Lib.itoa
  by_cases hx : x < 0
  · rw [if_pos hx]
    have hz : (bs (45 :: Lib.decDigits x.natAbs)).size = (Lib.decDigits x.natAbs).length + 1 := by rw [bs_size, List.length_cons]
    have hb : bt (bs (45 :: Lib.decDigits x.natAbs)) 0 = 45 := bt_at [] 45 (Lib.decDigits x.natAbs)
    refine if_then (by rw [hz]; omega) (if_then (by rw [hz]; omega) ?_)
    rw [hb, spec_l40Number.j0]
    refine if_then rfl (if_then (by rw [hz]; omega) ?_)
    rw [extract_one, num_behind x.natAbs (by omega) (-1) k (by omega), wrap_in (by omega) (by omega)]
    congr 1
    omega
  · rw [if_neg hx]
    obtain ⟨c, r, e, c0, c1⟩ := digits_cons x.toNat
    have hz : 0 < (bs (Lib.decDigits x.toNat)).size := by rw [bs_size, e, List.length_cons]; omega
    have hb : bt (bs (Lib.decDigits x.toNat)) 0 = (c.toNat : Int) := by rw [e]; exact bt_at [] c r
    refine if_then (by omega) (if_then (by omega) ?_)
    rw [hb, show ((c.toNat : Int) == 45) = false from by rw [beq_eq_false_iff_ne]; omega, spec_l40Number.j0]
    refine if_else (by decide) ?_
    rw [num_behind x.toNat (by omega) 1 k (by omega), wrap_in (by omega) (by omega)]
    congr 1
    omega
/-- These words are the act a, A, B. -/
def fits (x : List UInt8) (A B a : Int) : Prop := spec_ActOk.f a A B = some true ∧ Lib.join (wordsOf a A B) [32] = x
theorem nm_word (a : Int) : Word (nm a) := by
  unfold nm
  refine ⟨?_, ?_⟩
  · repeat' split
    all_goals simp
  · repeat' split
    all_goals decide
theorem wordsOf_words (a b c : Int) : ∀ w ∈ wordsOf a b c, Word w := by
  intro w hw
  unfold wordsOf at hw
  split at hw
  · simp only [List.mem_cons, List.not_mem_nil, or_false] at hw
    rcases hw with rfl | rfl
    · exact nm_word a
    · exact itoa_word b
  · simp only [List.mem_cons, List.not_mem_nil, or_false] at hw
    rcases hw with rfl | rfl | rfl
    · exact nm_word a
    · exact itoa_word b
    · exact itoa_word c
theorem nm_inj {a b : Int} (ha : a = 1 ∨ a = 2 ∨ a = 3 ∨ a = 4 ∨ a = 5) (hb : b = 1 ∨ b = 2 ∨ b = 3 ∨ b = 4 ∨ b = 5) (h : nm a = nm b) : a = b := by
  rcases ha with rfl | rfl | rfl | rfl | rfl <;> rcases hb with rfl | rfl | rfl | rfl | rfl <;> first | rfl | (exact absurd h (by decide))
/-- The words of a line that is an act's text. -/
theorem fits_words {ws : List (List UInt8)} (hw : ∀ w ∈ ws, Word w) {A B a : Int} (h : fits (Lib.join ws [32]) A B a) : ws = wordsOf a A B :=
  (join_inj (wordsOf_words a A B) hw h.2).symm
theorem wordsOf_head (a b c : Int) : ∃ r, wordsOf a b c = nm a :: Lib.itoa b :: r := by
  unfold wordsOf
  split
  · exact ⟨_, rfl⟩
  · exact ⟨_, rfl⟩
theorem fits_unique {ws : List (List UInt8)} (hw : ∀ w ∈ ws, Word w) {A B a A' B' a' : Int} (h : fits (Lib.join ws [32]) A B a) (h' : fits (Lib.join ws [32]) A' B' a') : a = a' := by
  have e := (fits_words hw h).symm.trans (fits_words hw h')
  obtain ⟨r, hr⟩ := wordsOf_head a A B
  obtain ⟨r', hr'⟩ := wordsOf_head a' A' B'
  rw [hr, hr'] at e
  exact nm_inj (act_kind h.1) (act_kind h'.1) (List.cons.inj e).1
theorem bs_toList (t : List UInt8) : (bs t).toList = t := by
  rw [ByteArray.toList_eq]
  simp [bs]
theorem l1_step (x : List UInt8) (A B : Int) (a0 : -9223372036854775808 ≤ A) (a1 : A ≤ 9223372036854775807) (b0 : -9223372036854775808 ≤ B) (b1 : B ≤ 9223372036854775807) (n : List Int) (hn : 2 ≤ n.length) (h0 : rd n 0 = A) (h1 : rd n 1 = B) (i : Int) (i1 : 1 ≤ i) (i5 : i ≤ 5) (k : Nat) (hk : 24 < k) :
    (fits x A B i → spec_ParseAct.l1 (k + 1) (bs x) n i = some (i, A, B, true)) ∧ (¬ fits x A B i → spec_ParseAct.l1 (k + 1) (bs x) n i = spec_ParseAct.l1 k (bs x) n (i + 1)) := by
  obtain ⟨t, v, e1, _, _, hv, hok⟩ := format_words i A B a0 a1 b0 b1 k hk
  have hw : wrap64 (i + 1) = i + 1 := wrap_in (by omega) (by omega)
  have n0 : 0 < (n.length : Int) := by clear hw; omega
  have n1 : 1 < (n.length : Int) := by clear hw; omega
  refine ⟨fun h => ?_, fun h => ?_⟩
  · rw [spec_ParseAct.l1, h0, h1]
    refine if_then i5 (if_then n0 (if_then n1 (bind_of e1 ?_)))
    have hvt : v = true := Option.some.inj (hok.symm.trans h.1)
    subst hvt
    refine if_then rfl (if_then ?_ rfl)
    show (bs t).toList = (bs x).toList
    rw [bs_toList, bs_toList, hv rfl]
    exact h.2
  · conv => lhs; rw [spec_ParseAct.l1, h0, h1]
    refine if_then i5 (if_then n0 (if_then n1 (bind_of e1 ?_)))
    rw [hw]
    cases v with
    | false => exact if_else (show ¬ (false = true) by decide) rfl
    | true =>
      refine if_then rfl (if_else ?_ rfl)
      show ¬ ((bs t).toList = (bs x).toList)
      rw [bs_toList, bs_toList]
      intro e
      exact h ⟨hok, (hv rfl).symm.trans e⟩
/-- The loop over the kinds: it finds the act that fits, if there is one. -/
theorem l1_end (ws : List (List UInt8)) (hws : ∀ w ∈ ws, Word w) (A B : Int) (a0 : -9223372036854775808 ≤ A) (a1 : A ≤ 9223372036854775807) (b0 : -9223372036854775808 ≤ B) (b1 : B ≤ 9223372036854775807) (n : List Int) (hn : 2 ≤ n.length) (h0 : rd n 0 = A) (h1 : rd n 1 = B) (k : Nat) (hk : 40 < k) :
    (∀ a, fits (Lib.join ws [32]) A B a → spec_ParseAct.l1 k (bs (Lib.join ws [32])) n 1 = some (a, A, B, true)) ∧ ((∀ a, ¬ fits (Lib.join ws [32]) A B a) → spec_ParseAct.l1 k (bs (Lib.join ws [32])) n 1 = some (0, 0, 0, false)) := by
  obtain ⟨k, rfl⟩ : ∃ m, k = m + 6 := ⟨k - 6, by omega⟩
  have s1 := l1_step (Lib.join ws [32]) A B a0 a1 b0 b1 n hn h0 h1 1 (by decide) (by decide) (k + 5) (by omega)
  have s2 := l1_step (Lib.join ws [32]) A B a0 a1 b0 b1 n hn h0 h1 2 (by decide) (by decide) (k + 4) (by omega)
  have s3 := l1_step (Lib.join ws [32]) A B a0 a1 b0 b1 n hn h0 h1 3 (by decide) (by decide) (k + 3) (by omega)
  have s4 := l1_step (Lib.join ws [32]) A B a0 a1 b0 b1 n hn h0 h1 4 (by decide) (by decide) (k + 2) (by omega)
  have s5 := l1_step (Lib.join ws [32]) A B a0 a1 b0 b1 n hn h0 h1 5 (by decide) (by decide) (k + 1) (by omega)
  have s6 : spec_ParseAct.l1 (k + 1) (bs (Lib.join ws [32])) n (5 + 1) = some (0, 0, 0, false) := by
    rw [spec_ParseAct.l1]
    exact if_else (by decide) rfl
  have ne : ∀ a i, fits (Lib.join ws [32]) A B a → a ≠ i → ¬ fits (Lib.join ws [32]) A B i := fun a i h hne h' => hne (fits_unique hws h h')
  refine ⟨fun a h => ?_, fun h => ?_⟩
  · rcases act_kind h.1 with rfl | rfl | rfl | rfl | rfl
    · exact s1.1 h
    · exact (s1.2 (ne _ _ h (by decide))).trans (s2.1 h)
    · exact (s1.2 (ne _ _ h (by decide))).trans ((s2.2 (ne _ _ h (by decide))).trans (s3.1 h))
    · exact (s1.2 (ne _ _ h (by decide))).trans ((s2.2 (ne _ _ h (by decide))).trans ((s3.2 (ne _ _ h (by decide))).trans (s4.1 h)))
    · exact (s1.2 (ne _ _ h (by decide))).trans ((s2.2 (ne _ _ h (by decide))).trans ((s3.2 (ne _ _ h (by decide))).trans ((s4.2 (ne _ _ h (by decide))).trans (s5.1 h))))
  · exact (s1.2 (h 1)).trans ((s2.2 (h 2)).trans ((s3.2 (h 3)).trans ((s4.2 (h 4)).trans ((s5.2 (h 5)).trans s6))))
/-- A number of a word is always found, and is small. -/
theorem num_total : ∀ (r p : List UInt8) (acc : Nat) (s : Int) (k : Nat), (s = 1 ∨ s = -1) → p.length + r.length ≤ 8 → acc < 10 ^ p.length → r.length < k →
    ∃ n, spec_l40Number.l0 k (bs (p ++ r)) s (acc : Int) ((p.length : Nat) : Int) = some n ∧ -1000000000 ≤ n ∧ n ≤ 1000000000 := by
  intro r
  induction r with
  | nil =>
    intro p acc s k hs hl ha hk
    obtain ⟨k, rfl⟩ : ∃ m, k = m + 1 := ⟨k - 1, by omega⟩
    have hp : 10 ^ p.length ≤ 10 ^ 8 := Nat.pow_le_pow_right (by decide) (by simpa using hl)
    have e8 : (10 : Nat) ^ 8 = 100000000 := by decide
    have hacc : acc < 100000000 := by omega
    have hm : -1000000000 ≤ s * (acc : Int) ∧ s * (acc : Int) ≤ 1000000000 := by
      rcases hs with rfl | rfl
      · omega
      · omega
    rw [spec_l40Number.l0]
    refine ⟨s * (acc : Int), if_else (by rw [bs_size, List.append_nil]; omega) ?_, hm.1, hm.2⟩
    rw [wrap_in (by omega) (by omega)]
  | cons b r ih =>
    intro p acc s k hs hl ha hk
    obtain ⟨k, rfl⟩ : ∃ m, k = m + 1 := ⟨k - 1, by omega⟩
    rw [List.length_cons] at hl hk
    have hb : b.toNat < 256 := b.toNat_lt
    have hp : 10 ^ p.length ≤ 10 ^ 7 := Nat.pow_le_pow_right (by decide) (by omega)
    have e7 : (10 : Nat) ^ 7 = 10000000 := by decide
    have hacc : acc < 10000000 := by omega
    have l1 : (p ++ [b]).length + r.length ≤ 8 := by rw [List.length_append, List.length_singleton]; omega
    have l2 : r.length < k := by omega
    have l4 : p.length < 9 := by omega
    have l5 : ((p.length : Nat) : Int) < ((bs (p ++ b :: r)).size : Int) := by rw [bs_size, List.length_append, List.length_cons]; omega
    have l6 : 0 ≤ ((p.length : Nat) : Int) := by omega
    have d1 : -9223372036854775808 ≤ (b.toNat : Int) ∧ (b.toNat : Int) ≤ 9223372036854775807 := by omega
    have d2 : -9223372036854775808 ≤ 10 * (acc : Int) ∧ 10 * (acc : Int) ≤ 9223372036854775807 := by omega
    have d3 : -9223372036854775808 ≤ 10 * (acc : Int) + (b.toNat : Int) ∧ 10 * (acc : Int) + (b.toNat : Int) ≤ 9223372036854775807 := by omega
    have d4 : -9223372036854775808 ≤ 10 * (acc : Int) + (b.toNat : Int) - 48 ∧ 10 * (acc : Int) + (b.toNat : Int) - 48 ≤ 9223372036854775807 := by omega
    by_cases hd : (48 : Int) ≤ (b.toNat : Int) ∧ (b.toNat : Int) ≤ 57
    · have hnext : digStep acc b < 10 ^ (p.length + 1) := by
        rw [Nat.pow_succ]
        unfold digStep
        clear hp
        generalize 10 ^ p.length = q at ha ⊢
        omega
      have d5 : 10 * (acc : Int) + (b.toNat : Int) - 48 = ((digStep acc b : Nat) : Int) := by
        unfold digStep
        omega
      have w1 : wrap64 (b.toNat : Int) = (b.toNat : Int) := wrap_in d1.1 d1.2
      have w2 : wrap64 (10 * (acc : Int)) = 10 * (acc : Int) := wrap_in d2.1 d2.2
      have w3 : wrap64 (10 * (acc : Int) + (b.toNat : Int)) = 10 * (acc : Int) + (b.toNat : Int) := wrap_in d3.1 d3.2
      have w4 : wrap64 (10 * (acc : Int) + (b.toNat : Int) - 48) = ((digStep acc b : Nat) : Int) := (wrap_in d4.1 d4.2).trans d5
      have w5 : wrap64 (((p.length : Nat) : Int) + 1) = ((p.length + 1 : Nat) : Int) := wrap_next l4 (by decide)
      obtain ⟨n, hn, hb1⟩ := ih (p ++ [b]) (digStep acc b) s k hs l1 (by rw [List.length_append, List.length_singleton]; exact hnext) l2
      rw [List.length_append, List.length_singleton, List.append_assoc, List.singleton_append] at hn
      refine ⟨n, ?_, hb1⟩
      rw [spec_l40Number.l0, bt_at]
      refine if_then l5 (if_then l6 ?_)
      rw [w1, w2, w3, w4, w5, in_some]
      exact bind_of rfl (if_then (decide_eq_true hd) hn)
    · have w1 : wrap64 (b.toNat : Int) = (b.toNat : Int) := wrap_in d1.1 d1.2
      refine ⟨5000000, ?_, by decide, by decide⟩
      rw [spec_l40Number.l0, bt_at]
      refine if_then l5 (if_then l6 ?_)
      rw [w1, in_some, decide_eq_false hd]
      exact bind_of rfl (if_else (show ¬ (false = true) by decide) rfl)
theorem num_behind_total (l : List UInt8) (s : Int) (hs : s = 1 ∨ s = -1) (k : Nat) (hk : 12 < k) : ∃ n, spec_l40Number.j1 k (bs l) s 0 = some n ∧ -1000000000 ≤ n ∧ n ≤ 1000000000 := by
  obtain ⟨k, rfl⟩ : ∃ m, k = m + 2 := ⟨k - 2, by omega⟩
  rw [spec_l40Number.j1]
  have bad : spec_l40Number.j2 (k + 1) (bs l) s 0 true = some 5000000 := by
    rw [spec_l40Number.j2]
    exact if_then rfl rfl
  by_cases h0 : ((bs l).size : Int) = 0
  · exact ⟨5000000, if_then h0 bad, by decide, by decide⟩
  · by_cases h8 : ((bs l).size : Int) > 8
    · refine ⟨5000000, if_else h0 ?_, by decide, by decide⟩
      rw [decide_eq_true h8]
      exact bad
    · have hl : l.length ≤ 8 := by rw [bs_size] at h8; omega
      obtain ⟨n, hn, hb⟩ := num_total l [] 0 s k hs (by rw [List.length_nil]; omega) (by decide) (by omega)
      refine ⟨n, if_else h0 ?_, hb⟩
      rw [decide_eq_false h8, spec_l40Number.j2]
      exact if_else (show ¬ (false = true) by decide) hn
theorem l40_total (l : List UInt8) (k : Nat) (hk : 20 < k) : ∃ n, spec_l40Number.f k (bs l) = some n ∧ -1000000000 ≤ n ∧ n ≤ 1000000000 := by
  obtain ⟨k, rfl⟩ : ∃ m, k = m + 1 := ⟨k - 1, by omega⟩
  unfold spec_l40Number.f
  cases l with
  | nil =>
    obtain ⟨n, hn, hb⟩ := num_behind_total [] 1 (Or.inl rfl) k (by omega)
    refine ⟨n, if_else (by rw [bs_size, List.length_nil]; decide) ?_, hb⟩
    rw [spec_l40Number.j0]
    exact if_else (show ¬ (false = true) by decide) hn
  | cons a l =>
    have hz : 0 < ((bs (a :: l)).size : Int) := by rw [bs_size, List.length_cons]; omega
    have hz1 : 1 ≤ ((bs (a :: l)).size : Int) := by omega
    cases hb : (bt (bs (a :: l)) 0 == 45) with
    | true =>
      obtain ⟨n, hn, hbd⟩ := num_behind_total l (-1) (Or.inr rfl) k (by omega)
      refine ⟨n, if_then hz (if_then hz ?_), hbd⟩
      rw [spec_l40Number.j0]
      refine if_then rfl (if_then hz1 ?_)
      rw [extract_one]
      exact hn
    | false =>
      obtain ⟨n, hn, hbd⟩ := num_behind_total (a :: l) 1 (Or.inl rfl) k (by omega)
      refine ⟨n, if_then hz (if_then hz ?_), hbd⟩
      rw [spec_l40Number.j0]
      exact if_else (show ¬ (false = true) by decide) hn
theorem join_two (u v : List UInt8) : (bs u ++ (⟨#[32]⟩ : ByteArray)) ++ bs v = bs (Lib.join [u, v] [32]) := by
  rw [show (⟨#[32]⟩ : ByteArray) = bs [32] from rfl, bs_append, bs_append]
  congr 1
  simp [Lib.join, List.intercalate, List.intersperse]
theorem join_three (u v w : List UInt8) : (bs (Lib.join [u, v] [32]) ++ (⟨#[32]⟩ : ByteArray)) ++ bs w = bs (Lib.join [u, v, w] [32]) := by
  rw [show (⟨#[32]⟩ : ByteArray) = bs [32] from rfl, bs_append, bs_append]
  congr 1
  simp [Lib.join, List.intercalate, List.intersperse]
theorem sizes_ok (x y : ByteArray) (hx : x.size ≤ 10000) (hy : y.size ≤ 10000) : x.size + 1 ≤ 9223372036854775807 ∧ (x ++ (⟨#[32]⟩ : ByteArray)).size + y.size ≤ 9223372036854775807 := by
  have s32 : (⟨#[32]⟩ : ByteArray).size = 1 := rfl
  rw [ByteArray.size_append, s32]
  omega
theorem spec_two (u v : List UInt8) (hu : u.length ≤ 600) (hv : v.length ≤ 600) (k : Nat) (n1 : Int) (h1 : spec_l40Number.f (k + 1) (bs v) = some n1) :
    spec_ParseAct.l0 (k + 2) [bs u, bs v] (bs u) [] 1 = spec_ParseAct.l1 k (bs (Lib.join [u, v] [32])) [n1, 0] 1 := by
  have z := sizes_ok (bs u) (bs v) (by rw [bs_size]; omega) (by rw [bs_size]; omega)
  rw [spec_ParseAct.l0]
  refine if_then (show (1 : Int) < ((2 : Nat) : Int) by decide) (if_then z.1 (if_then (by decide) (if_then z.2 (bind_of h1 (if_then (show (0 : Nat) < 17592186044416 by decide) ?_)))))
  show spec_ParseAct.l0 (k + 1) [bs u, bs v] ((bs u ++ (⟨#[32]⟩ : ByteArray)) ++ bs v) [n1] (wrap64 (1 + 1)) = _
  rw [join_two, show wrap64 ((1 : Int) + 1) = 2 from wrap_in (by decide) (by decide), spec_ParseAct.l0]
  exact if_else (show ¬ ((2 : Int) < ((2 : Nat) : Int)) by decide) (if_then (show (1 : Nat) < 17592186044416 by decide) rfl)
theorem spec_three (u v w : List UInt8) (hu : u.length ≤ 600) (hv : v.length ≤ 600) (hw : w.length ≤ 600) (k : Nat) (n1 n2 : Int) (h1 : spec_l40Number.f (k + 2) (bs v) = some n1) (h2 : spec_l40Number.f (k + 1) (bs w) = some n2) :
    spec_ParseAct.l0 (k + 3) [bs u, bs v, bs w] (bs u) [] 1 = spec_ParseAct.l1 k (bs (Lib.join [u, v, w] [32])) [n1, n2, 0] 1 := by
  have z := sizes_ok (bs u) (bs v) (by rw [bs_size]; omega) (by rw [bs_size]; omega)
  have hj : (bs (Lib.join [u, v] [32])).size ≤ 10000 := by
    rw [← join_two, ByteArray.size_append, ByteArray.size_append, bs_size, bs_size, show (⟨#[32]⟩ : ByteArray).size = 1 from rfl]
    omega
  have z2 := sizes_ok (bs (Lib.join [u, v] [32])) (bs w) hj (by rw [bs_size]; omega)
  rw [spec_ParseAct.l0]
  refine if_then (show (1 : Int) < ((3 : Nat) : Int) by decide) (if_then z.1 (if_then (by decide) (if_then z.2 (bind_of h1 (if_then (show (0 : Nat) < 17592186044416 by decide) ?_)))))
  show spec_ParseAct.l0 (k + 2) [bs u, bs v, bs w] ((bs u ++ (⟨#[32]⟩ : ByteArray)) ++ bs v) [n1] (wrap64 (1 + 1)) = _
  rw [join_two, show wrap64 ((1 : Int) + 1) = 2 from wrap_in (by decide) (by decide), spec_ParseAct.l0]
  refine if_then (show (2 : Int) < ((3 : Nat) : Int) by decide) (if_then z2.1 (if_then (by decide) (if_then z2.2 (bind_of h2 (if_then (show (1 : Nat) < 17592186044416 by decide) ?_)))))
  show spec_ParseAct.l0 (k + 1) [bs u, bs v, bs w] ((bs (Lib.join [u, v] [32]) ++ (⟨#[32]⟩ : ByteArray)) ++ bs w) [n1, n2] (wrap64 (2 + 1)) = _
  rw [join_three, show wrap64 ((2 : Int) + 1) = 3 from wrap_in (by decide) (by decide), spec_ParseAct.l0]
  exact if_else (show ¬ ((3 : Int) < ((3 : Nat) : Int)) by decide) (if_then (show (2 : Nat) < 17592186044416 by decide) rfl)
theorem specParse_no (l : List UInt8) (K : Nat) (hK : 2000 < K) (h : (splitRes l).2 = false ∨ ¬ (2 ≤ ((splitRes l).1.length : Int) ∧ ((splitRes l).1.length : Int) ≤ 3)) : spec_ParseAct.f K (bs l) = some (0, 0, 0, false) := by
  obtain ⟨k, rfl⟩ : ∃ m, K = m + 1 := ⟨K - 1, by omega⟩
  have e : spec_SplitFields.f (k + 1) (bs l) = some (splitRes l) := specSplit_f l (k + 1) hK
  have hj : ∀ ws, spec_ParseAct.j0 (k + 1) ws true = some (0, 0, 0, false) := fun ws => by
    rw [spec_ParseAct.j0]
    exact if_then rfl rfl
  unfold spec_ParseAct.f
  refine bind_of e ?_
  by_cases h2 : (splitRes l).2 = true
  · refine if_then h2 (bind_of (in_some _ _ _) ?_)
    rcases h with h | h
    · rw [h2] at h
      cases h
    · rw [decide_eq_false h]
      exact hj _
  · exact if_else h2 (hj _)
theorem specParse_yes (l : List UInt8) (K : Nat) (hK : 2000 < K) (h2 : (splitRes l).2 = true) (h : 2 ≤ ((splitRes l).1.length : Int) ∧ ((splitRes l).1.length : Int) ≤ 3) :
    ∃ k, K = k + 1 ∧ spec_ParseAct.f K (bs l) = spec_ParseAct.l0 k (splitRes l).1 (rdOf ByteArray.empty (splitRes l).1 0) [] 1 := by
  obtain ⟨k, rfl⟩ : ∃ m, K = m + 1 := ⟨K - 1, by omega⟩
  have e : spec_SplitFields.f (k + 1) (bs l) = some (splitRes l) := specSplit_f l (k + 1) hK
  refine ⟨k, rfl, ?_⟩
  unfold spec_ParseAct.f
  refine bind_of e (if_then h2 (bind_of (in_some _ _ _) ?_))
  rw [decide_eq_true h, spec_ParseAct.j0]
  exact if_else (by decide) (if_then (by omega) rfl)
/-- The names, as the program lists them. -/
def names6 : List ByteArray := [bs [], bs [116, 105, 99, 107], bs [100, 97, 114, 107], bs [117, 112, 108, 105, 110, 107], bs [99, 108, 111, 99, 107], bs [114, 101, 97, 100, 105, 110, 103]]
theorem idx_step (w v : List UInt8) (i : Nat) (hi : i < 6) (hv : rdOf ByteArray.empty names6 (i : Int) = bs v) (k : Nat) :
    (w = v → slices_Index_string_string.l0 (k + 1) names6 (bs w) 6 (i : Int) = some (i : Int)) ∧ (w ≠ v → slices_Index_string_string.l0 (k + 1) names6 (bs w) 6 (i : Int) = slices_Index_string_string.l0 k names6 (bs w) 6 ((i + 1 : Nat) : Int)) := by
  have hn : (names6.length : Int) = 6 := rfl
  refine ⟨fun h => ?_, fun h => ?_⟩
  · rw [slices_Index_string_string.l0, hv, h]
    exact if_then (by omega) (if_then (by omega) (if_then (by omega) (if_then rfl rfl)))
  · conv => lhs; rw [slices_Index_string_string.l0, hv]
    refine if_then (by omega) (if_then (by omega) (if_then (by omega) (if_else ?_ ?_)))
    · rw [bs_toList, bs_toList]
      exact h
    · rw [wrap_next (n := 6) hi (by omega)]
theorem index_f (w : List UInt8) (hw : w ≠ []) (k : Nat) (hk : 10 < k) : ∃ r, slices_Index_string_string.f k names6 (bs w) = some r ∧ (∀ a, (a = 1 ∨ a = 2 ∨ a = 3 ∨ a = 4 ∨ a = 5) → w = nm a → r = a) := by
  obtain ⟨k, rfl⟩ : ∃ m, k = m + 7 := ⟨k - 7, by omega⟩
  have s0 := idx_step w [] 0 (by decide) rfl (k + 6)
  have s1 := idx_step w (nm 1) 1 (by decide) rfl (k + 5)
  have s2 := idx_step w (nm 2) 2 (by decide) rfl (k + 4)
  have s3 := idx_step w (nm 3) 3 (by decide) rfl (k + 3)
  have s4 := idx_step w (nm 4) 4 (by decide) rfl (k + 2)
  have s5 := idx_step w (nm 5) 5 (by decide) rfl (k + 1)
  have s6 : slices_Index_string_string.l0 (k + 1) names6 (bs w) 6 ((6 : Nat) : Int) = some (-1) := by
    rw [slices_Index_string_string.l0]
    exact if_else (by decide) rfl
  have e0 : slices_Index_string_string.f (k + 7) names6 (bs w) = slices_Index_string_string.l0 (k + 7) names6 (bs w) 6 ((0 : Nat) : Int) := rfl
  rw [e0, s0.2 hw]
  have only : ∀ i : Int, (i = 1 ∨ i = 2 ∨ i = 3 ∨ i = 4 ∨ i = 5) → w = nm i → ∀ a, (a = 1 ∨ a = 2 ∨ a = 3 ∨ a = 4 ∨ a = 5) → w = nm a → i = a := fun i hi h a ha h' => nm_inj hi ha (h.symm.trans h')
  by_cases h1 : w = nm 1
  · exact ⟨1, s1.1 h1, only 1 (by decide) h1⟩
  by_cases h2 : w = nm 2
  · exact ⟨2, (s1.2 h1).trans (s2.1 h2), only 2 (by decide) h2⟩
  by_cases h3 : w = nm 3
  · exact ⟨3, (s1.2 h1).trans ((s2.2 h2).trans (s3.1 h3)), only 3 (by decide) h3⟩
  by_cases h4 : w = nm 4
  · exact ⟨4, (s1.2 h1).trans ((s2.2 h2).trans ((s3.2 h3).trans (s4.1 h4))), only 4 (by decide) h4⟩
  by_cases h5 : w = nm 5
  · exact ⟨5, (s1.2 h1).trans ((s2.2 h2).trans ((s3.2 h3).trans ((s4.2 h4).trans (s5.1 h5)))), only 5 (by decide) h5⟩
  refine ⟨-1, (s1.2 h1).trans ((s2.2 h2).trans ((s3.2 h3).trans ((s4.2 h4).trans ((s5.2 h5).trans s6)))), fun a ha h => ?_⟩
  rcases ha with rfl | rfl | rfl | rfl | rfl
  · exact absurd h h1
  · exact absurd h h2
  · exact absurd h h3
  · exact absurd h h4
  · exact absurd h h5
theorem j1_f (ws : List (List UInt8)) (hJ : strings_Join.f (ws.map bs) (⟨#[32]⟩ : ByteArray) = some (bs (Lib.join ws [32]))) (a A B : Int) (a0 : -9223372036854775808 ≤ A) (a1 : A ≤ 9223372036854775807) (b0 : -9223372036854775808 ≤ B) (b1 : B ≤ 9223372036854775807) (k : Nat) (hk : 24 < k) :
    (fits (Lib.join ws [32]) A B a → impl_ParseAct.j1 (k + 1) (ws.map bs) a A B = some (a, A, B, true)) ∧ (¬ fits (Lib.join ws [32]) A B a → impl_ParseAct.j1 (k + 1) (ws.map bs) a A B = some (0, 0, 0, false)) := by
  obtain ⟨t, v, _, e2, _, hv, hok⟩ := format_words a A B a0 a1 b0 b1 k hk
  refine ⟨fun h => ?_, fun h => ?_⟩
  · rw [impl_ParseAct.j1]
    refine bind_of e2 ?_
    have hvt : v = true := Option.some.inj (hok.symm.trans h.1)
    subst hvt
    refine if_then rfl (bind_of hJ (if_then ?_ rfl))
    show (bs t).toList = (bs (Lib.join ws [32])).toList
    rw [bs_toList, bs_toList, hv rfl]
    exact h.2
  · rw [impl_ParseAct.j1]
    refine bind_of e2 ?_
    cases v with
    | false => exact if_else (show ¬ (false = true) by decide) rfl
    | true =>
      refine if_then rfl (bind_of hJ (if_else ?_ rfl))
      show ¬ ((bs t).toList = (bs (Lib.join ws [32])).toList)
      rw [bs_toList, bs_toList]
      intro e
      exact h ⟨hok, (hv rfl).symm.trans e⟩
theorem join_len : ∀ ws : List (List UInt8), (∀ w ∈ ws, w.length ≤ 600) → (Lib.join ws [32]).length ≤ 601 * ws.length := by
  intro ws
  unfold Lib.join
  induction ws with
  | nil => intro _; exact Nat.le_refl 0
  | cons w ws ih =>
    intro h
    have hw := h w (List.mem_cons_self ..)
    have ih := ih (fun x hx => h x (List.mem_cons_of_mem _ hx))
    cases ws with
    | nil =>
      have e : List.intercalate [32] [w] = w := by simp [List.intercalate, List.intersperse]
      rw [e, List.length_singleton]
      omega
    | cons v ws =>
      have e : List.intercalate [32] (w :: v :: ws) = w ++ 32 :: List.intercalate [32] (v :: ws) := by simp [List.intercalate, List.intersperse]
      rw [e, List.length_append, List.length_cons, List.length_cons (a := w)]
      omega
theorem fields_len : ∀ (l cur w : List UInt8), w ∈ Lib.fieldsGo cur l → w.length ≤ cur.length + l.length := by
  intro l
  induction l with
  | nil =>
    intro cur w hw
    unfold Lib.fieldsGo at hw
    split at hw
    · cases hw
    · rw [List.mem_singleton.1 hw]
      exact Nat.le_add_right _ _
  | cons b l ih =>
    intro cur w hw
    rw [List.length_cons]
    unfold Lib.fieldsGo at hw
    split at hw
    · split at hw
      · have := ih [] w hw
        rw [List.length_nil] at this
        omega
      · rcases List.mem_cons.1 hw with rfl | hw
        · omega
        · have := ih [] w hw
          rw [List.length_nil] at this
          omega
    · have := ih (cur ++ [b]) w hw
      rw [List.length_append, List.length_singleton] at this
      omega
theorem joined (ws : List (List UInt8)) (hn : ws.length ≤ 24) (h : ∀ w ∈ ws, w.length ≤ 600) : strings_Join.f (ws.map bs) (⟨#[32]⟩ : ByteArray) = some (bs (Lib.join ws [32])) := by
  have e : (ws.map bs).map (·.data.toList) = ws := by simp [bs, Function.comp_def]
  have hl := join_len ws h
  unfold strings_Join.f
  rw [e, List.length_map]
  refine if_then ⟨by omega, ?_⟩ rfl
  show (Lib.join ws [32]).length ≤ _
  omega
theorem atoi_f (v : List UInt8) (hv : v.length ≤ 600) : strconv_Atoi_33.f (bs v) = some (atoiNum v, none) := by
  unfold strconv_Atoi_33.f
  exact if_then (by rw [bs_size]; omega) rfl
theorem impl_two (u v : List UInt8) (hu : u ≠ []) (hv : v.length ≤ 600) (k : Nat) (hk : 10 < k) : ∃ r, (∀ a, (a = 1 ∨ a = 2 ∨ a = 3 ∨ a = 4 ∨ a = 5) → u = nm a → r = a) ∧ impl_ParseAct.j0 (k + 1) [bs u, bs v] false = impl_ParseAct.j1 k [bs u, bs v] r (atoiNum v) 0 := by
  obtain ⟨r, hr, ho⟩ := index_f u hu k hk
  refine ⟨r, ho, ?_⟩
  rw [impl_ParseAct.j0]
  exact if_else (by decide) (bind_of (show impl_actNames.f = some names6 from rfl) (if_then (show (0 : Int) < ((2 : Nat) : Int) by decide) (bind_of hr (if_then (show (1 : Int) < ((2 : Nat) : Int) by decide) (bind_of (atoi_f v hv) (if_else (show ¬ (((2 : Nat) : Int) > 2) by decide) rfl))))))
theorem impl_many (u v w : List UInt8) (r0 : List (List UInt8)) (hu : u ≠ []) (hv : v.length ≤ 600) (hw : w.length ≤ 600) (k : Nat) (hk : 10 < k) : ∃ r, (∀ a, (a = 1 ∨ a = 2 ∨ a = 3 ∨ a = 4 ∨ a = 5) → u = nm a → r = a) ∧ impl_ParseAct.j0 (k + 1) ((u :: v :: w :: r0).map bs) false = impl_ParseAct.j1 k ((u :: v :: w :: r0).map bs) r (atoiNum v) (atoiNum w) := by
  obtain ⟨r, hr, ho⟩ := index_f u hu k hk
  refine ⟨r, ho, ?_⟩
  have hl : (((u :: v :: w :: r0).map bs).length : Int) = (r0.length : Int) + 3 := by simp; omega
  rw [impl_ParseAct.j0]
  exact if_else (by decide) (bind_of (show impl_actNames.f = some names6 from rfl) (if_then (by omega) (bind_of hr (if_then (by omega) (bind_of (atoi_f v hv) (if_then (by omega) (if_then (by omega) (bind_of (atoi_f w hw) rfl))))))))
theorem atoiNum_range (l : List UInt8) : -9223372036854775808 ≤ atoiNum l ∧ atoiNum l ≤ 9223372036854775807 := by
  unfold atoiNum
  cases h : Lib.atoiAll l with
  | ok v => exact Lib.atoiAll_bounds h
  | «syntax» => exact ⟨show (-9223372036854775808 : Int) ≤ 0 by decide, show (0 : Int) ≤ 9223372036854775807 by decide⟩
  | range =>
    unfold Lib.atoiSat
    show -9223372036854775808 ≤ (if _ then _ else _ : Int) ∧ (if _ then _ else _ : Int) ≤ 9223372036854775807
    split <;> exact ⟨by decide, by decide⟩
theorem atoiNum_itoa (x : Int) (h0 : -1000000 ≤ x) (h1 : x ≤ 1000000) : atoiNum (Lib.itoa x) = x := by
  unfold atoiNum
  rw [atoi_itoa x h0 h1]
theorem parse_two (u v : List UInt8) (hw : ∀ w ∈ [u, v], Word w) (hl : ∀ w ∈ [u, v], w.length ≤ 600) (k : Nat) (hk : 100 < k) :
    ∃ res, spec_ParseAct.l0 (k + 2) [bs u, bs v] (bs u) [] 1 = some res ∧ impl_ParseAct.j0 (k + 2) [bs u, bs v] false = some res := by
  obtain ⟨n1, hn, hb⟩ := l40_total v (k + 1) (by omega)
  have hu := hw u (List.mem_cons_self ..)
  rw [spec_two u v (hl u (by simp)) (hl v (by simp)) k n1 hn]
  obtain ⟨s1, s2⟩ := l1_end [u, v] hw n1 0 (by omega) (by omega) (by decide) (by decide) [n1, 0] (show 2 ≤ 2 by decide) rfl rfl k (by omega)
  obtain ⟨r, ho, hi⟩ := impl_two u v hu.1 (hl v (by simp)) (k + 1) (by omega)
  have hr := atoiNum_range v
  obtain ⟨i1, i2⟩ := j1_f [u, v] (joined [u, v] (show 2 ≤ 24 by decide) hl) r (atoiNum v) 0 hr.1 hr.2 (by decide) (by decide) k (by omega)
  rw [hi]
  have told : ∀ A a, fits (Lib.join [u, v] [32]) A 0 a → u = nm a ∧ v = Lib.itoa A ∧ (-1000000 ≤ A ∧ A ≤ 1000000) := by
    intro A a h
    have e := fits_words hw h
    obtain ⟨rr, hrr⟩ := wordsOf_head a A 0
    rw [hrr] at e
    exact ⟨(List.cons.inj e).1, (List.cons.inj (List.cons.inj e).2).1, (act_bounds h.1).1⟩
  by_cases hf : ∃ a, fits (Lib.join [u, v] [32]) n1 0 a
  · obtain ⟨a, h⟩ := hf
    obtain ⟨t1, t2, t3⟩ := told n1 a h
    have hA : atoiNum v = n1 := by rw [t2]; exact atoiNum_itoa n1 t3.1 t3.2
    have hr' : r = a := ho a (act_kind h.1) t1
    rw [hA, hr'] at i1
    exact ⟨(a, n1, 0, true), s1 a h, by rw [hA, hr']; exact i1 h⟩
  · refine ⟨(0, 0, 0, false), s2 (fun a h => hf ⟨a, h⟩), i2 (fun h => ?_)⟩
    obtain ⟨t1, t2, t3⟩ := told (atoiNum v) r h
    have e : n1 = atoiNum v := by
      have h40 := l40_itoa (atoiNum v) t3.1 t3.2 (k + 1) (by omega)
      rw [← t2, hn] at h40
      exact Option.some.inj h40
    exact hf ⟨r, by rw [e]; exact h⟩
theorem parse_three (u v w : List UInt8) (hw : ∀ x ∈ [u, v, w], Word x) (hl : ∀ x ∈ [u, v, w], x.length ≤ 600) (k : Nat) (hk : 100 < k) :
    ∃ res, spec_ParseAct.l0 (k + 3) [bs u, bs v, bs w] (bs u) [] 1 = some res ∧ impl_ParseAct.j0 (k + 3) [bs u, bs v, bs w] false = some res := by
  obtain ⟨n1, hn1, hb1⟩ := l40_total v (k + 2) (by omega)
  obtain ⟨n2, hn2, hb2⟩ := l40_total w (k + 1) (by omega)
  have hu := hw u (List.mem_cons_self ..)
  rw [spec_three u v w (hl u (by simp)) (hl v (by simp)) (hl w (by simp)) k n1 n2 hn1 hn2]
  obtain ⟨s1, s2⟩ := l1_end [u, v, w] hw n1 n2 (by omega) (by omega) (by omega) (by omega) [n1, n2, 0] (show 2 ≤ 3 by decide) rfl rfl k (by omega)
  obtain ⟨r, ho, hi0⟩ := impl_many u v w [] hu.1 (hl v (by simp)) (hl w (by simp)) (k + 2) (by omega)
  have hi : impl_ParseAct.j0 (k + 3) [bs u, bs v, bs w] false = impl_ParseAct.j1 (k + 2) ([u, v, w].map bs) r (atoiNum v) (atoiNum w) := hi0
  have hr := atoiNum_range v
  have hr2 := atoiNum_range w
  obtain ⟨i1, i2⟩ := j1_f [u, v, w] (joined [u, v, w] (show 3 ≤ 24 by decide) hl) r (atoiNum v) (atoiNum w) hr.1 hr.2 hr2.1 hr2.2 (k + 1) (by omega)
  rw [hi]
  have told : ∀ A B a, fits (Lib.join [u, v, w] [32]) A B a → u = nm a ∧ v = Lib.itoa A ∧ w = Lib.itoa B ∧ (-1000000 ≤ A ∧ A ≤ 1000000) ∧ (-1000000 ≤ B ∧ B ≤ 1000000) := by
    intro A B a h
    have e := fits_words hw h
    have b := act_bounds h.1
    unfold wordsOf at e
    by_cases h5 : a = 5
    · rw [if_pos h5] at e
      simp at e
    · rw [if_neg h5] at e
      have e1 := List.cons.inj e
      have e2 := List.cons.inj e1.2
      have e3 := List.cons.inj e2.2
      exact ⟨e1.1, e2.1, e3.1, b.1, b.2.1, b.2.2.1⟩
  by_cases hf : ∃ a, fits (Lib.join [u, v, w] [32]) n1 n2 a
  · obtain ⟨a, h⟩ := hf
    obtain ⟨t1, t2, t3, t4, t5⟩ := told n1 n2 a h
    have hA : atoiNum v = n1 := by rw [t2]; exact atoiNum_itoa n1 t4.1 t4.2
    have hB : atoiNum w = n2 := by rw [t3]; exact atoiNum_itoa n2 t5.1 t5.2
    have hr' : r = a := ho a (act_kind h.1) t1
    rw [hA, hB, hr'] at i1
    exact ⟨(a, n1, n2, true), s1 a h, by rw [hA, hB, hr']; exact i1 h⟩
  · refine ⟨(0, 0, 0, false), s2 (fun a h => hf ⟨a, h⟩), i2 (fun h => ?_)⟩
    obtain ⟨t1, t2, t3, t4, t5⟩ := told (atoiNum v) (atoiNum w) r h
    have e : n1 = atoiNum v := by
      have h40 := l40_itoa (atoiNum v) t4.1 t4.2 (k + 2) (by omega)
      rw [← t2, hn1] at h40
      exact Option.some.inj h40
    have e' : n2 = atoiNum w := by
      have h40 := l40_itoa (atoiNum w) t5.1 t5.2 (k + 1) (by omega)
      rw [← t3, hn2] at h40
      exact Option.some.inj h40
    exact hf ⟨r, by rw [e, e']; exact h⟩
theorem parse_many (u v w x : List UInt8) (r0 : List (List UInt8)) (hw : ∀ y ∈ u :: v :: w :: x :: r0, Word y) (hl : ∀ y ∈ u :: v :: w :: x :: r0, y.length ≤ 600) (hn : (u :: v :: w :: x :: r0).length ≤ 24) (k : Nat) (hk : 100 < k) :
    impl_ParseAct.j0 (k + 2) ((u :: v :: w :: x :: r0).map bs) false = some (0, 0, 0, false) := by
  obtain ⟨r, ho, hi⟩ := impl_many u v w (x :: r0) (hw u (List.mem_cons_self ..)).1 (hl v (by simp)) (hl w (by simp)) (k + 1) (by omega)
  have hr := atoiNum_range v
  have hr2 := atoiNum_range w
  obtain ⟨i1, i2⟩ := j1_f (u :: v :: w :: x :: r0) (joined _ hn hl) r (atoiNum v) (atoiNum w) hr.1 hr.2 hr2.1 hr2.2 k (by omega)
  rw [hi]
  refine i2 (fun h => ?_)
  have e := congrArg List.length (fits_words hw h)
  unfold wordsOf at e
  split at e
  · simp at e
  · simp at e
theorem splitRes_true {l : List UInt8} (h : (splitRes l).2 = true) : l.length ≤ 600 ∧ (Lib.fields l).length ≤ 24 ∧ (splitRes l).1 = (Lib.fields l).map bs := by
  unfold splitRes at h ⊢
  by_cases h6 : l.length > 600
  · rw [if_pos h6] at h
    cases h
  · rw [if_neg h6] at h ⊢
    unfold splitDone at h ⊢
    by_cases ho : l.all okByte = true
    · rw [if_pos ho] at h ⊢
      by_cases h24 : (Lib.fields l).length > 24
      · rw [if_pos h24] at h
        cases h
      · rw [if_neg h24]
        exact ⟨by omega, by omega, rfl⟩
    · rw [if_neg ho] at h
      cases h
theorem parse_same (l : List UInt8) : ∃ res, spec_ParseAct.f 5000 (bs l) = some res ∧ impl_ParseAct.f 5000 (bs l) = some res := by
  have eS : impl_SplitFields.f 5000 (bs l) = some (splitRes l) := rfl
  have none_ : ∀ ws, impl_ParseAct.j0 5000 ws true = some (0, 0, 0, false) := fun ws => by
    rw [impl_ParseAct.j0]
    exact if_then rfl rfl
  by_cases h2 : (splitRes l).2 = true
  · obtain ⟨hl, hn, hws⟩ := splitRes_true h2
    have hW : ∀ w ∈ Lib.fields l, Word w := fields_words l [] (by simp)
    have hL : ∀ w ∈ Lib.fields l, w.length ≤ 600 := fun w hw => by
      have := fields_len l [] w hw
      rw [List.length_nil] at this
      omega
    have hI : ∀ res, impl_ParseAct.j0 5000 (splitRes l).1 (decide (((splitRes l).1.length : Int) < 2)) = some res → impl_ParseAct.f 5000 (bs l) = some res := fun res h => by
      unfold impl_ParseAct.f
      exact bind_of eS (if_then h2 h)
    generalize hF : Lib.fields l = F at *
    match F, hn, hws, hW, hL with
    | [], hn, hws, hW, hL =>
      rw [hws] at hI
      exact ⟨_, specParse_no l 5000 (by decide) (Or.inr (by rw [hws]; decide)), hI _ (none_ _)⟩
    | [u], hn, hws, hW, hL =>
      rw [hws] at hI
      exact ⟨_, specParse_no l 5000 (by decide) (Or.inr (by rw [hws]; simp)), hI _ (none_ _)⟩
    | [u, v], hn, hws, hW, hL =>
      obtain ⟨k, hk, e⟩ := specParse_yes l 5000 (by decide) h2 (by rw [hws]; simp)
      obtain rfl : k = 4999 := by omega
      rw [hws] at hI e
      obtain ⟨res, r1, _⟩ := parse_two u v hW hL 4997 (by decide)
      obtain ⟨res', r1', r2'⟩ := parse_two u v hW hL 4998 (by decide)
      have hm : spec_ParseAct.l0 (4998 + 2) [bs u, bs v] (bs u) [] 1 = some res := (spec_ParseAct.mono_l 4999).2.1 _ _ _ _ _ r1
      rw [r1'] at hm
      obtain rfl := Option.some.inj hm
      exact ⟨res', e.trans r1, hI _ r2'⟩
    | [u, v, w], hn, hws, hW, hL =>
      obtain ⟨k, hk, e⟩ := specParse_yes l 5000 (by decide) h2 (by rw [hws]; simp)
      obtain rfl : k = 4999 := by omega
      rw [hws] at hI e
      obtain ⟨res, r1, _⟩ := parse_three u v w hW hL 4996 (by decide)
      obtain ⟨res', r1', r2'⟩ := parse_three u v w hW hL 4997 (by decide)
      have hm : spec_ParseAct.l0 (4997 + 3) [bs u, bs v, bs w] (bs u) [] 1 = some res := (spec_ParseAct.mono_l 4999).2.1 _ _ _ _ _ r1
      rw [r1'] at hm
      obtain rfl := Option.some.inj hm
      exact ⟨res', e.trans r1, hI _ r2'⟩
    | u :: v :: w :: x :: r0, hn, hws, hW, hL =>
      rw [hws] at hI
      have hlen : (((u :: v :: w :: x :: r0).map bs).length : Int) = (r0.length : Int) + 4 := by simp; omega
      refine ⟨_, specParse_no l 5000 (by decide) (Or.inr (by rw [hws, hlen]; omega)), hI _ ?_⟩
      rw [hlen, decide_eq_false (by omega)]
      exact parse_many u v w x r0 hW hL hn 4998 (by decide)
  · have h2' : (splitRes l).2 = false := by simpa using h2
    refine ⟨_, specParse_no l 5000 (by decide) (Or.inl h2'), ?_⟩
    unfold impl_ParseAct.f
    exact bind_of eS (if_else h2 (none_ _))
/-- The law. -/
theorem FnExactParseAct : laws_FnExactParseAct.Pure := by
  intro a0 _
  obtain ⟨⟨x, y, z, v⟩, e1, e2⟩ := parse_same a0.data.toList
  have hb : bs a0.data.toList = a0 := by
    apply ByteArray.ext
    simp [bs]
  rw [hb] at e1 e2
  refine ⟨5000, ?_⟩
  unfold laws_FnExactParseAct.f
  by_cases h : (a0.size : Int) > 1048576
  · exact if_then h rfl
  · refine if_else h (bind_of e1 (bind_of e2 (bind_of (show laws_eqAct.f x y z x y z = some true by unfold laws_eqAct.f; rw [if_pos rfl, if_pos rfl, if_pos rfl]) (if_then rfl (if_else ?_ rfl)))))
    show ¬ (v != v) = true
    cases v <;> decide
end Go.Proofs.YtefbmfgifjphfaaDoor.Pure
