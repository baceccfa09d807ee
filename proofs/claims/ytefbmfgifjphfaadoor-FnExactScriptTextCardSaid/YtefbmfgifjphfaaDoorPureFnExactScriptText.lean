/- The law FnExactScriptText in plain lists: both sides give the same text. Conditions: none beside those of the row. -/
import Derived.Test.YtefbmfgifjphfaaDoorHelpFnExactScriptText
import Derived.Lib.ItoaLen
import Derived.Lib.ItoaMem
import Derived.Lib.ItoaNum
namespace Go.Proofs.YtefbmfgifjphfaaDoor.Pure
open Go.RowKit Go.Proofs.YtefbmfgifjphfaaDoor.PFnExactScriptText Go.Proofs.YtefbmfgifjphfaaDoor.XPure Go.Proofs.YtefbmfgifjphfaaDoor.PureFnExactScriptText Go.Proofs.YtefbmfgifjphfaaDoorW.PrintWords Go.Proofs.YtefbmfgifjphfaaDoorW.PrintLast Go.Proofs.YtefbmfgifjphfaaDoorW.PrintMore
set_option linter.unusedSimpArgs false
set_option linter.unusedVariables false

/-- A text out of its bytes. -/
def bs (l : List UInt8) : ByteArray := ⟨l.toArray⟩
/-- A text's bytes as numbers. -/
def nums (l : List UInt8) : List Int := l.map fun b => (b.toNat : Int)
theorem bs_append (a b : List UInt8) : bs a ++ bs b = bs (a ++ b) := by
  apply ByteArray.ext
  simp [bs]
theorem bs_size (a : List UInt8) : (bs a).size = a.length := by simp [bs, ByteArray.size]
theorem nums_append (a b : List UInt8) : nums a ++ nums b = nums (a ++ b) := by simp [nums]
theorem nums_length (a : List UInt8) : (nums a).length = a.length := by simp [nums]
theorem str_nums (a : List UInt8) : strOfNums (nums a) = bs a := by
  unfold strOfNums bs nums
  congr 2
  rw [List.map_map]
  conv => rhs; rw [← List.map_id a]
  refine List.map_congr_left fun x _ => ?_
  simp
theorem bytesOf_bs (a : List UInt8) : bytesOf (bs a) = nums a := by simp [bytesOf, bs, nums]
theorem if_then {c : Prop} [Decidable c] {α : Type} {x y r : α} (h : c) (hx : x = r) : (if c then x else y) = r := (if_pos h).trans hx
theorem if_else {c : Prop} [Decidable c] {α : Type} {x y r : α} (h : ¬ c) (hy : y = r) : (if c then x else y) = r := (if_neg h).trans hy
theorem bind_of {α β : Type} {o : Option α} {a : α} {f : α → Option β} {r : Option β} (h : o = some a) (hf : f a = r) : o.bind f = r := by rw [h]; exact hf
/-- The digits of a number, none of zero. -/
def dig (u : Nat) : List UInt8 := if u = 0 then [] else Lib.decDigits u
theorem dig_step (u : Nat) (h : u ≠ 0) : dig u = dig (u / 10) ++ [UInt8.ofNat (48 + u % 10)] := by
  unfold dig
  rw [if_neg h]
  by_cases hu : u < 10
  · rw [Lib.decDigits_one hu, if_pos (by omega), Nat.mod_eq_of_lt hu]
    rfl
  · rw [if_neg (by omega), Lib.decDigits, dif_neg hu]
theorem figure_f (d : Nat) (h : d < 10) : spec_l01Figure.f (d : Int) = some ((48 + d : Nat) : Int) := by
  unfold spec_l01Figure.f
  rw [if_pos (by omega), wrap_in (by omega) (by omega)]
  congr 1
  omega
theorem one_digit (d : Nat) (h : d < 10) : strOfNums [((48 + d : Nat) : Int)] = bs [UInt8.ofNat (48 + d)] := rfl
theorem tmod_cases (x : Int) : (x = ((x.natAbs : Nat) : Int) ∧ Int.tmod x 10 = ((x.natAbs % 10 : Nat) : Int) ∧ Int.tdiv x 10 = ((x.natAbs / 10 : Nat) : Int)) ∨ (x = -((x.natAbs : Nat) : Int) ∧ Int.tmod x 10 = -((x.natAbs % 10 : Nat) : Int) ∧ Int.tdiv x 10 = -((x.natAbs / 10 : Nat) : Int)) := by
  rcases Int.natAbs_eq x with h | h
  · refine Or.inl ⟨h, ?_, ?_⟩
    · conv => lhs; rw [h]
      exact (Int.ofNat_tmod _ 10).symm
    · conv => lhs; rw [h]
      exact (Int.ofNat_tdiv _ 10).symm
  · refine Or.inr ⟨h, ?_, ?_⟩
    · conv => lhs; rw [h]
      rw [Int.neg_tmod]
      exact congrArg _ (Int.ofNat_tmod _ 10).symm
    · conv => lhs; rw [h]
      rw [Int.neg_tdiv]
      exact congrArg _ (Int.ofNat_tdiv _ 10).symm
theorem pick_digit (A : Int → Option ByteArray) (x : Int) : (if Int.tmod x 10 < 0 then A (wrap64 (-(Int.tmod x 10))) else A (Int.tmod x 10)) = A ((x.natAbs % 10 : Nat) : Int) := by
  rcases tmod_cases x with ⟨_, h, _⟩ | ⟨_, h, _⟩
  · rw [h]
    exact if_else (by omega) rfl
  · rw [h]
    by_cases hz : x.natAbs % 10 = 0
    · rw [hz]
      exact if_else (by decide) rfl
    · refine if_then (by omega) ?_
      rw [Int.neg_neg, wrap_in (by omega) (by omega)]
theorem fi_step (k : Nat) (x : Int) (b : Bool) (acc : List UInt8) (hx : x ≠ 0) (h0 : -9223372036854775808 ≤ x) (h1 : x ≤ 9223372036854775807) (ha : acc.length ≤ 1000) :
    spec_FormatInt.l0 (k + 1) x b (bs acc) = spec_FormatInt.l0 k (Int.tdiv x 10) b (bs (UInt8.ofNat (48 + x.natAbs % 10) :: acc)) := by
  have hd : wrap64 (Int.tdiv x 10) = Int.tdiv x 10 := by
    rcases tmod_cases x with ⟨_, _, h⟩ | ⟨_, _, h⟩
    · rw [h]; exact wrap_in (by omega) (by omega)
    · rw [h]; exact wrap_in (by omega) (by omega)
  simp only [spec_FormatInt.l0]
  refine if_else hx ?_
  refine (pick_digit (fun t => (spec_l01Figure.f t).bind fun t101 => ((some (([t101] : List Int) : List Int)).bind fun y102 => (if (strOfNums y102).size + (bs acc).size ≤ 9223372036854775807 then (spec_FormatInt.l0 k (wrap64 (Int.tdiv x 10)) b ((strOfNums y102) ++ (bs acc))) else (none)))) x).trans ?_
  refine bind_of (figure_f (x.natAbs % 10) (by omega)) (bind_of rfl ?_)
  rw [one_digit _ (by omega), hd, bs_append]
  refine if_then ?_ rfl
  rw [bs_size, bs_size, List.length_singleton]
  omega
theorem fi_loop (b : Bool) : ∀ (d : Nat) (x : Int) (acc : List UInt8) (k : Nat), x.natAbs < 10 ^ d → -9223372036854775808 ≤ x → x ≤ 9223372036854775807 → d < k → acc.length + d ≤ 1000 →
    spec_FormatInt.l0 k x b (bs acc) = some (bs ((if b then [45] else []) ++ (dig x.natAbs ++ acc))) := by
  have zero : ∀ (k : Nat) (acc : List UInt8), acc.length ≤ 1000 → spec_FormatInt.l0 (k + 1) 0 b (bs acc) = some (bs ((if b then [45] else []) ++ (dig (0 : Int).natAbs ++ acc))) := by
    intro k acc ha
    simp only [spec_FormatInt.l0]
    refine if_then trivial ?_
    have hn : dig (0 : Int).natAbs ++ acc = acc := rfl
    rw [hn]
    cases b with
    | true =>
      refine if_then rfl (if_then ?_ ?_)
      · rw [bs_size]; omega
      · exact congrArg some (bs_append [45] acc)
    | false => exact if_else (by decide) rfl
  intro d
  induction d with
  | zero =>
    intro x acc k hu h0 h1 hk ha
    obtain ⟨k, rfl⟩ : ∃ m, k = m + 1 := ⟨k - 1, by omega⟩
    obtain rfl : x = 0 := by simp at hu; omega
    exact zero k acc (by omega)
  | succ d ih =>
    intro x acc k hu h0 h1 hk ha
    obtain ⟨k, rfl⟩ : ∃ m, k = m + 1 := ⟨k - 1, by omega⟩
    by_cases hx : x = 0
    · subst hx
      exact zero k acc (by omega)
    · have hq : (Int.tdiv x 10).natAbs = x.natAbs / 10 := by
        rcases tmod_cases x with ⟨_, _, h⟩ | ⟨_, _, h⟩
        · rw [h]; omega
        · rw [h]; omega
      have hb : -9223372036854775808 ≤ Int.tdiv x 10 ∧ Int.tdiv x 10 ≤ 9223372036854775807 := by
        rcases tmod_cases x with ⟨_, _, h⟩ | ⟨_, _, h⟩
        · rw [h]; omega
        · rw [h]; omega
      rw [fi_step k x b acc hx h0 h1 (by omega), ih (Int.tdiv x 10) (UInt8.ofNat (48 + x.natAbs % 10) :: acc) k (by rw [hq]; rw [Nat.pow_succ] at hu; omega) hb.1 hb.2 (by omega) (by rw [List.length_cons]; omega), hq, dig_step x.natAbs (by omega), List.append_assoc]
      rfl
theorem specFormatInt_f (x : Int) (h0 : -9223372036854775808 ≤ x) (h1 : x ≤ 9223372036854775807) (k : Nat) (hk : 19 < k) : spec_FormatInt.f k x = some (bs (Lib.itoa x)) := by
  unfold spec_FormatInt.f
  by_cases hx : x = 0
  · subst hx
    refine if_then rfl ?_
    have : Lib.itoa 0 = [48] := (Lib.itoa_nonneg 0).trans (Lib.decDigits_one (by decide))
    rw [this]
    rfl
  · refine if_else hx ?_
    refine (fi_loop (decide (x < 0)) 19 x [] k (show x.natAbs < 10000000000000000000 by omega) h0 h1 hk (by decide)).trans ?_
    rw [List.append_nil]
    unfold Lib.itoa dig
    rw [if_neg (show ¬ x.natAbs = 0 by omega)]
    by_cases hn : x < 0
    · rw [decide_eq_true hn, if_pos hn]
      rfl
    · rw [decide_eq_false hn, if_neg hn, show x.natAbs = x.toNat by omega]
      rfl
theorem implFormatInt_f (x : Int) (h0 : -9223372036854775808 ≤ x) (h1 : x ≤ 9223372036854775807) (k : Nat) : impl_FormatInt.f k x = some (bs (Lib.itoa x)) := by
  unfold impl_FormatInt.f strconv_Itoa_36.f
  rw [if_pos ⟨h0, h1⟩]
  rfl
theorem wf_range {x : Int} (h : (Lit.int .i64 x).wf = true) : -9223372036854775808 ≤ x ∧ x ≤ 9223372036854775807 := by
  have h' : (decide ((-9223372036854775808 : Int) ≤ x) && decide (x ≤ 9223372036854775807)) = true := h
  simpa using h'
/-- A loop that goes up, its fuel above a bound throughout. -/
theorem loop_at {σ ρ : Type} (n B : Nat) (L : Nat → σ → Option ρ) (S : Nat → σ) (r : ρ) (step : ∀ k i, i < n → B < k → L (k + 1) (S i) = L k (S (i + 1))) (stop : ∀ k, L (k + 1) (S n) = some r) : ∀ k, n + B + 1 < k → L k (S 0) = some r := by
  have h : ∀ d i k, i + d = n → d + B + 1 < k → L k (S i) = some r := by
    intro d
    induction d with
    | zero =>
      intro i k hi hk
      obtain ⟨k, rfl⟩ : ∃ m, k = m + 1 := ⟨k - 1, by omega⟩
      obtain rfl : i = n := by omega
      exact stop k
    | succ d ih =>
      intro i k hi hk
      obtain ⟨k, rfl⟩ : ∃ m, k = m + 1 := ⟨k - 1, by omega⟩
      rw [step k i (by omega) (by omega)]
      exact ih (i + 1) k (by omega) (by omega)
  exact fun k hk => h n 0 k (by omega) (by omega)
theorem within_in (a b c : Int) : impl_within.f a b c = spec_l01In.f a b c := rfl
theorem in_some (a b c : Int) : spec_l01In.f a b c = some (decide (b ≤ a ∧ a ≤ c)) := by
  unfold spec_l01In.f
  by_cases h : a ≥ b
  · rw [if_pos h]
    simp [show b ≤ a from h]
  · rw [if_neg h]
    simp [show ¬ b ≤ a from h]
theorem span_some (a b : Int) : spec_SpanOk.f a b = some (decide (0 ≤ a ∧ a ≤ b ∧ b ≤ 1000000)) := by
  unfold spec_SpanOk.f
  by_cases h : a ≥ 0
  · by_cases h2 : a ≤ b
    · rw [if_pos h, if_pos h2]; simp [show 0 ≤ a from h, h2]
    · rw [if_pos h, if_neg h2]; simp [h2]
  · rw [if_neg h]; simp [show ¬ 0 ≤ a from h]
theorem act_same (a b c : Int) : impl_ActOk.f a b c = spec_ActOk.f a b c := by
  have hs : impl_SpanOk.f b c = spec_SpanOk.f b c := rfl
  simp only [impl_ActOk.f, spec_ActOk.f, within_in, impl_isHarvest.f, impl_IsValue.f, spec_IsValue.f, hs, in_some, Option.bind_some]
  by_cases h1 : a = 1
  · rw [if_pos h1, if_pos h1]
  · rw [if_neg h1, if_neg h1]
    by_cases h2 : a = 2
    · rw [if_pos h2, if_pos h2]
      by_cases g1 : b ≥ 0
      · by_cases g2 : b ≤ c
        · rw [if_pos g1, if_pos g2]
          by_cases g3 : c ≤ 10000
          · rw [if_pos (decide_eq_true (by omega)), decide_eq_true g3, decide_eq_true (by omega)]
          · rw [if_neg (by rw [decide_eq_false (by omega)]; decide), decide_eq_false g3]
        · rw [if_pos g1, if_neg g2]
          split
          · rw [decide_eq_false (by omega)]
          · rfl
      · rw [if_neg g1]
        split
        · rw [decide_eq_false (by omega)]
        · rfl
    · rw [if_neg h2, if_neg h2]
theorem act_some (a b c : Int) : ∃ v, spec_ActOk.f a b c = some v := by
  simp only [spec_ActOk.f, in_some, span_some, spec_IsValue.f, Option.bind_some]
  repeat' split
  all_goals exact ⟨_, rfl⟩
theorem act_kind {a b c : Int} (h : spec_ActOk.f a b c = some true) : a = 1 ∨ a = 2 ∨ a = 3 ∨ a = 4 ∨ a = 5 := by
  by_cases h1 : a = 1
  · exact Or.inl h1
  by_cases h2 : a = 2
  · exact Or.inr (Or.inl h2)
  by_cases h3 : a = 3
  · exact Or.inr (Or.inr (Or.inl h3))
  by_cases h4 : a = 4
  · exact Or.inr (Or.inr (Or.inr (Or.inl h4)))
  by_cases h5 : a = 5
  · exact Or.inr (Or.inr (Or.inr (Or.inr h5)))
  unfold spec_ActOk.f at h
  rw [if_neg h1, if_neg h2, if_neg h3, if_neg h4, if_neg h5] at h
  cases h
/-- A space and a number, i times. -/
def sp (l : List Int) : Nat → List UInt8
  | 0 => []
  | i + 1 => sp l i ++ ([32] ++ Lib.itoa (l.getD i 0))
theorem sp_length {l : List Int} (h : ∀ i, -9223372036854775808 ≤ l.getD i 0 ∧ l.getD i 0 ≤ 9223372036854775807) : ∀ i, (sp l i).length ≤ 22 * i := by
  intro i
  induction i with
  | zero => exact Nat.le_refl 0
  | succ i ih =>
    have := Lib.itoa_length_le (l.getD i 0) (h i).1 (h i).2
    unfold sp
    rw [List.length_append, List.length_append, List.length_singleton]
    omega
theorem spaced_f (w : List UInt8) (l : List Int) (hw : w.length ≤ 100000000) (hl : l.length ≤ 1048576) (h : ∀ i, -9223372036854775808 ≤ l.getD i 0 ∧ l.getD i 0 ≤ 9223372036854775807) (k : Nat) (hk : l.length + 1 < k) : impl_spaced.f k (bs w) l = some (bs (w ++ sp l l.length)) := by
  unfold impl_spaced.f
  have h0 : bs w = bs (w ++ sp l 0) := by unfold sp; rw [List.append_nil]
  rw [h0]
  refine loop_at l.length 0 (fun k (s : ByteArray × Int) => impl_spaced.l0 k s.1 l (l.length : Int) s.2) (fun i => (bs (w ++ sp l i), (i : Int))) (bs (w ++ sp l l.length)) (fun k i hi hk => ?_) (fun k => ?_) k (by omega)
  · have e := implFormatInt_f (l.getD i 0) (h i).1 (h i).2 k
    have hp := sp_length h i
    have hn := Lib.itoa_length_le (l.getD i 0) (h i).1 (h i).2
    have e32 : (⟨#[32]⟩ : ByteArray) = bs [32] := rfl
    simp only [impl_spaced.l0, rd_nat, e32]
    refine if_then (by omega) (if_then (by omega) (if_then (by omega) (bind_of e ?_)))
    rw [bs_append, bs_size, bs_size, bs_size, bs_append, List.length_append, List.length_append, List.length_singleton, wrap_next hi (by omega)]
    refine if_then (by omega) (if_then (by omega) ?_)
    have ep : w ++ sp l (i + 1) = w ++ sp l i ++ ([32] ++ Lib.itoa (l.getD i 0)) := by
      conv => lhs; unfold sp
      rw [List.append_assoc]
    rw [ep]
  · simp only [impl_spaced.l0]
    exact if_else (by omega) rfl
theorem two_text (w : List UInt8) (b c : Int) : bs w ++ (((bs [32] ++ bs (Lib.itoa b)) ++ bs [32]) ++ bs (Lib.itoa c)) = bs (w ++ sp [b, c] 2) := by
  simp [bs_append, sp]
theorem one_text (w : List UInt8) (b : Int) : bs (w ++ [32]) ++ bs (Lib.itoa b) = bs (w ++ sp [b] 1) := by
  simp [bs_append, sp]
theorem range_one {b : Int} (h0 : -9223372036854775808 ≤ b) (h1 : b ≤ 9223372036854775807) : ∀ i, -9223372036854775808 ≤ ([b] : List Int).getD i 0 ∧ ([b] : List Int).getD i 0 ≤ 9223372036854775807 := by
  intro i
  match i with
  | 0 => exact ⟨h0, h1⟩
  | i + 1 => exact ⟨show (-9223372036854775808 : Int) ≤ 0 by decide, show (0 : Int) ≤ 9223372036854775807 by decide⟩
theorem range_two {b c : Int} (h0 : -9223372036854775808 ≤ b) (h1 : b ≤ 9223372036854775807) (h2 : -9223372036854775808 ≤ c) (h3 : c ≤ 9223372036854775807) : ∀ i, -9223372036854775808 ≤ ([b, c] : List Int).getD i 0 ∧ ([b, c] : List Int).getD i 0 ≤ 9223372036854775807 := by
  intro i
  match i with
  | 0 => exact ⟨h0, h1⟩
  | 1 => exact ⟨h2, h3⟩
  | i + 2 => exact ⟨show (-9223372036854775808 : Int) ≤ 0 by decide, show (0 : Int) ≤ 9223372036854775807 by decide⟩
theorem format_same (a b c : Int) (b0 : -9223372036854775808 ≤ b) (b1 : b ≤ 9223372036854775807) (c0 : -9223372036854775808 ≤ c) (c1 : c ≤ 9223372036854775807) (k : Nat) (hk : 24 < k) :
    ∃ (t : List UInt8) (v : Bool), spec_FormatAct.f k a b c = some (bs t, v) ∧ impl_FormatAct.f k a b c = some (bs t, v) ∧ t.length ≤ 100 := by
  obtain ⟨v, hv⟩ := act_some a b c
  have hi : impl_ActOk.f a b c = some v := (act_same a b c).trans hv
  cases v with
  | false =>
    refine ⟨[], false, ?_, ?_, by decide⟩
    · exact bind_of hv (if_else (by decide) rfl)
    · exact bind_of hi (if_else (by decide) rfl)
  | true =>
    have e1 := specFormatInt_f b b0 b1 k (by omega)
    have e2 := specFormatInt_f c c0 c1 k (by omega)
    have n1 := Lib.itoa_length_le b b0 b1
    have n2 := Lib.itoa_length_le c c0 c1
    have s32 : (⟨#[32]⟩ : ByteArray).size = 1 := rfl
    have r2 := range_two b0 b1 c0 c1
    have r1 := range_one b0 b1
    have l2 := sp_length r2 2
    have l1 := sp_length r1 1
    have S1 : 1 + (bs (Lib.itoa b)).size ≤ 9223372036854775807 := by rw [bs_size]; omega
    have S2 : ((⟨#[32]⟩ : ByteArray) ++ bs (Lib.itoa b)).size + 1 ≤ 9223372036854775807 := by rw [ByteArray.size_append, bs_size, s32]; omega
    have S3 : (((⟨#[32]⟩ : ByteArray) ++ bs (Lib.itoa b)) ++ (⟨#[32]⟩ : ByteArray)).size + (bs (Lib.itoa c)).size ≤ 9223372036854775807 := by rw [ByteArray.size_append, ByteArray.size_append, bs_size, bs_size, s32]; omega
    have S4 : ∀ n, n ≤ 8 → n + ((((⟨#[32]⟩ : ByteArray) ++ bs (Lib.itoa b)) ++ (⟨#[32]⟩ : ByteArray)) ++ bs (Lib.itoa c)).size ≤ 9223372036854775807 := fun n hn => by rw [ByteArray.size_append, ByteArray.size_append, ByteArray.size_append, bs_size, bs_size, s32]; omega
    have S5 : 8 + (bs (Lib.itoa b)).size ≤ 9223372036854775807 := by rw [bs_size]; omega
    rcases act_kind hv with rfl | rfl | rfl | rfl | rfl
    · refine ⟨[116, 105, 99, 107] ++ sp [b, c] 2, true, ?_, ?_, by rw [List.length_append]; simp only [List.length_cons, List.length_nil]; omega⟩
      · exact bind_of hv (if_then rfl (bind_of e1 (if_then S1 (if_then S2 (bind_of e2 (if_then S3 (if_then rfl (if_then (S4 4 (by decide)) (congrArg (fun x => some (x, true)) (two_text [116, 105, 99, 107] b c))))))))))
      · exact bind_of hi (if_then rfl (if_else (by decide) (bind_of rfl (if_then (by decide) (if_then (by decide) (bind_of (spaced_f [116, 105, 99, 107] [b, c] (by decide) (show 2 ≤ 1048576 by decide) r2 k (show 2 + 1 < k by omega)) rfl))))))
    · refine ⟨[100, 97, 114, 107] ++ sp [b, c] 2, true, ?_, ?_, by rw [List.length_append]; simp only [List.length_cons, List.length_nil]; omega⟩
      · exact bind_of hv (if_then rfl (bind_of e1 (if_then S1 (if_then S2 (bind_of e2 (if_then S3 (if_else (by decide) (if_then rfl (if_then (S4 4 (by decide)) (congrArg (fun x => some (x, true)) (two_text [100, 97, 114, 107] b c)))))))))))
      · exact bind_of hi (if_then rfl (if_else (by decide) (bind_of rfl (if_then (by decide) (if_then (by decide) (bind_of (spaced_f [100, 97, 114, 107] [b, c] (by decide) (show 2 ≤ 1048576 by decide) r2 k (show 2 + 1 < k by omega)) rfl))))))
    · refine ⟨[117, 112, 108, 105, 110, 107] ++ sp [b, c] 2, true, ?_, ?_, by rw [List.length_append]; simp only [List.length_cons, List.length_nil]; omega⟩
      · exact bind_of hv (if_then rfl (bind_of e1 (if_then S1 (if_then S2 (bind_of e2 (if_then S3 (if_else (by decide) (if_else (by decide) (if_then rfl (if_then (S4 6 (by decide)) (congrArg (fun x => some (x, true)) (two_text [117, 112, 108, 105, 110, 107] b c))))))))))))
      · exact bind_of hi (if_then rfl (if_else (by decide) (bind_of rfl (if_then (by decide) (if_then (by decide) (bind_of (spaced_f [117, 112, 108, 105, 110, 107] [b, c] (by decide) (show 2 ≤ 1048576 by decide) r2 k (show 2 + 1 < k by omega)) rfl))))))
    · refine ⟨[99, 108, 111, 99, 107] ++ sp [b, c] 2, true, ?_, ?_, by rw [List.length_append]; simp only [List.length_cons, List.length_nil]; omega⟩
      · exact bind_of hv (if_then rfl (bind_of e1 (if_then S1 (if_then S2 (bind_of e2 (if_then S3 (if_else (by decide) (if_else (by decide) (if_else (by decide) (if_then rfl (if_then (S4 5 (by decide)) (congrArg (fun x => some (x, true)) (two_text [99, 108, 111, 99, 107] b c)))))))))))))
      · exact bind_of hi (if_then rfl (if_else (by decide) (bind_of rfl (if_then (by decide) (if_then (by decide) (bind_of (spaced_f [99, 108, 111, 99, 107] [b, c] (by decide) (show 2 ≤ 1048576 by decide) r2 k (show 2 + 1 < k by omega)) rfl))))))
    · refine ⟨[114, 101, 97, 100, 105, 110, 103] ++ sp [b] 1, true, ?_, ?_, by rw [List.length_append]; simp only [List.length_cons, List.length_nil]; omega⟩
      · exact bind_of hv (if_then rfl (bind_of e1 (if_then S1 (if_then S2 (bind_of e2 (if_then S3 (if_else (by decide) (if_else (by decide) (if_else (by decide) (if_else (by decide) (bind_of e1 (if_then S5 (congrArg (fun x => some (x, true)) (one_text [114, 101, 97, 100, 105, 110, 103] b))))))))))))))
      · exact bind_of hi (if_then rfl (if_then rfl (bind_of (spaced_f [114, 101, 97, 100, 105, 110, 103] [b] (by decide) (show 1 ≤ 1048576 by decide) r1 k (show 1 + 1 < k by omega)) rfl)))
/-- An act of the law as one of the program. -/
def actOf (x : S28) : S31 := ⟨x.f0, x.f1, x.f2⟩
theorem rd_range {l : List S28} (h : ∀ x ∈ l, g28 x) (i : Nat) : (-9223372036854775808 ≤ (rd_T31 (l.map actOf) (i : Int)).f1 ∧ (rd_T31 (l.map actOf) (i : Int)).f1 ≤ 9223372036854775807) ∧ -9223372036854775808 ≤ (rd_T31 (l.map actOf) (i : Int)).f2 ∧ (rd_T31 (l.map actOf) (i : Int)).f2 ≤ 9223372036854775807 := by
  have e : rd_T31 (l.map actOf) (i : Int) = (l.map actOf).getD i z31 := rfl
  by_cases hi : i < l.length
  · have hg := h _ (List.getElem_mem hi)
    rw [e, List.getD_eq_getElem?_getD, List.getElem?_map, List.getElem?_eq_getElem hi]
    exact ⟨wf_range hg.2.1, wf_range hg.2.2⟩
  · rw [e, List.getD_eq_getElem?_getD, List.getElem?_eq_none (by rw [List.length_map]; omega)]
    exact ⟨⟨by decide, by decide⟩, ⟨by decide, by decide⟩⟩
theorem script_loop (l : List S31) (hl : l.length ≤ 30) (hr : ∀ i : Nat, (-9223372036854775808 ≤ (rd_T31 l (i : Int)).f1 ∧ (rd_T31 l (i : Int)).f1 ≤ 9223372036854775807) ∧ -9223372036854775808 ≤ (rd_T31 l (i : Int)).f2 ∧ (rd_T31 l (i : Int)).f2 ≤ 9223372036854775807) :
    ∀ (d i k : Nat) (x : List UInt8), i + d = l.length → d + 30 < k → x.length ≤ 200 * i → ∃ (t : List UInt8) (v : Bool), spec_ScriptText.l0 k l (nums x) (i : Int) = some (bs t, v) ∧ impl_ScriptText.l0 k (bs x) l (l.length : Int) (i : Int) = some (bs t, v) := by
  intro d
  induction d with
  | zero =>
    intro i k x hi hk hx
    obtain ⟨k, rfl⟩ : ∃ m, k = m + 1 := ⟨k - 1, by omega⟩
    refine ⟨x, true, ?_, ?_⟩
    · simp only [spec_ScriptText.l0]
      refine if_else (by omega) ?_
      rw [str_nums]
    · simp only [impl_ScriptText.l0]
      exact if_else (by omega) rfl
  | succ d ih =>
    intro i k x hi hk hx
    obtain ⟨k, rfl⟩ : ∃ m, k = m + 1 := ⟨k - 1, by omega⟩
    have h := hr i
    obtain ⟨t, v, e1, e2, ht⟩ := format_same (rd_T31 l (i : Int)).f0 (rd_T31 l (i : Int)).f1 (rd_T31 l (i : Int)).f2 h.1.1 h.1.2 h.2.1 h.2.2 k (by omega)
    cases v with
    | false =>
      refine ⟨[], false, ?_, ?_⟩
      · simp only [spec_ScriptText.l0]
        exact if_then (by omega) (if_then (by omega) (bind_of e1 (if_else (show ¬ (false = true) by decide) rfl)))
      · simp only [impl_ScriptText.l0]
        exact if_then (by omega) (if_then (by omega) (if_then (by omega) (bind_of e2 (if_else (show ¬ (false = true) by decide) rfl))))
    | true =>
      have e10 : bs t ++ (⟨#[10]⟩ : ByteArray) = bs (t ++ [10]) := bs_append t [10]
      obtain ⟨t', v', h1, h2⟩ := ih (i + 1) k (x ++ (t ++ [10])) (by omega) (by omega) (by rw [List.length_append, List.length_append, List.length_singleton]; omega)
      have hw : wrap64 ((i : Int) + 1) = ((i + 1 : Nat) : Int) := wrap_next (n := l.length) (by omega) (by omega)
      have z1 : (bs t).size + 1 ≤ 9223372036854775807 := by rw [bs_size]; omega
      refine ⟨t', v', ?_, ?_⟩
      · simp only [spec_ScriptText.l0]
        refine if_then (by omega) (if_then (by omega) (bind_of e1 (if_then rfl (if_else (by omega) (if_then z1 (if_then ?_ ?_))))))
        · show (nums x).length + (bs t ++ (⟨#[10]⟩ : ByteArray)).size < 140737488355328
          rw [e10, bs_size, nums_length, List.length_append, List.length_singleton]
          omega
        · show spec_ScriptText.l0 k l (nums x ++ bytesOf (bs t ++ (⟨#[10]⟩ : ByteArray))) (wrap64 ((i : Int) + 1)) = some (bs t', v')
          rw [e10, bytesOf_bs, nums_append, hw]
          exact h1
      · simp only [impl_ScriptText.l0]
        refine if_then (by omega) (if_then (by omega) (if_then (by omega) (bind_of e2 (if_then rfl (if_then z1 (if_then ?_ ?_))))))
        · show (bs x).size + (bs t ++ (⟨#[10]⟩ : ByteArray)).size ≤ 9223372036854775807
          rw [e10, bs_size, bs_size, List.length_append, List.length_singleton]
          omega
        · show impl_ScriptText.l0 k (bs x ++ (bs t ++ (⟨#[10]⟩ : ByteArray))) l (l.length : Int) (wrap64 ((i : Int) + 1)) = some (bs t', v')
          rw [e10, bs_append, hw]
          exact h2
theorem script_same (l : List S31) (hr : ∀ i : Nat, (-9223372036854775808 ≤ (rd_T31 l (i : Int)).f1 ∧ (rd_T31 l (i : Int)).f1 ≤ 9223372036854775807) ∧ -9223372036854775808 ≤ (rd_T31 l (i : Int)).f2 ∧ (rd_T31 l (i : Int)).f2 ≤ 9223372036854775807) (k : Nat) (hk : 100 < k) :
    ∃ (t : List UInt8) (v : Bool), spec_ScriptText.f k l = some (bs t, v) ∧ impl_ScriptText.f k l = some (bs t, v) := by
  by_cases h30 : l.length ≤ 30
  · obtain ⟨t, v, h1, h2⟩ := script_loop l h30 hr l.length 0 k [] (by omega) (by omega) (by decide)
    refine ⟨t, v, h1, ?_⟩
    unfold impl_ScriptText.f
    exact if_else (by omega) h2
  · refine ⟨[], false, ?_, ?_⟩
    · unfold spec_ScriptText.f
      obtain ⟨k, rfl⟩ : ∃ m, k = m + 1 := ⟨k - 1, by omega⟩
      have h := hr 0
      obtain ⟨t, v, e1, e2, ht⟩ := format_same (rd_T31 l ((0 : Nat) : Int)).f0 (rd_T31 l ((0 : Nat) : Int)).f1 (rd_T31 l ((0 : Nat) : Int)).f2 h.1.1 h.1.2 h.2.1 h.2.2 k (by omega)
      simp only [spec_ScriptText.l0]
      refine if_then (by omega) (if_then (Int.le_refl 0) (bind_of e1 ?_))
      cases v with
      | false => exact if_else (show ¬ (false = true) by decide) rfl
      | true => exact if_then rfl (if_then (by omega) rfl)
    · unfold impl_ScriptText.f
      exact if_then (by omega) rfl
/-- The law. -/
theorem FnExactScriptText : laws_FnExactScriptText.Pure := by
  intro l hG
  have hlen : l.length ≤ 9223372036854775807 := by
    have := hG.1
    unfold maxLen at this
    omega
  refine ⟨l.length + 1000, ?_⟩
  unfold laws_FnExactScriptText.f
  have w1 : wrap64 (1048576 - (l.length : Int)) = 1048576 - (l.length : Int) := wrap_in (by omega) (by omega)
  by_cases hb : l.length ≤ 1048576
  · have e0 : laws_szActS.f l 1048576 = some (1048576 - (l.length : Int)) := by
      unfold laws_szActS.f
      rw [w1]
      exact if_else (by clear w1; omega) rfl
    have hn : (l.map actOf).length = l.length := List.length_map _
    have e1 : laws_toActS.f (l.length + 1000) l = some (l.map actOf) := toActS_f l hb (l.length + 1000) (by clear w1; omega)
    have e1' : laws_toActS.f (l.length + 999) l = some (l.map actOf) := toActS_f l hb (l.length + 999) (by clear w1; omega)
    have e2 : laws_eqActS.f (l.length + 999) (l.map actOf) (l.map actOf) = some true := eqActS_f (l.map actOf) (by rw [hn]; exact hb) (l.length + 999) (by rw [hn]; clear w1; omega)
    obtain ⟨t, v, h1, h2⟩ := script_same (l.map actOf) (rd_range hG.2) (l.length + 1000) (by clear w1; omega)
    have h3 : laws_FnExactScriptText.j0 (l.length + 1000) l (l.map actOf) (v != v) = some true := by
      show (if (v != v) = true then none else _) = some true
      exact if_else (by cases v <;> decide) (bind_of e1' (bind_of e2 (if_then rfl rfl)))
    exact bind_of e0 (if_else (by clear w1; omega) (bind_of e1 (bind_of h1 (bind_of e1 (bind_of h2 (if_then rfl h3))))))
  · have e0 : laws_szActS.f l 1048576 = some (-1) := by
      unfold laws_szActS.f
      rw [w1]
      exact if_then (by clear w1; omega) rfl
    exact bind_of e0 (if_then (by decide) rfl)
end Go.Proofs.YtefbmfgifjphfaaDoor.Pure
