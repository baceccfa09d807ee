/- What the law FnMoreEnergy's helper functions (they copy, compare, mark) come to. Conditions: as each lemma says. -/
import Derived.Test.YtmnmafoojniclaaPFnMoreEnergyxL
import Derived.Test.YtmnmafoojniclaaXPure
namespace Go.Proofs.Ytmnmafoojniclaa.PureFnMoreEnergy
open Go.RowKit Go.Proofs.Ytmnmafoojniclaa.PFnMoreEnergy Go.Proofs.Ytmnmafoojniclaa.XPure Go.Proofs.YtmnmafoojniclaaW.PrintWords Go.Proofs.YtmnmafoojniclaaW.PrintLast Go.Proofs.YtmnmafoojniclaaW.PrintMore
set_option linter.unusedSimpArgs false
set_option linter.unusedVariables false
def inB (a b c : Int) : Bool := decide (a ≥ b) && decide (a ≤ c)
theorem within_f (a b c : Int) : impl_within.f a b c = some (inB a b c) := by
  unfold impl_within.f inB
  by_cases h : a ≥ b
  · rw [if_pos h, decide_eq_true h, Bool.true_and]
  · rw [if_neg h, decide_eq_false h, Bool.false_and]
def okPlans (x : S114) : Bool := inB x.f0 0 1000 && (inB x.f1 0 1000)
theorem badPlans_f (a0 a1 : Int) : impl_PlansOk_1.f a0 a1 = some (!(inB a0 0 1000 && (inB a1 0 1000))) := by
  simp only [impl_PlansOk_1.f, within_f, Option.bind_some]
  cases inB a0 0 1000 <;> cases inB a1 0 1000 <;> rfl
theorem implPlans_f (l : List S114) (hl : l.length ≤ 1048576) (k : Nat) (hk : l.length < k) :
    impl_PlansOk.f k l = some (endsAt (fun i => okPlans (l.getD i z114)) (fun _ => false) (decide ((l.length : Int) ≤ 10)) l.length 0) := by
  have h : impl_Plan_111_at_impl_PlansOk_1.f k l = some (endsAt (fun i => okPlans (l.getD i z114)) (fun i => (i : Int)) (-1) l.length 0) := by
    unfold impl_Plan_111_at_impl_PlansOk_1.f
    refine loop_ends l.length (fun k (s : Int) => impl_Plan_111_at_impl_PlansOk_1.l0 k l (l.length : Int) s) (fun i => (i : Int)) _ _ _ (fun k i hi hc => ?_) (fun k i hi hc => ?_) (fun k => ?_) k hk
    · have hb : impl_PlansOk_1.f (l.getD i z114).f0 (l.getD i z114).f1 = some false := by rw [badPlans_f]; simp only [okPlans] at hc; rw [hc]; rfl
      simp only [impl_Plan_111_at_impl_PlansOk_1.l0, rd_T114, Int.toNat_natCast, hb, Option.bind_some, Bool.false_eq_true, ↓reduceIte]
      rw [if_pos (by omega), if_pos (by omega), if_pos (by omega), wrap_next hi (by omega)]
    · have hb : impl_PlansOk_1.f (l.getD i z114).f0 (l.getD i z114).f1 = some true := by rw [badPlans_f]; simp only [okPlans] at hc; rw [hc]; rfl
      simp only [impl_Plan_111_at_impl_PlansOk_1.l0, rd_T114, Int.toNat_natCast, hb, Option.bind_some, ↓reduceIte]
      rw [if_pos (by omega), if_pos (by omega), if_pos (by omega)]
    · simp only [impl_Plan_111_at_impl_PlansOk_1.l0]
      rw [if_neg (by omega)]
  simp only [impl_PlansOk.f, impl_Plan_78_at_impl_PlansOk_1.f, h, Option.bind_some, endsAt_place, Bool.not_not]
  rw [endsAt_last (decide ((l.length : Int) ≤ 10))]
  by_cases h10 : (l.length : Int) ≤ 10
  · rw [if_pos h10, decide_eq_true h10, Bool.and_true]
  · rw [if_neg h10, decide_eq_false h10, Bool.and_false]
/-- A bit of a small number, as the program asks for it. -/
theorem bit_at (b i : Nat) (hb : b < 4611686018427387904) (hi : i < 63) : (Go.bits .and .i64 (shr .i64 (b : Int) (i : Int)) 1 = 1) ↔ b.testBit i = true := by
  have h1 : shr .i64 (b : Int) (i : Int) = ((b / 2 ^ i : Nat) : Int) := by
    unfold shr
    rw [show min ((i : Int).toNat) IntKind.i64.bits = i from by simp [IntKind.bits]; omega]
    norm_cast
  have hq : b / 2 ^ i ≤ b := Nat.div_le_self _ _
  have h2 : (BitVec.ofInt 64 ((b / 2 ^ i : Nat) : Int)).toNat = b / 2 ^ i := by
    rw [BitVec.ofInt_natCast, BitVec.toNat_ofNat]; exact Nat.mod_eq_of_lt (by omega)
  have h3 : Go.bits .and .i64 ((b / 2 ^ i : Nat) : Int) 1 = ((b / 2 ^ i % 2 : Nat) : Int) := by
    show IntKind.i64.wrap ((BitVec.ofInt 64 ((b / 2 ^ i : Nat) : Int) &&& BitVec.ofInt 64 1).toNat : Int) = _
    rw [BitVec.toNat_and, h2, show (BitVec.ofInt 64 1).toNat = 1 from by decide, Nat.and_one_is_mod]
    have h4 : b / 2 ^ i % 2 < 2 := Nat.mod_lt _ (by decide)
    generalize b / 2 ^ i % 2 = m at h4 ⊢
    rw [IntKind.wrap_i64]
    omega
  rw [h1, h3, Nat.testBit_eq_decide_div_mod_eq]
  simp only [decide_eq_true_eq]
  omega
/-- A small number with one more bit. -/
theorem bit_set (b i : Nat) (hb : b < 1048576) (hi : i < 20) : Go.bits .or .i64 (b : Int) (shl .i64 1 (i : Int)) = ((b ||| 2 ^ i : Nat) : Int) := by
  have hp : 2 ^ i < 2 ^ 20 := Nat.pow_lt_pow_right (by decide) hi
  have h1 : shl .i64 1 (i : Int) = ((2 ^ i : Nat) : Int) := by
    unfold shl
    rw [show min ((i : Int).toNat) IntKind.i64.bits = i from by simp [IntKind.bits]; omega, Int.one_mul]
    rw [show ((2 : Int) ^ i) = ((2 ^ i : Nat) : Int) from by norm_cast]
    generalize 2 ^ i = m at hp ⊢
    rw [IntKind.wrap_i64]
    omega
  have hx : b ||| 2 ^ i < 2 ^ 20 := Nat.or_lt_two_pow (by omega) hp
  have h2 : (BitVec.ofInt 64 (b : Int)).toNat = b := by
    rw [BitVec.ofInt_natCast, BitVec.toNat_ofNat]; exact Nat.mod_eq_of_lt (by omega)
  have h3 : (BitVec.ofInt 64 ((2 ^ i : Nat) : Int)).toNat = 2 ^ i := by
    rw [BitVec.ofInt_natCast, BitVec.toNat_ofNat]; exact Nat.mod_eq_of_lt (by omega)
  rw [h1]
  show IntKind.i64.wrap ((BitVec.ofInt 64 (b : Int) ||| BitVec.ofInt 64 ((2 ^ i : Nat) : Int)).toNat : Int) = _
  rw [BitVec.toNat_or, h2, h3]
  generalize b ||| 2 ^ i = m at hx ⊢
  rw [IntKind.wrap_i64]
  omega
/-- The numbers below n that are in a set of bits, and a sum over them. -/
def setOf (b : Nat) : Nat → List Int
  | 0 => []
  | i + 1 => if b.testBit i = true then setOf b i ++ [(i : Int)] else setOf b i
theorem setOf_length (b : Nat) : ∀ n, (setOf b n).length ≤ n
  | 0 => Nat.le_refl _
  | i + 1 => by
    have := setOf_length b i
    unfold setOf
    split
    · simp only [List.length_append, List.length_cons, List.length_nil]
      omega
    · omega
def sumB (f : Nat → Int) (b : Nat) : Nat → Int
  | 0 => 0
  | i + 1 => if b.testBit i = true then sumB f b i + f i else sumB f b i
theorem sumB_bounds {f : Nat → Int} {n : Nat} (h : ∀ i, i < n → 0 ≤ f i ∧ f i ≤ 1000) (b : Nat) : ∀ i, i ≤ n → 0 ≤ sumB f b i ∧ sumB f b i ≤ 1000 * (i : Int)
  | 0, _ => ⟨Int.le_refl _, Int.le_refl _⟩
  | i + 1, hi => by
    have := sumB_bounds h b i (by omega)
    have := h i (by omega)
    unfold sumB
    split <;> omega
/-- .. of the plans. -/
def fe (l : List S114) (i : Nat) : Int := (l.getD i z114).f0
def fw (l : List S114) (i : Nat) : Int := (l.getD i z114).f1
def small (l : List S114) : Prop := l.length ≤ 10 ∧ (∀ i, i < l.length → 0 ≤ fe l i ∧ fe l i ≤ 1000) ∧ (∀ i, i < l.length → 0 ≤ fw l i ∧ fw l i ≤ 1000)
/-- What PlansOk says. -/
def okS (l : List S114) : Bool := endsAt (fun i => okPlans (l.getD i z114)) (fun _ => false) (decide ((l.length : Int) ≤ 10)) l.length 0
theorem small_of {l : List S114} (h : okS l = true) : small l := by
  unfold okS at h
  rw [endsAt_last, Bool.and_eq_true, endsAt_true] at h
  have h2 : ∀ i, i < l.length → okPlans (l.getD i z114) = true := fun i hi => h.1 i (Nat.zero_le _) (by omega)
  have h3 := of_decide_eq_true h.2
  refine ⟨by omega, fun i hi => ?_, fun i hi => ?_⟩
  · have := h2 i hi
    simp only [okPlans, inB, Bool.and_eq_true, decide_eq_true_eq] at this
    unfold fe
    omega
  · have := h2 i hi
    simp only [okPlans, inB, Bool.and_eq_true, decide_eq_true_eq] at this
    unfold fw
    omega
theorem chosen_f (l : List S114) (hs : small l) (b : Nat) (hb : b < 1048576) (k : Nat) (hk : l.length < k) :
    impl_chosen.f k l (b : Int) = some (setOf b l.length, sumB (fe l) b l.length, sumB (fw l) b l.length) := by
  have h10 := hs.1
  unfold impl_chosen.f
  refine loop_up l.length (fun k (s : Int × List Int × Int × Int) => impl_chosen.l0 k (b : Int) l (l.length : Int) s.1 s.2.1 s.2.2.1 s.2.2.2) (fun i => ((i : Int), setOf b i, sumB (fe l) b i, sumB (fw l) b i)) (setOf b l.length, sumB (fe l) b l.length, sumB (fw l) b l.length) (fun k i hi => ?_) (fun k => ?_) k hk
  · have he := sumB_bounds hs.2.1 b i (by omega)
    have hw := sumB_bounds hs.2.2 b i (by omega)
    have he2 := hs.2.1 i hi
    have hw2 := hs.2.2 i hi
    have hc : (setOf b i).length ≤ i := setOf_length b i
    have r0 : (rd_T114 l (i : Int)).f0 = fe l i := rfl
    have r1 : (rd_T114 l (i : Int)).f1 = fw l i := rfl
    simp only [impl_chosen.l0, r0, r1]
    rw [if_pos (by omega), if_pos (by omega), if_pos (by omega), wrap_next hi (by omega)]
    by_cases ht : b.testBit i = true
    · rw [if_pos ((bit_at b i (by omega) (by omega)).2 ht), if_pos (by omega), wrap_in (by omega) (by omega), wrap_in (by omega) (by omega)]
      conv => rhs; simp only [sumB, ht, ↓reduceIte, setOf]
    · rw [if_neg (fun h => ht ((bit_at b i (by omega) (by omega)).1 h))]
      conv => rhs; simp only [sumB, ht, ↓reduceIte, setOf, Bool.false_eq_true]
  · simp only [impl_chosen.l0]
    rw [if_neg (by omega)]
/-- What lies behind the first i elements of a choice: the least number that may follow, and the set of bits. -/
def least (c : List Int) : Nat → Nat
  | 0 => 0
  | i + 1 => (c.getD i 0).toNat + 1
def bup (c : List Int) : Nat → Nat
  | 0 => 0
  | i + 1 => bup c i ||| 2 ^ (c.getD i 0).toNat
def up (c : List Int) (n j : Nat) : Prop := (least c j : Int) ≤ c.getD j 0 ∧ c.getD j 0 ≤ (n : Int) - 1
theorem first_not (P : Nat → Prop) [DecidablePred P] : ∀ n, ∃ m, m ≤ n ∧ (∀ j, j < m → P j) ∧ (m = n ∨ ¬ P m)
  | 0 => ⟨0, Nat.le_refl _, fun j h => absurd h (Nat.not_lt_zero j), Or.inl rfl⟩
  | n + 1 => by
    obtain ⟨m, h1, h2, h3⟩ := first_not P n
    rcases h3 with h3 | h3
    · by_cases h : P m
      · refine ⟨m + 1, by omega, fun j hj => ?_, Or.inl (by omega)⟩
        rcases Nat.lt_succ_iff_lt_or_eq.1 hj with h4 | h4
        · exact h2 j h4
        · exact h4 ▸ h
      · exact ⟨m, by omega, h2, Or.inr h⟩
    · exact ⟨m, by omega, h2, Or.inr h3⟩
theorem up_bounds {c : List Int} {n m : Nat} (h : ∀ j, j < m → up c n j) : ∀ i, i ≤ m → i ≤ least c i ∧ least c i ≤ n ∧ bup c i < 2 ^ least c i
  | 0, _ => ⟨Nat.le_refl _, Nat.zero_le _, Nat.zero_lt_one⟩
  | i + 1, hi => by
    obtain ⟨h1, h2, h3⟩ := up_bounds h i (by omega)
    obtain ⟨h4, h5⟩ := h i (by omega)
    have hc : c.getD i 0 = (((c.getD i 0).toNat : Nat) : Int) := by omega
    refine ⟨?_, ?_, ?_⟩
    · simp only [least]; omega
    · simp only [least]; omega
    · simp only [least, bup]
      refine Nat.or_lt_two_pow (Nat.lt_of_lt_of_le h3 (Nat.pow_le_pow_right (by decide) (by omega))) (Nat.pow_lt_pow_right (by decide) (by omega))
theorem sumB_or (f : Nat → Int) (b c : Nat) (hb : b.testBit c = false) : ∀ n, sumB f (b ||| 2 ^ c) n = sumB f b n + (if c < n then f c else 0)
  | 0 => by simp [sumB]
  | n + 1 => by
    have ih := sumB_or f b c hb n
    unfold sumB
    rw [ih, Nat.testBit_or, Nat.testBit_two_pow]
    by_cases h : c = n
    · subst h
      rw [hb]
      simp
    · simp only [h, decide_false, Bool.or_false]
      by_cases h2 : c < n
      · simp only [h2, show c < n + 1 from by omega, ↓reduceIte]
        split <;> omega
      · simp only [h2, show ¬ c < n + 1 from by omega, ↓reduceIte]
        split <;> omega
theorem sumB_congr (f : Nat → Int) (a b : Nat) : ∀ n, (∀ i, i < n → a.testBit i = b.testBit i) → sumB f a n = sumB f b n
  | 0, _ => rfl
  | n + 1, h => by
    unfold sumB
    rw [sumB_congr f a b n (fun i hi => h i (by omega)), h n (by omega)]
theorem sumB_zero (f : Nat → Int) : ∀ n, sumB f 0 n = 0
  | 0 => rfl
  | n + 1 => by
    unfold sumB
    rw [Nat.zero_testBit, if_neg (by decide), sumB_zero f n]
/-- Lists in the order of their first difference. -/
def cmpL : List Int → List Int → Int
  | [], [] => 0
  | [], _ :: _ => -1
  | _ :: _, [] => 1
  | a :: x, b :: y => if a < b then -1 else if a > b then 1 else cmpL x y
def cmpI (a b : Int) : Int := if a < b then -1 else if a > b then 1 else 0
theorem cmpI_zero (a b : Int) : cmpI a b = 0 ↔ a = b := by
  unfold cmpI
  split
  · omega
  · split <;> omega
theorem cmpI_neg (a b : Int) : cmpI a b < 0 ↔ a < b := by
  unfold cmpI
  split
  · omega
  · split <;> omega
theorem drop_cons {l : List Int} {i : Nat} (h : i < l.length) : l.drop i = l.getD i 0 :: l.drop (i + 1) := by
  rw [List.drop_eq_getElem_cons h, getD_lt h]
theorem compare_f (a b : Int) : cmp_Compare_int.f a b = some (cmpI a b) := by
  simp only [cmp_Compare_int.f, cmp_isNaN_int.f, bne_self_eq_false, Option.bind_some, Bool.false_eq_true, ↓reduceIte, cmpI]
  split
  · rfl
  · split <;> rfl
theorem or_f (a b c : Int) (k : Nat) (hk : 3 < k) : cmp_Or_int.f k [a, b, c] = some (if a = 0 then (if b = 0 then c else b) else a) := by
  obtain ⟨q, rfl⟩ : ∃ q, k = q + 1 + 1 + 1 + 1 := ⟨k - 4, by omega⟩
  have r0 : rd [a, b, c] 0 = a := rfl
  have r1 : rd [a, b, c] 1 = b := rfl
  have r2 : rd [a, b, c] 2 = c := rfl
  have w1 : wrap64 (0 + 1) = 1 := wrap_in (by decide) (by decide)
  have w2 : wrap64 (1 + 1) = 2 := wrap_in (by decide) (by decide)
  have w3 : wrap64 (2 + 1) = 3 := wrap_in (by decide) (by decide)
  have n3 : (([a, b, c] : List Int).length : Int) = 3 := rfl
  simp only [cmp_Or_int.f, cmp_Or_int.l0, n3, r0, w1, r1, w2, r2, w3]
  simp only [show (0 : Int) < 3 from by decide, show (1 : Int) < 3 from by decide, show (2 : Int) < 3 from by decide, show ¬ (3 : Int) < 3 from by decide, show (0 : Int) ≤ 0 from by decide, show (0 : Int) ≤ 1 from by decide, show (0 : Int) ≤ 2 from by decide, ↓reduceIte]
  split
  · split
    · split
      · simp only [*]
      · rfl
    · rfl
  · rfl
theorem compareL_f (a b : List Int) (ha : a.length ≤ 1048576) (hb : b.length ≤ 1048576) (k : Nat) (hk : a.length < k) : slices_Compare_int_int.f k a b = some (cmpL a b) := by
  have key : ∀ d i k, a.length - i = d → i ≤ a.length → i ≤ b.length → d < k → slices_Compare_int_int.l0 k a b a (a.length : Int) (i : Int) = some (cmpL (a.drop i) (b.drop i)) := by
    intro d
    induction d with
    | zero =>
      intro i k h1 h2 h3 h4
      obtain ⟨q, rfl⟩ : ∃ q, k = q + 1 := ⟨k - 1, by omega⟩
      have hi : i = a.length := by omega
      simp only [slices_Compare_int_int.l0]
      rw [if_neg (by omega), hi, List.drop_length]
      by_cases h : a.length < b.length
      · rw [if_pos (by omega), drop_cons h]
        rfl
      · rw [if_neg (by omega), List.drop_of_length_le (by omega)]
        rfl
    | succ d ih =>
      intro i k h1 h2 h3 h4
      obtain ⟨q, rfl⟩ : ∃ q, k = q + 1 := ⟨k - 1, by omega⟩
      simp only [slices_Compare_int_int.l0]
      rw [if_pos (by omega), if_pos (by omega), if_pos (by omega), drop_cons (l := a) (by omega)]
      by_cases h : i < b.length
      · rw [if_neg (by omega), if_pos (by omega), compare_f, Option.bind_some, wrap_next (n := a.length) (by omega) (by omega), drop_cons h, rd_nat, rd_nat]
        unfold cmpI cmpL
        by_cases c1 : a.getD i 0 < b.getD i 0
        · simp only [c1, ↓reduceIte, Int.reduceNeg, Int.reduceEq]
        · by_cases c2 : a.getD i 0 > b.getD i 0
          · simp only [c1, c2, ↓reduceIte, Int.reduceEq]
          · simp only [c1, c2, ↓reduceIte]
            exact ih (i + 1) q (by omega) (by omega) (by omega) (by omega)
      · rw [if_pos (by omega), List.drop_of_length_le (l := b) (by omega)]
        rfl
  exact key a.length 0 k (by omega) (by omega) (by omega) hk
theorem getD_left (c : List Int) (x : Int) {i : Nat} (h : i < c.length) : (c ++ [x]).getD i 0 = c.getD i 0 := by
  rw [List.getD_eq_getElem?_getD, List.getElem?_append_left h, ← List.getD_eq_getElem?_getD]
theorem getD_end (c : List Int) (x : Int) : (c ++ [x]).getD c.length 0 = x := by
  rw [List.getD_eq_getElem?_getD, List.getElem?_append_right (Nat.le_refl _), Nat.sub_self]
  rfl
theorem least_left (c : List Int) (x : Int) : ∀ i, i ≤ c.length → least (c ++ [x]) i = least c i
  | 0, _ => rfl
  | i + 1, h => by simp only [least, getD_left c x (show i < c.length from h)]
theorem bup_left (c : List Int) (x : Int) : ∀ i, i ≤ c.length → bup (c ++ [x]) i = bup c i
  | 0, _ => rfl
  | i + 1, h => by simp only [bup, getD_left c x (show i < c.length from h), bup_left c x i (by omega)]
theorem setOf_up (b N : Nat) : ∀ n, n ≤ N → (∀ j, j < (setOf b n).length → up (setOf b n) N j) ∧ least (setOf b n) (setOf b n).length ≤ n ∧ ∀ i, (bup (setOf b n) (setOf b n).length).testBit i = (decide (i < n) && b.testBit i)
  | 0, _ => ⟨fun j h => absurd h (Nat.not_lt_zero j), Nat.le_refl _, fun i => by simp [setOf, bup]⟩
  | n + 1, h => by
    obtain ⟨h1, h2, h3⟩ := setOf_up b N n (by omega)
    unfold setOf
    by_cases hb : b.testBit n = true
    · rw [if_pos hb]
      have hl : (setOf b n ++ [(n : Int)]).length = (setOf b n).length + 1 := by simp
      rw [hl]
      refine ⟨fun j hj => ?_, ?_, fun i => ?_⟩
      · rcases Nat.lt_succ_iff_lt_or_eq.1 hj with h4 | h4
        · unfold up
          rw [least_left _ _ _ (by omega), getD_left _ _ h4]
          exact h1 j h4
        · unfold up
          rw [h4, least_left _ _ _ (Nat.le_refl _), getD_end]
          exact ⟨by omega, by omega⟩
      · simp only [least, getD_end, Int.toNat_natCast]
        omega
      · simp only [bup, getD_end, Int.toNat_natCast, bup_left _ _ _ (Nat.le_refl _), Nat.testBit_or, h3, Nat.testBit_two_pow]
        by_cases hi : i = n
        · subst hi
          simp [hb]
        · have e1 : decide (n = i) = false := decide_eq_false (fun e => hi e.symm)
          rw [e1, Bool.or_false]
          by_cases h5 : i < n
          · rw [decide_eq_true h5, decide_eq_true (by omega)]
          · rw [decide_eq_false h5, decide_eq_false (by omega)]
    · rw [if_neg hb]
      refine ⟨h1, by omega, fun i => ?_⟩
      rw [h3]
      by_cases hi : i = n
      · subst hi
        rw [Bool.eq_false_iff.2 hb, Bool.and_false, Bool.and_false]
      · by_cases h5 : i < n
        · rw [decide_eq_true h5, decide_eq_true (by omega)]
        · rw [decide_eq_false h5, decide_eq_false (by omega)]
theorem setOf_past (b n : Nat) (hb : b < 2 ^ n) : ∀ d, setOf b (n + d) = setOf b n
  | 0 => rfl
  | d + 1 => by
    show setOf b (n + d + 1) = _
    have h : b.testBit (n + d) = false := Nat.testBit_lt_two_pow (Nat.lt_of_lt_of_le hb (Nat.pow_le_pow_right (by decide) (by omega)))
    simp only [setOf, h, Bool.false_eq_true, ↓reduceIte]
    exact setOf_past b n hb d
theorem shl_one (n : Nat) (hn : n < 20) : shl .i64 1 (n : Int) = ((2 ^ n : Nat) : Int) := by
  have hp : 2 ^ n < 2 ^ 20 := Nat.pow_lt_pow_right (by decide) hn
  unfold shl
  rw [show min ((n : Int).toNat) IntKind.i64.bits = n from by simp [IntKind.bits]; omega, Int.one_mul, show ((2 : Int) ^ n) = ((2 ^ n : Nat) : Int) from by norm_cast]
  generalize 2 ^ n = m at hp ⊢
  rw [IntKind.wrap_i64]
  omega
/-- The best set behind the bits up to i, its energy and its worth. -/
def own (l : List S114) (b : Nat) : List Int × Int × Int := (setOf b l.length, sumB (fe l) b l.length, sumB (fw l) b l.length)
def ahead (s t : List Int × Int × Int) : Prop := t.2.2 < s.2.2 ∨ t.2.2 = s.2.2 ∧ (s.2.1 < t.2.1 ∨ s.2.1 = t.2.1 ∧ cmpL s.1 t.1 < 0)
instance (s t : List Int × Int × Int) : Decidable (ahead s t) := by unfold ahead; infer_instance
def run (l : List S114) (e : Int) : Nat → List Int × Int × Int
  | 0 => ([], 0, 0)
  | i + 1 => if (own l (i + 1)).2.1 > e then run l e i else if ahead (own l (i + 1)) (run l e i) then own l (i + 1) else run l e i
theorem run_is (l : List S114) (e : Int) : ∀ i, run l e i = ([], 0, 0) ∨ ∃ b, b ≤ i ∧ run l e i = own l b
  | 0 => Or.inl rfl
  | i + 1 => by
    unfold run
    split
    · rcases run_is l e i with h | ⟨b, h1, h2⟩
      · exact Or.inl h
      · exact Or.inr ⟨b, by omega, h2⟩
    · split
      · exact Or.inr ⟨i + 1, Nat.le_refl _, rfl⟩
      · rcases run_is l e i with h | ⟨b, h1, h2⟩
        · exact Or.inl h
        · exact Or.inr ⟨b, by omega, h2⟩
theorem run_length (l : List S114) (e : Int) (i : Nat) : (run l e i).1.length ≤ l.length := by
  rcases run_is l e i with h | ⟨b, _, h⟩
  · rw [h]
    exact Nat.zero_le _
  · rw [h]
    exact setOf_length b _
theorem best_f (l : List S114) (hs : okS l = true) (e : Int) (he : 0 ≤ e) (k : Nat) (hk : 2 ^ l.length + 25 < k) : impl_best.f k l e = some ((run l e (2 ^ l.length - 1)).1, (run l e (2 ^ l.length - 1)).2.1, (run l e (2 ^ l.length - 1)).2.2, true) := by
  have hS := small_of hs
  have h10 := hS.1
  have hp : 2 ^ l.length ≤ 2 ^ 10 := Nat.pow_le_pow_right (by decide) (by omega)
  have hp1 : 1 ≤ 2 ^ l.length := Nat.one_le_two_pow
  have hok : impl_PlansOk.f k l = some true := by rw [implPlans_f l (by omega) k (by omega)]; exact congrArg some hs
  obtain ⟨q, hq⟩ : ∃ q, k = q + 25 + 1 := ⟨k - 26, by omega⟩
  have hsh := shl_one l.length (by omega)
  simp only [impl_best.f, hok, Option.bind_some, ↓reduceIte]
  rw [hq]
  simp only [impl_best.j0]
  rw [decide_eq_false (by omega), if_neg (by decide), hsh]
  generalize hN : 2 ^ l.length = M at hp hp1 hk
  have hch : ∀ (b : Nat), b < M → ∀ q, 24 ≤ q → impl_chosen.f q l (b : Int) = some (own l b) := fun b hb q hq => chosen_f l hS b (by omega) q (by omega)
  have h1 : impl_best.l0 (q + 25) l e (M : Int) 0 [] 0 0 = impl_best.l0 (q + 24) l e (M : Int) ((0 + 1 : Nat) : Int) (run l e 0).1 (run l e 0).2.1 (run l e 0).2.2 := by
    have hz : own l 0 = ([], 0, 0) := by
      have a1 : setOf 0 l.length = [] := by
        have := setOf_past 0 0 (by decide) l.length
        rw [Nat.zero_add] at this
        exact this
      unfold own
      rw [a1, sumB_zero, sumB_zero]
    rw [show q + 25 = q + 24 + 1 from rfl]
    generalize hq' : q + 24 = q'
    have hc := hch 0 (by omega) q' (by omega)
    rw [hz, show ((0 : Nat) : Int) = 0 from rfl] at hc
    simp only [impl_best.l0, hc, Option.bind_some]
    rw [if_pos (by omega), if_neg (by omega), if_pos trivial, wrap_in (by decide) (by decide)]
    rfl
  rw [h1]
  refine loop_up (M - 1) (fun k (s : Int × List Int × Int × Int) => impl_best.l0 (k + 24) l e (M : Int) s.1 s.2.1 s.2.2.1 s.2.2.2) (fun i => (((i + 1 : Nat) : Int), run l e i)) _ (fun k i hi => ?_) (fun k => ?_) q (by omega)
  · dsimp only
    rw [show k + 1 + 24 = k + 24 + 1 from by omega]
    generalize hq' : k + 24 = q'
    have hc := hch (i + 1) (by omega) q' (by omega)
    have hr := run_length l e i
    have ho : (own l (i + 1)).1.length ≤ l.length := setOf_length _ _
    have hcl := compareL_f (own l (i + 1)).1 (run l e i).1 (by omega) (by omega) q' (by omega)
    simp only [impl_best.l0, hc, compare_f, hcl, or_f _ _ _ q' (show 3 < q' from by omega), Option.bind_some]
    rw [if_pos (by omega), if_neg (c := ((i + 1 : Nat) : Int) = 0) (by omega), wrap_next (n := M) (by omega) (by omega)]
    conv => rhs; simp only [run]
    generalize own l (i + 1) = o
    generalize run l e i = s
    by_cases h1 : o.2.1 > e
    · rw [if_pos h1, if_pos h1]
    · rw [if_neg h1, if_neg h1]
      have hiff : (if cmpI s.2.2 o.2.2 = 0 then (if cmpI o.2.1 s.2.1 = 0 then cmpL o.1 s.1 else cmpI o.2.1 s.2.1) else cmpI s.2.2 o.2.2) < 0 ↔ ahead o s := by
        have n1 := cmpI_neg s.2.2 o.2.2
        have n2 := cmpI_neg o.2.1 s.2.1
        unfold ahead
        by_cases g1 : s.2.2 = o.2.2
        · rw [if_pos ((cmpI_zero _ _).2 g1)]
          by_cases g2 : o.2.1 = s.2.1
          · rw [if_pos ((cmpI_zero _ _).2 g2)]
            omega
          · rw [if_neg (fun h => g2 ((cmpI_zero _ _).1 h))]
            omega
        · rw [if_neg (fun h => g1 ((cmpI_zero _ _).1 h))]
          omega
      by_cases h2 : ahead o s
      · rw [if_pos (hiff.2 h2), if_pos h2]
      · rw [if_neg (fun h => h2 (hiff.1 h)), if_neg h2]
  · dsimp only
    rw [show k + 1 + 24 = k + 24 + 1 from by omega]
    generalize k + 24 = q'
    simp only [impl_best.l0]
    rw [if_neg (by omega)]
theorem best_no (l : List S114) (hl : l.length ≤ 1048576) (e : Int) (h : okS l = false ∨ e < 0) (k : Nat) (hk : l.length < k) : impl_best.f (k + 1) l e = some ([], 0, 0, false) := by
  have hok : impl_PlansOk.f (k + 1) l = some (okS l) := by rw [implPlans_f l hl (k + 1) (by omega)]; rfl
  simp only [impl_best.f, hok, Option.bind_some, impl_best.j0]
  rcases h with h | h
  · rw [h]
    rfl
  · rw [decide_eq_true h]
    cases okS l <;> rfl
/-- The low byte of a number. -/
theorem byte_in (x : Int) : 0 ≤ Go.bits .and .i64 x 255 ∧ Go.bits .and .i64 x 255 ≤ 255 := by
  have h : Go.bits .and .i64 x 255 = (((BitVec.ofInt 64 x).toNat &&& 255 : Nat) : Int) := by
    show IntKind.i64.wrap ((BitVec.ofInt 64 x &&& BitVec.ofInt 64 255).toNat : Int) = _
    rw [BitVec.toNat_and, show (BitVec.ofInt 64 255).toNat = 255 from by decide]
    have h4 : (BitVec.ofInt 64 x).toNat &&& 255 ≤ 255 := Nat.and_le_right
    generalize (BitVec.ofInt 64 x).toNat &&& 255 = m at h4 ⊢
    rw [IntKind.wrap_i64]
    omega
  have h4 : (BitVec.ofInt 64 x).toNat &&& 255 ≤ 255 := Nat.and_le_right
  rw [h]
  omega
theorem drawByte_f (d : List Int) (hd : d.length ≤ 1048576) (p s : Int) (h0 : 0 ≤ p) : ∃ v p' s', spec_l01Byte.f d p s = some (v, p', s') ∧ 0 ≤ v ∧ v ≤ 255 ∧ 0 ≤ p' := by
  unfold spec_l01Byte.f
  by_cases h : p < (d.length : Int)
  · rw [if_pos h, if_pos h0, wrap_in (x := p + 1) (by omega) (by omega)]
    exact ⟨_, _, _, rfl, (byte_in _).1, (byte_in _).2, by omega⟩
  · rw [if_neg h]
    exact ⟨_, _, _, rfl, (byte_in _).1, (byte_in _).2, h0⟩
theorem drawBelow_f (d : List Int) (hd : d.length ≤ 1048576) (p s : Int) (h0 : 0 ≤ p) (n : Int) (hn : 0 < n) : ∃ v p' s', spec_l01Below.f d p s n = some (v, p', s') ∧ 0 ≤ v ∧ v < n ∧ 0 ≤ p' := by
  obtain ⟨v1, p1, s1, e1, a1, b1, c1⟩ := drawByte_f d hd p s h0
  obtain ⟨v2, p2, s2, e2, a2, b2, c2⟩ := drawByte_f d hd p1 s1 c1
  obtain ⟨v3, p3, s3, e3, a3, b3, c3⟩ := drawByte_f d hd p2 s2 c2
  obtain ⟨v4, p4, s4, e4, a4, b4, c4⟩ := drawByte_f d hd p3 s3 c3
  simp only [spec_l01Below.f, e1, e2, e3, e4, Option.bind_some]
  rw [if_neg (by omega)]
  by_cases h : n ≤ 256
  · rw [if_pos h, if_neg (by omega)]
    exact ⟨_, _, _, rfl, Int.tmod_nonneg _ a1, Int.tmod_lt_of_pos _ hn, c1⟩
  · rw [if_neg h, if_neg (by omega), wrap_in (x := v1 * 16777216) (by omega) (by omega), wrap_in (x := v2 * 65536) (by omega) (by omega), wrap_in (x := v3 * 256) (by omega) (by omega), wrap_in (x := v1 * 16777216 + v2 * 65536) (by omega) (by omega), wrap_in (x := v1 * 16777216 + v2 * 65536 + v3 * 256) (by omega) (by omega), wrap_in (by omega) (by omega)]
    exact ⟨_, _, _, rfl, Int.tmod_nonneg _ (by omega), Int.tmod_lt_of_pos _ hn, c4⟩
theorem drawNew_f (c : List Int) (hc : c.length ≤ 1048576) (k : Nat) (hk : c.length < k) : ∃ s, spec_l01New.f k c = some (c, 0, s) := by
  have key : ∀ d i k s, c.length - i = d → i ≤ c.length → d < k → ∃ s', spec_l01New.l0 k c s (i : Int) = some (c, 0, s') := by
    intro d
    induction d with
    | zero =>
      intro i k s h1 h2 h3
      obtain ⟨q, rfl⟩ : ∃ q, k = q + 1 := ⟨k - 1, by omega⟩
      simp only [spec_l01New.l0]
      rw [if_neg (by omega)]
      exact ⟨_, rfl⟩
    | succ d ih =>
      intro i k s h1 h2 h3
      obtain ⟨q, rfl⟩ : ∃ q, k = q + 1 := ⟨k - 1, by omega⟩
      simp only [spec_l01New.l0]
      rw [if_pos (by omega)]
      by_cases h : (i : Int) < 4000
      · rw [if_pos h, if_pos (by omega), wrap_next (n := c.length) (by omega) (by omega)]
        exact ih (i + 1) q _ (by omega) (by omega) (by omega)
      · rw [if_neg h]
        exact ⟨_, rfl⟩
  exact key c.length 0 k _ (by omega) (by omega) hk
theorem drawPlaces_f (c : List Int) (hc : c.length ≤ 1048576) (k : Nat) (hk : c.length + 12 < k) : ∃ p : List Int, spec_DrawPlaces.f k c = some p ∧ p.length = 12 ∧ ∀ i, i < 12 → 0 ≤ p.getD i 0 ∧ p.getD i 0 < 10000 := by
  obtain ⟨s, hs⟩ := drawNew_f c hc k (by omega)
  simp only [spec_DrawPlaces.f, hs, Option.bind_some]
  have key : ∀ d i k (g : List Int) (p s : Int), 12 - i = d → i ≤ 12 → d < k → 0 ≤ p → g.length = i → (∀ j, j < i → 0 ≤ g.getD j 0 ∧ g.getD j 0 < 10000) → ∃ r : List Int, spec_DrawPlaces.l0 k g (i : Int) c p s = some r ∧ r.length = 12 ∧ ∀ i, i < 12 → 0 ≤ r.getD i 0 ∧ r.getD i 0 < 10000 := by
    intro d
    induction d with
    | zero =>
      intro i k g p s h1 h2 h3 h4 h5 h6
      obtain ⟨q, rfl⟩ : ∃ q, k = q + 1 := ⟨k - 1, by omega⟩
      simp only [spec_DrawPlaces.l0]
      rw [if_neg (by omega)]
      exact ⟨g, rfl, by omega, fun j hj => h6 j (by omega)⟩
    | succ d ih =>
      intro i k g p s h1 h2 h3 h4 h5 h6
      obtain ⟨q, rfl⟩ : ∃ q, k = q + 1 := ⟨k - 1, by omega⟩
      obtain ⟨v, p', s', e, a1, a2, a3⟩ := drawBelow_f c hc p s h4 10000 (by decide)
      simp only [spec_DrawPlaces.l0, e, Option.bind_some]
      rw [if_pos (by omega), if_pos (by omega), wrap_next (n := 12) (by omega) (by omega)]
      refine ih (i + 1) q _ _ _ (by omega) (by omega) (by omega) a3 (by simp [h5]) (fun j hj => ?_)
      rcases Nat.lt_succ_iff_lt_or_eq.1 hj with h | h
      · rw [List.getD_eq_getElem?_getD, List.getElem?_append_left (by omega), ← List.getD_eq_getElem?_getD]
        exact h6 j h
      · rw [h, ← h5, List.getD_eq_getElem?_getD, List.getElem?_append_right (Nat.le_refl _), Nat.sub_self]
        exact ⟨a1, a2⟩
  exact key 12 0 k [] 0 s (by omega) (by omega) (by omega) (by omega) rfl (fun j hj => absurd hj (Nat.not_lt_zero j))
theorem drawPlans_f (c : List Int) (hc : c.length ≤ 1048576) (k : Nat) (hk : c.length + 12 < k) : ∃ l : List S114, spec_DrawPlans.f k c = some l ∧ l.length ≤ 6 ∧ ∀ i, i < l.length → okPlans (l.getD i z114) = true := by
  obtain ⟨s, hs⟩ := drawNew_f c hc k (by omega)
  simp only [spec_DrawPlans.f, spec_l33Plans.f, hs, Option.bind_some]
  have key : ∀ d i k (g : List S114) (p s : Int), 7 - i = d → i ≤ 6 → d < k → 0 ≤ p → g.length = i → (∀ j, j < i → okPlans (g.getD j z114) = true) → ∃ (r : List S114) (p' s' : Int), spec_l33Plans.l0 k g (i : Int) c p s = some (r, p', s') ∧ r.length ≤ 6 ∧ ∀ i, i < r.length → okPlans (r.getD i z114) = true := by
    intro d
    induction d with
    | zero =>
      intro i k g p s h1 h2 h3 h4 h5 h6
      omega
    | succ d ih =>
      intro i k g p s h1 h2 h3 h4 h5 h6
      obtain ⟨q, rfl⟩ : ∃ q, k = q + 1 := ⟨k - 1, by omega⟩
      obtain ⟨v, p', s', e, a1, a2, a3⟩ := drawBelow_f c hc p s h4 6 (by decide)
      obtain ⟨v2, p2, s2, e2, b1, b2, b3⟩ := drawBelow_f c hc p' s' a3 9 (by decide)
      obtain ⟨v3, p3, s3, e3, c1, c2, c3⟩ := drawBelow_f c hc p2 s2 b3 12 (by decide)
      simp only [spec_l33Plans.l0, e, e2, e3, Option.bind_some]
      by_cases h : (i : Int) < v
      · rw [if_pos h, if_pos (by omega), wrap_next (n := 12) (by omega) (by omega), wrap_in (x := v2 * 5) (by omega) (by omega)]
        refine ih (i + 1) q _ _ _ (by omega) (by omega) (by omega) c3 (by simp [h5]) (fun j hj => ?_)
        rcases Nat.lt_succ_iff_lt_or_eq.1 hj with h | h
        · rw [List.getD_eq_getElem?_getD, List.getElem?_append_left (by omega), ← List.getD_eq_getElem?_getD]
          exact h6 j h
        · rw [h, ← h5, List.getD_eq_getElem?_getD, List.getElem?_append_right (Nat.le_refl _), Nat.sub_self]
          show okPlans (⟨v2 * 5, v3⟩ : S114) = true
          simp only [okPlans, inB, Bool.and_eq_true, decide_eq_true_eq]
          omega
      · rw [if_neg h]
        exact ⟨g, _, _, rfl, by omega, fun j hj => h6 j (by omega)⟩
  obtain ⟨r, p', s', e, h1, h2⟩ := key 7 0 k [] 0 s (by omega) (by omega) (by omega) (by omega) rfl (fun j hj => absurd hj (Nat.not_lt_zero j))
  rw [show ((0 : Nat) : Int) = 0 from rfl] at e
  rw [e]
  exact ⟨r, rfl, h1, h2⟩
theorem own_zero (l : List S114) : own l 0 = ([], 0, 0) := by
  have a1 : setOf 0 l.length = [] := by
    have := setOf_past 0 0 (by decide) l.length
    rw [Nat.zero_add] at this
    exact this
  unfold own
  rw [a1, sumB_zero, sumB_zero]
theorem run_best (l : List S114) (e : Int) : ∀ i b, b ≤ i → (own l b).2.1 ≤ e → (own l b).2.2 < (run l e i).2.2 ∨ (own l b).2.2 = (run l e i).2.2 ∧ (run l e i).2.1 ≤ (own l b).2.1
  | 0, b, hb, _ => by
    have : b = 0 := by omega
    subst this
    rw [own_zero]
    exact Or.inr ⟨rfl, Int.le_refl _⟩
  | i + 1, b, hb, he => by
    have hrun : run l e (i + 1) = if (own l (i + 1)).2.1 > e then run l e i else if ahead (own l (i + 1)) (run l e i) then own l (i + 1) else run l e i := rfl
    rcases Nat.lt_succ_iff_lt_or_eq.1 (Nat.lt_succ_of_le hb) with h | h
    · have ih := run_best l e i b (by omega) he
      rw [hrun]
      split
      · exact ih
      · split
        · rename_i h2
          unfold ahead at h2
          omega
        · exact ih
    · subst h
      rw [hrun, if_neg (by omega)]
      split
      · exact Or.inr ⟨rfl, Int.le_refl _⟩
      · rename_i h2
        unfold ahead at h2
        omega
theorem run_own (l : List S114) (e : Int) (he : 0 ≤ e) : ∀ i, ∃ b, b ≤ i ∧ run l e i = own l b ∧ (own l b).2.1 ≤ e
  | 0 => ⟨0, Nat.le_refl _, (own_zero l).symm, by rw [own_zero]; exact he⟩
  | i + 1 => by
    obtain ⟨b, h1, h2, h3⟩ := run_own l e he i
    unfold run
    split
    · exact ⟨b, by omega, h2, h3⟩
    · split
      · exact ⟨i + 1, Nat.le_refl _, rfl, by omega⟩
      · exact ⟨b, by omega, h2, h3⟩
theorem okS_of {l : List S114} (h1 : l.length ≤ 10) (h2 : ∀ i, i < l.length → okPlans (l.getD i z114) = true) : okS l = true := by
  unfold okS
  rw [endsAt_last, Bool.and_eq_true, endsAt_true]
  exact ⟨fun j _ hj => h2 j (by omega), decide_eq_true (by omega)⟩
end Go.Proofs.Ytmnmafoojniclaa.PureFnMoreEnergy
