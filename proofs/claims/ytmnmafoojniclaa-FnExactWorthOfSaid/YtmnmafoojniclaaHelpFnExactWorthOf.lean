/- What the law FnExactWorthOf's helper functions (they copy, compare, mark) come to. Conditions: as each lemma says. -/
import Derived.Test.YtmnmafoojniclaaPFnExactWorthOfxL
import Derived.Test.YtmnmafoojniclaaXPure
namespace Go.Proofs.Ytmnmafoojniclaa.PureFnExactWorthOf
open Go.RowKit Go.Proofs.Ytmnmafoojniclaa.PFnExactWorthOf Go.Proofs.Ytmnmafoojniclaa.XPure Go.Proofs.YtmnmafoojniclaaW.PrintWords Go.Proofs.YtmnmafoojniclaaW.PrintLast Go.Proofs.YtmnmafoojniclaaW.PrintMore
set_option linter.unusedSimpArgs false
theorem toIntS_f (l : List Int) (hl : l.length ≤ 35184372088832) (k : Nat) (hk : l.length < k) : laws_toIntS.f k l = some l := by
  unfold laws_toIntS.f
  rw [if_pos (by omega), if_pos (by omega), Int.toNat_natCast]
  have h := loop_up l.length (fun k (s : List Int × Int) => laws_toIntS.l0 k l s.1 s.2) (fun i => (filled 0 id l i, (i : Int))) l (fun k i hi => by
    simp only [laws_toIntS.l0]
    rw [if_pos (by omega), if_pos (by omega), if_pos (by rw [filled_length _ _ _ _ (by omega)]; omega), wrap_next hi (by omega), rd_nat, Int.toNat_natCast, getD_lt hi, ← filled_set 0 id l i hi]
    rfl) (fun k => by
    simp only [laws_toIntS.l0]
    rw [if_neg (by omega), filled_all, List.map_id]) k hk
  simpa [filled_zero] using h
theorem eqIntS_f (l : List Int) (hl : l.length ≤ 35184372088832) (k : Nat) (hk : l.length < k) : laws_eqIntS.f k l l = some true := by
  unfold laws_eqIntS.f
  rw [if_pos rfl]
  exact loop_up l.length (fun k (s : Int) => laws_eqIntS.l0 k l l s) (fun i => (i : Int)) true (fun k i hi => by
    simp only [laws_eqIntS.l0]
    rw [if_pos (by omega), if_pos (by omega), if_pos (by omega), if_true, wrap_next hi (by omega)]) (fun k => by
    simp only [laws_eqIntS.l0]
    rw [if_neg (by omega)]) k hk
theorem toPlanS_f (l : List S116) (hl : l.length ≤ 1048576) (k : Nat) (hk : l.length < k) : laws_toPlanS.f k l = some (l.map fun x => (⟨x.f0, x.f1⟩ : S114)) := by
  unfold laws_toPlanS.f
  rw [if_pos (by omega), if_pos (by omega), Int.toNat_natCast]
  have h := loop_up l.length (fun k (s : List S114 × Int) => laws_toPlanS.l0 k l s.1 s.2) (fun i => (filled z114 (fun x : S116 => (⟨x.f0, x.f1⟩ : S114)) l i, (i : Int))) (l.map fun x => (⟨x.f0, x.f1⟩ : S114)) (fun k i hi => by
    simp only [laws_toPlanS.l0, laws_toPlan.f, Option.bind_some]
    rw [if_pos (by omega), if_pos (by omega), if_pos (by rw [filled_length _ _ _ _ (by omega)]; omega), wrap_next hi (by omega), ← filled_set z114 _ l i hi]
    simp only [rd_T116, Int.toNat_natCast, getD_lt hi]) (fun k => by
    simp only [laws_toPlanS.l0]
    rw [if_neg (by omega), filled_all]) k hk
  simpa [filled_zero] using h
theorem eqPlanS_f (l : List S114) (hl : l.length ≤ 1048576) (k : Nat) (hk : l.length < k) : laws_eqPlanS.f k l l = some true := by
  unfold laws_eqPlanS.f
  rw [if_pos rfl]
  exact loop_up l.length (fun k (s : Int) => laws_eqPlanS.l0 k l l s) (fun i => (i : Int)) true (fun k i hi => by
    simp only [laws_eqPlanS.l0, laws_eqPlan.f, if_true, Option.bind_some]
    rw [if_pos (by omega), if_pos (by omega), if_pos (by omega), wrap_next hi (by omega)]) (fun k => by
    simp only [laws_eqPlanS.l0]
    rw [if_neg (by omega)]) k hk
def inB (a b c : Int) : Bool := decide (a ≥ b) && decide (a ≤ c)
theorem in_f (a b c : Int) : spec_l01In.f a b c = some (inB a b c) := by
  unfold spec_l01In.f inB
  by_cases h : a ≥ b
  · rw [if_pos h, decide_eq_true h, Bool.true_and]
  · rw [if_neg h, decide_eq_false h, Bool.false_and]
theorem within_f (a b c : Int) : impl_within.f a b c = some (inB a b c) := in_f a b c
def okPlans (x : S114) : Bool := inB x.f0 0 1000 && (inB x.f1 0 1000)
theorem specPlans_f (l : List S114) (hl : l.length ≤ 1048576) (k : Nat) (hk : l.length < k) :
    spec_PlansOk.f k l = some (endsAt (fun i => okPlans (l.getD i z114)) (fun _ => false) (decide ((l.length : Int) ≤ 10)) l.length 0) := by
  unfold spec_PlansOk.f
  refine loop_ends l.length (fun k (s : Int) => spec_PlansOk.l0 k l s) (fun i => (i : Int)) _ _ _ (fun k i hi hc => ?_) (fun k i hi hc => ?_) (fun k => ?_) k hk
  · simp only [okPlans, Bool.and_eq_true] at hc
    simp only [spec_PlansOk.l0, rd_T114, Int.toNat_natCast, in_f, hc.1, hc.2, Option.bind_some, ↓reduceIte]
    rw [if_pos (by omega), if_pos (by omega), wrap_next hi (by omega)]
  · simp only [okPlans] at hc
    simp only [spec_PlansOk.l0, rd_T114, Int.toNat_natCast, in_f, Option.bind_some]
    rw [if_pos (by omega), if_pos (by omega)]
    cases h0 : inB (l.getD i z114).f0 0 1000 <;> cases h1 : inB (l.getD i z114).f1 0 1000 <;> rw [h0, h1] at hc <;> first | (cases hc; done) | simp only [Bool.false_eq_true, ↓reduceIte]
  · simp only [spec_PlansOk.l0]
    rw [if_neg (by omega)]
theorem badPlans_f (a0 a1 : Int) : impl_PlansOk_1.f a0 a1 = some (!(inB a0 0 1000 && (inB a1 0 1000))) := by
  simp only [impl_PlansOk_1.f, within_f, Option.bind_some]
  cases inB a0 0 1000 <;> cases inB a1 0 1000 <;> rfl
theorem implPlans_f (l : List S114) (hl : l.length ≤ 1048576) (k : Nat) (hk : l.length < k) :
    impl_PlansOk.f k l = some (endsAt (fun i => okPlans (l.getD i z114)) (fun _ => false) (decide ((l.length : Int) ≤ 10)) l.length 0) := by
  have h : impl_Plan_111_at_impl_PlansOk_1.f k l = some (endsAt (fun i => okPlans (l.getD i z114)) (fun i => (i : Int)) (-1) l.length 0) := by
    unfold impl_Plan_111_at_impl_PlansOk_1.f
    refine loop_ends l.length (fun k (s : Int) => impl_Plan_111_at_impl_PlansOk_1.l0 k l (l.length : Int) s) (fun i => (i : Int)) _ _ _ (fun k i hi hc => ?_) (fun k i hi hc => ?_) (fun k => ?_) k hk
    · have hb : impl_PlansOk_1.f (l.getD i z114).f0 (l.getD i z114).f1 = some false := by rw [badPlans_f]; simp only [okPlans] at hc; rw [hc]; rfl
      simp only [impl_Plan_111_at_impl_PlansOk_1.l0, rd_T114, Int.toNat_natCast, hb, Option.bind_some, Bool.false_eq_true, ↓reduceIte]
      rw [if_pos (by omega), if_pos (by omega), if_pos (by omega), wrap_next hi (by omega)]
    · have hb : impl_PlansOk_1.f (l.getD i z114).f0 (l.getD i z114).f1 = some true := by rw [badPlans_f]; simp only [okPlans] at hc; rw [hc]; rfl
      simp only [impl_Plan_111_at_impl_PlansOk_1.l0, rd_T114, Int.toNat_natCast, hb, Option.bind_some, ↓reduceIte]
      rw [if_pos (by omega), if_pos (by omega), if_pos (by omega)]
    · simp only [impl_Plan_111_at_impl_PlansOk_1.l0]
      rw [if_neg (by omega)]
  simp only [impl_PlansOk.f, impl_Plan_78_at_impl_PlansOk_1.f, h, Option.bind_some, endsAt_place, Bool.not_not]
  rw [endsAt_last (decide ((l.length : Int) ≤ 10))]
  by_cases h10 : (l.length : Int) ≤ 10
  · rw [if_pos h10, decide_eq_true h10, Bool.and_true]
  · rw [if_neg h10, decide_eq_false h10, Bool.and_false]
/-- A bit of a small number, as the program asks for it. -/
theorem bit_at (b i : Nat) (hb : b < 4611686018427387904) (hi : i < 63) : (Go.bits .and .i64 (shr .i64 (b : Int) (i : Int)) 1 = 1) ↔ b.testBit i = true := by
  have h1 : shr .i64 (b : Int) (i : Int) = ((b / 2 ^ i : Nat) : Int) := by
    unfold shr
    rw [show min ((i : Int).toNat) IntKind.i64.bits = i from by simp [IntKind.bits]; omega]
    norm_cast
  have hq : b / 2 ^ i ≤ b := Nat.div_le_self _ _
  have h2 : (BitVec.ofInt 64 ((b / 2 ^ i : Nat) : Int)).toNat = b / 2 ^ i := by
    rw [BitVec.ofInt_natCast, BitVec.toNat_ofNat]; exact Nat.mod_eq_of_lt (by omega)
  have h3 : Go.bits .and .i64 ((b / 2 ^ i : Nat) : Int) 1 = ((b / 2 ^ i % 2 : Nat) : Int) := by
    show IntKind.i64.wrap ((BitVec.ofInt 64 ((b / 2 ^ i : Nat) : Int) &&& BitVec.ofInt 64 1).toNat : Int) = _
    rw [BitVec.toNat_and, h2, show (BitVec.ofInt 64 1).toNat = 1 from by decide, Nat.and_one_is_mod]
    have h4 : b / 2 ^ i % 2 < 2 := Nat.mod_lt _ (by decide)
    generalize b / 2 ^ i % 2 = m at h4 ⊢
    rw [IntKind.wrap_i64]
    omega
  rw [h1, h3, Nat.testBit_eq_decide_div_mod_eq]
  simp only [decide_eq_true_eq]
  omega
/-- A small number with one more bit. -/
theorem bit_set (b i : Nat) (hb : b < 1048576) (hi : i < 20) : Go.bits .or .i64 (b : Int) (shl .i64 1 (i : Int)) = ((b ||| 2 ^ i : Nat) : Int) := by
  have hp : 2 ^ i < 2 ^ 20 := Nat.pow_lt_pow_right (by decide) hi
  have h1 : shl .i64 1 (i : Int) = ((2 ^ i : Nat) : Int) := by
    unfold shl
    rw [show min ((i : Int).toNat) IntKind.i64.bits = i from by simp [IntKind.bits]; omega, Int.one_mul]
    rw [show ((2 : Int) ^ i) = ((2 ^ i : Nat) : Int) from by norm_cast]
    generalize 2 ^ i = m at hp ⊢
    rw [IntKind.wrap_i64]
    omega
  have hx : b ||| 2 ^ i < 2 ^ 20 := Nat.or_lt_two_pow (by omega) hp
  have h2 : (BitVec.ofInt 64 (b : Int)).toNat = b := by
    rw [BitVec.ofInt_natCast, BitVec.toNat_ofNat]; exact Nat.mod_eq_of_lt (by omega)
  have h3 : (BitVec.ofInt 64 ((2 ^ i : Nat) : Int)).toNat = 2 ^ i := by
    rw [BitVec.ofInt_natCast, BitVec.toNat_ofNat]; exact Nat.mod_eq_of_lt (by omega)
  rw [h1]
  show IntKind.i64.wrap ((BitVec.ofInt 64 (b : Int) ||| BitVec.ofInt 64 ((2 ^ i : Nat) : Int)).toNat : Int) = _
  rw [BitVec.toNat_or, h2, h3]
  generalize b ||| 2 ^ i = m at hx ⊢
  rw [IntKind.wrap_i64]
  omega
/-- The numbers below n that are in a set of bits, and a sum over them. -/
def setOf (b : Nat) : Nat → List Int
  | 0 => []
  | i + 1 => if b.testBit i = true then setOf b i ++ [(i : Int)] else setOf b i
theorem setOf_length (b : Nat) : ∀ n, (setOf b n).length ≤ n
  | 0 => Nat.le_refl _
  | i + 1 => by
    have := setOf_length b i
    unfold setOf
    split
    · simp only [List.length_append, List.length_cons, List.length_nil]
      omega
    · omega
def sumB (f : Nat → Int) (b : Nat) : Nat → Int
  | 0 => 0
  | i + 1 => if b.testBit i = true then sumB f b i + f i else sumB f b i
theorem sumB_bounds {f : Nat → Int} {n : Nat} (h : ∀ i, i < n → 0 ≤ f i ∧ f i ≤ 1000) (b : Nat) : ∀ i, i ≤ n → 0 ≤ sumB f b i ∧ sumB f b i ≤ 1000 * (i : Int)
  | 0, _ => ⟨Int.le_refl _, Int.le_refl _⟩
  | i + 1, hi => by
    have := sumB_bounds h b i (by omega)
    have := h i (by omega)
    unfold sumB
    split <;> omega
/-- .. of the plans. -/
def fe (l : List S114) (i : Nat) : Int := (l.getD i z114).f0
def fw (l : List S114) (i : Nat) : Int := (l.getD i z114).f1
def small (l : List S114) : Prop := l.length ≤ 10 ∧ (∀ i, i < l.length → 0 ≤ fe l i ∧ fe l i ≤ 1000) ∧ (∀ i, i < l.length → 0 ≤ fw l i ∧ fw l i ≤ 1000)
/-- What PlansOk says. -/
def okS (l : List S114) : Bool := endsAt (fun i => okPlans (l.getD i z114)) (fun _ => false) (decide ((l.length : Int) ≤ 10)) l.length 0
theorem small_of {l : List S114} (h : okS l = true) : small l := by
  unfold okS at h
  rw [endsAt_last, Bool.and_eq_true, endsAt_true] at h
  have h2 : ∀ i, i < l.length → okPlans (l.getD i z114) = true := fun i hi => h.1 i (Nat.zero_le _) (by omega)
  have h3 := of_decide_eq_true h.2
  refine ⟨by omega, fun i hi => ?_, fun i hi => ?_⟩
  · have := h2 i hi
    simp only [okPlans, inB, Bool.and_eq_true, decide_eq_true_eq] at this
    unfold fe
    omega
  · have := h2 i hi
    simp only [okPlans, inB, Bool.and_eq_true, decide_eq_true_eq] at this
    unfold fw
    omega
theorem chosen_f (l : List S114) (hs : small l) (b : Nat) (hb : b < 1048576) (k : Nat) (hk : l.length < k) :
    impl_chosen.f k l (b : Int) = some (setOf b l.length, sumB (fe l) b l.length, sumB (fw l) b l.length) := by
  have h10 := hs.1
  unfold impl_chosen.f
  refine loop_up l.length (fun k (s : Int × List Int × Int × Int) => impl_chosen.l0 k (b : Int) l (l.length : Int) s.1 s.2.1 s.2.2.1 s.2.2.2) (fun i => ((i : Int), setOf b i, sumB (fe l) b i, sumB (fw l) b i)) (setOf b l.length, sumB (fe l) b l.length, sumB (fw l) b l.length) (fun k i hi => ?_) (fun k => ?_) k hk
  · have he := sumB_bounds hs.2.1 b i (by omega)
    have hw := sumB_bounds hs.2.2 b i (by omega)
    have he2 := hs.2.1 i hi
    have hw2 := hs.2.2 i hi
    have hc : (setOf b i).length ≤ i := setOf_length b i
    have r0 : (rd_T114 l (i : Int)).f0 = fe l i := rfl
    have r1 : (rd_T114 l (i : Int)).f1 = fw l i := rfl
    simp only [impl_chosen.l0, r0, r1]
    rw [if_pos (by omega), if_pos (by omega), if_pos (by omega), wrap_next hi (by omega)]
    by_cases ht : b.testBit i = true
    · rw [if_pos ((bit_at b i (by omega) (by omega)).2 ht), if_pos (by omega), wrap_in (by omega) (by omega), wrap_in (by omega) (by omega)]
      conv => rhs; simp only [sumB, ht, ↓reduceIte, setOf]
    · rw [if_neg (fun h => ht ((bit_at b i (by omega) (by omega)).1 h))]
      conv => rhs; simp only [sumB, ht, ↓reduceIte, setOf, Bool.false_eq_true]
  · simp only [impl_chosen.l0]
    rw [if_neg (by omega)]
/-- What lies behind the first i elements of a choice: the least number that may follow, and the set of bits. -/
def least (c : List Int) : Nat → Nat
  | 0 => 0
  | i + 1 => (c.getD i 0).toNat + 1
def bup (c : List Int) : Nat → Nat
  | 0 => 0
  | i + 1 => bup c i ||| 2 ^ (c.getD i 0).toNat
def up (c : List Int) (n j : Nat) : Prop := (least c j : Int) ≤ c.getD j 0 ∧ c.getD j 0 ≤ (n : Int) - 1
theorem first_not (P : Nat → Prop) [DecidablePred P] : ∀ n, ∃ m, m ≤ n ∧ (∀ j, j < m → P j) ∧ (m = n ∨ ¬ P m)
  | 0 => ⟨0, Nat.le_refl _, fun j h => absurd h (Nat.not_lt_zero j), Or.inl rfl⟩
  | n + 1 => by
    obtain ⟨m, h1, h2, h3⟩ := first_not P n
    rcases h3 with h3 | h3
    · by_cases h : P m
      · refine ⟨m + 1, by omega, fun j hj => ?_, Or.inl (by omega)⟩
        rcases Nat.lt_succ_iff_lt_or_eq.1 hj with h4 | h4
        · exact h2 j h4
        · exact h4 ▸ h
      · exact ⟨m, by omega, h2, Or.inr h⟩
    · exact ⟨m, by omega, h2, Or.inr h3⟩
theorem up_bounds {c : List Int} {n m : Nat} (h : ∀ j, j < m → up c n j) : ∀ i, i ≤ m → i ≤ least c i ∧ least c i ≤ n ∧ bup c i < 2 ^ least c i
  | 0, _ => ⟨Nat.le_refl _, Nat.zero_le _, Nat.zero_lt_one⟩
  | i + 1, hi => by
    obtain ⟨h1, h2, h3⟩ := up_bounds h i (by omega)
    obtain ⟨h4, h5⟩ := h i (by omega)
    have hc : c.getD i 0 = (((c.getD i 0).toNat : Nat) : Int) := by omega
    refine ⟨?_, ?_, ?_⟩
    · simp only [least]; omega
    · simp only [least]; omega
    · simp only [least, bup]
      refine Nat.or_lt_two_pow (Nat.lt_of_lt_of_le h3 (Nat.pow_le_pow_right (by decide) (by omega))) (Nat.pow_lt_pow_right (by decide) (by omega))
theorem sumB_or (f : Nat → Int) (b c : Nat) (hb : b.testBit c = false) : ∀ n, sumB f (b ||| 2 ^ c) n = sumB f b n + (if c < n then f c else 0)
  | 0 => by simp [sumB]
  | n + 1 => by
    have ih := sumB_or f b c hb n
    unfold sumB
    rw [ih, Nat.testBit_or, Nat.testBit_two_pow]
    by_cases h : c = n
    · subst h
      rw [hb]
      simp
    · simp only [h, decide_false, Bool.or_false]
      by_cases h2 : c < n
      · simp only [h2, show c < n + 1 from by omega, ↓reduceIte]
        split <;> omega
      · simp only [h2, show ¬ c < n + 1 from by omega, ↓reduceIte]
        split <;> omega
theorem sumB_congr (f : Nat → Int) (a b : Nat) : ∀ n, (∀ i, i < n → a.testBit i = b.testBit i) → sumB f a n = sumB f b n
  | 0, _ => rfl
  | n + 1, h => by
    unfold sumB
    rw [sumB_congr f a b n (fun i hi => h i (by omega)), h n (by omega)]
theorem sumB_zero (f : Nat → Int) : ∀ n, sumB f 0 n = 0
  | 0 => rfl
  | n + 1 => by
    unfold sumB
    rw [Nat.zero_testBit, if_neg (by decide), sumB_zero f n]
theorem specWorth_f (l : List S114) (hs : okS l = true) (c : List Int) (hcl : c.length ≤ 1048576) (m : Nat) (hm : m ≤ c.length) (h : ∀ j, j < m → up c l.length j) (he : m = c.length ∨ ¬ up c l.length m) (k : Nat) (hk : m + l.length + 1 < k) :
    spec_WorthOf.f k l c = some (if m = c.length then (sumB (fe l) (bup c m) l.length, sumB (fw l) (bup c m) l.length, true) else (0, 0, false)) := by
  have hS := small_of hs
  have h10 := hS.1
  have hok : ∀ q, l.length < q → spec_PlansOk.f q l = some true := fun q hq => by rw [specPlans_f l (by omega) q hq]; exact congrArg some hs
  unfold spec_WorthOf.f
  obtain ⟨q, hq⟩ : ∃ q, k = q + (l.length + 1) := ⟨k - (l.length + 1), by omega⟩
  rw [hq]
  have hz : sumB (fe l) (bup c 0) l.length = 0 := sumB_zero _ _
  have hz2 : sumB (fw l) (bup c 0) l.length = 0 := sumB_zero _ _
  have hL : spec_WorthOf.l0 (q + (l.length + 1)) l c (sumB (fe l) (bup c 0) l.length) (sumB (fw l) (bup c 0) l.length) ((least c 0 : Int) - 1) ((0 : Nat) : Int) = some (if m = c.length then (sumB (fe l) (bup c m) l.length, sumB (fw l) (bup c m) l.length, true) else (0, 0, false)) := by
    refine loop_up m (fun k (s : Int × Int × Int × Int) => spec_WorthOf.l0 (k + (l.length + 1)) l c s.1 s.2.1 s.2.2.1 s.2.2.2) (fun i => (sumB (fe l) (bup c i) l.length, sumB (fw l) (bup c i) l.length, (least c i : Int) - 1, (i : Int))) _ (fun k i hi => ?_) (fun k => ?_) q (by omega)
    · obtain ⟨b1, b2, b3⟩ := up_bounds h i (by omega)
      obtain ⟨h4, h5⟩ := h i hi
      have g1 := sumB_bounds hS.2.1 (bup c i) l.length (Nat.le_refl _)
      have g2 := sumB_bounds hS.2.2 (bup c i) l.length (Nat.le_refl _)
      obtain ⟨d, hd⟩ : ∃ d : Nat, c.getD i 0 = (d : Int) := ⟨(c.getD i 0).toNat, by omega⟩
      have g3 := hS.2.1 d (by omega)
      have g4 := hS.2.2 d (by omega)
      have ht : (bup c i).testBit d = false := Nat.testBit_lt_two_pow (Nat.lt_of_lt_of_le b3 (Nat.pow_le_pow_right (by decide) (by omega)))
      have r0 : (rd_T114 l (d : Int)).f0 = fe l d := rfl
      have r1 : (rd_T114 l (d : Int)).f1 = fw l d := rfl
      have n1 : bup c (i + 1) = bup c i ||| 2 ^ d := by simp only [bup, hd, Int.toNat_natCast]
      have n2 : least c (i + 1) = d + 1 := by simp only [least, hd, Int.toNat_natCast]
      dsimp only
      rw [show k + 1 + (l.length + 1) = k + (l.length + 1) + 1 from by omega]
      generalize hq' : k + (l.length + 1) = q'
      rw [n1, n2, sumB_or _ _ _ ht, sumB_or _ _ _ ht, if_pos (by omega), if_pos (by omega)]
      simp only [spec_WorthOf.l0, hok q' (by omega), in_f, inB, rd_nat, hd, r0, r1, Option.bind_some, ↓reduceIte]
      rw [if_pos (by omega), if_pos (by omega), wrap_in (by omega) (by omega), wrap_in (by omega) (by omega), decide_eq_true (by omega), decide_eq_true (by omega), if_pos (by rfl), if_pos (by omega), if_pos (by omega), wrap_in (by omega) (by omega), wrap_in (by omega) (by omega), wrap_next (n := m) hi (by omega)]
      congr 1
      omega
    · dsimp only
      rw [show k + 1 + (l.length + 1) = k + (l.length + 1) + 1 from by omega]
      generalize hq' : k + (l.length + 1) = q'
      obtain ⟨b1, b2, b3⟩ := up_bounds h m (Nat.le_refl _)
      simp only [spec_WorthOf.l0, hok q' (by omega), in_f, inB, rd_nat, Option.bind_some, ↓reduceIte]
      by_cases hmc : m = c.length
      · rw [if_neg (by omega), if_pos hmc]
      · have hn := he.resolve_left hmc
        rw [if_pos (by omega), if_pos (by omega), if_neg hmc, wrap_in (by omega) (by omega), wrap_in (by omega) (by omega)]
        rw [if_neg]
        intro hh
        simp only [Bool.and_eq_true, decide_eq_true_eq] at hh
        exact hn ⟨by omega, by omega⟩
  rw [hz, hz2] at hL
  exact hL
theorem implWorth_f (l : List S114) (hs : okS l = true) (c : List Int) (hcl : c.length ≤ 1048576) (m : Nat) (hm : m ≤ c.length) (h : ∀ j, j < m → up c l.length j) (he : m = c.length ∨ ¬ up c l.length m) (k : Nat) (hk : m + l.length + 1 < k) :
    impl_WorthOf.f k l c = some (if m = c.length then (sumB (fe l) (bup c m) l.length, sumB (fw l) (bup c m) l.length, true) else (0, 0, false)) := by
  have hS := small_of hs
  have h10 := hS.1
  have hok : ∀ q, l.length < q → impl_PlansOk.f q l = some true := fun q hq => by rw [implPlans_f l (by omega) q hq]; exact congrArg some hs
  have hsz : ∀ i, i ≤ m → bup c i < 1048576 := fun i hi => by
    obtain ⟨b1, b2, b3⟩ := up_bounds h i hi
    have b4 : 2 ^ least c i ≤ 2 ^ 10 := Nat.pow_le_pow_right (by decide) (by omega)
    omega
  unfold impl_WorthOf.f
  obtain ⟨q, hq⟩ : ∃ q, k = q + (l.length + 1) := ⟨k - (l.length + 1), by omega⟩
  rw [hq]
  change impl_WorthOf.l0 (q + (l.length + 1)) l c ((bup c 0 : Nat) : Int) c (c.length : Int) ((0 : Nat) : Int) = _
  refine loop_up m (fun k (s : Int × Int) => impl_WorthOf.l0 (k + (l.length + 1)) l c s.1 c (c.length : Int) s.2) (fun i => (((bup c i : Nat) : Int), (i : Int))) _ (fun k i hi => ?_) (fun k => ?_) q (by omega)
  · obtain ⟨b1, b2, b3⟩ := up_bounds h i (by omega)
    obtain ⟨h4, h5⟩ := h i hi
    obtain ⟨d, hd⟩ : ∃ d : Nat, c.getD i 0 = (d : Int) := ⟨(c.getD i 0).toNat, by omega⟩
    have hb := hsz i (by omega)
    have n1 : bup c (i + 1) = bup c i ||| 2 ^ d := by simp only [bup, hd, Int.toNat_natCast]
    have hin : inB (d : Int) 0 ((l.length : Int) - 1) = true := by
      simp only [inB, Bool.and_eq_true, decide_eq_true_eq]
      omega
    have hset := bit_set (bup c i) d hb (by omega)
    dsimp only
    rw [show k + 1 + (l.length + 1) = k + (l.length + 1) + 1 from by omega]
    generalize hq' : k + (l.length + 1) = q'
    rw [n1]
    simp only [impl_WorthOf.l0, hok q' (by omega), within_f, Option.bind_some, ↓reduceIte]
    rw [show rd c (i : Int) = (d : Int) from hd, hset]
    rw [if_pos (by omega), if_pos (by omega), if_pos (by omega), wrap_in (x := (l.length : Int) - 1) (by omega) (by omega), if_pos hin, wrap_next (n := m) hi (by omega), if_pos (c := 0 ≤ (d : Int)) (by omega)]
    cases i with
    | zero => rw [if_neg (by omega)]
    | succ i' =>
      have hp : least c (i' + 1) = (c.getD i' 0).toNat + 1 := rfl
      rw [if_pos (by omega), wrap_in (by omega) (by omega), if_pos (by omega), if_pos (by omega), show ((i' + 1 : Nat) : Int) - 1 = (i' : Int) from by omega, rd_nat, if_neg (by omega)]
  · dsimp only
    rw [show k + 1 + (l.length + 1) = k + (l.length + 1) + 1 from by omega]
    generalize hq' : k + (l.length + 1) = q'
    obtain ⟨b1, b2, b3⟩ := up_bounds h m (Nat.le_refl _)
    have hc := chosen_f l hS (bup c m) (hsz m (Nat.le_refl _)) q' (by omega)
    simp only [impl_WorthOf.l0, hok q' (by omega), hc, within_f, inB, rd_nat, Option.bind_some, ↓reduceIte]
    by_cases hmc : m = c.length
    · rw [if_neg (by omega), if_pos hmc]
    · have hn := he.resolve_left hmc
      rw [if_pos (by omega), if_pos (by omega), if_pos (by omega), if_neg hmc, wrap_in (x := (l.length : Int) - 1) (by omega) (by omega)]
      by_cases hin : c.getD m 0 ≥ 0 ∧ c.getD m 0 ≤ (l.length : Int) - 1
      · rw [decide_eq_true hin.1, decide_eq_true hin.2, if_pos (by rfl)]
        cases m with
        | zero => exact absurd ⟨by simp only [least]; omega, hin.2⟩ hn
        | succ i' =>
          have hp : least c (i' + 1) = (c.getD i' 0).toNat + 1 := rfl
          have hpp := (h i' (by omega)).1
          rw [if_pos (by omega), wrap_in (by omega) (by omega), if_pos (by omega), if_pos (by omega), show ((i' + 1 : Nat) : Int) - 1 = (i' : Int) from by omega, rd_nat, if_pos]
          by_cases hle : c.getD (i' + 1) 0 ≤ c.getD i' 0
          · exact hle
          · exact absurd ⟨by omega, hin.2⟩ hn
      · rw [if_neg]
        intro hh
        simp only [Bool.and_eq_true, decide_eq_true_eq] at hh
        exact hin hh
theorem specWorth_no (l : List S114) (hl : l.length ≤ 1048576) (hs : okS l = false) (c : List Int) (hcl : c.length ≤ 1048576) (k : Nat) (hk : l.length < k) : spec_WorthOf.f (k + 1) l c = some (0, 0, false) := by
  have hok : spec_PlansOk.f k l = some false := by rw [specPlans_f l hl k hk]; exact congrArg some hs
  simp only [spec_WorthOf.f, spec_WorthOf.l0, hok, Option.bind_some, Bool.false_eq_true, ↓reduceIte]
  split <;> rfl
theorem implWorth_no (l : List S114) (hl : l.length ≤ 1048576) (hs : okS l = false) (c : List Int) (hcl : c.length ≤ 1048576) (k : Nat) (hk : l.length < k) : impl_WorthOf.f (k + 1) l c = some (0, 0, false) := by
  have hok : impl_PlansOk.f k l = some false := by rw [implPlans_f l hl k hk]; exact congrArg some hs
  simp only [impl_WorthOf.f, impl_WorthOf.l0, hok, within_f, Option.bind_some, Bool.false_eq_true, ↓reduceIte, Int.lt_irrefl, gt_iff_lt]
  by_cases h : (0 : Int) < (c.length : Int)
  · rw [if_pos h, if_pos (by omega), if_pos h]
    cases inB (rd c 0) 0 (wrap64 ((l.length : Int) - 1)) <;> rfl
  · rw [if_neg h]
end Go.Proofs.Ytmnmafoojniclaa.PureFnExactWorthOf
