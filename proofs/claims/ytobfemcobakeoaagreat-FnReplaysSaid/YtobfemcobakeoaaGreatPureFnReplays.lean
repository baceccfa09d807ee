/- The plain law of FnReplays. No conditions. -/
import Derived.Test.YtobfemcobakeoaaGreatEvLFnReplays
import Derived.Test.YtobfemcobakeoaaGreatLibP
namespace Go.Proofs.YtobfemcobakeoaaGreat.Pure
open Go.RowKit Go.Proofs.YtobfemcobakeoaaGreatEv Go.Proofs.YtobfemcobakeoaaGreat.Ev
set_option linter.unusedVariables false
set_option linter.unusedSimpArgs false
set_option maxRecDepth 20000
/-- A number between two. -/
def inB (x a b : Int) : Bool := decide (x ≥ a) && decide (x ≤ b)
theorem spec_l01In_f (x a b : Int) : spec_l01In.f x a b = some (inB x a b) := by
  simp only [spec_l01In.f, spec_l01In.begin, Tr.do_ite, Tr.do_ret, inB]
  cases decide (x ≥ a) <;> simp
theorem impl_within_f (x a b : Int) : impl_within.f x a b = some (inB x a b) := by
  simp only [impl_within.f, impl_within.begin, Tr.do_ite, Tr.do_ret, inB]
  cases decide (x ≥ a) <;> simp
def okX (a b c : Int) : Bool := inB a 1 7 && (inB b (-8) 999 && inB c (-8) 999)
theorem spec_ExprOk_f (a b c : Int) : spec_ExprOk.f a b c = some (okX a b c) := by
  simp only [spec_ExprOk.f, spec_ExprOk.begin, Tr.do_call, Tr.do_ite, Tr.do_ret, spec_l01In.told, spec_l01In_f, spec_OperandOk.told, spec_OperandOk.f, spec_OperandOk.begin, bind_ok, okX]
  cases inB a 1 7 <;> cases inB b (-8) 999 <;> rfl
theorem impl_ExprOk_f (a b c : Int) : impl_ExprOk.f a b c = some (okX a b c) := by
  simp only [impl_ExprOk.f, impl_ExprOk.begin, Tr.do_call, Tr.do_ite, Tr.do_ret, impl_within.told, impl_within_f, impl_OperandOk.told, impl_OperandOk.f, impl_OperandOk.begin, bind_ok, okX]
  cases inB a 1 7 <;> cases inB b (-8) 999 <;> rfl
/-- A valid statement. -/
def okSt (x0 x1 x2 x3 x4 x5 : Int) : Bool :=
  if x0 = 1 then decide (x2 = 0) && (inB x1 0 7 && okX x3 x4 x5)
  else if x0 = 2 then (decide (x3 = 0) && (decide (x4 = 0) && decide (x5 = 0))) && (inB x1 0 7 && inB x2 0 3)
  else if x0 = 3 ∨ x0 = 4 then decide (x1 = 0) && (decide (x2 = 0) && okX x3 x4 x5)
  else if x0 = 5 then decide (x1 = 0) && ((decide (x3 = 0) && (decide (x4 = 0) && decide (x5 = 0))) && inB x2 1 5)
  else if x0 = 6 then decide (x1 = 0) && (decide (x2 = 0) && (decide (x3 = 0) && (decide (x4 = 0) && decide (x5 = 0))))
  else false
theorem plain_c (a b c d e f g h i j k l : Int) : lp spec_l04Plain.tree (.c14 a b c d e f g h i j k l) = some (g, h, i, j, k, l) := by
  rw [lp_eq]
  rfl
theorem spec_StmtOk_f (x0 x1 x2 x3 x4 x5 : Int) : spec_StmtOk.f x0 x1 x2 x3 x4 x5 = some (okSt x0 x1 x2 x3 x4 x5) := by
  unfold okSt
  simp only [spec_StmtOk.f, spec_StmtOk.begin, spec_l04Plain.told, spec_l04Plain.f, spec_l04Plain.begin, Tr.do_call, Tr.do_ite, Tr.do_ret, Tr.do_last, Tr.do_val, Tr.do_jump, plain_c, spec_l01In.told, spec_l01In_f, spec_ExprOk.told, spec_ExprOk_f, bind_ok, decide_eq_true_eq]
  by_cases h1 : x0 = 1
  · simp only [h1, ↓reduceIte, bind_ok]
    by_cases h2 : x2 = 0 <;> cases inB x1 0 7 <;> simp [h2]
  by_cases h2 : x0 = 2
  · simp only [h2, ↓reduceIte, bind_ok]
    by_cases g3 : x3 = 0 <;> by_cases g4 : x4 = 0 <;> by_cases g5 : x5 = 0 <;> cases inB x1 0 7 <;> simp [g3, g4, g5]
  by_cases h3 : x0 = 3
  · simp only [h3, ↓reduceIte, bind_ok]
    by_cases g1 : x1 = 0 <;> by_cases g2 : x2 = 0 <;> simp [g1, g2]
  by_cases h4 : x0 = 4
  · simp only [h4, ↓reduceIte, bind_ok]
    by_cases g1 : x1 = 0 <;> by_cases g2 : x2 = 0 <;> simp [g1, g2]
  by_cases h5 : x0 = 5
  · simp only [h5, ↓reduceIte, bind_ok]
    by_cases g1 : x1 = 0 <;> by_cases g3 : x3 = 0 <;> by_cases g4 : x4 = 0 <;> by_cases g5 : x5 = 0 <;> simp [g1, g3, g4, g5]
  simp only [h1, h2, h3, h4, h5, ↓reduceIte, bind_ok, or_self]
  by_cases g1 : x1 = 0 <;> by_cases g2 : x2 = 0 <;> by_cases g3 : x3 = 0 <;> by_cases g4 : x4 = 0 <;> by_cases g5 : x5 = 0 <;> by_cases h6 : x0 = 6 <;> simp [g1, g2, g3, g4, g5, h6]
theorem impl_StmtOk_c5 (x0 x1 x2 x3 x4 x5 : Int) : lp impl_StmtOk.tree (.c5 x0 x1 x2 x3 x4 x5) = some (if x0 = 2 then inB x2 0 3 else if x0 = 5 then inB x2 1 5 else decide (x2 = 0)) := by
  rw [lp_eq]
  simp only [impl_StmtOk.tree, Tr.do_call, Tr.do_ite, Tr.do_ret, impl_isSensor.told, impl_isSensor.f, impl_isSensor.begin, impl_within.told, impl_within_f, bind_ok, decide_eq_true_eq]
  split
  · rfl
  · split <;> rfl
theorem impl_StmtOk_c3 (x0 x1 x2 x3 x4 x5 : Int) : lp impl_StmtOk.tree (.c3 x0 x1 x2 x3 x4 x5) = some (if x0 = 1 ∨ x0 = 3 ∨ x0 = 4 then okX x3 x4 x5 && decide (x2 = 0) else (decide (x3 = 0) && (decide (x4 = 0) && decide (x5 = 0))) && (if x0 = 2 then inB x2 0 3 else if x0 = 5 then inB x2 1 5 else decide (x2 = 0))) := by
  rw [lp_eq]
  simp only [impl_StmtOk.tree, Tr.do_call, Tr.do_ite, Tr.do_ret, Tr.do_val, Tr.do_jump, impl_hasExpr.told, impl_hasExpr.f, impl_hasExpr.begin, impl_ExprOk.told, impl_ExprOk_f, impl_StmtOk_c5, bind_ok, decide_eq_true_eq]
  by_cases h1 : x0 = 1
  · cases hx : okX x3 x4 x5 <;> simp [h1]
  by_cases h3 : x0 = 3
  · cases hx : okX x3 x4 x5 <;> simp [h3]
  by_cases h4 : x0 = 4
  · cases hx : okX x3 x4 x5 <;> simp [h4]
  by_cases g3 : x3 = 0 <;> by_cases g4 : x4 = 0 <;> by_cases g5 : x5 = 0 <;> simp [h1, h3, h4, g3, g4, g5]
theorem impl_StmtOk_f (x0 x1 x2 x3 x4 x5 : Int) : impl_StmtOk.f x0 x1 x2 x3 x4 x5 = some (okSt x0 x1 x2 x3 x4 x5) := by
  unfold okSt
  simp only [impl_StmtOk.f, impl_StmtOk.begin, Tr.do_call, Tr.do_ite, Tr.do_ret, Tr.do_val, Tr.do_jump, impl_hasVar.told, impl_hasVar.f, impl_hasVar.begin, impl_isVar.told, impl_isVar.f, impl_isVar.begin, impl_within.told, impl_within_f, impl_StmtOk_c3, bind_ok, decide_eq_true_eq]
  by_cases h1 : x0 = 1
  · subst h1
    rw [show inB 1 1 6 = true from rfl]
    cases inB x1 0 7 <;> cases okX x3 x4 x5 <;> simp
  by_cases h2 : x0 = 2
  · subst h2
    rw [show inB 2 1 6 = true from rfl]
    cases inB x1 0 7 <;> simp
  by_cases h3 : x0 = 3
  · subst h3
    rw [show inB 3 1 6 = true from rfl]
    by_cases g1 : x1 = 0 <;> cases okX x3 x4 x5 <;> simp [g1]
  by_cases h4 : x0 = 4
  · subst h4
    rw [show inB 4 1 6 = true from rfl]
    by_cases g1 : x1 = 0 <;> cases okX x3 x4 x5 <;> simp [g1]
  by_cases h5 : x0 = 5
  · subst h5
    rw [show inB 5 1 6 = true from rfl]
    by_cases g1 : x1 = 0 <;> simp [g1]
  by_cases h6 : x0 = 6
  · subst h6
    rw [show inB 6 1 6 = true from rfl]
    by_cases g1 : x1 = 0 <;> by_cases g2 : x2 = 0 <;> simp [g1, g2]
  · have hb : inB x0 1 6 = false := by
      unfold inB
      by_cases q : x0 ≥ 1
      · rw [decide_eq_true q, decide_eq_false (by omega)]
        rfl
      · rw [decide_eq_false q, Bool.false_and]
    simp [hb, h1, h2, h3, h4, h5, h6]
/-- The depth behind a statement. -/
def dep (x0 d : Int) : Int := if x0 = 4 ∨ x0 = 5 then d + 1 else if x0 = 6 then d - 1 else d
/-- Is a block valid from here on, at depth d? -/
def okB (n : Nat) : List S210 → Int → Bool
  | [], d => decide (d = 0) && decide ((n : Int) ≤ 24)
  | s :: l, d => okSt s.f0 s.f1 s.f2 s.f3.f0 s.f3.f1 s.f3.f2 && (inB (dep s.f0 d) 0 3 && okB n l (dep s.f0 d))
def stepB (d : Int) (s : S210) : Int ⊕ Bool := if okSt s.f0 s.f1 s.f2 s.f3.f0 s.f3.f1 s.f3.f2 = true then (if inB (dep s.f0 d) 0 3 = true then .inl (dep s.f0 d) else .inr false) else .inr false
theorem scan_okB (n : Nat) : ∀ (l : List S210) (d : Int), scan stepB (fun d => decide (d = 0) && decide ((n : Int) ≤ 24)) l d = okB n l d
  | [], d => rfl
  | s :: l, d => by
    unfold scan stepB okB
    cases okSt s.f0 s.f1 s.f2 s.f3.f0 s.f3.f1 s.f3.f2
    · rfl
    · cases inB (dep s.f0 d) 0 3
      · rfl
      · exact scan_okB n l _
theorem dep_wr {x d : Int} (h0 : 0 ≤ d) (h1 : d ≤ 3) : wr (d + 1) = d + 1 ∧ wr (d - 1) = d - 1 ∧ wr (d + 1 - 1) = d + 1 - 1 := ⟨wr_in (by omega), wr_in (by omega), wr_in (by omega)⟩
theorem inB_iff {x a b : Int} : inB x a b = true ↔ a ≤ x ∧ x ≤ b := by simp [inB]
theorem spec_BlockOk_f (l : List S210) (hl : l.length ≤ 1048576) : spec_BlockOk.f l = some (okB l.length l 0) := by
  simp only [spec_BlockOk.f, spec_BlockOk.begin, Tr.do_jump]
  rw [← scan_okB]
  refine scan_loop l stepB _ (fun _ d => 0 ≤ d ∧ d ≤ 3) (fun i d => lp spec_BlockOk.tree (.c3 l d (i : Int))) 0 ⟨by omega, by omega⟩ (fun i h d hd => ?_) (fun d hd => ?_)
  · obtain ⟨w1, w2, w3⟩ := dep_wr (x := d) hd.1 hd.2
    have w7 : wr ((i : Int) + 1) = ((i + 1 : Nat) : Int) := wr_next (by omega)
    have step : lp spec_BlockOk.tree (.c3 l d (i : Int)) = if okSt l[i].f0 l[i].f1 l[i].f2 l[i].f3.f0 l[i].f3.f1 l[i].f3.f2 = true then (if inB (dep l[i].f0 d) 0 3 = true then lp spec_BlockOk.tree (.c3 l (dep l[i].f0 d) ((i + 1 : Nat) : Int)) else some false) else some false := by
      rw [lp_eq]
      simp only [spec_BlockOk.tree, Tr.do_ite, Tr.do_need, Tr.do_call, Tr.do_ret, Tr.do_jump, spec_StmtOk.told, spec_StmtOk_f, spec_l01In.told, spec_l01In_f, getD_lt h, lt_dec h, in_lt h, and_self, decide_true, ↓reduceIte, bind_ok, w1, w2, w7]
      cases okSt l[i].f0 l[i].f1 l[i].f2 l[i].f3.f0 l[i].f3.f1 l[i].f3.f2
      · rfl
      · unfold dep
        by_cases h4 : l[i].f0 = 4
        · cases hb : inB (d + 1) 0 3 <;> simp [h4, hb]
        · by_cases h5 : l[i].f0 = 5
          · cases hb : inB (d + 1) 0 3 <;> simp [h4, h5, hb]
          · by_cases h6 : l[i].f0 = 6
            · cases hb : inB (d - 1) 0 3 <;> simp [h4, h5, h6, hb]
            · cases hb : inB d 0 3 <;> simp [h4, h5, h6, hb]
    rw [step]
    unfold stepB
    cases okSt l[i].f0 l[i].f1 l[i].f2 l[i].f3.f0 l[i].f3.f1 l[i].f3.f2
    · exact ⟨fun s' hs' => (by cases hs'), fun r hr => (by cases hr; rfl)⟩
    · cases hb : inB (dep l[i].f0 d) 0 3
      · exact ⟨fun s' hs' => (by cases hs'), fun r hr => (by cases hr; rfl)⟩
      · exact ⟨fun s' hs' => (by cases hs'; exact ⟨rfl, inB_iff.mp hb⟩), fun r hr => (by cases hr)⟩
  · rw [lp_eq]
    simp only [spec_BlockOk.tree, Tr.do_ite, Tr.do_ret, ge_dec, Bool.false_eq_true, ↓reduceIte]
    cases decide (d = 0) <;> rfl
theorem impl_BlockOk_f (l : List S210) (hl : l.length ≤ 1048576) : impl_BlockOk.f l = some (okB l.length l 0) := by
  simp only [impl_BlockOk.f, impl_BlockOk.begin, Tr.do_jump]
  rw [← scan_okB]
  refine scan_loop l stepB _ (fun _ d => 0 ≤ d ∧ d ≤ 3) (fun i d => lp impl_BlockOk.tree (.c3 l d l (List.length l : Int) (i : Int))) 0 ⟨by omega, by omega⟩ (fun i h d hd => ?_) (fun d hd => ?_)
  · obtain ⟨w1, w2, w3⟩ := dep_wr (x := d) hd.1 hd.2
    have w7 : wr ((i : Int) + 1) = ((i + 1 : Nat) : Int) := wr_next (by omega)
    have c12 : lp impl_BlockOk.tree .c12 = some false := by rw [lp_eq]; rfl
    have tst : ∀ (x : Int) (A : Option Bool), (if x < 0 then some false else if x > 3 then some false else A) = if inB x 0 3 = true then A else some false := fun x A => by
      by_cases q : x < 0
      · rw [if_pos q, if_neg (by rw [inB_iff]; omega)]
      · rw [if_neg q]
        by_cases q' : x > 3
        · rw [if_pos q', if_neg (by rw [inB_iff]; omega)]
        · rw [if_neg q', if_pos (by rw [inB_iff]; omega)]
    have step : lp impl_BlockOk.tree (.c3 l d l (List.length l : Int) (i : Int)) = if okSt l[i].f0 l[i].f1 l[i].f2 l[i].f3.f0 l[i].f3.f1 l[i].f3.f2 = true then (if inB (dep l[i].f0 d) 0 3 = true then lp impl_BlockOk.tree (.c3 l (dep l[i].f0 d) l (List.length l : Int) ((i + 1 : Nat) : Int)) else some false) else some false := by
      rw [lp_eq]
      simp only [impl_BlockOk.tree, Tr.do_ite, Tr.do_need, Tr.do_call, Tr.do_ret, Tr.do_jump, impl_StmtOk.told, impl_StmtOk_f, impl_isOpening.told, impl_isOpening.f, impl_isOpening.begin, c12, getD_lt h, lt_dec h, in_lt h, and_self, decide_true, ↓reduceIte, bind_ok, w1, w2, w3, w7, decide_eq_true_eq, tst]
      cases okSt l[i].f0 l[i].f1 l[i].f2 l[i].f3.f0 l[i].f3.f1 l[i].f3.f2
      · rfl
      · unfold dep
        by_cases h4 : l[i].f0 = 4
        · simp [h4]
        · by_cases h5 : l[i].f0 = 5
          · simp [h4, h5]
          · by_cases h6 : l[i].f0 = 6
            · simp [h4, h5, h6]
            · simp [h4, h5, h6]
    rw [step]
    unfold stepB
    cases okSt l[i].f0 l[i].f1 l[i].f2 l[i].f3.f0 l[i].f3.f1 l[i].f3.f2
    · exact ⟨fun s' hs' => (by cases hs'), fun r hr => (by cases hr; rfl)⟩
    · cases hb : inB (dep l[i].f0 d) 0 3
      · exact ⟨fun s' hs' => (by cases hs'), fun r hr => (by cases hr; rfl)⟩
      · exact ⟨fun s' hs' => (by cases hs'; exact ⟨rfl, inB_iff.mp hb⟩), fun r hr => (by cases hr)⟩
  · rw [lp_eq]
    simp only [impl_BlockOk.tree, Tr.do_ite, Tr.do_ret, ge_dec, Bool.false_eq_true, ↓reduceIte]
    cases decide (d = 0) <;> rfl
def isVal (x : Int) : Bool := inB x (-1000000) 1000000
theorem spec_IsValue_f (x : Int) : spec_IsValue.f x = some (isVal x) := by
  simp only [spec_IsValue.f, spec_IsValue.begin, Tr.do_call, Tr.do_ret, spec_l01In.told, spec_l01In_f, bind_ok, isVal]
theorem impl_IsValue_f (x : Int) : impl_IsValue.f x = some (isVal x) := by
  simp only [impl_IsValue.f, impl_IsValue.begin, Tr.do_call, Tr.do_ret, impl_within.told, impl_within_f, bind_ok, isVal]
theorem spec_l09Values_f (l : List Int) (hl : l.length ≤ 1048576) : spec_l09Values.f l = some (l.all isVal) := by
  simp only [spec_l09Values.f, spec_l09Values.begin, Tr.do_jump]
  have e := all_loop l isVal true (fun i => lp spec_l09Values.tree (.c2 l (i : Int))) (fun i h => by
    rw [lp_eq]
    simp only [spec_l09Values.tree, Tr.do_ite, Tr.do_need, Tr.do_call, Tr.do_ret, Tr.do_jump, spec_IsValue.told, spec_IsValue_f, bind_ok, getD_lt h, lt_dec h, in_lt h, and_self, decide_true, ↓reduceIte, wr_next (show i < 4611686018427387904 by omega)]
    cases isVal l[i] <;> rfl) (by
    rw [lp_eq]
    simp only [spec_l09Values.tree, Tr.do_ite, Tr.do_ret, ge_dec, Bool.false_eq_true, ↓reduceIte])
  rw [Bool.and_true] at e
  exact e
theorem spec_VarsOk_f (l : List Int) (hl : l.length ≤ 1048576) : spec_VarsOk.f l = some (l.all isVal && decide ((l.length : Int) = 8)) := by
  simp only [spec_VarsOk.f, spec_VarsOk.begin, Tr.do_jump]
  refine all_loop l isVal _ (fun i => lp spec_VarsOk.tree (.c2 l (i : Int))) (fun i h => ?_) ?_
  · rw [lp_eq]
    simp only [spec_VarsOk.tree, Tr.do_ite, Tr.do_need, Tr.do_call, Tr.do_ret, Tr.do_jump, spec_IsValue.told, spec_IsValue_f, bind_ok, getD_lt h, lt_dec h, in_lt h, and_self, decide_true, ↓reduceIte, wr_next (show i < 4611686018427387904 by omega)]
    cases isVal l[i] <;> rfl
  · rw [lp_eq]
    simp only [spec_VarsOk.tree, Tr.do_ite, Tr.do_ret, ge_dec, Bool.false_eq_true, ↓reduceIte]
theorem any_not {A : Type} (l : List A) (p : A → Bool) : (!(l.any fun x => !p x)) = l.all p := by
  induction l with
  | nil => rfl
  | cons a l ih => rw [List.any_cons, List.all_cons, ← ih]; cases p a <;> simp
theorem impl_areValues_f (l : List Int) (hl : l.length ≤ 1048576) : impl_areValues.f l = some (l.all isVal) := by
  obtain ⟨r, hr, hd⟩ := find_loop l (fun x => !isVal x) (fun i => lp slices_IndexFunc_int_areValues_1.tree (.c2 l (List.length l : Int) (i : Int))) (fun i h => by
    rw [lp_eq]
    simp only [slices_IndexFunc_int_areValues_1.tree, Tr.do_ite, Tr.do_need, Tr.do_call, Tr.do_ret, Tr.do_jump, impl_areValues_1.told, impl_areValues_1.f, impl_areValues_1.begin, impl_IsValue.told, impl_IsValue_f, bind_ok, getD_lt h, lt_dec h, in_lt h, and_self, decide_true, ↓reduceIte, wr_next (show i < 4611686018427387904 by omega)]) (by
    rw [lp_eq]
    simp only [slices_IndexFunc_int_areValues_1.tree, Tr.do_ite, Tr.do_ret, ge_dec, Bool.false_eq_true, ↓reduceIte])
  have hr' : lp slices_IndexFunc_int_areValues_1.tree (.c2 l (List.length l : Int) 0) = some r := hr
  simp only [impl_areValues.f, impl_areValues.begin, Tr.do_call, Tr.do_ret, slices_ContainsFunc_int_areValues_1.told, slices_ContainsFunc_int_areValues_1.f, slices_ContainsFunc_int_areValues_1.begin, slices_IndexFunc_int_areValues_1.told, slices_IndexFunc_int_areValues_1.f, slices_IndexFunc_int_areValues_1.begin, Tr.do_jump, hr', bind_ok, hd, any_not]
theorem impl_VarsOk_f (l : List Int) (hl : l.length ≤ 1048576) : impl_VarsOk.f l = some (l.all isVal && decide ((l.length : Int) = 8)) := by
  simp only [impl_VarsOk.f, impl_VarsOk.begin, Tr.do_call, Tr.do_ite, Tr.do_ret, impl_areValues.told, impl_areValues_f l hl, bind_ok]
  cases decide ((l.length : Int) = 8) <;> simp
theorem fits {A B : Type} (l : List A) (m : List B) (hl : l.length ≤ 1048576) (hm : m.length ≤ 1048576) (k : Nat) (hk : k ≤ 1000) : ((l.length : Int) + (m.length : Int)) * (k : Nat) ≤ room := by
  unfold room
  have h1 : ((l.length : Int) + (m.length : Int)) * (k : Int) ≤ 2097152 * (k : Int) := Int.mul_le_mul_of_nonneg_right (by omega) (by omega)
  omega
theorem slices_Clone_int_f (l : List Int) (hl : l.length ≤ 1048576) : slices_Clone_int.f l = some l := by
  simp only [slices_Clone_int.f, slices_Clone_int.begin, Tr.do_nilq, Tr.do_ret, Tr.do_need, fits ([] : List Int) l (by simp) hl 8 (by omega), ↓reduceIte, List.nil_append]
  cases l <;> simp
theorem slices_Clone_impl_Stmt_f (l : List S210) (hl : l.length ≤ 1048576) : slices_Clone_impl_Stmt.f l = some l := by
  simp only [slices_Clone_impl_Stmt.f, slices_Clone_impl_Stmt.begin, Tr.do_nilq, Tr.do_ret, Tr.do_need, fits ([] : List S210) l (by simp) hl 48 (by omega), ↓reduceIte, List.nil_append]
  cases l <;> simp
def memNew (l : List Int) : List Int × Bool := if (l.all isVal && decide ((l.length : Int) = 8)) = true then (l ++ List.replicate 41 0, true) else ([], false)
theorem spec_MemNew_f (l : List Int) (hl : l.length ≤ 1048576) : spec_MemNew.f l = some (memNew l) := by
  simp only [spec_MemNew.f, spec_MemNew.begin, Tr.do_call, Tr.do_ite, Tr.do_need, Tr.do_ret, spec_VarsOk.told, spec_VarsOk_f l hl, bind_ok, memNew, fits ([] : List Int) l (by simp) hl 8 (by omega), ↓reduceIte, List.nil_append]
  have h2 : (0 : Int) ≤ 41 ∧ ((l.length : Int) + 41) * (8 : Nat) ≤ room := ⟨by omega, by unfold room; omega⟩
  simp only [h2, show Int.toNat 41 = 41 from rfl, and_self, ↓reduceIte]
  rcases Bool.eq_false_or_eq_true (l.all isVal && decide ((l.length : Int) = 8)) with q | q <;> simp only [q, Bool.not_true, Bool.not_false, Bool.false_eq_true, ↓reduceIte]
def okT (t : S166) : Bool := okB t.f0.length t.f0 0 && okX t.f1.f0 t.f1.f1 t.f1.f2
def okP (l : List S166) : Bool := l.all okT && inB (l.length : Int) 1 6
theorem spec_ProgramOk_f (l : List S166) (hl : l.length ≤ 1048576) (hs : ∀ t ∈ l, t.f0.length ≤ 1048576) : spec_ProgramOk.f l = some (okP l) := by
  simp only [spec_ProgramOk.f, spec_ProgramOk.begin, Tr.do_jump]
  refine all_loop l okT _ (fun i => lp spec_ProgramOk.tree (.c2 l (i : Int))) (fun i h => ?_) ?_
  · rw [lp_eq]
    simp only [spec_ProgramOk.tree, Tr.do_ite, Tr.do_need, Tr.do_call, Tr.do_ret, Tr.do_jump, spec_BlockOk.told, spec_BlockOk_f _ (hs _ (List.getElem_mem h)), spec_ExprOk.told, spec_ExprOk_f, bind_ok, getD_lt h, lt_dec h, in_lt h, and_self, decide_true, ↓reduceIte, wr_next (show i < 4611686018427387904 by omega), okT]
    rcases Bool.eq_false_or_eq_true (okB l[i].f0.length l[i].f0 0) with q | q <;> rcases Bool.eq_false_or_eq_true (okX l[i].f1.f0 l[i].f1.f1 l[i].f1.f2) with q' | q' <;> simp [q, q']
  · rw [lp_eq]
    simp only [spec_ProgramOk.tree, Tr.do_ite, Tr.do_call, Tr.do_ret, spec_l01In.told, spec_l01In_f, bind_ok, ge_dec, Bool.false_eq_true, ↓reduceIte]
theorem impl_ProgramOk_f (l : List S166) (hl : l.length ≤ 1048576) (hs : ∀ t ∈ l, t.f0.length ≤ 1048576) : impl_ProgramOk.f l = some (okP l) := by
  obtain ⟨r, hr, hd⟩ := find_loop l (fun x => !okT x) (fun i => lp slices_IndexFunc_impl_Task_ProgramOk_1.tree (.c2 l (List.length l : Int) (i : Int))) (fun i h => by
    rw [lp_eq]
    simp only [slices_IndexFunc_impl_Task_ProgramOk_1.tree, Tr.do_ite, Tr.do_need, Tr.do_call, Tr.do_ret, Tr.do_jump, impl_ProgramOk_1.told, impl_ProgramOk_1.f, impl_ProgramOk_1.begin, impl_taskOk.told, impl_taskOk.f, impl_taskOk.begin, impl_BlockOk.told, impl_BlockOk_f _ (hs _ (List.getElem_mem h)), impl_ExprOk.told, impl_ExprOk_f, bind_ok, getD_lt h, lt_dec h, in_lt h, and_self, decide_true, ↓reduceIte, wr_next (show i < 4611686018427387904 by omega), okT]
    rcases Bool.eq_false_or_eq_true (okB l[i].f0.length l[i].f0 0) with q | q <;> rcases Bool.eq_false_or_eq_true (okX l[i].f1.f0 l[i].f1.f1 l[i].f1.f2) with q' | q' <;> simp [q, q']) (by
    rw [lp_eq]
    simp only [slices_IndexFunc_impl_Task_ProgramOk_1.tree, Tr.do_ite, Tr.do_ret, ge_dec, Bool.false_eq_true, ↓reduceIte])
  have hr' : lp slices_IndexFunc_impl_Task_ProgramOk_1.tree (.c2 l (List.length l : Int) 0) = some r := hr
  simp only [impl_ProgramOk.f, impl_ProgramOk.begin, Tr.do_call, Tr.do_ite, Tr.do_ret, impl_within.told, impl_within_f, slices_ContainsFunc_impl_Task_ProgramOk_1.told, slices_ContainsFunc_impl_Task_ProgramOk_1.f, slices_ContainsFunc_impl_Task_ProgramOk_1.begin, slices_IndexFunc_impl_Task_ProgramOk_1.told, slices_IndexFunc_impl_Task_ProgramOk_1.f, slices_IndexFunc_impl_Task_ProgramOk_1.begin, Tr.do_jump, hr', bind_ok, hd, any_not, okP]
  cases inB (l.length : Int) 1 6 <;> simp
def okStore (a b c d : Int) : Bool := inB b 1 5000 && (inB a 0 b && (inB c 1 b && inB d 0 100))
theorem spec_StoreOk_f (a b c d : Int) : spec_StoreOk.f a b c d = some (okStore a b c d) := by
  simp only [spec_StoreOk.f, spec_StoreOk.begin, Tr.do_call, Tr.do_ite, Tr.do_ret, spec_l01In.told, spec_l01In_f, bind_ok, okStore]
  cases inB b 1 5000 <;> cases inB a 0 b <;> cases inB c 1 b <;> rfl
theorem impl_StoreOk_f (a b c d : Int) : impl_StoreOk.f a b c d = some (okStore a b c d) := by
  simp only [impl_StoreOk.f, impl_StoreOk.begin, Tr.do_call, Tr.do_ite, Tr.do_ret, impl_within.told, impl_within_f, bind_ok, okStore]
  cases inB b 1 5000 <;> cases inB a 0 b <;> cases inB c 1 b <;> rfl
theorem spec_l06Copy_f (l : List S166) (hl : l.length ≤ 1048576) (hs : ∀ t ∈ l, t.f0.length ≤ 1048576) : spec_l06Copy.f l = some l := by
  simp only [spec_l06Copy.f, spec_l06Copy.begin, Tr.do_jump]
  have e := app_loop l (fun t : S166 => t) id (fun i s => lp spec_l06Copy.tree (.c3 l [] s (i : Int))) [] (fun i h => by
    rw [lp_eq]
    have hr : rdS166 l (i : Int) = l[i] := getD_lt h
    have hin := in_lt h
    have hlt := lt_dec h
    have h1 : (([] : List S210).length + (l[i].f0.length : Int)) * (48 : Nat) ≤ room := fits [] l[i].f0 (by simp) (hs _ (List.getElem_mem h)) 48 (by omega)
    have h2 : ∀ t : S166, ((([] ++ (l.take i).map (fun t : S166 => t)).length : Int) + (([t] : List S166).length : Int)) * (48 : Nat) ≤ room := fun t => fits _ [t] (by simp; omega) (by simp) 48 (by omega)
    generalize ([] ++ (l.take i).map (fun t : S166 => t)) = acc at h2 ⊢
    have c4 : ∀ s, lp spec_l06Copy.tree (.c4 l [] s (i : Int)) = lp spec_l06Copy.tree (.c3 l [] s ((i + 1 : Nat) : Int)) := fun s => by
      rw [lp_eq]
      simp only [spec_l06Copy.tree, Tr.do_jump, wr_next (show i < 4611686018427387904 by omega)]
    simp only [spec_l06Copy.tree, Tr.do_ite, Tr.do_need, Tr.do_both, Tr.do_last, Tr.do_val, Tr.do_jump, hr, hin, hlt, and_self, decide_true, ↓reduceIte, h1, h2, c4, List.nil_append, both_same]) (fun s => by
    rw [lp_eq]
    simp only [spec_l06Copy.tree, Tr.do_ite, Tr.do_ret, ge_dec, Bool.false_eq_true, ↓reduceIte, id])
  rw [List.map_id''] at e
  · exact e
  · exact fun _ => rfl
theorem impl_copyProgram_f (l : List S166) (hl : l.length ≤ 1048576) (hs : ∀ t ∈ l, t.f0.length ≤ 1048576) : impl_copyProgram.f l = some l := by
  simp only [impl_copyProgram.f, impl_copyProgram.begin, Tr.do_jump]
  have e := app_loop l (fun t : S166 => t) id (fun i s => lp impl_copyProgram.tree (.c3 [] s l (List.length l : Int) (i : Int))) [] (fun i h => by
    rw [lp_eq]
    have hr : rdS166 l (i : Int) = l[i] := getD_lt h
    have hin := in_lt h
    have hlt := lt_dec h
    have h2 : ∀ t : S166, ((([] ++ (l.take i).map (fun t : S166 => t)).length : Int) + (([t] : List S166).length : Int)) * (48 : Nat) ≤ room := fun t => fits _ [t] (by simp; omega) (by simp) 48 (by omega)
    generalize ([] ++ (l.take i).map (fun t : S166 => t)) = acc at h2 ⊢
    simp only [impl_copyProgram.tree, Tr.do_ite, Tr.do_need, Tr.do_both, Tr.do_last, Tr.do_call, Tr.do_ret, Tr.do_jump, impl_copyTask.told, impl_copyTask.f, impl_copyTask.begin, slices_Clone_impl_Stmt.told, slices_Clone_impl_Stmt_f _ (hs _ (List.getElem_mem h)), bind_ok, hr, hin, hlt, and_self, decide_true, ↓reduceIte, h2, both_same, wr_next (show i < 4611686018427387904 by omega)]) (fun s => by
    rw [lp_eq]
    simp only [impl_copyProgram.tree, Tr.do_ite, Tr.do_ret, ge_dec, Bool.false_eq_true, ↓reduceIte, id])
  rw [List.map_id''] at e
  · exact e
  · exact fun _ => rfl
/-- A new node, and whether there is one. -/
def nodeNew (p : List S166) (m r : List Int) (a b c d : Int) : List S166 × List Int × List Int × Int × Int × Int × Int × Int × Int × Int × Int × List Int × Int × Bool :=
  if (memNew m).2 = true then (if okP p = true then (if okStore a b c d = true then (if r.all isVal = true then (p, (memNew m).1, r, 0, a, b, c, d, 0, 0, 0, [], 0, true)
  else ([], [], [], 0, 0, 0, 0, 0, 0, 0, 0, [], 0, false)) else ([], [], [], 0, 0, 0, 0, 0, 0, 0, 0, [], 0, false)) else ([], [], [], 0, 0, 0, 0, 0, 0, 0, 0, [], 0, false)) else ([], [], [], 0, 0, 0, 0, 0, 0, 0, 0, [], 0, false)
theorem spec_NodeNew_f (p : List S166) (m r : List Int) (a b c d : Int) (hp : p.length ≤ 1048576) (hs : ∀ t ∈ p, t.f0.length ≤ 1048576) (hm : m.length ≤ 1048576) (hr : r.length ≤ 1048576) : spec_NodeNew.f p m r a b c d = some (nodeNew p m r a b c d) := by
  simp only [spec_NodeNew.f, spec_NodeNew.begin, Tr.do_call, Tr.do_ite, Tr.do_need, Tr.do_both, Tr.do_last, Tr.do_ret, spec_MemNew.told, spec_MemNew_f m hm, spec_ProgramOk.told, spec_ProgramOk_f p hp hs, spec_StoreOk.told, spec_StoreOk_f, spec_l09Values.told, spec_l09Values_f r hr, spec_l06Copy.told, spec_l06Copy_f p hp hs, bind_ok, fits ([] : List Int) r (by simp) hr 8 (by omega), ↓reduceIte, List.nil_append, both_same, nodeNew]
  cases (memNew m).2 <;> cases okP p <;> cases okStore a b c d <;> cases r.all isVal <;> rfl
/-- The control word of three numbers. -/
def pack (a b c : Int) : Int := if (inB a 0 5 && (inB b 0 8 && inB c 0 24)) = true then a + 8 * (b + 16 * c) else -1
theorem pack_wr (a b c : Int) (h : (inB a 0 5 && (inB b 0 8 && inB c 0 24)) = true) : wr (a + wr (8 * wr (b + wr (16 * c)))) = a + 8 * (b + 16 * c) := by
  rw [Bool.and_eq_true, Bool.and_eq_true, inB_iff, inB_iff, inB_iff] at h
  have w1 : wr (16 * c) = 16 * c := wr_in (by omega)
  have w2 : wr (b + 16 * c) = b + 16 * c := wr_in (by omega)
  have w3 : wr (8 * (b + 16 * c)) = 8 * (b + 16 * c) := wr_in (by omega)
  have w4 : wr (a + 8 * (b + 16 * c)) = a + 8 * (b + 16 * c) := wr_in (by omega)
  rw [w1, w2, w3, w4]
theorem impl_PackControl_f (a b c : Int) : impl_PackControl.f a b c = some (pack a b c) := by
  simp only [impl_PackControl.f, impl_PackControl.begin, Tr.do_call, Tr.do_ite, Tr.do_ret, impl_within.told, impl_within_f, bind_ok]
  have h := pack_wr a b c
  unfold pack
  by_cases q : (inB a 0 5 && (inB b 0 8 && inB c 0 24)) = true
  · rw [h q]
    rw [Bool.and_eq_true, Bool.and_eq_true] at q
    simp [q.1, q.2.1, q.2.2]
  · clear h
    cases qa : inB a 0 5 <;> cases qb : inB b 0 8 <;> cases qc : inB c 0 24 <;> simp_all
/-- The three numbers of a control word. -/
def unpack (c : Int) : Int × Int × Int :=
  if c < 0 then (-1, -1, -1) else if pack (Int.tmod c 8) (Int.tmod (wr (Int.tdiv c 8)) 16) (wr (Int.tdiv c 128)) = c then (Int.tmod c 8, Int.tmod (wr (Int.tdiv c 8)) 16, wr (Int.tdiv c 128)) else (-1, -1, -1)
theorem impl_UnpackControl_f (c : Int) : impl_UnpackControl.f c = some (unpack c) := by
  simp only [impl_UnpackControl.f, impl_UnpackControl.begin, Tr.do_call, Tr.do_ite, Tr.do_need, Tr.do_ret, impl_PackControl.told, impl_PackControl_f, bind_ok, unpack, decide_eq_true_eq]
  by_cases h : c < 0
  · simp [h]
  by_cases q : pack (Int.tmod c 8) (Int.tmod (wr (Int.tdiv c 8)) 16) (wr (Int.tdiv c 128)) = c <;> simp [q, h]
theorem unpack_in (c : Int) : unpack c = (-1, -1, -1) ∨ (0 ≤ (unpack c).1 ∧ (unpack c).1 ≤ 5 ∧ 0 ≤ (unpack c).2.1 ∧ (unpack c).2.1 ≤ 8 ∧ 0 ≤ (unpack c).2.2 ∧ (unpack c).2.2 ≤ 24) := by
  unfold unpack
  split
  · exact .inl rfl
  split
  · rename_i h q
    right
    unfold pack at q
    split at q
    · rename_i p
      rw [Bool.and_eq_true, Bool.and_eq_true, inB_iff, inB_iff, inB_iff] at p
      exact ⟨p.1.1, p.1.2, p.2.1.1, p.2.1.2, p.2.2.1, p.2.2.2⟩
    · omega
  · exact .inl rfl
def okPair (m : List Int) (i : Nat) : Bool := inB (rdI m (9 + 2 * (i : Int))) 0 7 && isVal (rdI m (9 + 2 * (i : Int) + 1))
theorem pair_facts (m : List Int) (hm : m.length = 49) (i n : Nat) (h : i < n) (hn : n ≤ 8) :
    wr (2 * (i : Int)) = 2 * (i : Int) ∧ wr (9 + 2 * (i : Int)) = 9 + 2 * (i : Int) ∧ wr (9 + 2 * (i : Int) + 1) = 9 + 2 * (i : Int) + 1 ∧ ((0 : Int) ≤ 9 + 2 * (i : Int) ∧ 9 + 2 * (i : Int) < (m.length : Int)) ∧ ((0 : Int) ≤ 9 + 2 * (i : Int) + 1 ∧ 9 + 2 * (i : Int) + 1 < (m.length : Int)) ∧ wr ((i : Int) + 1) = ((i + 1 : Nat) : Int) :=
  ⟨wr_in (by omega), wr_in (by omega), wr_in (by omega), by omega, by omega, wr_next (by omega)⟩
theorem impl_MemOk_c7 (m : List Int) (hm : m.length = 49) (n : Nat) (hn : n ≤ 8) : lp impl_MemOk.tree (.c7 m (n : Int) 0) = some ((List.range n).all (okPair m)) := by
  have e := all_loop (List.range n) (okPair m) true (fun i => lp impl_MemOk.tree (.c7 m (n : Int) (i : Int))) (fun i h => by
    rw [List.length_range] at h
    obtain ⟨w1, w2, w3, n1, n2, w4⟩ := pair_facts m hm i n h hn
    rw [lp_eq, List.getElem_range]
    simp only [impl_MemOk.tree, Tr.do_ite, Tr.do_need, Tr.do_call, Tr.do_ret, Tr.do_jump, w1, w2, w3, w4, n1, n2, lt_dec h, and_self, ↓reduceIte, impl_isVar.told, impl_isVar.f, impl_isVar.begin, impl_within.told, impl_within_f, impl_IsValue.told, impl_IsValue_f, bind_ok, okPair]
    rcases Bool.eq_false_or_eq_true (inB (rdI m (9 + 2 * (i : Int))) 0 7) with q | q <;> rcases Bool.eq_false_or_eq_true (isVal (rdI m (9 + 2 * (i : Int) + 1))) with q' | q' <;> simp only [q, q', Bool.not_true, Bool.not_false, Bool.and_self, Bool.and_true, Bool.and_false, Bool.false_eq_true, ↓reduceIte]) (by
    rw [lp_eq, List.length_range]
    simp only [impl_MemOk.tree, Tr.do_ite, Tr.do_ret, ge_dec, Bool.false_eq_true, ↓reduceIte])
  rw [Bool.and_true] at e
  exact e
/-- What has been sent. -/
def sent (m : List Int) : List Int := (m.take (Int.toNat (25 + (unpack (rdI m 8)).2.2))).drop 25
/-- A valid memory of a program with n tasks. -/
def okMem (n : Nat) (m : List Int) : Bool :=
  decide (m.length = 49) && (!decide ((unpack (rdI m 8)).1 < 0) && (!decide ((unpack (rdI m 8)).1 ≥ (n : Int)) && ((m.take 8).all isVal && ((sent m).all isVal && (List.range (Int.toNat (unpack (rdI m 8)).2.1)).all (okPair m)))))
theorem sent_len (m : List Int) : (sent m).length ≤ m.length := by
  unfold sent
  rw [List.length_drop, List.length_take]
  omega
theorem unpack_good {c : Int} (h : ¬ (unpack c).1 < 0) : 0 ≤ (unpack c).1 ∧ (unpack c).1 ≤ 5 ∧ 0 ≤ (unpack c).2.1 ∧ (unpack c).2.1 ≤ 8 ∧ 0 ≤ (unpack c).2.2 ∧ (unpack c).2.2 ≤ 24 := by
  rcases unpack_in c with e | e
  · rw [e] at h
    exact absurd (by decide) h
  · exact e
theorem memok_facts (m : List Int) (hm : m.length = 49) (h : ¬ (unpack (rdI m 8)).1 < 0) :
    wr (25 + (unpack (rdI m 8)).2.2) = 25 + (unpack (rdI m 8)).2.2 ∧ ((0 : Int) ≤ 25 ∧ (25 : Int) ≤ 25 + (unpack (rdI m 8)).2.2 ∧ 25 + (unpack (rdI m 8)).2.2 ≤ (m.length : Int)) ∧ ∃ n : Nat, (unpack (rdI m 8)).2.1 = (n : Int) ∧ n ≤ 8 := by
  obtain ⟨a, b, c, d, e, f⟩ := unpack_good h
  exact ⟨wr_in (by omega), ⟨by omega, by omega, by omega⟩, (unpack (rdI m 8)).2.1.toNat, by omega, by omega⟩
theorem impl_MemOk_f (p : List S166) (m : List Int) (hp : p.length ≤ 1048576) (hs : ∀ t ∈ p, t.f0.length ≤ 1048576) : impl_MemOk.f p m = some (okP p && okMem p.length m) := by
  simp only [impl_MemOk.f, impl_MemOk.begin, Tr.do_call, Tr.do_ite, Tr.do_ret, impl_ProgramOk.told, impl_ProgramOk_f p hp hs, bind_ok]
  unfold okMem
  cases okP p
  · rfl
  by_cases hm : ¬ m.length = 49
  · have hm' : ¬ (m.length : Int) = 49 := by omega
    simp only [hm, hm', decide_false, Bool.not_false, Bool.not_true, Bool.false_eq_true, ↓reduceIte, Bool.false_and, Bool.and_false]
  have hm : m.length = 49 := by omega
  have hm' : decide ((m.length : Int) = 49) = true := decide_eq_true (by omega)
  have n1 : (0 : Int) ≤ 8 ∧ (8 : Int) < (m.length : Int) := by omega
  have n2 : (0 : Int) ≤ 0 ∧ (0 : Int) ≤ 8 ∧ (8 : Int) ≤ (m.length : Int) := by omega
  have v1 := impl_areValues_f (m.take 8) (by rw [List.length_take]; omega)
  have v2 := impl_areValues_f (sent m) (Nat.le_trans (sent_len m) (by omega))
  rw [show decide (m.length = 49) = true from decide_eq_true hm]
  simp only [hm', Tr.do_need, Tr.do_ite, Tr.do_call, Tr.do_ret, Tr.do_jump, impl_UnpackControl.told, impl_UnpackControl_f, impl_areValues.told, bind_ok, n1, n2, and_self, ↓reduceIte, decide_eq_true_eq, Bool.not_true, Bool.false_eq_true, Bool.true_and, show Int.toNat 8 = 8 from rfl, v1]
  by_cases h1 : (unpack (rdI m 8)).1 < 0
  · cases (m.take 8).all isVal <;> simp only [h1, ↓reduceIte, decide_true, decide_false, Bool.not_true, Bool.not_false, Bool.false_and, Bool.and_false, Bool.true_and, Bool.false_eq_true]
  by_cases h2 : (unpack (rdI m 8)).1 ≥ (p.length : Int)
  · cases (m.take 8).all isVal <;> simp only [h1, h2, ↓reduceIte, decide_true, decide_false, Bool.not_true, Bool.not_false, Bool.false_and, Bool.and_false, Bool.true_and, Bool.false_eq_true]
  obtain ⟨w, n3, n, hn, hn8⟩ := memok_facts m hm h1
  have c7 := impl_MemOk_c7 m hm n hn8
  unfold sent at v2
  simp only [h1, h2, w, n3, hn, and_self, ↓reduceIte, decide_false, Bool.not_false, Bool.true_and, show Int.toNat 25 = 25 from rfl, v2, bind_ok, c7, Int.toNat_natCast, sent]
  rcases Bool.eq_false_or_eq_true ((m.take 8).all isVal) with q | q <;> simp only [q, Bool.not_true, Bool.not_false, Bool.false_eq_true, ↓reduceIte, Bool.true_and, Bool.false_and]
  rcases Bool.eq_false_or_eq_true (((m.take (Int.toNat (25 + (unpack (rdI m 8)).2.2))).drop 25).all isVal) with q | q <;> simp only [q, Bool.not_true, Bool.not_false, Bool.false_eq_true, ↓reduceIte, Bool.true_and, Bool.false_and]
theorem memSent_facts (m : List Int) (hm : m.length = 49) : ((0 : Int) ≤ 8 ∧ (8 : Int) < (m.length : Int)) := by omega
def memSent (m : List Int) : List Int := if m.length = 49 then (if (unpack (rdI m 8)).2.2 < 0 then [] else sent m) else []
theorem unpack_good' {c : Int} (h : ¬ (unpack c).2.2 < 0) : ¬ (unpack c).1 < 0 := by
  rcases unpack_in c with e | e
  · rw [e] at h
    exact absurd (by decide) h
  · omega
theorem memSent_le (m : List Int) (n : Nat) (h : m.length ≤ n) : (memSent m).length ≤ n := by
  unfold memSent
  split
  · split
    · simp
    · exact Nat.le_trans (sent_len m) h
  · simp
theorem impl_MemSent_f (m : List Int) : impl_MemSent.f m = some (memSent m) := by
  simp only [impl_MemSent.f, impl_MemSent.begin, Tr.do_ite, Tr.do_need, Tr.do_call, Tr.do_ret, Tr.do_val, impl_UnpackControl.told, impl_UnpackControl_f, bind_ok]
  unfold memSent
  by_cases hm : m.length = 49
  · have hm' : decide ((m.length : Int) = 49) = true := decide_eq_true (by omega)
    rw [if_pos hm]
    simp only [hm', memSent_facts m hm, and_self, Bool.not_true, Bool.false_eq_true, ↓reduceIte, decide_eq_true_eq]
    by_cases h : (unpack (rdI m 8)).2.2 < 0
    · simp only [h, ↓reduceIte]
    · obtain ⟨w, n1, -⟩ := memok_facts m hm (unpack_good' h)
      have hl := sent_len m
      have n2 := slices_Clone_int_f (sent m) (by omega)
      unfold sent at n2
      simp only [h, w, n1, and_self, ↓reduceIte, slices_Clone_int.told, show Int.toNat 25 = 25 from rfl, n2, bind_ok]
      rfl
  · have hm' : ¬ (m.length : Int) = 49 := by omega
    simp only [hm, hm', decide_false, Bool.not_false, ↓reduceIte]
/-- Is a list the beginning of another? -/
def isPre (a b : List Int) : Bool := decide (a.length ≤ b.length) && decide (a = b.take a.length)
theorem slices_Equal_int_f (a b : List Int) (ha : a.length ≤ 1048576) (hab : a.length = b.length) : slices_Equal_int.f a b = some (decide (a = b)) := by
  have hn : decide ((a.length : Int) = (b.length : Int)) = true := decide_eq_true (by omega)
  simp only [slices_Equal_int.f, slices_Equal_int.begin, Tr.do_ite, Tr.do_jump, hn, Bool.not_true, Bool.false_eq_true, ↓reduceIte]
  refine eq_loop a b hab (fun i => lp slices_Equal_int.tree (.c4 a b (a.length : Int) (i : Int))) (fun i hi => ?_) ?_
  · rw [lp_eq]
    have h2 : i < b.length := by omega
    simp only [slices_Equal_int.tree, Tr.do_ite, Tr.do_need, Tr.do_ret, Tr.do_jump, lt_dec hi, in_lt hi, in_lt h2, getD_lt hi, getD_lt h2, and_self, decide_true, ↓reduceIte, wr_next (show i < 4611686018427387904 by omega)]
    by_cases q : a[i] = b[i] <;> simp [q]
  · rw [lp_eq]
    simp only [slices_Equal_int.tree, Tr.do_ite, Tr.do_ret, ge_dec, Bool.false_eq_true, ↓reduceIte]
theorem impl_IsPrefixOf_f (a b : List Int) (ha : a.length ≤ 1048576) (hb : b.length ≤ 1048576) : impl_IsPrefixOf.f a b = some (isPre a b) := by
  simp only [impl_IsPrefixOf.f, impl_IsPrefixOf.begin, Tr.do_call, Tr.do_ite, Tr.do_need, Tr.do_ret]
  unfold isPre
  by_cases h : a.length ≤ b.length
  · have h' : (a.length : Int) ≤ (b.length : Int) := by omega
    have n1 : (0 : Int) ≤ 0 ∧ (0 : Int) ≤ (a.length : Int) ∧ (a.length : Int) ≤ (b.length : Int) := by omega
    simp only [h, h', n1, and_self, decide_true, ↓reduceIte, Int.toNat_natCast, slices_Equal_int.told, slices_Equal_int_f a (b.take a.length) ha (by rw [List.length_take]; omega), bind_ok, Bool.true_and]
  · have h' : ¬ (a.length : Int) ≤ (b.length : Int) := by omega
    simp only [h, h', decide_false, Bool.false_eq_true, ↓reduceIte, Bool.false_and]
def okLink (m : List Int) (at_ : Int) (h : List Int) : Bool := inB at_ 0 h.length && isPre h (memSent m)
theorem impl_LinkOk_f (m : List Int) (x : Int) (h : List Int) (hm : m.length ≤ 1048576) (hh : h.length ≤ 1048576) : impl_LinkOk.f m x h = some (okLink m x h) := by
  simp only [impl_LinkOk.f, impl_LinkOk.begin, Tr.do_last, Tr.do_call, Tr.do_ite, Tr.do_ret, impl_within.told, impl_within_f, impl_MemSent.told, impl_MemSent_f, impl_IsPrefixOf.told, impl_IsPrefixOf_f h (memSent m) hh (memSent_le m _ hm), bind_ok, okLink]
  cases inB x 0 (h.length : Int) <;> rfl
def okSpan (a b : Int) : Bool := decide (a ≥ 0) && (decide (a ≤ b) && decide (b ≤ 1000000))
theorem impl_SpanOk_f (a b : Int) : impl_SpanOk.f a b = some (okSpan a b) := by
  simp only [impl_SpanOk.f, impl_SpanOk.begin, Tr.do_ite, Tr.do_ret, okSpan]
  cases decide (a ≥ 0) <;> cases decide (a ≤ b) <;> rfl
/-- A valid node. -/
def okNode (p : List S166) (m r : List Int) (a3 a4 a5 a6 a7 a8 a9 a10 : Int) (h : List Int) (a12 : Int) : Bool :=
  (okP p && okMem p.length m) && (okStore a4 a5 a6 a7 && (r.all isVal && (inB a3 0 400000 && (okSpan a8 a9 && (okLink m a10 h && inB a12 0 100000)))))
theorem impl_NodeOk_f (p : List S166) (m r : List Int) (a3 a4 a5 a6 a7 a8 a9 a10 : Int) (h : List Int) (a12 : Int) (hp : p.length ≤ 1048576) (hs : ∀ t ∈ p, t.f0.length ≤ 1048576) (hm : m.length ≤ 1048576) (hr : r.length ≤ 1048576) (hh : h.length ≤ 1048576) :
    impl_NodeOk.f p m r a3 a4 a5 a6 a7 a8 a9 a10 h a12 = some (okNode p m r a3 a4 a5 a6 a7 a8 a9 a10 h a12) := by
  simp only [impl_NodeOk.f, impl_NodeOk.begin, Tr.do_call, Tr.do_ite, Tr.do_ret, impl_MemOk.told, impl_MemOk_f p m hp hs, impl_StoreOk.told, impl_StoreOk_f, impl_areValues.told, impl_areValues_f r hr, impl_within.told, impl_within_f, impl_SpanOk.told, impl_SpanOk_f, impl_LinkOk.told, impl_LinkOk_f m a10 h hm hh, bind_ok, okNode]
  cases (okP p && okMem p.length m) <;> cases okStore a4 a5 a6 a7 <;> cases r.all isVal <;> cases inB a3 0 400000 <;> cases okSpan a8 a9 <;> cases okLink m a10 h <;> rfl
theorem fold_loop {A S R : Type} (l : List A) (f : S → A → S) (g : S → R) (Inv : Nat → S → Prop) (L : Nat → S → Option R) (s : S) (h0 : Inv 0 s)
    (hstep : ∀ i (h : i < l.length) s, Inv i s → L i s = L (i + 1) (f s l[i]) ∧ Inv (i + 1) (f s l[i])) (hend : ∀ s, Inv l.length s → L l.length s = some (g s)) : L 0 s = some (g (l.foldl f s)) := by
  have key : ∀ (n i : Nat) s, i + n = l.length → Inv i s → L i s = some (g ((l.drop i).foldl f s)) := by
    intro n
    induction n with
    | zero => intro i s hi hI; obtain rfl : i = l.length := (by omega); rw [List.drop_length]; exact hend s hI
    | succ n ih =>
      intro i s hi hI
      have h : i < l.length := by omega
      obtain ⟨e, hI'⟩ := hstep i h s hI
      rw [e, ih (i + 1) _ (by omega) hI', List.drop_eq_getElem_cons h, List.foldl_cons]
  exact key l.length 0 s (by omega) h0
theorem count_loop {B R : Type} (n : Nat) (f : Nat → B) (g : List B → R) (L : Nat → List B → Option R) (k : Nat) (hk : k ≤ n)
    (hstep : ∀ i, i < n → ∀ s : List B, s.length ≤ i → L i s = L (i + 1) (s ++ [f i])) (hend : ∀ s, L n s = some (g s)) : L k [] = some (g ((List.range' k (n - k)).map f)) := by
  have key : ∀ (m i : Nat) (s : List B), i + m = n → s.length ≤ i → L i s = some (g (s ++ (List.range' i m).map f)) := by
    intro m
    induction m with
    | zero => intro i s hi hs; obtain rfl : i = n := (by omega); rw [hend]; simp
    | succ m ih =>
      intro i s hi hs
      rw [hstep i (by omega) s hs, ih (i + 1) _ (by omega) (by rw [List.length_append, List.length_singleton]; omega), List.range'_succ, List.map_cons, List.append_assoc]
      rfl
  have := key (n - k) k [] (by omega) (by simp)
  simpa using this
/-! ### Packets -/
def packs (l : List Int) (k : Int) : List S217 := if inB k 0 l.length = true then (List.range' k.toNat (l.length - k.toNat)).map fun (i : Nat) => (⟨(i : Int), rdI l (i : Int)⟩ : S217) else []
theorem packs_le (l : List Int) (k : Int) : (packs l k).length ≤ l.length := by
  unfold packs
  split
  · rw [List.length_map, List.length_range']; omega
  · simp
theorem one_fits {B : Type} (s : List B) (x : B) (n : Nat) (hs : s.length ≤ n) (hn : n ≤ 1048576) (k : Nat) (hk : k ≤ 1000) : ((s.length : Int) + (([x] : List B).length : Int)) * (k : Nat) ≤ room := fits s [x] (by omega) (by simp) k hk
theorem impl_PacketsOf_f (m : List Int) (k : Int) (hm : m.length ≤ 1048576) : impl_PacketsOf.f m k = some (packs (memSent m) k) := by
  have hl := memSent_le m 1048576 hm
  simp only [impl_PacketsOf.f, impl_PacketsOf.begin, Tr.do_call, Tr.do_ite, Tr.do_ret, Tr.do_jump, impl_MemSent.told, impl_MemSent_f m, impl_within.told, impl_within_f, bind_ok]
  unfold packs
  cases hb : inB k 0 ((memSent m).length : Int) with
  | false => rfl
  | true =>
    rw [inB_iff] at hb
    obtain ⟨j, rfl⟩ : ∃ j : Nat, k = j := ⟨k.toNat, by omega⟩
    simp only [Bool.not_true, Bool.false_eq_true, ↓reduceIte, Int.toNat_natCast]
    refine count_loop (memSent m).length (fun i => (⟨(i : Int), rdI (memSent m) (i : Int)⟩ : S217)) id (fun i s => lp impl_PacketsOf.tree (.c6 (memSent m) s (i : Int))) j (by omega) (fun i h s hs => ?_) (fun s => ?_)
    · rw [lp_eq]
      have h1 : ∀ x : S217, ((s.length : Int) + (([x] : List S217).length : Int)) * (16 : Nat) ≤ room := fun x => one_fits s x 1048576 (by omega) (by omega) 16 (by omega)
      simp only [impl_PacketsOf.tree, Tr.do_ite, Tr.do_need, Tr.do_jump, lt_dec h, in_lt h, and_self, h1, decide_true, ↓reduceIte, wr_next (show i < 4611686018427387904 by omega)]
    · rw [lp_eq]
      simp only [impl_PacketsOf.tree, Tr.do_ite, Tr.do_ret, ge_dec, Bool.false_eq_true, ↓reduceIte, id]
def take1 (g : List Int) (a b : Int) : List Int := if a = (g.length : Int) then (if (g.length : Int) < 255 then g ++ [b] else g) else g
theorem take1_le (g : List Int) (a b : Int) (h : g.length ≤ 1048576) : (take1 g a b).length ≤ 1048576 := by
  unfold take1
  split
  · split
    · rw [List.length_append, List.length_singleton]; omega
    · exact h
  · exact h
theorem impl_Receive_f (g : List Int) (a b : Int) (hg : g.length ≤ 1048576) : impl_Receive.f g a b = some (take1 g a b, ((take1 g a b).length : Int)) := by
  simp only [impl_Receive.f, impl_Receive.begin, Tr.do_ite, Tr.do_need, Tr.do_ret, Tr.do_call, Tr.do_both, Tr.do_last, slices_Clone_int.told, slices_Clone_int_f g hg, bind_ok, one_fits g b 1048576 hg (by omega) 8 (by omega), ↓reduceIte, decide_eq_true_eq, both_same, take1]
  split
  · split <;> rfl
  · rfl
def recvStep (g : List Int) (p : S217 × Bool) : List Int := if p.2 = true then take1 g p.1.f0 p.1.f1 else g
/-- What the gateway has behind a round. -/
def recvAll (g : List Int) (l : List S217) (k : List Bool) : List Int := (l.zip k).foldl recvStep g
theorem recvStep_le (g : List Int) (p : S217 × Bool) (h : g.length ≤ 1048576) : (recvStep g p).length ≤ 1048576 := by
  unfold recvStep
  split
  · exact take1_le _ _ _ h
  · exact h
theorem impl_ReceiveAll_f (g : List Int) (l : List S217) (k : List Bool) (hg : g.length ≤ 1048576) (hl : l.length ≤ 1048576) (hk : k.length ≤ 1048576) : impl_ReceiveAll.f g l k = some (recvAll g l k, ((recvAll g l k).length : Int)) := by
  simp only [impl_ReceiveAll.f, impl_ReceiveAll.begin, Tr.do_call, Tr.do_jump, slices_Clone_int.told, slices_Clone_int_f g hg, bind_ok]
  refine fold_loop (l.zip k) recvStep (fun s => (s, (s.length : Int))) (fun _ s => s.length ≤ 1048576) (fun i s => lp impl_ReceiveAll.tree (.c3 k [] s l (List.length l : Int) (i : Int))) g hg (fun i h s hs => ?_) (fun s hs => ?_)
  · have h' := h
    rw [List.length_zip] at h'
    have h1 : i < l.length := by omega
    have h2 : i < k.length := by omega
    refine ⟨?_, recvStep_le _ _ hs⟩
    rw [lp_eq, List.getElem_zip]
    simp only [impl_ReceiveAll.tree, Tr.do_ite, Tr.do_need, Tr.do_jump, Tr.do_call, impl_Receive.told, lt_dec h1, lt_dec h2, in_lt h1, in_lt h2, getD_lt h1, getD_lt h2, and_self, ↓reduceIte, impl_Receive_f s _ _ hs, bind_ok, wr_next (show i < 4611686018427387904 by omega), recvStep]
    cases k[i] <;> rfl
  · have key : ∀ (n i : Nat), i + n = l.length → min l.length k.length ≤ i → lp impl_ReceiveAll.tree (.c3 k [] s l (List.length l : Int) (i : Int)) = some (s, (s.length : Int)) := by
      intro n
      induction n with
      | zero =>
        intro i hi _
        obtain rfl : i = l.length := by omega
        rw [lp_eq]
        simp only [impl_ReceiveAll.tree, Tr.do_ite, Tr.do_both, Tr.do_last, Tr.do_ret, ge_dec, Bool.false_eq_true, ↓reduceIte, both_same]
      | succ n ih =>
        intro i hi hm
        have h1 : i < l.length := by omega
        have h2 : decide ((i : Int) < (k.length : Int)) = false := decide_eq_false (by omega)
        rw [lp_eq]
        simp only [impl_ReceiveAll.tree, Tr.do_ite, Tr.do_need, Tr.do_jump, lt_dec h1, h2, in_lt h1, and_self, ↓reduceIte, Bool.false_eq_true, wr_next (show i < 4611686018427387904 by omega)]
        exact ih (i + 1) (by omega) (by omega)
    rw [List.length_zip]
    exact key (l.length - min l.length k.length) (min l.length k.length) (by omega) (Nat.le_refl _)
theorem impl_copyLink_f (x : Int) (h : List Int) (hh : h.length ≤ 1048576) : impl_copyLink.f x h = some (x, h) := by
  simp only [impl_copyLink.f, impl_copyLink.begin, Tr.do_both, Tr.do_last, Tr.do_call, Tr.do_ret, slices_Clone_int.told, slices_Clone_int_f h hh, bind_ok, both_same]
def sendRound (m : List Int) (x : Int) (h : List Int) (k : List Bool) (b : Bool) : Int × List Int × Bool :=
  if okLink m x h = true then (if b = true then ((recvAll h (packs (memSent m) x) k).length : Int) else x, recvAll h (packs (memSent m) x) k, true) else (x, h, false)
theorem impl_SendRound_f (m : List Int) (x : Int) (h : List Int) (k : List Bool) (b : Bool) (hm : m.length ≤ 1048576) (hh : h.length ≤ 1048576) (hk : k.length ≤ 1048576) : impl_SendRound.f m x h k b = some (sendRound m x h k b) := by
  have hp := Nat.le_trans (packs_le (memSent m) x) (memSent_le m _ hm)
  simp only [impl_SendRound.f, impl_SendRound.begin, Tr.do_call, Tr.do_ite, Tr.do_both, Tr.do_last, Tr.do_ret, impl_copyLink.told, impl_copyLink_f x h hh, impl_LinkOk.told, impl_LinkOk_f m x h hm hh, impl_PacketsOf.told, impl_PacketsOf_f m x hm, impl_ReceiveAll.told, impl_ReceiveAll_f h _ k hh hp hk, bind_ok, both_same, sendRound]
  cases okLink m x h <;> cases b <;> rfl
theorem impl_copyNode_f (p : List S166) (m r : List Int) (a3 a4 a5 a6 a7 a8 a9 a10 : Int) (h : List Int) (a12 : Int) (hp : p.length ≤ 1048576) (hs : ∀ t ∈ p, t.f0.length ≤ 1048576) (hm : m.length ≤ 1048576) (hr : r.length ≤ 1048576) (hh : h.length ≤ 1048576) :
    impl_copyNode.f p m r a3 a4 a5 a6 a7 a8 a9 a10 h a12 = some (p, m, r, a3, a4, a5, a6, a7, a8, a9, a10, h, a12) := by
  simp only [impl_copyNode.f, impl_copyNode.begin, Tr.do_call, Tr.do_last, Tr.do_ret, impl_copyProgram.told, impl_copyProgram_f p hp hs, slices_Clone_int.told, slices_Clone_int_f m hm, slices_Clone_int_f r hr, impl_copyLink.told, impl_copyLink_f _ h hh, bind_ok]
def uplink (p : List S166) (m r : List Int) (a3 a4 a5 a6 a7 a8 a9 a10 : Int) (h : List Int) (a12 : Int) (k : List Bool) (b : Bool) : List S166 × List Int × List Int × Int × Int × Int × Int × Int × Int × Int × Int × List Int × Int × Bool :=
  if okNode p m r a3 a4 a5 a6 a7 a8 a9 a10 h a12 = true then (p, m, r, a3, a4, a5, a6, a7, a8, a9, (sendRound m a10 h k b).1, (sendRound m a10 h k b).2.1, a12, true) else (p, m, r, a3, a4, a5, a6, a7, a8, a9, a10, h, a12, false)
theorem impl_Uplink_f (p : List S166) (m r : List Int) (a3 a4 a5 a6 a7 a8 a9 a10 : Int) (h : List Int) (a12 : Int) (k : List Bool) (b : Bool) (hp : p.length ≤ 1048576) (hs : ∀ t ∈ p, t.f0.length ≤ 1048576) (hm : m.length ≤ 1048576) (hr : r.length ≤ 1048576) (hh : h.length ≤ 1048576) (hk : k.length ≤ 1048576) :
    impl_Uplink.f p m r a3 a4 a5 a6 a7 a8 a9 a10 h a12 k b = some (uplink p m r a3 a4 a5 a6 a7 a8 a9 a10 h a12 k b) := by
  simp only [impl_Uplink.f, impl_Uplink.begin, Tr.do_call, Tr.do_ite, Tr.do_ret, impl_copyNode.told, impl_copyNode_f p m r a3 a4 a5 a6 a7 a8 a9 a10 h a12 hp hs hm hr hh, impl_NodeOk.told, impl_NodeOk_f p m r a3 a4 a5 a6 a7 a8 a9 a10 h a12 hp hs hm hr hh, impl_SendRound.told, impl_SendRound_f m a10 h k b hm hh hk, bind_ok, uplink]
  cases okNode p m r a3 a4 a5 a6 a7 a8 a9 a10 h a12 <;> rfl
/-! ### Expressions -/
def sat (n : Int) : Int := if n < -1000000 then -1000000 else if n > 1000000 then 1000000 else n
theorem sat_in (n : Int) : -1000000 ≤ sat n ∧ sat n ≤ 1000000 := by unfold sat; split; omega; split <;> omega
theorem impl_Clamp_f (a : Int) : impl_Clamp.f a (-1000000) 1000000 = some (sat a) := by
  simp only [impl_Clamp.f, impl_Clamp.begin, Tr.do_ite, Tr.do_ret, decide_eq_true_eq, sat]
  rw [if_neg (by omega)]
  refine congrArg some (show (_ : Int) = _ from ?_)
  split <;> split <;> (try split) <;> (try split) <;> omega
theorem impl_Saturate_f (a : Int) : impl_Saturate.f a = some (sat a) := by simp only [impl_Saturate.f, impl_Saturate.begin, Tr.do_call, Tr.do_ret, impl_Clamp.told, impl_Clamp_f, bind_ok]
theorem sat_add (a b : Int) : wr (sat a + sat b) = sat a + sat b := wr_in (by have := sat_in a; have := sat_in b; omega)
theorem sat_sub (a b : Int) : wr (sat a - sat b) = sat a - sat b := wr_in (by have := sat_in a; have := sat_in b; omega)
theorem mul_in (x y : Int) (hx : -1000000 ≤ x ∧ x ≤ 1000000) (hy : -1000000 ≤ y ∧ y ≤ 1000000) : -1000000000000 ≤ x * y ∧ x * y ≤ 1000000000000 := by
  have h1 := Int.mul_nonneg (a := 1000000 - x) (b := 1000000 - y) (by omega) (by omega)
  have h2 := Int.mul_nonneg (a := 1000000 + x) (b := 1000000 + y) (by omega) (by omega)
  have h3 := Int.mul_nonneg (a := 1000000 - x) (b := 1000000 + y) (by omega) (by omega)
  have h4 := Int.mul_nonneg (a := 1000000 + x) (b := 1000000 - y) (by omega) (by omega)
  rw [Int.sub_mul, Int.mul_sub, Int.mul_sub] at h1
  rw [Int.add_mul, Int.mul_add, Int.mul_add] at h2
  rw [Int.sub_mul, Int.mul_add, Int.mul_add] at h3
  rw [Int.add_mul, Int.mul_sub, Int.mul_sub] at h4
  generalize x * y = p at *
  omega
theorem sat_mul (a b : Int) : wr (sat a * sat b) = sat a * sat b := wr_in (by have := mul_in _ _ (sat_in a) (sat_in b); omega)
theorem impl_AddValues_f (a b : Int) : impl_AddValues.f a b = some (sat (sat a + sat b)) := by simp only [impl_AddValues.f, impl_AddValues.begin, Tr.do_call, Tr.do_ret, impl_Saturate.told, impl_Saturate_f, bind_ok, sat_add]
theorem impl_SubValues_f (a b : Int) : impl_SubValues.f a b = some (sat (sat a - sat b)) := by simp only [impl_SubValues.f, impl_SubValues.begin, Tr.do_call, Tr.do_ret, impl_Saturate.told, impl_Saturate_f, bind_ok, sat_sub]
theorem impl_MulValues_f (a b : Int) : impl_MulValues.f a b = some (sat (sat a * sat b)) := by simp only [impl_MulValues.f, impl_MulValues.begin, Tr.do_call, Tr.do_ret, impl_Saturate.told, impl_Saturate_f, bind_ok, sat_mul]
def bt01 (b : Bool) : Int := if b = true then 1 else 0
theorem impl_bit_f (b : Bool) : impl_bit.f b = some (bt01 b) := by cases b <;> rfl
/-- An operand's value. -/
def val (vs : List Int) (n : Int) : Int := if n < 0 then rdI vs (-1 - n) else n
theorem val_facts {vs : List Int} {n : Int} (hv : vs.length = 8) (hn : -8 ≤ n) (h : n < 0) : wr (-1 - n) = -1 - n ∧ ((0 : Int) ≤ -1 - n ∧ -1 - n < (vs.length : Int)) := ⟨wr_in (by omega), by omega, by omega⟩
theorem impl_operand_f (vs : List Int) (n : Int) (hv : vs.length = 8) (hn : -8 ≤ n) : impl_operand.f vs n = some (val vs n) := by
  simp only [impl_operand.f, impl_operand.begin, Tr.do_ite, Tr.do_need, Tr.do_ret, decide_eq_true_eq]
  unfold val
  by_cases h : n < 0
  · obtain ⟨w, f⟩ := val_facts hv hn h
    rw [if_pos h, if_pos h, w, if_pos f]
  · rw [if_neg h, if_neg h]
/-- An expression's value. -/
def evX (vs : List Int) (o a b : Int) : Int :=
  if o = 1 then sat (sat (val vs a) + sat (val vs b)) else if o = 2 then sat (sat (val vs a) - sat (val vs b)) else if o = 3 then sat (sat (val vs a) * sat (val vs b))
  else if o = 4 then (if val vs b < val vs a then val vs b else val vs a) else if o = 5 then (if val vs b > val vs a then val vs b else val vs a)
  else if o = 6 then bt01 (decide (val vs a < val vs b)) else bt01 (decide (val vs a = val vs b))
def okV (vs : List Int) : Bool := vs.all isVal && decide ((vs.length : Int) = 8)
theorem okX_in {o a b : Int} (h : okX o a b = true) : (1 ≤ o ∧ o ≤ 7) ∧ (-8 ≤ a ∧ a ≤ 999) ∧ (-8 ≤ b ∧ b ≤ 999) := by
  unfold okX at h
  rw [Bool.and_eq_true, Bool.and_eq_true, inB_iff, inB_iff, inB_iff] at h
  exact ⟨h.1, h.2.1, h.2.2⟩
theorem okV_len {vs : List Int} (h : okV vs = true) : vs.length = 8 := by
  unfold okV at h
  rw [Bool.and_eq_true] at h
  have := of_decide_eq_true h.2
  omega
theorem impl_EvalExpr_f (vs : List Int) (o a b : Int) (hl : vs.length ≤ 1048576) : impl_EvalExpr.f vs o a b = some (if okV vs = true then (if okX o a b = true then evX vs o a b else 0) else 0) := by
  simp only [impl_EvalExpr.f, impl_EvalExpr.begin, Tr.do_call, Tr.do_ite, Tr.do_ret, Tr.do_last, impl_VarsOk.told, impl_VarsOk_f vs hl, impl_ExprOk.told, impl_ExprOk_f, bind_ok]
  show (if (!okV vs) = true then _ else _) = _
  cases hv : okV vs with
  | false => rfl
  | true =>
    cases hx : okX o a b with
    | false => rfl
    | true =>
      obtain ⟨_, ha, hb⟩ := okX_in hx
      have hl8 := okV_len hv
      simp only [Bool.not_true, Bool.false_eq_true, ↓reduceIte, impl_operand.told, impl_operand_f vs a hl8 ha.1, impl_operand_f vs b hl8 hb.1, impl_AddValues.told, impl_AddValues_f, impl_SubValues.told, impl_SubValues_f, impl_MulValues.told, impl_MulValues_f, impl_bit.told, impl_bit_f, bind_ok, decide_eq_true_eq, evX]
      split
      · rfl
      split
      · rfl
      split
      · rfl
      split
      · rfl
      split
      · rfl
      split <;> rfl
theorem isVal_iff {x : Int} : isVal x = true ↔ -1000000 ≤ x ∧ x ≤ 1000000 := inB_iff
theorem rdI_all {vs : List Int} (h : vs.all isVal = true) (i : Int) : isVal (rdI vs i) = true := by
  unfold rdI
  rw [List.getD_eq_getElem?_getD]
  cases hg : vs[i.toNat]? with
  | none => rfl
  | some x => exact List.all_eq_true.mp h x (List.mem_of_getElem? hg)
theorem val_val {vs : List Int} {n : Int} (h : vs.all isVal = true) (hn : n ≤ 999) : isVal (val vs n) = true := by
  unfold val
  split
  · exact rdI_all h _
  · rw [isVal_iff]; omega
theorem evX_val {vs : List Int} {o a b : Int} (hv : okV vs = true) (hx : okX o a b = true) : isVal (evX vs o a b) = true := by
  unfold okV at hv
  rw [Bool.and_eq_true] at hv
  obtain ⟨_, ha, hb⟩ := okX_in hx
  have va := val_val (n := a) hv.1 ha.2
  have vb := val_val (n := b) hv.1 hb.2
  have hs : ∀ n, isVal (sat n) = true := fun n => isVal_iff.mpr (sat_in n)
  have h01 : ∀ b, isVal (bt01 b) = true := fun b => by cases b <;> rfl
  unfold evX
  split
  · exact hs _
  split
  · exact hs _
  split
  · exact hs _
  split
  · split
    · exact vb
    · exact va
  split
  · split
    · exact vb
    · exact va
  split
  · exact h01 _
  · exact h01 _
/-! ### Recovery -/
def recL (m : List Int) : Nat → List S205 → Option (List S205)
  | 0, acc => some acc
  | i + 1, acc => if inB (rdI m (9 + 2 * (i : Int))) 0 7 = true then recL m i (acc ++ [(⟨rdI m (9 + 2 * (i : Int)), rdI m (9 + 2 * (i : Int) + 1)⟩ : S205)]) else none
def recEnd (m : List Int) (o : Option (List S205)) : List S205 := match o with
  | some l => l ++ [(⟨8, pack (unpack (rdI m 8)).1 0 (unpack (rdI m 8)).2.2⟩ : S205)]
  | none => []
/-- The writes of a recovery. -/
def recW (m : List Int) : List S205 := if m.length = 49 then (if (unpack (rdI m 8)).2.1 < 1 then [] else recEnd m (recL m (unpack (rdI m 8)).2.1.toNat [])) else []
theorem recL_len (m : List Int) : ∀ (i : Nat) (acc l : List S205), recL m i acc = some l → l.length = acc.length + i
  | 0, acc, l, h => by cases h; rfl
  | i + 1, acc, l, h => by
    unfold recL at h
    split at h
    · have := recL_len m i _ l h
      rw [List.length_append, List.length_singleton] at this
      omega
    · cases h
theorem unpack_count (c : Int) (h : ¬ (unpack c).2.1 < 1) : (unpack c).2.1 ≤ 8 := by
  rcases unpack_in c with e | e
  · rw [e] at h; exact absurd (by decide) h
  · omega
theorem recW_len (m : List Int) : (recW m).length ≤ 9 := by
  unfold recW
  split
  · split
    · simp
    · rename_i h
      have h8 := unpack_count _ h
      unfold recEnd
      split
      · rename_i l hl
        have := recL_len m _ _ _ hl
        rw [List.length_append, List.length_singleton]
        rw [List.length_nil] at this
        omega
      · simp
  · simp
theorem rec_facts (m : List Int) (hm : m.length = 49) (i : Nat) (hi : i < 8) :
    wr (2 * (i : Int)) = 2 * (i : Int) ∧ wr (9 + 2 * (i : Int)) = 9 + 2 * (i : Int) ∧ wr (9 + 2 * (i : Int) + 1) = 9 + 2 * (i : Int) + 1 ∧ ((0 : Int) ≤ 9 + 2 * (i : Int) ∧ 9 + 2 * (i : Int) < (m.length : Int)) ∧ ((0 : Int) ≤ 9 + 2 * (i : Int) + 1 ∧ 9 + 2 * (i : Int) + 1 < (m.length : Int)) ∧ wr ((i : Int) - 1) = (i : Int) - 1 ∧ ((i + 1 : Nat) : Int) - 1 = (i : Int) ∧ decide ((i : Int) ≥ 0) = true :=
  ⟨wr_in (by omega), wr_in (by omega), wr_in (by omega), by omega, by omega, wr_in (by omega), by omega, decide_eq_true (by omega)⟩
theorem impl_rec_loop (m : List Int) (hm : m.length = 49) (t tl : Int) : ∀ (i : Nat) (acc : List S205), i ≤ 8 → acc.length + i ≤ 8 →
    lp impl_RecoveryWrites.tree (.c8 m t tl acc ((i : Int) - 1)) = some (match recL m i acc with | some l => l ++ [(⟨8, pack t 0 tl⟩ : S205)] | none => [])
  | 0, acc, _, ha => by
    rw [lp_eq]
    have h1 : ∀ x : S205, ((acc.length : Int) + (([x] : List S205).length : Int)) * (16 : Nat) ≤ room := fun x => fits acc [x] (by omega) (by simp) 16 (by omega)
    have h2 : decide (((0 : Nat) : Int) - 1 ≥ 0) = false := by decide
    simp only [impl_RecoveryWrites.tree, Tr.do_ite, Tr.do_need, Tr.do_call, Tr.do_ret, h2, impl_PackControl.told, impl_PackControl_f, bind_ok, h1, Bool.false_eq_true, ↓reduceIte, recL]
  | i + 1, acc, hi, ha => by
    rw [lp_eq]
    obtain ⟨w1, w2, w3, n1, n2, w4, e1, e2⟩ := rec_facts m hm i (by omega)
    have h1 : ∀ x : S205, ((acc.length : Int) + (([x] : List S205).length : Int)) * (16 : Nat) ≤ room := fun x => fits acc [x] (by omega) (by simp) 16 (by omega)
    simp only [impl_RecoveryWrites.tree, Tr.do_ite, Tr.do_need, Tr.do_call, Tr.do_ret, Tr.do_val, Tr.do_jump, e1, e2, w1, w2, w3, w4, n1, n2, and_self, impl_isVar.told, impl_isVar.f, impl_isVar.begin, impl_within.told, impl_within_f, bind_ok, h1, ↓reduceIte]
    unfold recL
    cases hb : inB (rdI m (9 + 2 * (i : Int))) 0 7 with
    | false => rfl
    | true =>
      simp only [Bool.not_true, Bool.false_eq_true, ↓reduceIte]
      exact impl_rec_loop m hm t tl i _ (by omega) (by rw [List.length_append, List.length_singleton]; omega)
theorem impl_RecoveryWrites_f (m : List Int) : impl_RecoveryWrites.f m = some (recW m) := by
  simp only [impl_RecoveryWrites.f, impl_RecoveryWrites.begin, Tr.do_ite, Tr.do_need, Tr.do_call, Tr.do_ret, Tr.do_jump, impl_UnpackControl.told, impl_UnpackControl_f, bind_ok, decide_eq_true_eq]
  unfold recW
  by_cases hm : m.length = 49
  · have hm' : decide ((m.length : Int) = 49) = true := decide_eq_true (by omega)
    rw [if_pos hm]
    simp only [hm', memSent_facts m hm, and_self, Bool.not_true, Bool.false_eq_true, ↓reduceIte]
    by_cases h : (unpack (rdI m 8)).2.1 < 1
    · rw [if_pos h, if_pos h]
    · rw [if_neg h, if_neg h]
      have h8 := unpack_count _ h
      obtain ⟨n, hn⟩ : ∃ n : Nat, (unpack (rdI m 8)).2.1 = n := ⟨(unpack (rdI m 8)).2.1.toNat, by omega⟩
      have hw : wr ((unpack (rdI m 8)).2.1 - 1) = (n : Int) - 1 := by rw [hn]; exact wr_in (by omega)
      rw [hw, impl_rec_loop m hm _ _ n [] (by omega) (by simp; omega), hn, Int.toNat_natCast]
      rfl
  · have hm' : decide ((m.length : Int) = 49) = false := decide_eq_false (by omega)
    rw [if_neg hm]
    simp only [hm', Bool.not_false, ↓reduceIte]
theorem okMem_parts {n : Nat} {m : List Int} (h : okMem n m = true) : m.length = 49 ∧ ¬ (unpack (rdI m 8)).1 < 0 ∧ (unpack (rdI m 8)).1 < n ∧ (m.take 8).all isVal = true ∧ (sent m).all isVal = true ∧ (List.range (Int.toNat (unpack (rdI m 8)).2.1)).all (okPair m) = true := by
  unfold okMem at h
  simp only [Bool.and_eq_true, decide_eq_true_eq, Bool.not_eq_true', decide_eq_false_iff_not] at h
  exact ⟨h.1, h.2.1, by omega, h.2.2.2.1, h.2.2.2.2.1, h.2.2.2.2.2⟩
theorem impl_MemVars_f (m : List Int) : impl_MemVars.f m = some (if m.length = 49 then m.take 8 else []) := by
  simp only [impl_MemVars.f, impl_MemVars.begin, Tr.do_ite, Tr.do_need, Tr.do_ret, Tr.do_call]
  by_cases hm : m.length = 49
  · have hm' : decide ((m.length : Int) = 49) = true := decide_eq_true (by omega)
    have n1 : (0 : Int) ≤ 0 ∧ (0 : Int) ≤ 8 ∧ (8 : Int) ≤ (m.length : Int) := by omega
    rw [if_pos hm]
    simp only [hm', n1, and_self, Bool.not_true, Bool.false_eq_true, ↓reduceIte, slices_Clone_int.told, slices_Clone_int_f (m.take (Int.toNat 8)) (by rw [List.length_take]; omega), bind_ok]
    rfl
  · have hm' : decide ((m.length : Int) = 49) = false := decide_eq_false (by omega)
    rw [if_neg hm]
    simp only [hm', Bool.not_false, ↓reduceIte]
/-! ### Migration -/
/-! ### Draws -/
/-- Something is there, and it is so. -/
def Ok {A : Type} (o : Option A) (P : A → Prop) : Prop := ∃ r, o = some r ∧ P r
/-- A loop that counts up to a limit, told by a property of its states. -/
theorem upto {S R : Type} (N : Nat) (Inv : Nat → S → Prop) (L : Nat → S → Option R) (P : R → Prop)
    (h : ∀ i, i ≤ N → ∀ s, Inv i s → Ok (L i s) P ∨ (i < N ∧ ∃ s', L i s = L (i + 1) s' ∧ Inv (i + 1) s')) : ∀ i, i ≤ N → ∀ s, Inv i s → Ok (L i s) P := by
  have key : ∀ (n i : Nat), i + n = N → ∀ s, Inv i s → Ok (L i s) P := by
    intro n
    induction n with
    | zero =>
      intro i hi s hs
      rcases h i (by omega) s hs with e | ⟨e, _⟩
      · exact e
      · omega
    | succ n ih =>
      intro i hi s hs
      rcases h i (by omega) s hs with e | ⟨_, s', e, hs'⟩
      · exact e
      · rw [e]; exact ih (i + 1) (by omega) s' hs'
  exact fun i hi s hs => key (N - i) i (by omega) s hs
/-- The place of a draw. -/
def Cur (b : List Int) (i : Int) : Prop := b.length ≤ 1048576 ∧ 0 ≤ i
theorem band255 (x : Int) : 0 ≤ bitAnd .i64 x 255 ∧ bitAnd .i64 x 255 ≤ 255 := by
  unfold bitAnd
  have h : (BitVec.ofInt (IntKind.bits .i64) x &&& BitVec.ofInt (IntKind.bits .i64) 255).toNat ≤ 255 := by
    rw [BitVec.toNat_and]
    exact Nat.le_trans Nat.and_le_right (by decide)
  rw [wr_in (by omega)]
  omega
theorem spec_l01Byte_ok {b : List Int} {i : Int} (h : Int) (c : Cur b i) : ∃ x i' h', spec_l01Byte.f b i h = some (x, b, i', h') ∧ 0 ≤ x ∧ x ≤ 255 ∧ Cur b i' := by
  have h1 : (0 : Int) ≤ 33 := by omega
  have h2 : (0 : Int) ≤ 45 := by omega
  simp only [spec_l01Byte.f, spec_l01Byte.begin, Tr.do_both, Tr.do_need, Tr.do_val, Tr.do_last, Tr.do_jump, both_same, h1, h2, ↓reduceIte]
  rw [lp_eq]
  by_cases q : i < (b.length : Int)
  · have h3 : (0 : Int) ≤ i ∧ i < (b.length : Int) := ⟨c.2, q⟩
    simp only [spec_l01Byte.tree, Tr.do_ite, Tr.do_need, Tr.do_last, Tr.do_ret, decide_eq_true q, h3, and_self, ↓reduceIte]
    have w : wr (i + 1) = i + 1 := wr_in (by have := c.1; have := c.2; omega)
    exact ⟨_, _, _, rfl, (band255 _).1, (band255 _).2, c.1, by rw [w]; have := c.2; omega⟩
  · simp only [spec_l01Byte.tree, Tr.do_ite, Tr.do_ret, decide_eq_false q, Bool.false_eq_true, ↓reduceIte]
    exact ⟨_, _, _, rfl, (band255 _).1, (band255 _).2, c⟩
theorem spec_l01Below_ok {b : List Int} {i : Int} (n h : Int) (hn : 1 ≤ n) (c : Cur b i) : ∃ x i' h', spec_l01Below.f n b i h = some (x, b, i', h') ∧ 0 ≤ x ∧ x < n ∧ Cur b i' := by
  have h0 : decide (n ≤ 0) = false := decide_eq_false (by omega)
  have h1 : n ≠ 0 := by omega
  obtain ⟨x1, i1, j1, e1, a1, b1, c1⟩ := spec_l01Byte_ok h c
  by_cases q : n ≤ 256
  · simp only [spec_l01Below.f, spec_l01Below.begin, Tr.do_ite, Tr.do_call, Tr.do_need, Tr.do_ret, h0, decide_eq_true q, spec_l01Byte.told, e1, bind_ok, h1, ne_eq, not_false_eq_true, Bool.false_eq_true, ↓reduceIte]
    refine ⟨_, _, _, rfl, ?_, ?_, c1⟩
    · rw [Int.tmod_eq_emod_of_nonneg a1]; exact Int.emod_nonneg _ h1
    · rw [Int.tmod_eq_emod_of_nonneg a1]; exact Int.emod_lt_of_pos _ (by omega)
  · obtain ⟨x2, i2, j2, e2, a2, b2, c2⟩ := spec_l01Byte_ok j1 c1
    obtain ⟨x3, i3, j3, e3, a3, b3, c3⟩ := spec_l01Byte_ok j2 c2
    obtain ⟨x4, i4, j4, e4, a4, b4, c4⟩ := spec_l01Byte_ok j3 c3
    have w1 : wr (x1 * 16777216) = x1 * 16777216 := wr_in (by omega)
    have w2 : wr (x2 * 65536) = x2 * 65536 := wr_in (by omega)
    have w3 : wr (x3 * 256) = x3 * 256 := wr_in (by omega)
    have w4 : wr (x1 * 16777216 + x2 * 65536) = x1 * 16777216 + x2 * 65536 := wr_in (by omega)
    have w5 : wr (x1 * 16777216 + x2 * 65536 + x3 * 256) = x1 * 16777216 + x2 * 65536 + x3 * 256 := wr_in (by omega)
    have w6 : wr (x1 * 16777216 + x2 * 65536 + x3 * 256 + x4) = x1 * 16777216 + x2 * 65536 + x3 * 256 + x4 := wr_in (by omega)
    have a0 : 0 ≤ x1 * 16777216 + x2 * 65536 + x3 * 256 + x4 := by omega
    simp only [spec_l01Below.f, spec_l01Below.begin, Tr.do_ite, Tr.do_call, Tr.do_need, Tr.do_val, Tr.do_ret, h0, decide_eq_false q, spec_l01Byte.told, e1, e2, e3, e4, bind_ok, h1, ne_eq, not_false_eq_true, Bool.false_eq_true, ↓reduceIte, w1, w2, w3, w4, w5, w6]
    refine ⟨_, _, _, rfl, ?_, ?_, c4⟩
    · rw [Int.tmod_eq_emod_of_nonneg a0]; exact Int.emod_nonneg _ h1
    · rw [Int.tmod_eq_emod_of_nonneg a0]; exact Int.emod_lt_of_pos _ (by omega)
theorem spec_l01Once_ok {b : List Int} {i : Int} (n h : Int) (hn : 1 ≤ n) (c : Cur b i) : ∃ x i' h', spec_l01Once.f n b i h = some (x, b, i', h') ∧ Cur b i' := by
  obtain ⟨x1, i1, j1, e1, a1, b1, c1⟩ := spec_l01Below_ok n h hn c
  simp only [spec_l01Once.f, spec_l01Once.begin, Tr.do_call, Tr.do_ret, spec_l01Below.told, e1, bind_ok]
  exact ⟨_, _, _, rfl, c1⟩
theorem spec_l01PickInt_ok {b : List Int} {i : Int} (l : List Int) (h : Int) (P : Int → Prop) (hn : 1 ≤ l.length) (hp : ∀ x ∈ l, P x) (c : Cur b i) : ∃ x i' h', spec_l01PickInt.f l b i h = some (x, b, i', h') ∧ P x ∧ Cur b i' := by
  obtain ⟨x1, i1, j1, e1, a1, b1, c1⟩ := spec_l01Below_ok (l.length : Int) h (by omega) c
  have h1 : (0 : Int) ≤ x1 ∧ x1 < (l.length : Int) := ⟨a1, b1⟩
  simp only [spec_l01PickInt.f, spec_l01PickInt.begin, Tr.do_call, Tr.do_need, Tr.do_ret, spec_l01Below.told, e1, bind_ok, h1, and_self, ↓reduceIte]
  refine ⟨_, _, _, rfl, ?_, c1⟩
  have h2 : x1.toNat < l.length := by omega
  have : rdI l x1 = l[x1.toNat] := by show l.getD x1.toNat 0 = _; rw [List.getD_eq_getElem?_getD, List.getElem?_eq_getElem h2]; rfl
  rw [this]
  exact hp _ (List.getElem_mem h2)
theorem spec_l01New_ok (b : List Int) (hb : b.length ≤ 1048576) : ∃ h, spec_l01New.f b = some (b, 0, h) := by
  have key := upto b.length (fun _ (_ : Int) => True) (fun i s => lp spec_l01New.tree (.c3 b s (i : Int))) (fun r => ∃ h, r = (b, 0, h)) (fun i hi s _ => by
    rw [lp_eq]
    by_cases q : i < b.length
    · by_cases q' : (i : Int) < 4000
      · refine Or.inr ⟨q, bitAnd .i64 (wr (wr (wr (s * 131) + wr (rdI b (i : Int))) + 7)) 1073741823, ?_, trivial⟩
        simp only [spec_l01New.tree, Tr.do_ite, Tr.do_need, Tr.do_val, Tr.do_jump, lt_dec q, decide_eq_true q', decide_true, q', in_lt q, and_self, ↓reduceIte, wr_next (show i < 4611686018427387904 by omega)]
      · refine Or.inl ⟨(b, 0, s), ?_, s, rfl⟩
        simp only [spec_l01New.tree, Tr.do_ite, Tr.do_ret, lt_dec q, decide_eq_false q', Bool.false_eq_true, ↓reduceIte]
    · refine Or.inl ⟨(b, 0, s), ?_, s, rfl⟩
      obtain rfl : i = b.length := by omega
      simp only [spec_l01New.tree, Tr.do_ite, Tr.do_ret, ge_dec, Bool.false_eq_true, ↓reduceIte]) 0 (by omega) (wr (98347 + (b.length : Int))) trivial
  obtain ⟨r, e, h, rfl⟩ := key
  exact ⟨h, e⟩
theorem spec_l03Operand_ok {b : List Int} {i : Int} (h : Int) (c : Cur b i) : ∃ x i' h', spec_l03Operand.f b i h = some (x, b, i', h') ∧ inB x (-8) 999 = true ∧ Cur b i' := by
  obtain ⟨x1, i1, j1, e1, c1⟩ := spec_l01Once_ok 2 h (by omega) c
  cases x1 with
  | true =>
    obtain ⟨x2, i2, j2, e2, a2, b2, c2⟩ := spec_l01Below_ok 5 j1 (by omega) c1
    simp only [spec_l03Operand.f, spec_l03Operand.begin, Tr.do_call, Tr.do_ite, Tr.do_ret, spec_l01Once.told, e1, spec_l01Below.told, e2, bind_ok, ↓reduceIte]
    refine ⟨_, _, _, rfl, ?_, c2⟩
    have w : wr (-1 - x2) = -1 - x2 := wr_in (by omega)
    rw [w, inB_iff]
    omega
  | false =>
    obtain ⟨x2, i2, j2, e2, a2, c2⟩ := spec_l01PickInt_ok [0, 1, 2, 3, 10, 999] j1 (fun x => inB x (-8) 999 = true) (by decide) (by decide) c1
    simp only [spec_l03Operand.f, spec_l03Operand.begin, Tr.do_call, Tr.do_ite, Tr.do_ret, spec_l01Once.told, e1, spec_l01PickInt.told, e2, bind_ok, Bool.false_eq_true, ↓reduceIte]
    exact ⟨_, _, _, rfl, a2, c2⟩
theorem spec_l03Expr_ok {b : List Int} {i : Int} (h : Int) (c : Cur b i) : ∃ o x y i' h', spec_l03Expr.f b i h = some (o, x, y, b, i', h') ∧ okX o x y = true ∧ Cur b i' := by
  obtain ⟨x1, i1, j1, e1, a1, b1, c1⟩ := spec_l01Below_ok 7 h (by omega) c
  obtain ⟨x2, i2, j2, e2, a2, c2⟩ := spec_l03Operand_ok j1 c1
  obtain ⟨x3, i3, j3, e3, a3, c3⟩ := spec_l03Operand_ok j2 c2
  simp only [spec_l03Expr.f, spec_l03Expr.begin, Tr.do_call, Tr.do_ret, spec_l01Below.told, e1, spec_l03Operand.told, e2, e3, bind_ok]
  refine ⟨_, _, _, _, _, rfl, ?_, c3⟩
  unfold okX
  have w : wr (1 + x1) = 1 + x1 := wr_in (by omega)
  rw [a2, a3, w]
  simp only [Bool.and_true, inB_iff]
  omega
theorem spec_l03Vars_ok {b : List Int} {i : Int} (h : Int) (c : Cur b i) : ∃ l i' h', spec_l03Vars.f b i h = some (l, b, i', h') ∧ l.all isVal = true ∧ l.length = 8 ∧ Cur b i' := by
  have key := upto 8 (fun k (s : List Int × Int × Int) => s.1.length = k ∧ s.1.all isVal = true ∧ Cur b s.2.1) (fun k s => lp spec_l03Vars.tree (.c3 s.1 (k : Int) b s.2.1 s.2.2)) (fun r => ∃ l i' h', r = (l, b, i', h') ∧ l.all isVal = true ∧ l.length = 8 ∧ Cur b i') (fun k hk s hs => by
    obtain ⟨s1, s2, s3⟩ := s
    obtain ⟨hl, hv, hc⟩ := hs
    simp only at hl hv hc
    rw [lp_eq]
    by_cases q : k < 8
    · obtain ⟨x1, i1, j1, e1, a1, b1, c1⟩ := spec_l01Below_ok 2000 s3 (by omega) hc
      have w : wr (x1 - 1000) = x1 - 1000 := wr_in (by omega)
      have hvx : isVal (x1 - 1000) = true := by unfold isVal; rw [inB_iff]; omega
      obtain ⟨x2, i2, j2, e2, a2, c2⟩ := spec_l01PickInt_ok [0, 1, 2, 5, x1 - 1000, 1000000] j1 (fun x => isVal x = true) (by simp) (by
        intro x hx
        simp only [List.mem_cons, List.not_mem_nil, or_false] at hx
        rcases hx with rfl | rfl | rfl | rfl | rfl | rfl
        · rfl
        · rfl
        · rfl
        · rfl
        · exact hvx
        · rfl) c1
      have q' : decide ((k : Int) < 8) = true := decide_eq_true (by omega)
      refine Or.inr ⟨q, (s1 ++ [x2], i2, j2), ?_, by simp [hl], by simp [hv, a2], c2⟩
      simp only [spec_l03Vars.tree, Tr.do_call, Tr.do_ite, Tr.do_need, Tr.do_jump, q', spec_l01Below.told, e1, w, spec_l01PickInt.told, e2, bind_ok, one_fits s1 x2 1048576 (by omega) (by omega) 8 (by omega), ↓reduceIte, wr_next (show k < 4611686018427387904 by omega)]
    · have q' : decide ((k : Int) < 8) = false := decide_eq_false (by omega)
      refine Or.inl ⟨(s1, b, s2, s3), ?_, s1, s2, s3, rfl, hv, by omega, hc⟩
      simp only [spec_l03Vars.tree, Tr.do_ite, Tr.do_ret, q', Bool.false_eq_true, ↓reduceIte]) 0 (by omega) ([], i, h) ⟨rfl, rfl, c⟩
  obtain ⟨r, e, l, i', h', rfl, p⟩ := key
  exact ⟨l, i', h', e, p⟩
theorem spec_l04Stmt_ok {b : List Int} {i : Int} (h : Int) (c : Cur b i) : ∃ x0 x1 x2 x3 x4 x5 i' h', spec_l04Stmt.f b i h = some (x0, x1, x2, x3, x4, x5, b, i', h') ∧ okSt x0 x1 x2 x3 x4 x5 = true ∧ x0 ≤ 3 ∧ Cur b i' := by
  obtain ⟨x1, i1, j1, e1, a1, b1, c1⟩ := spec_l01Below_ok 7 h (by omega) c
  obtain ⟨x2, i2, j2, e2, a2, b2, c2⟩ := spec_l01Below_ok 5 j1 (by omega) c1
  obtain ⟨x3, i3, j3, e3, a3, b3, c3⟩ := spec_l01Below_ok 4 j2 (by omega) c2
  obtain ⟨o4, x4, y4, i4, j4, e4, a4, c4⟩ := spec_l03Expr_ok j1 c1
  obtain ⟨o5, x5, y5, i5, j5, e5, a5, c5⟩ := spec_l03Expr_ok j2 c2
  have k1 : okSt 2 x2 x3 0 0 0 = true := by
    have h1 : inB x2 0 7 = true := by rw [inB_iff]; omega
    have h2 : inB x3 0 3 = true := by rw [inB_iff]; omega
    simp [okSt, h1, h2]
  have k2 : okSt 3 0 0 o4 x4 y4 = true := by simp [okSt, a4]
  have k3 : okSt 1 x2 0 o5 x5 y5 = true := by
    have h1 : inB x2 0 7 = true := by rw [inB_iff]; omega
    simp [okSt, a5, h1]
  simp only [spec_l04Stmt.f, spec_l04Stmt.begin, Tr.do_call, Tr.do_ite, Tr.do_ret, spec_l01Below.told, e1, e2, e3, spec_l03Expr.told, e4, e5, bind_ok]
  by_cases q0 : x1 = 0
  · simp only [q0, decide_true, ↓reduceIte]
    exact ⟨_, _, _, _, _, _, _, _, rfl, k1, by decide, c3⟩
  · by_cases q1 : x1 = 1
    · subst q1
      simp only [show decide ((1 : Int) = 0) = false from rfl, decide_true, Bool.false_eq_true, ↓reduceIte]
      exact ⟨_, _, _, _, _, _, _, _, rfl, k1, by decide, c3⟩
    · by_cases q2 : x1 = 2
      · subst q2
        simp only [show decide ((2 : Int) = 0) = false from rfl, show decide ((2 : Int) = 1) = false from rfl, decide_true, Bool.false_eq_true, ↓reduceIte]
        exact ⟨_, _, _, _, _, _, _, _, rfl, k2, by decide, c4⟩
      · simp only [decide_eq_false q0, decide_eq_false q1, decide_eq_false q2, Bool.false_eq_true, ↓reduceIte]
        exact ⟨_, _, _, _, _, _, _, _, rfl, k3, by decide, c5⟩
/-- Statements that leave a block as it is. -/
def Trans (d : Int) (l : List S210) : Prop := ∀ n t, okB n (l ++ t) d = okB n t d
theorem Trans.nil (d : Int) : Trans d [] := fun _ _ => rfl
theorem Trans.app {d : Int} {l m : List S210} (h : Trans d l) (g : Trans d m) : Trans d (l ++ m) := fun n t => by rw [List.append_assoc, h, g]
theorem Trans.one {d : Int} {x0 x1 x2 x3 x4 x5 : Int} (h : okSt x0 x1 x2 x3 x4 x5 = true) (h0 : x0 ≤ 3) (hd : 0 ≤ d) (hd' : d ≤ 3) : Trans d [(⟨x0, x1, x2, (⟨x3, x4, x5⟩ : S153)⟩ : S210)] := fun n t => by
  have e : dep x0 d = d := by unfold dep; rw [if_neg (by omega), if_neg (by omega)]
  have hb : inB d 0 3 = true := by rw [inB_iff]; omega
  show (okSt x0 x1 x2 x3 x4 x5 && (inB (dep x0 d) 0 3 && okB n t (dep x0 d))) = _
  rw [h, e, hb]; rfl
theorem Trans.nest {d : Int} {x0 x1 x2 x3 x4 x5 : Int} {l : List S210} (h : okSt x0 x1 x2 x3 x4 x5 = true) (h0 : x0 = 4 ∨ x0 = 5) (hd : 0 ≤ d) (hd' : d ≤ 2) (hl : Trans (d + 1) l) :
    Trans d (([(⟨x0, x1, x2, (⟨x3, x4, x5⟩ : S153)⟩ : S210)] ++ l) ++ [(⟨6, 0, 0, (⟨0, 0, 0⟩ : S153)⟩ : S210)]) := fun n t => by
  have e : dep x0 d = d + 1 := by unfold dep; rw [if_pos h0]
  have e' : dep 6 (d + 1) = d := by unfold dep; rw [if_neg (by omega), if_pos rfl]; omega
  have hb : inB (d + 1) 0 3 = true := by rw [inB_iff]; omega
  have hb' : inB d 0 3 = true := by rw [inB_iff]; omega
  rw [List.append_assoc, List.append_assoc]
  show (okSt x0 x1 x2 x3 x4 x5 && (inB (dep x0 d) 0 3 && okB n (l ++ ([(⟨6, 0, 0, (⟨0, 0, 0⟩ : S153)⟩ : S210)] ++ t)) (dep x0 d))) = _
  rw [h, e, hb, hl]
  show (true && (true && (okSt 6 0 0 0 0 0 && (inB (dep 6 (d + 1)) 0 3 && okB n t (dep 6 (d + 1)))))) = _
  rw [e', hb']
  rfl
def bnd (d : Int) (n : Nat) : Nat := if d = 2 then n else if d = 1 then 4 * n else 15 + n
theorem bnd_big {d : Int} {n : Nat} (hn : n ≤ 5) : bnd d n ≤ 20 := by unfold bnd; split; omega; split <;> omega
theorem bnd_one {d : Int} {k n : Nat} (h : k ≤ bnd d n) : k + 1 ≤ bnd d (n + 1) := by unfold bnd at *; split at h; rw [if_pos ‹_›]; omega; rw [if_neg ‹_›]; split at h; rw [if_pos ‹_›]; omega; rw [if_neg ‹_›]; omega
theorem bnd_nest {d : Int} {k j n m : Nat} (hd : d = 0 ∨ d = 1) (h : k ≤ bnd d n) (h6 : k < 6) (hm : m ≤ 2) (hj : j ≤ bnd (d + 1) m) : k + 1 + j + 1 ≤ bnd d (n + 1) := by
  rcases hd with rfl | rfl
  · have e : bnd (0 + 1) m = 4 * m := rfl
    have e2 : bnd 0 (n + 1) = 15 + (n + 1) := rfl
    rw [e] at hj; rw [e2]; omega
  · have e : bnd (1 + 1) m = m := rfl
    have e2 : bnd 1 (n + 1) = 4 * (n + 1) := rfl
    have e3 : bnd 1 n = 4 * n := rfl
    rw [e] at hj; rw [e3] at h; rw [e2]; omega
def BlkOk (self_ : Self spec_l05Block.I spec_l05Block.A spec_l05Block.K) (d : Int) : Prop :=
  ∀ (n : Nat) (b : List Int) (i h : Int), n ≤ 5 → Cur b i → ∃ l i' h', self_.f ((n : Int), d, b, i, h) = some (l, b, i', h') ∧ Trans d l ∧ l.length ≤ bnd d n ∧ Cur b i'
theorem blk_step (self_ : Self spec_l05Block.I spec_l05Block.A spec_l05Block.K) (d : Int) (hd : 0 ≤ d ∧ d ≤ 2) (hs : d < 2 → BlkOk self_ (d + 1)) : BlkOk (spec_l05Block.step self_) d := by
  intro n b i h hn c
  have key := upto n (fun k (s : List S210 × Int × Int) => Trans d s.1 ∧ s.1.length ≤ bnd d k ∧ Cur b s.2.1) (fun k s => lp (spec_l05Block.tree self_) (.c3 (n : Int) d s.1 (k : Int) b s.2.1 s.2.2)) (fun r => ∃ l i' h', r = (l, b, i', h') ∧ Trans d l ∧ l.length ≤ bnd d n ∧ Cur b i') (fun k hk s hs' => by
    obtain ⟨s1, s2, s3⟩ := s
    obtain ⟨hT, hL, hC⟩ := hs'
    simp only at hT hL hC
    rw [lp_eq]
    have hb20 := bnd_big (d := d) (show k ≤ 5 by omega)
    by_cases q : k < n
    · have wk := wr_next (show k < 4611686018427387904 by omega)
      have plain : ∀ (s2 s3 : Int), Cur b s2 → ∃ x0 x1 x2 x3 x4 x5 i' h', spec_l04Stmt.f b s2 s3 = some (x0, x1, x2, x3, x4, x5, b, i', h') ∧ Trans d (s1 ++ [(⟨x0, x1, x2, (⟨x3, x4, x5⟩ : S153)⟩ : S210)]) ∧ (s1 ++ [(⟨x0, x1, x2, (⟨x3, x4, x5⟩ : S153)⟩ : S210)]).length ≤ bnd d (k + 1) ∧ Cur b i' := by
        intro s2 s3 hC
        obtain ⟨x0, x1, x2, x3, x4, x5, i', h', e, ho, h3, c'⟩ := spec_l04Stmt_ok s3 hC
        exact ⟨x0, x1, x2, x3, x4, x5, i', h', e, hT.app (Trans.one ho h3 (by omega) (by omega)), by rw [List.length_append, List.length_singleton]; exact bnd_one hL, c'⟩
      have fit : ∀ x : S210, ((s1.length : Int) + (([x] : List S210).length : Int)) * (48 : Nat) ≤ room := fun x => one_fits s1 x 1048576 (by omega) (by omega) 48 (by omega)
      by_cases q2 : d < 2
      · by_cases q6 : (s1.length : Int) < 6
        · obtain ⟨x1, i1, j1, e1, c1⟩ := spec_l01Once_ok 5 s3 (by omega) hC
          cases x1 with
          | false =>
            obtain ⟨y0, y1, y2, y3, y4, y5, i2, j2, e2, t2, l2, c2⟩ := plain i1 j1 c1
            refine Or.inr ⟨q, (_, i2, j2), ?_, t2, l2, c2⟩
            simp only [spec_l05Block.tree, Tr.do_ite, Tr.do_call, Tr.do_val, Tr.do_need, Tr.do_jump, lt_dec q, decide_eq_true q2, decide_eq_true q6, spec_l01Once.told, e1, spec_l04Stmt.told, e2, bind_ok, fit, wk, Bool.false_eq_true, ↓reduceIte]
          | true =>
            obtain ⟨x2, i2, j2, e2, a2, b2, c2⟩ := spec_l01Below_ok 3 j1 (by omega) c1
            obtain ⟨x3, i3, j3, e3, c3⟩ := spec_l01Once_ok 2 j2 (by omega) c2
            have wd : wr (d + 1) = d + 1 := wr_in (by omega)
            cases x3 with
            | true =>
              obtain ⟨o4, x4, y4, i4, j4, e4, a4, c4⟩ := spec_l03Expr_ok j3 c3
              obtain ⟨x5, i5, j5, e5, a5, b5, c5⟩ := spec_l01Below_ok 2 j4 (by omega) c4
              obtain ⟨m, hm⟩ : ∃ m : Nat, wr (1 + x5) = m := ⟨(1 + x5).toNat, by have w5 : wr (1 + x5) = 1 + x5 := wr_in (by omega); omega⟩
              have hm2 : m ≤ 2 := by have w5 : wr (1 + x5) = 1 + x5 := wr_in (by omega); omega
              obtain ⟨l6, i6, j6, e6, t6, n6, c6⟩ := hs q2 m b i5 j5 (by omega) c5
              have hn20 := bnd_big (d := d + 1) (show m ≤ 5 by omega)
              have fit2 : ∀ x : S210, (((s1 ++ [x]).length : Int) + (l6.length : Int)) * (48 : Nat) ≤ room := fun x => fits _ _ (by rw [List.length_append, List.length_singleton]; omega) (by omega) 48 (by omega)
              have fit3 : ∀ x y : S210, ((((s1 ++ [x]) ++ l6).length : Int) + (([y] : List S210).length : Int)) * (48 : Nat) ≤ room := fun x y => fits _ _ (by rw [List.length_append, List.length_append, List.length_singleton]; omega) (by simp) 48 (by omega)
              refine Or.inr ⟨q, (((s1 ++ [(⟨4, 0, 0, (⟨o4, x4, y4⟩ : S153)⟩ : S210)]) ++ l6) ++ [(⟨6, 0, 0, (⟨0, 0, 0⟩ : S153)⟩ : S210)], i6, j6), ?_, ?_, ?_, c6⟩
              rotate_left 1
              · have := hT.app (Trans.nest (x0 := 4) (x1 := 0) (x2 := 0) (x3 := o4) (x4 := x4) (x5 := y4) (l := l6) (by simp [okSt, a4]) (Or.inl rfl) hd.1 (by omega) t6)
                rw [← List.append_assoc, ← List.append_assoc] at this
                exact this
              · simp only [List.length_append, List.length_singleton]
                exact bnd_nest (by omega) hL (by omega) hm2 n6
              · simp only [spec_l05Block.tree, Tr.do_ite, Tr.do_call, Tr.do_val, Tr.do_need, Tr.do_jump, lt_dec q, decide_eq_true q2, decide_eq_true q6, spec_l01Once.told, e1, e3, spec_l01Below.told, e2, e5, spec_l03Expr.told, e4, Self.told, hm, wd, e6, bind_ok, fit, fit2, fit3, wk, ↓reduceIte]
            | false =>
              obtain ⟨x5, i5, j5, e5, a5, b5, c5⟩ := spec_l01Below_ok 2 j3 (by omega) c3
              obtain ⟨m, hm⟩ : ∃ m : Nat, wr (1 + x5) = m := ⟨(1 + x5).toNat, by have w5 : wr (1 + x5) = 1 + x5 := wr_in (by omega); omega⟩
              have hm2 : m ≤ 2 := by have w5 : wr (1 + x5) = 1 + x5 := wr_in (by omega); omega
              have w2 : wr (1 + x2) = 1 + x2 := wr_in (by omega)
              obtain ⟨l6, i6, j6, e6, t6, n6, c6⟩ := hs q2 m b i5 j5 (by omega) c5
              have hn20 := bnd_big (d := d + 1) (show m ≤ 5 by omega)
              have fit2 : ∀ x : S210, (((s1 ++ [x]).length : Int) + (l6.length : Int)) * (48 : Nat) ≤ room := fun x => fits _ _ (by rw [List.length_append, List.length_singleton]; omega) (by omega) 48 (by omega)
              have fit3 : ∀ x y : S210, ((((s1 ++ [x]) ++ l6).length : Int) + (([y] : List S210).length : Int)) * (48 : Nat) ≤ room := fun x y => fits _ _ (by rw [List.length_append, List.length_append, List.length_singleton]; omega) (by simp) 48 (by omega)
              have hin : inB (1 + x2) 1 5 = true := by rw [inB_iff]; omega
              refine Or.inr ⟨q, (((s1 ++ [(⟨5, 0, 1 + x2, (⟨0, 0, 0⟩ : S153)⟩ : S210)]) ++ l6) ++ [(⟨6, 0, 0, (⟨0, 0, 0⟩ : S153)⟩ : S210)], i6, j6), ?_, ?_, ?_, c6⟩
              rotate_left 1
              · have := hT.app (Trans.nest (x0 := 5) (x1 := 0) (x2 := 1 + x2) (x3 := 0) (x4 := 0) (x5 := 0) (l := l6) (by simp [okSt, hin]) (Or.inr rfl) hd.1 (by omega) t6)
                rw [← List.append_assoc, ← List.append_assoc] at this
                exact this
              · simp only [List.length_append, List.length_singleton]
                exact bnd_nest (by omega) hL (by omega) hm2 n6
              · simp only [spec_l05Block.tree, Tr.do_ite, Tr.do_call, Tr.do_val, Tr.do_need, Tr.do_jump, lt_dec q, decide_eq_true q2, decide_eq_true q6, spec_l01Once.told, e1, e3, spec_l01Below.told, e2, e5, Self.told, hm, wd, w2, e6, bind_ok, fit, fit2, fit3, wk, Bool.false_eq_true, ↓reduceIte]
        · obtain ⟨y0, y1, y2, y3, y4, y5, i2, j2, e2, t2, l2, c2⟩ := plain s2 s3 hC
          refine Or.inr ⟨q, (_, i2, j2), ?_, t2, l2, c2⟩
          simp only [spec_l05Block.tree, Tr.do_ite, Tr.do_call, Tr.do_val, Tr.do_need, Tr.do_jump, lt_dec q, decide_eq_true q2, decide_eq_false q6, spec_l04Stmt.told, e2, bind_ok, fit, wk, Bool.false_eq_true, ↓reduceIte]
      · obtain ⟨y0, y1, y2, y3, y4, y5, i2, j2, e2, t2, l2, c2⟩ := plain s2 s3 hC
        refine Or.inr ⟨q, (_, i2, j2), ?_, t2, l2, c2⟩
        simp only [spec_l05Block.tree, Tr.do_ite, Tr.do_call, Tr.do_val, Tr.do_need, Tr.do_jump, lt_dec q, decide_eq_false q2, spec_l04Stmt.told, e2, bind_ok, fit, wk, Bool.false_eq_true, ↓reduceIte]
    · obtain rfl : k = n := by omega
      refine Or.inl ⟨(s1, b, s2, s3), ?_, s1, s2, s3, rfl, hT, hL, hC⟩
      simp only [spec_l05Block.tree, Tr.do_ite, Tr.do_ret, ge_dec, Bool.false_eq_true, ↓reduceIte]) 0 (by omega) ([], i, h) ⟨Trans.nil d, by simp, c⟩
  obtain ⟨r, e, l, i', h', rfl, p⟩ := key
  refine ⟨l, i', h', ?_, p⟩
  simp only [spec_l05Block.step, spec_l05Block.begin, Tr.do_jump]
  exact e
theorem spec_l05Block_ok (n : Nat) {b : List Int} {i : Int} (h : Int) (hn : n ≤ 5) (c : Cur b i) : ∃ l i' h', spec_l05Block.f (n : Int) 0 b i h = some (l, b, i', h') ∧ Trans 0 l ∧ l.length ≤ 20 ∧ Cur b i' := by
  have h2 := blk_step (Self.iter spec_l05Block.step 5) 2 (by omega) (fun h => absurd h (by omega))
  have h1 := blk_step (Self.iter spec_l05Block.step 6) 1 (by omega) (fun _ => h2)
  have h0 := blk_step (Self.iter spec_l05Block.step 7) 0 (by omega) (fun _ => h1)
  obtain ⟨l, i', h', e, t, n', c'⟩ := h0 n b i h hn c
  exact ⟨l, i', h', e, t, Nat.le_trans n' (bnd_big hn), c'⟩
theorem spec_l05Case_ok {b : List Int} {i : Int} (h : Int) (c : Cur b i) : ∃ l i' h', spec_l05Case.f b i h = some (l, b, i', h') ∧ okB l.length l 0 = true ∧ l.length ≤ 20 ∧ Cur b i' := by
  obtain ⟨x1, i1, j1, e1, a1, b1, c1⟩ := spec_l01Below_ok 6 h (by omega) c
  obtain ⟨m, rfl⟩ : ∃ m : Nat, x1 = m := ⟨x1.toNat, by omega⟩
  obtain ⟨l, i2, j2, e2, t2, n2, c2⟩ := spec_l05Block_ok m j1 (by omega) c1
  simp only [spec_l05Case.f, spec_l05Case.begin, Tr.do_call, Tr.do_ret, spec_l01Below.told, e1, spec_l05Block.told, e2, bind_ok]
  refine ⟨_, _, _, rfl, ?_, n2, c2⟩
  have := t2 l.length []
  rw [List.append_nil] at this
  rw [this]
  show (decide ((0 : Int) = 0) && decide ((l.length : Int) ≤ 24)) = true
  rw [decide_eq_true (show (l.length : Int) ≤ 24 by omega)]
  rfl
/-- A program that was drawn. -/
def PrOk (p : List S166) : Prop := okP p = true ∧ 1 ≤ p.length ∧ p.length ≤ 3 ∧ ∀ t ∈ p, t.f0.length ≤ 20
theorem spec_l06Program_ok {b : List Int} {i : Int} (h : Int) (c : Cur b i) : ∃ p i' h', spec_l06Program.f b i h = some (p, b, i', h') ∧ PrOk p ∧ Cur b i' := by
  have key := upto 3 (fun k (s : List S166 × Int × Int) => s.1.length = k ∧ s.1.all okT = true ∧ (∀ t ∈ s.1, t.f0.length ≤ 20) ∧ Cur b s.2.1) (fun k s => lp spec_l06Program.tree (.c3 [] s.1 (k : Int) b s.2.1 s.2.2)) (fun r => ∃ l i' h', r = (l, b, i', h') ∧ PrOk l ∧ Cur b i') (fun k hk s hs => by
    obtain ⟨s1, s2, s3⟩ := s
    obtain ⟨hl, hv, hb, hc⟩ := hs
    simp only at hl hv hb hc
    rw [lp_eq]
    obtain ⟨x1, i1, j1, e1, a1, b1, c1⟩ := spec_l01Below_ok 3 s3 (by omega) hc
    have w : wr (1 + x1) = 1 + x1 := wr_in (by omega)
    by_cases q : (k : Int) < 1 + x1
    · obtain ⟨l2, i2, j2, e2, o2, n2, c2⟩ := spec_l05Case_ok j1 c1
      obtain ⟨o3, x3, y3, i3, j3, e3, a3, c3⟩ := spec_l03Expr_ok j2 c2
      have fit : ∀ x : S166, ((s1.length : Int) + (([x] : List S166).length : Int)) * (48 : Nat) ≤ room := fun x => one_fits s1 x 1048576 (by omega) (by omega) 48 (by omega)
      refine Or.inr ⟨by omega, (s1 ++ [(⟨l2, (⟨o3, x3, y3⟩ : S153)⟩ : S166)], i3, j3), ?_, by simp [hl], ?_, ?_, c3⟩
      · simp only [spec_l06Program.tree, Tr.do_call, Tr.do_ite, Tr.do_both, Tr.do_last, Tr.do_need, Tr.do_jump, spec_l01Below.told, e1, bind_ok, w, decide_eq_true q, spec_l05Case.told, e2, spec_l03Expr.told, e3, fit, both_same, ↓reduceIte, wr_next (show k < 4611686018427387904 by omega)]
      · rw [List.all_append, hv]
        show (true && (okB l2.length l2 0 && okX o3 x3 y3 && true)) = true
        rw [o2, a3]; rfl
      · intro t ht
        rcases List.mem_append.mp ht with ht | ht
        · exact hb t ht
        · rw [List.mem_singleton] at ht; rw [ht]; exact n2
    · refine Or.inl ⟨(s1, b, i1, j1), ?_, s1, i1, j1, rfl, ⟨?_, by omega, by omega, hb⟩, c1⟩
      · simp only [spec_l06Program.tree, Tr.do_call, Tr.do_ite, Tr.do_ret, spec_l01Below.told, e1, bind_ok, w, decide_eq_false q, Bool.false_eq_true, ↓reduceIte]
      · unfold okP
        rw [hv, (inB_iff (x := (s1.length : Int)) (a := 1) (b := 6)).mpr (by omega)]
        rfl) 0 (by omega) ([], i, h) ⟨rfl, rfl, by simp, c⟩
  obtain ⟨r, e, l, i', h', rfl, p⟩ := key
  refine ⟨l, i', h', ?_, p⟩
  simp only [spec_l06Program.f, spec_l06Program.begin, Tr.do_jump]
  exact e
/-! ### Drawn memories -/
theorem unpack_pack {a b c : Int} (ha : 0 ≤ a ∧ a ≤ 5) (hb : 0 ≤ b ∧ b ≤ 8) (hc : 0 ≤ c ∧ c ≤ 24) : unpack (pack a b c) = (a, b, c) := by
  have hp : ∀ x y z : Int, 0 ≤ x ∧ x ≤ 5 → 0 ≤ y ∧ y ≤ 8 → 0 ≤ z ∧ z ≤ 24 → pack x y z = x + 8 * (y + 16 * z) := fun x y z h1 h2 h3 => by
    unfold pack
    rw [inB_iff.mpr h1, inB_iff.mpr h2, inB_iff.mpr h3]
    rfl
  rw [hp a b c ha hb hc]
  unfold unpack
  generalize hw : a + 8 * (b + 16 * c) = w
  have w0 : 0 ≤ w := by omega
  have e1 : Int.tmod w 8 = a := by rw [Int.tmod_eq_emod_of_nonneg w0]; omega
  have e2 : Int.tdiv w 8 = b + 16 * c := by rw [Int.tdiv_eq_ediv_of_nonneg w0]; omega
  have e3 : wr (b + 16 * c) = b + 16 * c := wr_in (by omega)
  have e4 : Int.tmod (b + 16 * c) 16 = b := by rw [Int.tmod_eq_emod_of_nonneg (by omega)]; omega
  have e5 : Int.tdiv w 128 = c := by rw [Int.tdiv_eq_ediv_of_nonneg w0]; omega
  have e6 : wr c = c := wr_in (by omega)
  rw [e1, e2, e3, e4, e5, e6, hp a b c ha hb hc, if_neg (by omega), if_pos hw]
theorem rdI_set {m : List Int} {k : Nat} {j : Int} {v : Int} (hk : k < m.length) (hj : j = (k : Int)) : rdI (m.set k v) j = v := by
  subst hj
  show (m.set k v).getD ((k : Int)).toNat 0 = v
  rw [List.getD, Int.toNat_natCast, List.getElem?_set_self hk]
  rfl
theorem all_set {m : List Int} {k : Nat} {v : Int} (h : m.all isVal = true) (hv : isVal v = true) : (m.set k v).all isVal = true := by
  rw [List.all_eq_true] at h ⊢
  intro x hx
  rcases List.mem_or_eq_of_mem_set hx with hx | rfl
  · exact h x hx
  · exact hv
theorem all_take {m : List Int} (k : Nat) (h : m.all isVal = true) : (m.take k).all isVal = true := by
  rw [List.all_eq_true] at h ⊢
  exact fun x hx => h x (List.mem_of_mem_take hx)
theorem all_drop {m : List Int} (k : Nat) (h : m.all isVal = true) : (m.drop k).all isVal = true := by
  rw [List.all_eq_true] at h ⊢
  exact fun x hx => h x (List.mem_of_mem_drop hx)
/-- A valid memory without an open log. -/
def Clean (n : Nat) (m : List Int) : Prop := okMem n m = true ∧ (unpack (rdI m 8)).2.1 = 0
theorem okMem_of {n : Nat} {m : List Int} {t c tl : Int} (hm : m.length = 49) (e : unpack (rdI m 8) = (t, c, tl)) (ht : 0 ≤ t ∧ t < n) (h8 : (m.take 8).all isVal = true) (hs : (sent m).all isVal = true) (hl : (List.range c.toNat).all (okPair m) = true) : okMem n m = true := by
  unfold okMem
  rw [e, decide_eq_true hm, decide_eq_false (show ¬ t < 0 by omega), decide_eq_false (show ¬ t ≥ (n : Int) by omega), h8, hs, hl]
  rfl
theorem spec_l12Readings_ok {b : List Int} {i : Int} (h : Int) (c : Cur b i) : ∃ l i' h', spec_l12Readings.f b i h = some (l, b, i', h') ∧ l.all isVal = true ∧ 1 ≤ l.length ∧ l.length ≤ 9 ∧ Cur b i' := by
  have key := upto 9 (fun k (s : List Int × Int × Int) => s.1.length = k ∧ s.1.all isVal = true ∧ Cur b s.2.1) (fun k s => lp spec_l12Readings.tree (.c3 s.1 (k : Int) b s.2.1 s.2.2)) (fun r => ∃ l i' h', r = (l, b, i', h') ∧ l.all isVal = true ∧ 1 ≤ l.length ∧ l.length ≤ 9 ∧ Cur b i') (fun k hk s hs => by
    obtain ⟨s1, s2, s3⟩ := s
    obtain ⟨hl, hv, hc⟩ := hs
    simp only at hl hv hc
    rw [lp_eq]
    obtain ⟨x1, i1, j1, e1, a1, b1, c1⟩ := spec_l01Below_ok 9 s3 (by omega) hc
    have w : wr (1 + x1) = 1 + x1 := wr_in (by omega)
    by_cases q : (k : Int) < 1 + x1
    · obtain ⟨x2, i2, j2, e2, a2, b2, c2⟩ := spec_l01Below_ok 800 j1 (by omega) c1
      have w2 : wr (x2 - 200) = x2 - 200 := wr_in (by omega)
      have hvx : isVal (x2 - 200) = true := by unfold isVal; rw [inB_iff]; omega
      refine Or.inr ⟨by omega, (s1 ++ [x2 - 200], i2, j2), ?_, by simp [hl], by simp [hv, hvx], c2⟩
      simp only [spec_l12Readings.tree, Tr.do_call, Tr.do_ite, Tr.do_need, Tr.do_jump, spec_l01Below.told, e1, e2, bind_ok, w, w2, decide_eq_true q, one_fits s1 _ 1048576 (by omega) (by omega) 8 (by omega), ↓reduceIte, wr_next (show k < 4611686018427387904 by omega)]
    · refine Or.inl ⟨(s1, b, i1, j1), ?_, s1, i1, j1, rfl, hv, by omega, by omega, c1⟩
      simp only [spec_l12Readings.tree, Tr.do_call, Tr.do_ite, Tr.do_ret, spec_l01Below.told, e1, bind_ok, w, decide_eq_false q, Bool.false_eq_true, ↓reduceIte]) 0 (by omega) ([], i, h) ⟨rfl, rfl, c⟩
  obtain ⟨r, e, l, i', h', rfl, p⟩ := key
  exact ⟨l, i', h', e, p⟩
theorem spec_DrawPlaces_ok (b : List Int) (hb : b.length ≤ 1048576) : ∃ l, spec_DrawPlaces.f b = some l ∧ l.length = 12 ∧ ∀ x ∈ l, 0 ≤ x ∧ x < 10000 := by
  obtain ⟨h, e1⟩ := spec_l01New_ok b hb
  have key := upto 12 (fun k (s : List Int × Int × Int) => s.1.length = k ∧ (∀ x ∈ s.1, 0 ≤ x ∧ x < 10000) ∧ Cur b s.2.1) (fun k s => lp spec_DrawPlaces.tree (.c4 s.1 (k : Int) b s.2.1 s.2.2)) (fun l => l.length = 12 ∧ ∀ x ∈ l, 0 ≤ x ∧ x < 10000) (fun k hk s hs => by
    obtain ⟨s1, s2, s3⟩ := s
    obtain ⟨hl, hv, hc⟩ := hs
    simp only at hl hv hc
    rw [lp_eq]
    by_cases q : k < 12
    · have q' : decide ((k : Int) < 12) = true := decide_eq_true (by omega)
      obtain ⟨x2, i2, j2, e2, a2, b2, c2⟩ := spec_l01Below_ok 10000 s3 (by omega) hc
      refine Or.inr ⟨q, (s1 ++ [x2], i2, j2), ?_, by simp [hl], ?_, c2⟩
      · simp only [spec_DrawPlaces.tree, Tr.do_call, Tr.do_ite, Tr.do_need, Tr.do_jump, spec_l01Below.told, e2, bind_ok, q', one_fits s1 _ 1048576 (by omega) (by omega) 8 (by omega), ↓reduceIte, wr_next (show k < 4611686018427387904 by omega)]
      · intro x hx
        rcases List.mem_append.mp hx with hx | hx
        · exact hv x hx
        · rw [List.mem_singleton] at hx; rw [hx]; exact ⟨a2, b2⟩
    · have q' : decide ((k : Int) < 12) = false := decide_eq_false (by omega)
      refine Or.inl ⟨s1, ?_, by omega, hv⟩
      simp only [spec_DrawPlaces.tree, Tr.do_ite, Tr.do_ret, q', Bool.false_eq_true, ↓reduceIte]) 0 (by omega) ([], 0, h) ⟨rfl, by simp, hb, by show (0 : Int) ≤ 0; omega⟩
  obtain ⟨l, e, p⟩ := key
  refine ⟨l, ?_, p⟩
  simp only [spec_DrawPlaces.f, spec_DrawPlaces.begin, Tr.do_call, Tr.do_jump, spec_l01New.told, e1, bind_ok]
  exact e
/-! ### Blocks as paths of depths -/
def okS (s : S210) : Bool := okSt s.f0 s.f1 s.f2 s.f3.f0 s.f3.f1 s.f3.f2
def inr (lo hi : Int) : List S210 → Int → Bool
  | [], _ => true
  | s :: l, d => okS s && (inB (dep s.f0 d) lo hi && inr lo hi l (dep s.f0 d))
def fin : List S210 → Int → Int
  | [], d => d
  | s :: l, d => fin l (dep s.f0 d)
theorem okB_path (n : Nat) : ∀ (l : List S210) (d : Int), okB n l d = true → inr 0 3 l d = true ∧ fin l d = 0 ∧ n ≤ 24
  | [], d, h => by
    unfold okB at h
    rw [Bool.and_eq_true, decide_eq_true_eq, decide_eq_true_eq] at h
    exact ⟨rfl, h.1, by omega⟩
  | s :: l, d, h => by
    unfold okB at h
    rw [Bool.and_eq_true, Bool.and_eq_true] at h
    obtain ⟨a, b, c⟩ := okB_path n l _ h.2.2
    refine ⟨?_, b, c⟩
    unfold inr okS
    rw [h.1, h.2.1, a]
    rfl
theorem dep_add (x d c : Int) : dep x (d + c) = dep x d + c := by unfold dep; split; omega; split <;> omega
theorem inB_add (x a b c : Int) : inB (x + c) (a + c) (b + c) = inB x a b := by
  rw [Bool.eq_iff_iff, inB_iff, inB_iff]; omega
theorem inr_add (lo hi c : Int) : ∀ (l : List S210) (d : Int), inr (lo + c) (hi + c) l (d + c) = inr lo hi l d
  | [], d => rfl
  | s :: l, d => by
    show (okS s && (inB (dep s.f0 (d + c)) (lo + c) (hi + c) && inr (lo + c) (hi + c) l (dep s.f0 (d + c)))) = _
    rw [dep_add, inB_add, inr_add lo hi c l]; rfl
theorem fin_add (c : Int) : ∀ (l : List S210) (d : Int), fin l (d + c) = fin l d + c
  | [], d => rfl
  | s :: l, d => by show fin l (dep s.f0 (d + c)) = _; rw [dep_add, fin_add c l]; rfl
theorem inr_mono {lo hi lo' hi' : Int} (h1 : lo' ≤ lo) (h2 : hi ≤ hi') : ∀ (l : List S210) (d : Int), inr lo hi l d = true → inr lo' hi' l d = true
  | [], d, _ => rfl
  | s :: l, d, h => by
    unfold inr at h ⊢
    rw [Bool.and_eq_true, Bool.and_eq_true, inB_iff] at h
    rw [h.1, inr_mono h1 h2 l _ h.2.2, (inB_iff (x := dep s.f0 d)).mpr (by omega)]
    rfl
/-- Where a path falls below a depth. -/
theorem path_split (k c : Int) (hc : 0 ≤ c) : ∀ (l : List S210) (d : Int), c < d → d ≤ k → inr 0 k l d = true → fin l d ≤ c →
    ∃ a s r, l = a ++ s :: r ∧ s.f0 = 6 ∧ inr (c + 1) k a d = true ∧ fin a d = c + 1 ∧ inr 0 k r c = true ∧ fin r c = fin l d
  | [], d, hd, _, _, h => absurd (show d ≤ c from h) (by omega)
  | s :: l, d, hd, hk, h, hf => by
    unfold inr at h
    rw [Bool.and_eq_true, Bool.and_eq_true, inB_iff] at h
    obtain ⟨h1, ⟨h2, h2'⟩, h3⟩ := h
    by_cases q : dep s.f0 d ≤ c
    · have hs : s.f0 = 6 ∧ d = c + 1 ∧ dep s.f0 d = c := by
        revert q h2 h2'
        unfold dep
        intro h2 h2' q
        split at q
        · omega
        · split at q
          · rename_i e
            exact ⟨e, by omega, by rw [if_neg (by omega), if_pos e]; omega⟩
          · omega
      obtain ⟨hs6, hd1, hdc⟩ := hs
      rw [hdc] at h3
      exact ⟨[], s, l, rfl, hs6, rfl, hd1, h3, by show _ = fin l (dep s.f0 d); rw [hdc]⟩
    · obtain ⟨a, s', r, e, e6, p1, p2, p3, p4⟩ := path_split k c hc l (dep s.f0 d) (by omega) h2' h3 hf
      refine ⟨s :: a, s', r, by rw [e]; rfl, e6, ?_, p2, p3, p4⟩
      unfold inr
      rw [h1, p1, (inB_iff (x := dep s.f0 d)).mpr (by omega)]
      rfl
/-- A block with at most k levels. -/
def Bal (k : Int) (l : List S210) : Prop := inr 0 k l 0 = true ∧ fin l 0 = 0
/-- What stands behind an opening statement. -/
theorem nest_split {k d : Int} {x : S210} {l : List S210} (hd : 0 ≤ d) (hx : x.f0 = 4 ∨ x.f0 = 5) (h : inr 0 k (x :: l) d = true) (hf : fin (x :: l) d = 0) :
    ∃ a s r, l = a ++ s :: r ∧ s.f0 = 6 ∧ 1 ≤ k ∧ Bal (k - 1) a ∧ inr 1 k a 1 = true ∧ fin a 1 = 1 ∧ inr 0 k r d = true ∧ fin r d = 0 := by
  unfold inr at h
  rw [Bool.and_eq_true, Bool.and_eq_true, inB_iff] at h
  obtain ⟨h1, ⟨h2, h2'⟩, h3⟩ := h
  have e : dep x.f0 d = d + 1 := by unfold dep; rw [if_pos hx]
  rw [e] at h2 h2' h3
  have hf' : fin l (d + 1) = 0 := by have : fin l (dep x.f0 d) = 0 := hf; rw [e] at this; exact this
  obtain ⟨a, s, r, e1, e6, p1, p2, p3, p4⟩ := path_split k d hd l (d + 1) (by omega) h2' h3 (by omega)
  have q1 := inr_add 1 (k - d) d a 1
  rw [show 1 + d = d + 1 by omega, show k - d + d = k by omega, p1] at q1
  have q2 := fin_add d a 1
  rw [show 1 + d = d + 1 by omega, p2] at q2
  have q3 := inr_add 0 (k - d - 1) 1 a 0
  rw [show (0 : Int) + 1 = 1 by omega, show k - d - 1 + 1 = k - d by omega, ← q1] at q3
  have q4 := fin_add 1 a 0
  rw [show (0 : Int) + 1 = 1 by omega] at q4
  exact ⟨a, s, r, e1, e6, by omega, ⟨inr_mono (by omega) (by omega) a 0 q3.symm, by omega⟩, inr_mono (by omega) (by omega) a 1 q1.symm, by omega, p3, by omega⟩
theorem drop_at {A : Type} {l a r : List A} {x : A} {i : Nat} (h : l.drop i = a ++ x :: r) : ∃ h' : i + a.length < l.length, l[i + a.length] = x ∧ l.drop (i + a.length + 1) = r := by
  have hl := congrArg List.length h
  rw [List.length_drop, List.length_append, List.length_cons] at hl
  have h' : i + a.length < l.length := by omega
  refine ⟨h', ?_, ?_⟩
  · have e : (l.drop i)[a.length]? = some x := by rw [h]; simp
    rw [List.getElem?_drop, List.getElem?_eq_getElem h'] at e
    exact Option.some.inj e
  · rw [show i + a.length + 1 = i + (a.length + 1) from rfl, ← List.drop_drop, h]
    simp
theorem impl_isOpening_f (x : Int) : impl_isOpening.f x = some (decide (x = 4 ∨ x = 5)) := by
  simp only [impl_isOpening.f, impl_isOpening.begin, Tr.do_ite, Tr.do_ret]
  by_cases h4 : x = 4
  · simp [h4]
  · simp [h4]
theorem dep_wr3 {x d : Int} (h0 : 0 ≤ d) (h1 : d ≤ 30) : wr (d + 1) = d + 1 ∧ wr (d - 1) = d - 1 ∧ wr (d + 1 - 1) = d + 1 - 1 := ⟨wr_in (by omega), wr_in (by omega), wr_in (by omega)⟩
/-- One round of endOf. -/
theorem endOf_round (l : List S210) (i : Nat) (d : Int) (hi : i < l.length) (hl : l.length ≤ 1048576) (h0 : 0 ≤ d) (h1 : d ≤ 30) :
    lp impl_endOf.tree (.c3 l d (i : Int)) = if dep l[i].f0 d = 0 then some (i : Int) else lp impl_endOf.tree (.c3 l (dep l[i].f0 d) ((i + 1 : Nat) : Int)) := by
  rw [lp_eq]
  obtain ⟨w1, w2, w3⟩ := dep_wr3 (x := 0) h0 h1
  have w7 : wr ((i : Int) + 1) = ((i + 1 : Nat) : Int) := wr_next (by omega)
  simp only [impl_endOf.tree, Tr.do_ite, Tr.do_call, Tr.do_need, Tr.do_ret, Tr.do_jump, impl_isOpening.told, impl_isOpening_f, bind_ok, lt_dec hi, in_lt hi, getD_lt hi, and_self, ↓reduceIte, w1, w2, w3, w7, decide_eq_true_eq]
  unfold dep
  by_cases h4 : l[i].f0 = 4 ∨ l[i].f0 = 5
  · have h6 : ¬ l[i].f0 = 6 := by omega
    simp only [h4, h6, ↓reduceIte]
  · by_cases h6 : l[i].f0 = 6
    · simp only [h6, show ¬((6 : Int) = 4 ∨ (6 : Int) = 5) by omega, ↓reduceIte]
    · simp only [h4, h6, ↓reduceIte]
theorem endOf_go (l : List S210) (hl : l.length ≤ 1048576) (k : Int) (hk : k ≤ 30) : ∀ (a : List S210) (d : Int) (j : Nat) (s : S210) (r : List S210), l.drop j = a ++ s :: r → s.f0 = 6 → 1 ≤ d → d ≤ k → inr 1 k a d = true → fin a d = 1 →
    lp impl_endOf.tree (.c3 l d (j : Int)) = some ((j + a.length : Nat) : Int)
  | [], d, j, s, r, hd, h6, h1, hk', _, hf => by
    obtain ⟨h', e, _⟩ := drop_at (a := []) hd
    have hd1 : d = 1 := hf
    rw [endOf_round l j d h' hl (by omega) (by omega)]
    rw [show l[j] = s from e, h6, hd1]
    rfl
  | x :: a, d, j, s, r, hd, h6, h1, hk', hp, hf => by
    obtain ⟨h', e, e2⟩ := drop_at (a := []) (show l.drop j = [] ++ x :: (a ++ s :: r) from hd)
    rw [endOf_round l j d h' hl (by omega) (by omega)]
    rw [show l[j] = x from e]
    unfold inr at hp
    rw [Bool.and_eq_true, Bool.and_eq_true, inB_iff] at hp
    rw [if_neg (by omega), endOf_go l hl k hk a (dep x.f0 d) (j + 1) s r e2 h6 hp.2.1.1 hp.2.1.2 hp.2.2 hf, List.length_cons]
    congr 2
    omega
theorem impl_endOf_at (l : List S210) (hl : l.length ≤ 1048576) (k : Int) (hk1 : 1 ≤ k) (hk : k ≤ 30) (i : Nat) (x : S210) (a : List S210) (s : S210) (r : List S210) (hd : l.drop i = x :: (a ++ s :: r)) (hx : x.f0 = 4 ∨ x.f0 = 5) (h6 : s.f0 = 6) (hp : inr 1 k a 1 = true) (hf : fin a 1 = 1) :
    impl_endOf.f l (i : Int) = some ((i + 1 + a.length : Nat) : Int) := by
  simp only [impl_endOf.f, impl_endOf.begin, Tr.do_jump]
  obtain ⟨h', e, e2⟩ := drop_at (a := []) (show l.drop i = [] ++ x :: (a ++ s :: r) from hd)
  rw [endOf_round l i 0 h' hl (by omega) (by omega), show l[i] = x from e]
  have hdep : dep x.f0 0 = 1 := by unfold dep; rw [if_pos hx]; rfl
  rw [hdep, if_neg (by omega)]
  exact endOf_go l hl k hk a 1 (i + 1) s r e2 h6 (by omega) (by omega) hp hf
/-! ### What has to be logged: only that it can be found -/
theorem impl_hasVar_f (x : Int) : impl_hasVar.f x = some (decide (x = 1 ∨ x = 2)) := by
  simp only [impl_hasVar.f, impl_hasVar.begin, Tr.do_ite, Tr.do_ret]
  by_cases h4 : x = 1
  · simp [h4]
  · simp [h4]
theorem impl_hasExpr_f (x : Int) : impl_hasExpr.f x = some (decide (x = 1 ∨ x = 3 ∨ x = 4)) := by
  simp only [impl_hasExpr.f, impl_hasExpr.begin, Tr.do_ite, Tr.do_ret]
  by_cases h4 : x = 1
  · simp [h4]
  · by_cases h3 : x = 3
    · simp [h3]
    · simp [h4, h3]
theorem slices_Index_int_ok (l : List Int) (k : Int) (hl : l.length ≤ 1048576) : ∃ j, slices_Index_int.f l k = some j := by
  have key := upto l.length (fun _ (_ : Unit) => True) (fun i _ => lp slices_Index_int.tree (.c2 l k (l.length : Int) (i : Int))) (fun _ => True) (fun i hi s _ => by
    rw [lp_eq]
    by_cases q : i < l.length
    · by_cases qk : k = rdI l (i : Int)
      · simp only [slices_Index_int.tree, Tr.do_ite, Tr.do_need, Tr.do_ret, Tr.do_jump, lt_dec q, in_lt q, and_self, ↓reduceIte, decide_eq_true qk]
        exact Or.inl ⟨_, rfl, trivial⟩
      · simp only [slices_Index_int.tree, Tr.do_ite, Tr.do_need, Tr.do_ret, Tr.do_jump, lt_dec q, in_lt q, and_self, ↓reduceIte, decide_eq_false qk, Bool.false_eq_true, wr_next (show i < 4611686018427387904 by omega)]
        exact Or.inr ⟨q, (), rfl, trivial⟩
    · obtain rfl : i = l.length := by omega
      simp only [slices_Index_int.tree, Tr.do_ite, Tr.do_ret, ge_dec, Bool.false_eq_true, ↓reduceIte]
      exact Or.inl ⟨_, rfl, trivial⟩) 0 (by omega) () trivial
  obtain ⟨r, e, _⟩ := key
  exact ⟨r, e⟩
theorem impl_HasVar_ok (l : List Int) (k : Int) (hl : l.length ≤ 1048576) : ∃ b, impl_HasVar.f l k = some b := by
  obtain ⟨j, e⟩ := slices_Index_int_ok l k hl
  simp only [impl_HasVar.f, impl_HasVar.begin, Tr.do_call, Tr.do_ret, slices_Contains_int.told, slices_Contains_int.f, slices_Contains_int.begin, slices_Index_int.told, e, bind_ok]
  exact ⟨_, rfl⟩
theorem compactUpTo_facts (zs : List Int) (P : Int → Prop) (h : ∀ x ∈ zs, P x) : ∀ m, m ≤ zs.length → (∀ x ∈ Go.Lib.compactUpTo zs.toArray m, P x) ∧ (Go.Lib.compactUpTo zs.toArray m).length ≤ m
  | 0, _ => by
    have : Go.Lib.compactUpTo zs.toArray 0 = [] := rfl
    rw [this]
    exact ⟨by simp, by simp⟩
  | m + 1, hm => by
    obtain ⟨a, b⟩ := compactUpTo_facts zs P h m (by omega)
    rw [Go.Lib.compactUpTo_succ]
    have hx : P (zs.toArray[m]!) := by
      have h' : m < zs.length := by omega
      have : zs.toArray[m]! = zs[m] := by simp [h']
      rw [this]
      exact h _ (List.getElem_mem h')
    split
    · refine ⟨fun x hx' => ?_, by rw [List.length_append, List.length_singleton]; omega⟩
      rcases List.mem_append.mp hx' with hx' | hx'
      · exact a x hx'
      · rw [List.mem_singleton] at hx'; rw [hx']; exact hx
    · rw [List.append_nil]
      exact ⟨a, by omega⟩
theorem sorted_ok (l : List Int) (P : Int → Prop) (h : ∀ x ∈ l, P x) (hl : l.length ≤ 1048576) : ∃ m n, slices_Sort_int.f l = some m ∧ slices_Compact_int.f m = some n ∧ (∀ x ∈ n, P x) ∧ n.length ≤ l.length := by
  have e1 : slices_Sort_int.f l = some (l.mergeSort fun x y => decide (x ≤ y)) := by
    unfold slices_Sort_int.f
    rw [if_pos (by omega)]
  have hm : ∀ x ∈ (l.mergeSort fun x y => decide (x ≤ y)), P x := fun x hx => h x (List.mem_mergeSort.mp hx)
  obtain ⟨a, b⟩ := compactUpTo_facts (l.mergeSort fun x y => decide (x ≤ y)) P hm _ (Nat.le_refl _)
  refine ⟨_, _, e1, rfl, a, ?_⟩
  have b' : (Go.Lib.compact (l.mergeSort fun x y => decide (x ≤ y))).length ≤ (l.mergeSort fun x y => decide (x ≤ y)).length := b
  rw [List.length_mergeSort] at b'
  exact b'
theorem impl_written_2_ok (l : List S210) (hl : l.length ≤ 1048576) : ∃ r, impl_written_2.f l = some r ∧ r.length ≤ l.length := by
  have key := upto l.length (fun i (s : List Int) => s.length ≤ i) (fun i s => lp impl_written_2.tree (.c3 s l (l.length : Int) (i : Int))) (fun r => r.length ≤ l.length) (fun i hi s hs => by
    rw [lp_eq]
    by_cases q : i < l.length
    · have fit : ∀ x : Int, ((s.length : Int) + (([x] : List Int).length : Int)) * (8 : Nat) ≤ room := fun x => one_fits s x 1048576 (by omega) (by omega) 8 (by omega)
      by_cases hv : l[i].f0 = 1 ∨ l[i].f0 = 2
      · refine Or.inr ⟨q, s ++ [l[i].f1], ?_, by rw [List.length_append, List.length_singleton]; omega⟩
        simp only [impl_written_2.tree, Tr.do_ite, Tr.do_need, Tr.do_call, Tr.do_jump, lt_dec q, in_lt q, getD_lt q, and_self, ↓reduceIte, impl_hasVar.told, impl_hasVar_f, bind_ok, hv, decide_true, impl_MayWrite_1.told, impl_MayWrite_1.f, impl_MayWrite_1.begin, Tr.do_ret, fit, wr_next (show i < 4611686018427387904 by omega)]
      · refine Or.inr ⟨q, s, ?_, by omega⟩
        simp only [impl_written_2.tree, Tr.do_ite, Tr.do_need, Tr.do_call, Tr.do_jump, lt_dec q, in_lt q, getD_lt q, and_self, ↓reduceIte, impl_hasVar.told, impl_hasVar_f, bind_ok, hv, decide_false, decide_true, Bool.false_eq_true, wr_next (show i < 4611686018427387904 by omega)]
    · obtain rfl : i = l.length := by omega
      obtain ⟨m, n, e1, e2, _, b⟩ := sorted_ok s (fun _ => True) (fun _ _ => trivial) (by omega)
      refine Or.inl ⟨n, ?_, by omega⟩
      simp only [impl_written_2.tree, Tr.do_ite, Tr.do_call, Tr.do_ret, ge_dec, Bool.false_eq_true, ↓reduceIte, slices_Sort_int.told, e1, slices_Compact_int.told, e2, bind_ok]) 0 (by omega) [] (by simp)
  exact key
theorem impl_written_ok (l : List S210) (g : List Bool) (hl : l.length ≤ 1048576) (hg : g.length = l.length) : ∃ r, impl_written.f l g = some r ∧ r.1.length ≤ l.length := by
  have key := upto l.length (fun i (s : List Int) => s.length ≤ i) (fun i s => lp impl_written.tree (.c3 s l (l.length : Int) (i : Int) g)) (fun r => r.1.length ≤ l.length) (fun i hi s hs => by
    rw [lp_eq]
    by_cases q : i < l.length
    · have q' : i < g.length := by omega
      have fit : ∀ x : Int, ((s.length : Int) + (([x] : List Int).length : Int)) * (8 : Nat) ≤ room := fun x => one_fits s x 1048576 (by omega) (by omega) 8 (by omega)
      by_cases hv : l[i].f0 = 1 ∨ l[i].f0 = 2
      · cases hb : g[i] with
        | false =>
          refine Or.inr ⟨q, s ++ [l[i].f1], ?_, by rw [List.length_append, List.length_singleton]; omega⟩
          simp only [impl_written.tree, Tr.do_ite, Tr.do_need, Tr.do_call, Tr.do_jump, lt_dec q, in_lt q, in_lt q', getD_lt q, getD_lt q', hb, and_self, ↓reduceIte, impl_hasVar.told, impl_hasVar_f, bind_ok, hv, decide_true, impl_MustWrite_1.told, impl_MustWrite_1.f, impl_MustWrite_1.begin, Tr.do_ret, Bool.not_false, fit, wr_next (show i < 4611686018427387904 by omega)]
        | true =>
          refine Or.inr ⟨q, s, ?_, by omega⟩
          simp only [impl_written.tree, Tr.do_ite, Tr.do_need, Tr.do_call, Tr.do_jump, lt_dec q, in_lt q, in_lt q', getD_lt q, getD_lt q', hb, and_self, ↓reduceIte, impl_hasVar.told, impl_hasVar_f, bind_ok, hv, decide_true, impl_MustWrite_1.told, impl_MustWrite_1.f, impl_MustWrite_1.begin, Tr.do_ret, Bool.not_true, Bool.false_eq_true, fit, wr_next (show i < 4611686018427387904 by omega)]
      · refine Or.inr ⟨q, s, ?_, by omega⟩
        simp only [impl_written.tree, Tr.do_ite, Tr.do_need, Tr.do_call, Tr.do_jump, lt_dec q, in_lt q, getD_lt q, and_self, ↓reduceIte, impl_hasVar.told, impl_hasVar_f, bind_ok, hv, decide_false, decide_true, Bool.false_eq_true, wr_next (show i < 4611686018427387904 by omega)]
    · obtain rfl : i = l.length := by omega
      obtain ⟨m, n, e1, e2, _, b⟩ := sorted_ok s (fun _ => True) (fun _ _ => trivial) (by omega)
      refine Or.inl ⟨(n, g), ?_, by show n.length ≤ _; omega⟩
      simp only [impl_written.tree, Tr.do_ite, Tr.do_call, Tr.do_ret, ge_dec, Bool.false_eq_true, ↓reduceIte, slices_Sort_int.told, e1, slices_Compact_int.told, e2, bind_ok]) 0 (by omega) [] (by simp)
  exact key
theorem impl_MayWrite_ok (l : List S210) (hl : l.length ≤ 1048576) : ∃ r, impl_MayWrite.f l = some r ∧ r.length ≤ l.length := by
  obtain ⟨r, e, h⟩ := impl_written_2_ok l hl
  simp only [impl_MayWrite.f, impl_MayWrite.begin, Tr.do_call, Tr.do_ite, Tr.do_ret, impl_BlockOk.told, impl_BlockOk_f l hl, bind_ok, impl_written_2.told, e]
  cases okB l.length l 0 with
  | true => exact ⟨_, rfl, h⟩
  | false => exact ⟨_, rfl, by simp⟩
/-- What stands at a place of a block that ends well. -/
def From (k : Int) (l : List S210) (i : Nat) : Prop := ∃ d : Int, 0 ≤ d ∧ inr 0 k (l.drop i) d = true ∧ fin (l.drop i) d = 0
theorem From.next {k : Int} {l : List S210} {i : Nat} (h : From k l i) (hi : i < l.length) : okS l[i] = true ∧ From k l (i + 1) := by
  obtain ⟨d, hd, h1, h2⟩ := h
  rw [List.drop_eq_getElem_cons hi] at h1 h2
  unfold inr at h1
  rw [Bool.and_eq_true, Bool.and_eq_true, inB_iff] at h1
  exact ⟨h1.1, dep l[i].f0 d, h1.2.1.1, h1.2.2, h2⟩
theorem From.nest {k : Int} {l : List S210} {i : Nat} (h : From k l i) (hi : i < l.length) (hl : l.length ≤ 1048576) (hk : k ≤ 30) (hx : l[i].f0 = 4 ∨ l[i].f0 = 5) :
    ∃ e : Nat, impl_endOf.f l (i : Int) = some (e : Int) ∧ i < e ∧ e < l.length ∧ 1 ≤ k ∧ Bal (k - 1) ((l.take e).drop (i + 1)) ∧ ((l.take e).drop (i + 1)).length + 2 + (l.drop (e + 1)).length = (l.drop i).length ∧ From k l (e + 1) := by
  obtain ⟨d, hd, h1, h2⟩ := h
  have hdr := List.drop_eq_getElem_cons hi
  rw [hdr] at h1 h2
  obtain ⟨a, s, r, e1, e6, k1, hb, p1, p2, p3, p4⟩ := nest_split hd hx h1 h2
  rw [e1] at hdr
  have hend := impl_endOf_at l hl k k1 hk i l[i] a s r hdr hx e6 p1 p2
  obtain ⟨g1, g2, g3⟩ := drop_at (show l.drop i = (l[i] :: a) ++ s :: r from hdr)
  simp only [List.length_cons] at g1 g3
  have hia : (l.take (i + 1 + a.length)).drop (i + 1) = a := by
    rw [List.drop_take, show i + 1 + a.length - (i + 1) = a.length by omega]
    have : l.drop (i + 1) = a ++ s :: r := e1
    rw [this]
    simp
  refine ⟨i + 1 + a.length, hend, by omega, by omega, k1, by rw [hia]; exact hb, ?_, d, hd, ?_, ?_⟩
  · rw [hia, List.length_drop, List.length_drop]; omega
  · rw [show i + 1 + a.length + 1 = i + (a.length + 1) + 1 by omega, g3]; exact p3
  · rw [show i + 1 + a.length + 1 = i + (a.length + 1) + 1 by omega, g3]; exact p4
theorem impl_MustWrite_ok (l : List S210) (hl : l.length ≤ 1048576) : ∃ r, impl_MustWrite.f l = some r ∧ r.length ≤ l.length := by
  cases hb : okB l.length l 0 with
  | false =>
    simp only [impl_MustWrite.f, impl_MustWrite.begin, Tr.do_call, Tr.do_ite, Tr.do_ret, impl_BlockOk.told, impl_BlockOk_f l hl, bind_ok, hb, Bool.not_false, ↓reduceIte]
    exact ⟨_, rfl, by simp⟩
  | true =>
    obtain ⟨b1, b2, b3⟩ := okB_path _ _ _ hb
    have n1 : (0 : Int) ≤ (l.length : Int) ∧ (l.length : Int) ≤ (l.length : Int) ∧ (l.length : Int) * (1 : Nat) ≤ room := ⟨by omega, by omega, by unfold room; omega⟩
    have key9 : ∀ (e i : Nat), e < l.length → impl_endOf.f l (i : Int) = some (e : Int) → ∀ (n j : Nat) (g : List Bool), j + n = e + 1 → g.length = l.length → ∃ g', g'.length = l.length ∧ lp impl_MustWrite.tree (.c9 l g (i : Int) (j : Int) l (l.length : Int) (i : Int)) = lp impl_MustWrite.tree (.c5 l g' l (l.length : Int) (wr ((i : Int) + 1))) := by
      intro e i he hend n
      induction n with
      | zero =>
        intro j g hj hg
        refine ⟨g, hg, ?_⟩
        rw [lp_eq]
        have q : decide ((j : Int) ≤ (e : Int)) = false := decide_eq_false (by omega)
        simp only [impl_MustWrite.tree, Tr.do_call, Tr.do_ite, Tr.do_jump, impl_endOf.told, hend, bind_ok, q, Bool.false_eq_true, ↓reduceIte]
      | succ n ih =>
        intro j g hj hg
        obtain ⟨g', hg', e'⟩ := ih (j + 1) (g.set j true) (by omega) (by rw [List.length_set]; exact hg)
        refine ⟨g', hg', ?_⟩
        rw [lp_eq]
        have q : decide ((j : Int) ≤ (e : Int)) = true := decide_eq_true (by omega)
        have q' : j < g.length := by omega
        simp only [impl_MustWrite.tree, Tr.do_call, Tr.do_ite, Tr.do_need, Tr.do_jump, impl_endOf.told, hend, bind_ok, q, in_lt q', and_self, ↓reduceIte, Int.toNat_natCast, wr_next (show j < 4611686018427387904 by omega)]
        exact e'
    have key := upto l.length (fun i (g : List Bool) => g.length = l.length ∧ From 3 l i) (fun i g => lp impl_MustWrite.tree (.c5 l g l (l.length : Int) (i : Int))) (fun r => r.length ≤ l.length) (fun i hi g hs => by
      obtain ⟨hg, hF⟩ := hs
      by_cases q : i < l.length
      · obtain ⟨hok, hF'⟩ := hF.next q
        by_cases h4 : l[i].f0 = 4
        · obtain ⟨e, he, h1, h2, _⟩ := hF.nest q hl (by omega) (Or.inl h4)
          obtain ⟨g', hg', e'⟩ := key9 e i h2 he (e + 1 - i) i g (by omega) hg
          refine Or.inr ⟨q, g', ?_, hg', hF'⟩
          rw [lp_eq]
          simp only [impl_MustWrite.tree, Tr.do_ite, Tr.do_need, Tr.do_jump, lt_dec q, in_lt q, getD_lt q, and_self, ↓reduceIte, decide_eq_true h4, decide_true, e', wr_next (show i < 4611686018427387904 by omega)]
        · refine Or.inr ⟨q, g, ?_, hg, hF'⟩
          rw [lp_eq]
          simp only [impl_MustWrite.tree, Tr.do_ite, Tr.do_need, Tr.do_jump, lt_dec q, in_lt q, getD_lt q, and_self, ↓reduceIte, decide_eq_false h4, decide_true, Bool.false_eq_true, wr_next (show i < 4611686018427387904 by omega)]
      · obtain rfl : i = l.length := by omega
        obtain ⟨r, er, hr⟩ := impl_written_ok l g hl hg
        refine Or.inl ⟨r.1, ?_, hr⟩
        rw [lp_eq]
        simp only [impl_MustWrite.tree, Tr.do_ite, Tr.do_call, Tr.do_ret, ge_dec, Bool.false_eq_true, ↓reduceIte, impl_written.told, er, bind_ok]) 0 (by omega) (List.replicate l.length false) ⟨by simp, 0, by omega, b1, b2⟩
    obtain ⟨r, e, hr⟩ := key
    refine ⟨r, ?_, hr⟩
    simp only [impl_MustWrite.f, impl_MustWrite.begin, Tr.do_call, Tr.do_ite, Tr.do_need, Tr.do_jump, impl_BlockOk.told, impl_BlockOk_f l hl, bind_ok, hb, Bool.not_true, Bool.false_eq_true, ↓reduceIte, n1, and_self, Int.toNat_natCast]
    exact e
theorem impl_ReadsOf_ok (o a b : Int) : ∃ r, impl_ReadsOf.f o a b = some r ∧ r.length ≤ 2 ∧ ∀ x ∈ r, 0 ≤ x ∧ x ≤ 7 := by
  cases hx : okX o a b with
  | false =>
    simp only [impl_ReadsOf.f, impl_ReadsOf.begin, Tr.do_call, Tr.do_ite, Tr.do_ret, impl_ExprOk.told, impl_ExprOk_f, hx, bind_ok, Bool.not_false, ↓reduceIte]
    exact ⟨_, rfl, by simp, by simp⟩
  | true =>
    obtain ⟨_, ha, hb⟩ := okX_in hx
    have key := upto 2 (fun i (s : List Int) => s.length ≤ i ∧ ∀ x ∈ s, 0 ≤ x ∧ x ≤ 7) (fun i s => lp impl_ReadsOf.tree (.c5 s [a, b] (2 : Int) (i : Int))) (fun r => r.length ≤ 2 ∧ ∀ x ∈ r, 0 ≤ x ∧ x ≤ 7) (fun i hi s hs => by
      obtain ⟨hl, hv⟩ := hs
      rw [lp_eq]
      by_cases q : i < 2
      · have q1 : decide ((i : Int) < 2) = true := decide_eq_true (by omega)
        have q2 : (0 : Int) ≤ (i : Int) ∧ (i : Int) < ((([a, b] : List Int).length : Nat) : Int) := by simp; omega
        have hr : -8 ≤ rdI [a, b] (i : Int) ∧ rdI [a, b] (i : Int) ≤ 999 := by
          rcases (show i = 0 ∨ i = 1 by omega) with rfl | rfl
          · exact ha
          · exact hb
        by_cases hn : rdI [a, b] (i : Int) < 0
        · have w : wr (-1 - rdI [a, b] (i : Int)) = -1 - rdI [a, b] (i : Int) := wr_in (by omega)
          refine Or.inr ⟨q, s ++ [-1 - rdI [a, b] (i : Int)], ?_, by rw [List.length_append, List.length_singleton]; omega, ?_⟩
          · simp only [impl_ReadsOf.tree, Tr.do_ite, Tr.do_need, Tr.do_jump, q1, q2, and_self, decide_eq_true hn, w, one_fits s _ 1048576 (by omega) (by omega) 8 (by omega), decide_true, ↓reduceIte, wr_next (show i < 4611686018427387904 by omega)]
          · intro x hx
            rcases List.mem_append.mp hx with hx | hx
            · exact hv x hx
            · rw [List.mem_singleton] at hx; omega
        · refine Or.inr ⟨q, s, ?_, by omega, hv⟩
          simp only [impl_ReadsOf.tree, Tr.do_ite, Tr.do_need, Tr.do_jump, q1, q2, and_self, decide_eq_false hn, Bool.false_eq_true, decide_true, ↓reduceIte, wr_next (show i < 4611686018427387904 by omega)]
      · have q1 : decide ((i : Int) < 2) = false := decide_eq_false (by omega)
        obtain ⟨m, n, e1, e2, hP, hb⟩ := sorted_ok s _ hv (by omega)
        refine Or.inl ⟨n, ?_, by omega, hP⟩
        simp only [impl_ReadsOf.tree, Tr.do_ite, Tr.do_call, Tr.do_ret, q1, Bool.false_eq_true, ↓reduceIte, slices_Sort_int.told, e1, slices_Compact_int.told, e2, bind_ok]) 0 (by omega) [] ⟨by simp, by simp⟩
    obtain ⟨r, e, h⟩ := key
    refine ⟨r, ?_, h⟩
    simp only [impl_ReadsOf.f, impl_ReadsOf.begin, Tr.do_call, Tr.do_ite, Tr.do_jump, impl_ExprOk.told, impl_ExprOk_f, hx, bind_ok, Bool.not_true, Bool.false_eq_true, ↓reduceIte]
    exact e
set_option maxHeartbeats 4000000 in
theorem impl_reader_read_c5 (k : Int) (l : List Int) (n i : Int) (b0 b1 b2 b3 b4 b5 b6 b7 b8 b9 b10 b11 b12 b13 b14 b15 : Bool) (hk : 0 ≤ k ∧ k ≤ 7) : ∃ s : impl_reader_read.A, lp impl_reader_read.tree (.c5 k l n i b0 b1 b2 b3 b4 b5 b6 b7 b8 b9 b10 b11 b12 b13 b14 b15) = lp impl_reader_read.tree (.c2 l n (wr (i + 1)) s.1 s.2.1 s.2.2.1 s.2.2.2.1 s.2.2.2.2.1 s.2.2.2.2.2.1 s.2.2.2.2.2.2.1 s.2.2.2.2.2.2.2.1 s.2.2.2.2.2.2.2.2.1 s.2.2.2.2.2.2.2.2.2.1 s.2.2.2.2.2.2.2.2.2.2.1 s.2.2.2.2.2.2.2.2.2.2.2.1 s.2.2.2.2.2.2.2.2.2.2.2.2.1 s.2.2.2.2.2.2.2.2.2.2.2.2.2.1 s.2.2.2.2.2.2.2.2.2.2.2.2.2.2.1 s.2.2.2.2.2.2.2.2.2.2.2.2.2.2.2) := by
  rw [lp_eq]
  rcases (show k = 0 ∨ k = 1 ∨ k = 2 ∨ k = 3 ∨ k = 4 ∨ k = 5 ∨ k = 6 ∨ k = 7 by omega) with rfl | rfl | rfl | rfl | rfl | rfl | rfl | rfl <;>
    (simp only [impl_reader_read.tree, Tr.do_ite, Tr.do_jump, decide_true, ↓reduceIte, Int.reduceEq, decide_false, Bool.false_eq_true]
     rw [lp_eq]
     simp only [impl_reader_read.tree, Tr.do_jump]
     exact ⟨(_, _, _, _, _, _, _, _, _, _, _, _, _, _, _, _), rfl⟩)
set_option maxHeartbeats 4000000 in
theorem impl_reader_read_ok (o a b : Int) (b0 b1 b2 b3 b4 b5 b6 b7 b8 b9 b10 b11 b12 b13 b14 b15 : Bool) : ∃ s : impl_reader_read.A, impl_reader_read.f o a b b0 b1 b2 b3 b4 b5 b6 b7 b8 b9 b10 b11 b12 b13 b14 b15 = some s := by
  obtain ⟨l, e, hl, hv⟩ := impl_ReadsOf_ok o a b
  have key := upto l.length (fun _ (_ : impl_reader_read.A) => True) (fun i s => lp impl_reader_read.tree (.c2 l (l.length : Int) (i : Int) s.1 s.2.1 s.2.2.1 s.2.2.2.1 s.2.2.2.2.1 s.2.2.2.2.2.1 s.2.2.2.2.2.2.1 s.2.2.2.2.2.2.2.1 s.2.2.2.2.2.2.2.2.1 s.2.2.2.2.2.2.2.2.2.1 s.2.2.2.2.2.2.2.2.2.2.1 s.2.2.2.2.2.2.2.2.2.2.2.1 s.2.2.2.2.2.2.2.2.2.2.2.2.1 s.2.2.2.2.2.2.2.2.2.2.2.2.2.1 s.2.2.2.2.2.2.2.2.2.2.2.2.2.2.1 s.2.2.2.2.2.2.2.2.2.2.2.2.2.2.2)) (fun _ => True) (fun i hi s _ => by
    rw [lp_eq]
    by_cases q : i < l.length
    · have hk := hv l[i] (List.getElem_mem q)
      have hr : rdI l (i : Int) = l[i] := getD_lt q
      generalize l[i] = k at hk hr
      have w : wr ((i : Int) + 1) = ((i + 1 : Nat) : Int) := wr_next (show i < 4611686018427387904 by omega)
      refine Or.inr ⟨q, ?_⟩
      have c6 : ∀ b0 b1 b2 b3 b4 b5 b6 b7 b8 b9 b10 b11 b12 b13 b14 b15 : Bool, ∃ s : impl_reader_read.A, lp impl_reader_read.tree (.c6 l (l.length : Int) (i : Int) b0 b1 b2 b3 b4 b5 b6 b7 b8 b9 b10 b11 b12 b13 b14 b15) = lp impl_reader_read.tree (.c2 l (l.length : Int) ((i + 1 : Nat) : Int) s.1 s.2.1 s.2.2.1 s.2.2.2.1 s.2.2.2.2.1 s.2.2.2.2.2.1 s.2.2.2.2.2.2.1 s.2.2.2.2.2.2.2.1 s.2.2.2.2.2.2.2.2.1 s.2.2.2.2.2.2.2.2.2.1 s.2.2.2.2.2.2.2.2.2.2.1 s.2.2.2.2.2.2.2.2.2.2.2.1 s.2.2.2.2.2.2.2.2.2.2.2.2.1 s.2.2.2.2.2.2.2.2.2.2.2.2.2.1 s.2.2.2.2.2.2.2.2.2.2.2.2.2.2.1 s.2.2.2.2.2.2.2.2.2.2.2.2.2.2.2) := by
        intro b0 b1 b2 b3 b4 b5 b6 b7 b8 b9 b10 b11 b12 b13 b14 b15
        rw [lp_eq]
        simp only [impl_reader_read.tree, Tr.do_jump, w]
        exact ⟨(_, _, _, _, _, _, _, _, _, _, _, _, _, _, _, _), rfl⟩
      have c5 : ∀ b0 b1 b2 b3 b4 b5 b6 b7 b8 b9 b10 b11 b12 b13 b14 b15 : Bool, ∃ s : impl_reader_read.A, lp impl_reader_read.tree (.c5 k l (l.length : Int) (i : Int) b0 b1 b2 b3 b4 b5 b6 b7 b8 b9 b10 b11 b12 b13 b14 b15) = lp impl_reader_read.tree (.c2 l (l.length : Int) ((i + 1 : Nat) : Int) s.1 s.2.1 s.2.2.1 s.2.2.2.1 s.2.2.2.2.1 s.2.2.2.2.2.1 s.2.2.2.2.2.2.1 s.2.2.2.2.2.2.2.1 s.2.2.2.2.2.2.2.2.1 s.2.2.2.2.2.2.2.2.2.1 s.2.2.2.2.2.2.2.2.2.2.1 s.2.2.2.2.2.2.2.2.2.2.2.1 s.2.2.2.2.2.2.2.2.2.2.2.2.1 s.2.2.2.2.2.2.2.2.2.2.2.2.2.1 s.2.2.2.2.2.2.2.2.2.2.2.2.2.2.1 s.2.2.2.2.2.2.2.2.2.2.2.2.2.2.2) := by
        intro b0 b1 b2 b3 b4 b5 b6 b7 b8 b9 b10 b11 b12 b13 b14 b15
        obtain ⟨s, e⟩ := impl_reader_read_c5 k l (l.length : Int) (i : Int) b0 b1 b2 b3 b4 b5 b6 b7 b8 b9 b10 b11 b12 b13 b14 b15 hk
        exact ⟨s, by rw [e, w]⟩
      simp only [impl_reader_read.tree, Tr.do_ite, Tr.do_need, Tr.do_jump, lt_dec q, in_lt q, and_self, decide_true, ↓reduceIte, and_true]
      rw [hr]
      rcases (show k = 0 ∨ k = 1 ∨ k = 2 ∨ k = 3 ∨ k = 4 ∨ k = 5 ∨ k = 6 ∨ k = 7 by omega) with rfl | rfl | rfl | rfl | rfl | rfl | rfl | rfl <;>
        (simp only [decide_true, ↓reduceIte, Int.reduceEq, decide_false, Bool.false_eq_true]
         split
         · exact c5 _ _ _ _ _ _ _ _ _ _ _ _ _ _ _ _
         · exact c6 _ _ _ _ _ _ _ _ _ _ _ _ _ _ _ _)
    · obtain rfl : i = l.length := by omega
      refine Or.inl ⟨(s.1, s.2.1, s.2.2.1, s.2.2.2.1, s.2.2.2.2.1, s.2.2.2.2.2.1, s.2.2.2.2.2.2.1, s.2.2.2.2.2.2.2.1, s.2.2.2.2.2.2.2.2.1, s.2.2.2.2.2.2.2.2.2.1, s.2.2.2.2.2.2.2.2.2.2.1, s.2.2.2.2.2.2.2.2.2.2.2.1, s.2.2.2.2.2.2.2.2.2.2.2.2.1, s.2.2.2.2.2.2.2.2.2.2.2.2.2.1, s.2.2.2.2.2.2.2.2.2.2.2.2.2.2.1, s.2.2.2.2.2.2.2.2.2.2.2.2.2.2.2), ?_, trivial⟩
      simp only [impl_reader_read.tree, Tr.do_ite, Tr.do_ret, ge_dec, Bool.false_eq_true, ↓reduceIte]) 0 (by omega) (b0, b1, b2, b3, b4, b5, b6, b7, b8, b9, b10, b11, b12, b13, b14, b15) trivial
  obtain ⟨r, e', _⟩ := key
  refine ⟨r, ?_⟩
  simp only [impl_reader_read.f, impl_reader_read.begin, Tr.do_call, Tr.do_jump, impl_ReadsOf.told, e, bind_ok]
  exact e'
theorem okS_var {s : S210} (h : okS s = true) (hv : s.f0 = 1 ∨ s.f0 = 2) : 0 ≤ s.f1 ∧ s.f1 ≤ 7 := by
  unfold okS okSt at h
  rcases hv with e | e
  · rw [if_pos e] at h
    simp only [Bool.and_eq_true, inB_iff] at h
    exact h.2.1
  · rw [if_neg (by omega), if_pos e] at h
    simp only [Bool.and_eq_true, inB_iff] at h
    exact h.2.1
def PassOk (self_ : Self impl_reader_pass.I impl_reader_pass.A impl_reader_pass.K) (k : Int) : Prop :=
  ∀ (l : List S210) (b0 b1 b2 b3 b4 b5 b6 b7 b8 b9 b10 b11 b12 b13 b14 b15 : Bool), l.length ≤ 1048576 → From k l 0 → ∃ r, self_.f (l, b0, b1, b2, b3, b4, b5, b6, b7, b8, b9, b10, b11, b12, b13, b14, b15) = some r
set_option maxHeartbeats 4000000 in
theorem pass_set (self_ : Self impl_reader_pass.I impl_reader_pass.A impl_reader_pass.K) (l : List S210) (i : Nat) (hi : i < l.length) (hok : okS l[i] = true) (b0 b1 b2 b3 b4 b5 b6 b7 b8 b9 b10 b11 b12 b13 b14 b15 : Bool) :
    ∃ s : impl_reader_read.A, lp (impl_reader_pass.tree self_) (.c1 l (i : Int) b0 b1 b2 b3 b4 b5 b6 b7 b8 b9 b10 b11 b12 b13 b14 b15) = lp (impl_reader_pass.tree self_) (.c8 l (i : Int) l[i].f0 l[i].f1 l[i].f2 l[i].f3.f0 l[i].f3.f1 l[i].f3.f2 s.1 s.2.1 s.2.2.1 s.2.2.2.1 s.2.2.2.2.1 s.2.2.2.2.2.1 s.2.2.2.2.2.2.1 s.2.2.2.2.2.2.2.1 s.2.2.2.2.2.2.2.2.1 s.2.2.2.2.2.2.2.2.2.1 s.2.2.2.2.2.2.2.2.2.2.1 s.2.2.2.2.2.2.2.2.2.2.2.1 s.2.2.2.2.2.2.2.2.2.2.2.2.1 s.2.2.2.2.2.2.2.2.2.2.2.2.2.1 s.2.2.2.2.2.2.2.2.2.2.2.2.2.2.1 s.2.2.2.2.2.2.2.2.2.2.2.2.2.2.2) := by
  rw [lp_eq]
  have hvar := okS_var hok
  generalize hx : l[i] = x at hok hvar
  have hr : rdS210 l (i : Int) = x := (getD_lt hi).trans hx
  simp only [impl_reader_pass.tree, Tr.do_ite, Tr.do_need, Tr.do_call, lt_dec hi, in_lt hi, hr, and_self, decide_true, ↓reduceIte, impl_hasExpr.told, impl_hasExpr_f, impl_hasVar.told, impl_hasVar_f, bind_ok]
  by_cases hE : x.f0 = 1 ∨ x.f0 = 3 ∨ x.f0 = 4
  · obtain ⟨⟨t0, t1, t2, t3, t4, t5, t6, t7, t8, t9, t10, t11, t12, t13, t14, t15⟩, et⟩ := impl_reader_read_ok x.f3.f0 x.f3.f1 x.f3.f2 b0 b1 b2 b3 b4 b5 b6 b7 b8 b9 b10 b11 b12 b13 b14 b15
    simp only [decide_eq_true hE, ↓reduceIte, impl_reader_read.told, et, bind_ok]
    by_cases hV : x.f0 = 1 ∨ x.f0 = 2
    · obtain ⟨v0, v1⟩ := hvar hV
      simp only [decide_eq_true hV, ↓reduceIte]
      rcases (show x.f1 = 0 ∨ x.f1 = 1 ∨ x.f1 = 2 ∨ x.f1 = 3 ∨ x.f1 = 4 ∨ x.f1 = 5 ∨ x.f1 = 6 ∨ x.f1 = 7 by omega) with h | h | h | h | h | h | h | h <;>
        (simp only [h, decide_true, ↓reduceIte, Int.reduceEq, decide_false, Bool.false_eq_true, Tr.do_last, Tr.do_jump]
         exact ⟨(_, _, _, _, _, _, _, _, _, _, _, _, _, _, _, _), rfl⟩)
    · simp only [decide_eq_false hV, Bool.false_eq_true, ↓reduceIte, Tr.do_jump]
      exact ⟨(t0, t1, t2, t3, t4, t5, t6, t7, t8, t9, t10, t11, t12, t13, t14, t15), rfl⟩
  · simp only [decide_eq_false hE, Bool.false_eq_true, ↓reduceIte]
    by_cases hV : x.f0 = 1 ∨ x.f0 = 2
    · obtain ⟨v0, v1⟩ := hvar hV
      simp only [decide_eq_true hV, ↓reduceIte]
      rcases (show x.f1 = 0 ∨ x.f1 = 1 ∨ x.f1 = 2 ∨ x.f1 = 3 ∨ x.f1 = 4 ∨ x.f1 = 5 ∨ x.f1 = 6 ∨ x.f1 = 7 by omega) with h | h | h | h | h | h | h | h <;>
        (simp only [h, decide_true, ↓reduceIte, Int.reduceEq, decide_false, Bool.false_eq_true, Tr.do_last, Tr.do_jump]
         exact ⟨(_, _, _, _, _, _, _, _, _, _, _, _, _, _, _, _), rfl⟩)
    · simp only [decide_eq_false hV, Bool.false_eq_true, ↓reduceIte, Tr.do_jump]
      exact ⟨(b0, b1, b2, b3, b4, b5, b6, b7, b8, b9, b10, b11, b12, b13, b14, b15), rfl⟩
set_option maxHeartbeats 4000000 in
theorem pass_step (self_ : Self impl_reader_pass.I impl_reader_pass.A impl_reader_pass.K) (k : Int) (hk : k ≤ 30) (hs : 1 ≤ k → PassOk self_ (k - 1)) : PassOk (impl_reader_pass.step self_) k := by
  intro l b0 b1 b2 b3 b4 b5 b6 b7 b8 b9 b10 b11 b12 b13 b14 b15 hl hF
  have key : ∀ (n i : Nat), i + n = l.length → From k l i → (∀ j, i < j → j ≤ l.length → From k l j → ∀ s : impl_reader_read.A, ∃ r, lp (impl_reader_pass.tree self_) (.c1 l (j : Int) s.1 s.2.1 s.2.2.1 s.2.2.2.1 s.2.2.2.2.1 s.2.2.2.2.2.1 s.2.2.2.2.2.2.1 s.2.2.2.2.2.2.2.1 s.2.2.2.2.2.2.2.2.1 s.2.2.2.2.2.2.2.2.2.1 s.2.2.2.2.2.2.2.2.2.2.1 s.2.2.2.2.2.2.2.2.2.2.2.1 s.2.2.2.2.2.2.2.2.2.2.2.2.1 s.2.2.2.2.2.2.2.2.2.2.2.2.2.1 s.2.2.2.2.2.2.2.2.2.2.2.2.2.2.1 s.2.2.2.2.2.2.2.2.2.2.2.2.2.2.2) = some r) → ∀ s : impl_reader_read.A, ∃ r, lp (impl_reader_pass.tree self_) (.c1 l (i : Int) s.1 s.2.1 s.2.2.1 s.2.2.2.1 s.2.2.2.2.1 s.2.2.2.2.2.1 s.2.2.2.2.2.2.1 s.2.2.2.2.2.2.2.1 s.2.2.2.2.2.2.2.2.1 s.2.2.2.2.2.2.2.2.2.1 s.2.2.2.2.2.2.2.2.2.2.1 s.2.2.2.2.2.2.2.2.2.2.2.1 s.2.2.2.2.2.2.2.2.2.2.2.2.1 s.2.2.2.2.2.2.2.2.2.2.2.2.2.1 s.2.2.2.2.2.2.2.2.2.2.2.2.2.2.1 s.2.2.2.2.2.2.2.2.2.2.2.2.2.2.2) = some r := by
    intro n i hn hF ih s
    by_cases q : i < l.length
    · obtain ⟨hok, hF'⟩ := hF.next q
      obtain ⟨⟨u0, u1, u2, u3, u4, u5, u6, u7, u8, u9, u10, u11, u12, u13, u14, u15⟩, e1⟩ := pass_set self_ l i q hok s.1 s.2.1 s.2.2.1 s.2.2.2.1 s.2.2.2.2.1 s.2.2.2.2.2.1 s.2.2.2.2.2.2.1 s.2.2.2.2.2.2.2.1 s.2.2.2.2.2.2.2.2.1 s.2.2.2.2.2.2.2.2.2.1 s.2.2.2.2.2.2.2.2.2.2.1 s.2.2.2.2.2.2.2.2.2.2.2.1 s.2.2.2.2.2.2.2.2.2.2.2.2.1 s.2.2.2.2.2.2.2.2.2.2.2.2.2.1 s.2.2.2.2.2.2.2.2.2.2.2.2.2.2.1 s.2.2.2.2.2.2.2.2.2.2.2.2.2.2.2
      rw [e1]
      simp only
      have w : wr ((i : Int) + 1) = ((i + 1 : Nat) : Int) := wr_next (by omega)
      by_cases h4 : l[i].f0 = 4
      · obtain ⟨e, he, h1, h2, hk1, hB, _, hFe⟩ := hF.nest q hl hk (Or.inl h4)
        have we : wr ((e : Int) + 1) = ((e + 1 : Nat) : Int) := wr_next (by omega)
        have hn1 : (0 : Int) ≤ ((i + 1 : Nat) : Int) ∧ ((i + 1 : Nat) : Int) ≤ (e : Int) ∧ (e : Int) ≤ (l.length : Int) := by omega
        have hll : ((l.take e).drop (i + 1)).length ≤ 1048576 := by rw [List.length_drop, List.length_take]; omega
        obtain ⟨⟨t0, t1, t2, t3, t4, t5, t6, t7, t8, t9, t10, t11, t12, t13, t14, t15⟩, et⟩ := hs hk1 ((l.take e).drop (i + 1)) u0 u1 u2 u3 u4 u5 u6 u7 u8 u9 u10 u11 u12 u13 u14 u15 hll ⟨0, by omega, hB.1, hB.2⟩
        rw [lp_eq]
        simp only [impl_reader_pass.tree, Tr.do_ite, Tr.do_call, Tr.do_jump, decide_eq_true h4, ↓reduceIte, impl_endOf.told, he, bind_ok]
        rw [lp_eq]
        simp only [impl_reader_pass.tree, Tr.do_need, Tr.do_call, Tr.do_jump, w, hn1, and_self, ↓reduceIte, Int.toNat_natCast, Self.told, et, bind_ok, we]
        exact ih (e + 1) (by omega) (by omega) hFe (_, _, _, _, _, _, _, _, _, _, _, _, _, _, _, _)
      · rw [lp_eq]
        simp only [impl_reader_pass.tree, Tr.do_ite, Tr.do_jump, decide_eq_false h4, Bool.false_eq_true, ↓reduceIte, w]
        exact ih (i + 1) (by omega) (by omega) hF' (u0, u1, u2, u3, u4, u5, u6, u7, u8, u9, u10, u11, u12, u13, u14, u15)
    · obtain rfl : i = l.length := by omega
      rw [lp_eq]
      simp only [impl_reader_pass.tree, Tr.do_ite, Tr.do_ret, ge_dec, Bool.false_eq_true, ↓reduceIte]
      exact ⟨_, rfl⟩
  have all : ∀ (n i : Nat), i + n = l.length → From k l i → ∀ s : impl_reader_read.A, ∃ r, lp (impl_reader_pass.tree self_) (.c1 l (i : Int) s.1 s.2.1 s.2.2.1 s.2.2.2.1 s.2.2.2.2.1 s.2.2.2.2.2.1 s.2.2.2.2.2.2.1 s.2.2.2.2.2.2.2.1 s.2.2.2.2.2.2.2.2.1 s.2.2.2.2.2.2.2.2.2.1 s.2.2.2.2.2.2.2.2.2.2.1 s.2.2.2.2.2.2.2.2.2.2.2.1 s.2.2.2.2.2.2.2.2.2.2.2.2.1 s.2.2.2.2.2.2.2.2.2.2.2.2.2.1 s.2.2.2.2.2.2.2.2.2.2.2.2.2.2.1 s.2.2.2.2.2.2.2.2.2.2.2.2.2.2.2) = some r := by
    intro n
    induction n using Nat.strongRecOn with
    | _ n ih =>
      intro i hi hF
      exact key n i hi hF (fun j hj hjl hFj s => ih (l.length - j) (by omega) j (by omega) hFj s)
  obtain ⟨r, e⟩ := all l.length 0 (by omega) hF (b0, b1, b2, b3, b4, b5, b6, b7, b8, b9, b10, b11, b12, b13, b14, b15)
  exact ⟨r, e⟩
theorem impl_reader_pass_ok (l : List S210) (b0 b1 b2 b3 b4 b5 b6 b7 b8 b9 b10 b11 b12 b13 b14 b15 : Bool) (hl : l.length ≤ 1048576) (hb : okB l.length l 0 = true) : ∃ r, impl_reader_pass.f l b0 b1 b2 b3 b4 b5 b6 b7 b8 b9 b10 b11 b12 b13 b14 b15 = some r := by
  have h0 := pass_step (Self.iter impl_reader_pass.step 4) 0 (by omega) (fun h => absurd h (by omega))
  have h1 := pass_step (Self.iter impl_reader_pass.step 5) 1 (by omega) (fun _ => h0)
  have h2 := pass_step (Self.iter impl_reader_pass.step 6) 2 (by omega) (fun _ => h1)
  have h3 := pass_step (Self.iter impl_reader_pass.step 7) 3 (by omega) (fun _ => h2)
  obtain ⟨c1, c2, _⟩ := okB_path _ _ _ hb
  exact h3 l b0 b1 b2 b3 b4 b5 b6 b7 b8 b9 b10 b11 b12 b13 b14 b15 hl ⟨0, by omega, c1, c2⟩
set_option maxHeartbeats 4000000 in
theorem impl_MayReadFirst_ok (l : List S210) (a b c : Int) (hl : l.length ≤ 1048576) : ∃ r, impl_MayReadFirst.f l a b c = some r ∧ r.length ≤ 8 := by
  cases hb : okB l.length l 0 with
  | false =>
    simp only [impl_MayReadFirst.f, impl_MayReadFirst.begin, Tr.do_call, Tr.do_ite, Tr.do_ret, impl_taskOk.told, impl_taskOk.f, impl_taskOk.begin, impl_BlockOk.told, impl_BlockOk_f l hl, bind_ok, hb, Bool.not_false, Bool.false_eq_true, ↓reduceIte]
    exact ⟨_, rfl, by simp⟩
  | true =>
    cases hx : okX a b c with
    | false =>
      simp only [impl_MayReadFirst.f, impl_MayReadFirst.begin, Tr.do_call, Tr.do_ite, Tr.do_ret, impl_taskOk.told, impl_taskOk.f, impl_taskOk.begin, impl_BlockOk.told, impl_BlockOk_f l hl, impl_ExprOk.told, impl_ExprOk_f, hx, bind_ok, hb, Bool.not_false, Bool.false_eq_true, ↓reduceIte]
      exact ⟨_, rfl, by simp⟩
    | true =>
      obtain ⟨t, et⟩ := impl_reader_pass_ok l false false false false false false false false false false false false false false false false hl hb
      obtain ⟨t', et'⟩ := impl_reader_read_ok a b c t.1 t.2.1 t.2.2.1 t.2.2.2.1 t.2.2.2.2.1 t.2.2.2.2.2.1 t.2.2.2.2.2.2.1 t.2.2.2.2.2.2.2.1 t.2.2.2.2.2.2.2.2.1 t.2.2.2.2.2.2.2.2.2.1 t.2.2.2.2.2.2.2.2.2.2.1 t.2.2.2.2.2.2.2.2.2.2.2.1 t.2.2.2.2.2.2.2.2.2.2.2.2.1 t.2.2.2.2.2.2.2.2.2.2.2.2.2.1 t.2.2.2.2.2.2.2.2.2.2.2.2.2.2.1 t.2.2.2.2.2.2.2.2.2.2.2.2.2.2.2
      have key : ∀ (y0 y1 y2 y3 y4 y5 y6 y7 : Bool), Ok (lp impl_MayReadFirst.tree (.c8 [] y0 y1 y2 y3 y4 y5 y6 y7 0)) (fun r => r.length ≤ 8) := fun y0 y1 y2 y3 y4 y5 y6 y7 => upto 8 (fun i (s : List Int) => s.length ≤ i) (fun i s => lp impl_MayReadFirst.tree (.c8 s y0 y1 y2 y3 y4 y5 y6 y7 (i : Int))) (fun r => r.length ≤ 8) (fun i hi s hs => by
        rw [lp_eq]
        by_cases q : i < 8
        · have q1 : decide ((i : Int) < 8) = true := decide_eq_true (by omega)
          have q2 : (0 : Int) ≤ (i : Int) ∧ (i : Int) < 8 := by omega
          cases hb : List.getD [y0, y1, y2, y3, y4, y5, y6, y7] i false with
          | true =>
            refine Or.inr ⟨q, s ++ [(i : Int)], ?_, by rw [List.length_append, List.length_singleton]; omega⟩
            simp only [impl_MayReadFirst.tree, Tr.do_ite, Tr.do_need, Tr.do_jump, q1, q2, and_self, decide_true, Int.toNat_natCast, hb, one_fits s _ 1048576 (by omega) (by omega) 8 (by omega), ↓reduceIte, wr_next (show i < 4611686018427387904 by omega)]
          | false =>
            refine Or.inr ⟨q, s, ?_, by omega⟩
            simp only [impl_MayReadFirst.tree, Tr.do_ite, Tr.do_need, Tr.do_jump, q1, q2, and_self, decide_true, Int.toNat_natCast, hb, Bool.false_eq_true, ↓reduceIte, wr_next (show i < 4611686018427387904 by omega)]
        · have q1 : decide ((i : Int) < 8) = false := decide_eq_false (by omega)
          refine Or.inl ⟨s, ?_, by omega⟩
          simp only [impl_MayReadFirst.tree, Tr.do_ite, Tr.do_ret, q1, Bool.false_eq_true, ↓reduceIte]) 0 (by omega) [] (by simp)
      simp only [impl_MayReadFirst.f, impl_MayReadFirst.begin, Tr.do_call, Tr.do_ite, Tr.do_ret, Tr.do_jump, impl_taskOk.told, impl_taskOk.f, impl_taskOk.begin, impl_BlockOk.told, impl_BlockOk_f l hl, impl_ExprOk.told, impl_ExprOk_f, hx, bind_ok, hb, Bool.not_true, Bool.false_eq_true, ↓reduceIte, impl_reader_pass.told, et, impl_reader_read.told, et']
      exact key _ _ _ _ _ _ _ _
theorem impl_MustLog_1_ok (x : Int) (a b : List Int) (ha : a.length ≤ 1048576) (hb : b.length ≤ 1048576) : ∃ v, impl_MustLog_1.f x a b = some (v, a, b) := by
  obtain ⟨u, eu⟩ := impl_HasVar_ok a x ha
  obtain ⟨v, ev⟩ := impl_HasVar_ok b x hb
  simp only [impl_MustLog_1.f, impl_MustLog_1.begin, Tr.do_call, Tr.do_ite, Tr.do_ret, impl_HasVar.told, eu, ev, bind_ok]
  cases u
  · exact ⟨_, rfl⟩
  · exact ⟨_, rfl⟩
theorem slices_IndexFunc_int_MustLog_1_ok (l a b : List Int) (hl : l.length ≤ 1048576) (ha : a.length ≤ 1048576) (hb : b.length ≤ 1048576) : ∃ j, slices_IndexFunc_int_MustLog_1.f l a b = some (j, a, b) ∧ (j = -1 ∨ 0 ≤ j ∧ j < (l.length : Int)) := by
  have key := upto l.length (fun _ (_ : Unit) => True) (fun i _ => lp slices_IndexFunc_int_MustLog_1.tree (.c2 l (l.length : Int) (i : Int) a b)) (fun r => ∃ j, r = (j, a, b) ∧ (j = -1 ∨ 0 ≤ j ∧ j < (l.length : Int))) (fun i hi s _ => by
    rw [lp_eq]
    by_cases q : i < l.length
    · obtain ⟨v, ev⟩ := impl_MustLog_1_ok (rdI l (i : Int)) a b ha hb
      cases v with
      | true =>
        refine Or.inl ⟨((i : Int), a, b), ?_, _, rfl, Or.inr (by omega)⟩
        simp only [slices_IndexFunc_int_MustLog_1.tree, Tr.do_ite, Tr.do_need, Tr.do_call, Tr.do_ret, lt_dec q, in_lt q, and_self, decide_true, ↓reduceIte, impl_MustLog_1.told, ev, bind_ok]
      | false =>
        refine Or.inr ⟨q, (), ?_, trivial⟩
        simp only [slices_IndexFunc_int_MustLog_1.tree, Tr.do_ite, Tr.do_need, Tr.do_call, Tr.do_jump, lt_dec q, in_lt q, and_self, decide_true, ↓reduceIte, impl_MustLog_1.told, ev, bind_ok, Bool.false_eq_true, wr_next (show i < 4611686018427387904 by omega)]
    · obtain rfl : i = l.length := by omega
      refine Or.inl ⟨(-1, a, b), ?_, _, rfl, Or.inl rfl⟩
      simp only [slices_IndexFunc_int_MustLog_1.tree, Tr.do_ite, Tr.do_ret, ge_dec, Bool.false_eq_true, ↓reduceIte]) 0 (by omega) () trivial
  obtain ⟨r, e, j, rfl, h⟩ := key
  exact ⟨j, e, h⟩
theorem slices_DeleteFunc_int_MustLog_1_ok (l a b : List Int) (hl : l.length ≤ 1048576) (ha : a.length ≤ 1048576) (hb : b.length ≤ 1048576) : ∃ r, slices_DeleteFunc_int_MustLog_1.f l a b = some r ∧ r.1.length ≤ l.length := by
  obtain ⟨j, ej, hj⟩ := slices_IndexFunc_int_MustLog_1_ok l a b hl ha hb
  rcases hj with rfl | ⟨h0, h1⟩
  · simp only [slices_DeleteFunc_int_MustLog_1.f, slices_DeleteFunc_int_MustLog_1.begin, Tr.do_call, Tr.do_ite, Tr.do_ret, slices_IndexFunc_int_MustLog_1.told, ej, bind_ok, decide_true, ↓reduceIte]
    exact ⟨_, rfl, by simp⟩
  · obtain ⟨n, rfl⟩ : ∃ n : Nat, j = n := ⟨j.toNat, by omega⟩
    have key := upto l.length (fun i (s : List Int × Nat) => s.1.length = l.length ∧ s.2 < i) (fun i s => lp slices_DeleteFunc_int_MustLog_1.tree (.c5 s.1 (s.2 : Int) (i : Int) a b)) (fun r => r.1.length ≤ l.length) (fun i hi s hs => by
      obtain ⟨s1, s2⟩ := s
      obtain ⟨hs1, hs2⟩ := hs
      simp only at hs1 hs2
      rw [lp_eq]
      by_cases q : i < l.length
      · have q1 : i < s1.length := by omega
        have q2 : s2 < s1.length := by omega
        obtain ⟨v, ev⟩ := impl_MustLog_1_ok (rdI s1 (i : Int)) a b ha hb
        cases v with
        | false =>
          refine Or.inr ⟨q, (s1.set s2 (rdI s1 (i : Int)), s2 + 1), ?_, by rw [List.length_set]; exact hs1, by show s2 + 1 < i + 1; omega⟩
          simp only [slices_DeleteFunc_int_MustLog_1.tree, Tr.do_ite, Tr.do_need, Tr.do_call, Tr.do_jump, lt_dec q1, in_lt q1, in_lt q2, and_self, decide_true, ↓reduceIte, impl_MustLog_1.told, ev, bind_ok, Bool.not_false, Int.toNat_natCast, wr_next (show i < 4611686018427387904 by omega), wr_next (show s2 < 4611686018427387904 by omega)]
        | true =>
          refine Or.inr ⟨q, (s1, s2), ?_, hs1, by show s2 < i + 1; omega⟩
          simp only [slices_DeleteFunc_int_MustLog_1.tree, Tr.do_ite, Tr.do_need, Tr.do_call, Tr.do_jump, lt_dec q1, in_lt q1, and_self, decide_true, ↓reduceIte, impl_MustLog_1.told, ev, bind_ok, Bool.not_true, Bool.false_eq_true, wr_next (show i < 4611686018427387904 by omega)]
      · obtain rfl : i = s1.length := by omega
        have q2 : s2 < s1.length := hs2
        have hlen : (List.take s2 s1 ++ List.replicate (List.length s1 - s2) (0 : Int)).length = s1.length := by rw [List.length_append, List.length_take, List.length_replicate]; omega
        have n1 : (0 : Int) ≤ 0 ∧ (0 : Int) ≤ (s2 : Int) ∧ (s2 : Int) ≤ (s1.length : Int) := by omega
        refine Or.inl ⟨(List.take s2 (List.take s2 s1 ++ List.replicate (List.length s1 - s2) (0 : Int)), a, b), ?_, ?_⟩
        · simp only [slices_DeleteFunc_int_MustLog_1.tree, Tr.do_ite, Tr.do_need, Tr.do_val, Tr.do_ret, ge_dec, Bool.false_eq_true, ↓reduceIte, in_lt q2, and_self, Int.toNat_natCast, hlen, n1]
        · show (List.take s2 _).length ≤ _
          rw [List.length_take, hlen]; omega) (n + 1) (by omega) (l, n) ⟨rfl, by show n < n + 1; omega⟩
    obtain ⟨r, e, h⟩ := key
    have hn1 : decide ((n : Int) = -1) = false := decide_eq_false (by omega)
    have w : wr ((n : Int) + 1) = ((n + 1 : Nat) : Int) := wr_next (by omega)
    refine ⟨r, ?_, h⟩
    simp only [slices_DeleteFunc_int_MustLog_1.f, slices_DeleteFunc_int_MustLog_1.begin, Tr.do_call, Tr.do_ite, Tr.do_jump, slices_IndexFunc_int_MustLog_1.told, ej, bind_ok, hn1, Bool.false_eq_true, ↓reduceIte, w]
    exact e
theorem impl_MustLog_ok (l : List S210) (a b c : Int) (hl : l.length ≤ 1048576) : ∃ r, impl_MustLog.f l a b c = some r ∧ r.length ≤ l.length + 8 := by
  obtain ⟨r1, e1, h1⟩ := impl_MayReadFirst_ok l a b c hl
  obtain ⟨r2, e2, h2⟩ := impl_MustWrite_ok l hl
  obtain ⟨r3, e3, h3⟩ := impl_MayWrite_ok l hl
  obtain ⟨r4, e4, h4⟩ := slices_DeleteFunc_int_MustLog_1_ok r3 r1 r2 (by omega) (by omega) (by omega)
  have key : lp impl_MustLog.tree (.c4 l a b c r1 r2) = some r4.1 := by
    rw [lp_eq]
    simp only [impl_MustLog.tree, Tr.do_call, Tr.do_ret, impl_MayWrite.told, e3, slices_DeleteFunc_int_MustLog_1.told, e4, bind_ok]
  have ht : ∃ v, impl_taskOk.f l a b c = some v := by
    simp only [impl_taskOk.f, impl_taskOk.begin, Tr.do_call, Tr.do_ite, Tr.do_ret, impl_BlockOk.told, impl_BlockOk_f l hl, impl_ExprOk.told, impl_ExprOk_f, bind_ok]
    split <;> exact ⟨_, rfl⟩
  obtain ⟨v, ev⟩ := ht
  cases v with
  | false =>
    refine ⟨[], ?_, by simp⟩
    simp only [impl_MustLog.f, impl_MustLog.begin, Tr.do_call, Tr.do_ite, Tr.do_ret, impl_taskOk.told, ev, bind_ok, Bool.not_false, ↓reduceIte]
  | true =>
    refine ⟨r4.1, ?_, by omega⟩
    simp only [impl_MustLog.f, impl_MustLog.begin, Tr.do_call, Tr.do_ite, Tr.do_both, Tr.do_last, Tr.do_jump, impl_taskOk.told, ev, bind_ok, Bool.not_true, Bool.false_eq_true, ↓reduceIte, impl_MayReadFirst.told, e1, impl_MustWrite.told, e2, both_same, key]
/-! ### A memory while a task runs -/
def mw (m : List Int) (x : S227) : List Int := if x.f1 = -1 then m else m.set x.f1.toNat x.f2
/-- A memory behind the first steps. -/
def applyM (m : List Int) (o : List S227) : List Int := o.foldl mw m
def okMicro (x : S227) : Prop := (0 ≤ x.f0 ∧ x.f0 ≤ 5) ∧ (-1 ≤ x.f1 ∧ x.f1 < 49)
/-- A valid memory in which what had been sent is still there. -/
def GoodM (n : Nat) (M m : List Int) : Prop := okMem n m = true ∧ memSent M <+: memSent m
def SafeL (n : Nat) (M : List Int) (o : List S227) : Prop := (∀ x ∈ o, okMicro x) ∧ ∀ k, GoodM n M (applyM M (o.take k))
theorem applyM_snoc (m : List Int) (o : List S227) (x : S227) : applyM m (o ++ [x]) = mw (applyM m o) x := by unfold applyM; rw [List.foldl_append]; rfl
theorem SafeL.snoc {n : Nat} {M : List Int} {o : List S227} {x : S227} (h : SafeL n M o) (hx : okMicro x) (hg : GoodM n M (mw (applyM M o) x)) : SafeL n M (o ++ [x]) := by
  refine ⟨fun y hy => ?_, fun k => ?_⟩
  · rcases List.mem_append.mp hy with hy | hy
    · exact h.1 y hy
    · rw [List.mem_singleton] at hy; rw [hy]; exact hx
  · by_cases q : k ≤ o.length
    · rw [List.take_append_of_le_length q]; exact h.2 k
    · rw [List.take_of_length_le (by rw [List.length_append, List.length_singleton]; omega), applyM_snoc]; exact hg
def win (m : List Int) (tl : Int) : List Int := (m.drop 25).take tl.toNat
theorem sent_win {m : List Int} {tl : Int} (h : (unpack (rdI m 8)).2.2 = tl) (h0 : 0 ≤ tl) : sent m = win m tl := by
  unfold sent win
  rw [h, List.drop_take]
  congr 1
  omega
theorem memSent_win {m : List Int} {t c tl : Int} (hm : m.length = 49) (h : unpack (rdI m 8) = (t, c, tl)) (h0 : 0 ≤ tl) : memSent m = win m tl := by
  unfold memSent
  rw [if_pos hm, h, if_neg (by simp only; omega)]
  exact sent_win (by rw [h]) h0
theorem getD_set' {m : List Int} {j i : Nat} {v : Int} (hj : j < m.length) : (m.set j v).getD i 0 = if i = j then v else m.getD i 0 := by
  rw [List.getD_eq_getElem?_getD, List.getElem?_set]
  by_cases h : i = j
  · subst h; rw [if_pos rfl, if_pos rfl, if_pos hj]; rfl
  · rw [if_neg (fun e => h e.symm), if_neg h, List.getD_eq_getElem?_getD]
theorem win_get (m : List Int) (tl : Int) (i : Nat) : (win m tl)[i]? = if i < tl.toNat then m[25 + i]? else none := by
  unfold win
  rw [List.getElem?_take, List.getElem?_drop]
theorem win_all {m : List Int} {tl : Int} (h : ∀ i : Nat, (i : Int) < tl → isVal (m.getD (25 + i) 0) = true) : (win m tl).all isVal = true := by
  rw [List.all_eq_true]
  intro x hx
  obtain ⟨i, hi⟩ := List.mem_iff_getElem?.mp hx
  rw [win_get] at hi
  split at hi
  · have := h i (by omega)
    rw [List.getD_eq_getElem?_getD, hi] at this
    exact this
  · cases hi
theorem win_eq {m M : List Int} {tl : Int} (hm : m.length = 49) (hM : M.length = 49) (h : ∀ i : Nat, (i : Int) < tl → m.getD (25 + i) 0 = M.getD (25 + i) 0) : win m tl = win M tl := by
  refine List.ext_getElem? (fun i => ?_)
  rw [win_get, win_get]
  by_cases q : i < tl.toNat
  · rw [if_pos q, if_pos q]
    by_cases q' : 25 + i < 49
    · have := h i (by omega)
      rw [List.getD_eq_getElem?_getD, List.getElem?_eq_getElem (by omega), List.getD_eq_getElem?_getD, List.getElem?_eq_getElem (by omega)] at this
      rw [List.getElem?_eq_getElem (by omega), List.getElem?_eq_getElem (by omega)]
      exact congrArg some this
    · rw [List.getElem?_eq_none (by omega), List.getElem?_eq_none (by omega)]
  · rw [if_neg q, if_neg q]
theorem win_pre (m : List Int) {a b : Int} (h : a ≤ b) : win m a <+: win m b := by
  unfold win
  have : (m.drop 25).take a.toNat = ((m.drop 25).take b.toNat).take a.toNat := by rw [List.take_take, Nat.min_eq_left (by omega)]
  rw [this]
  exact List.take_prefix _ _
/-- What a task meets. -/
structure BaseM (n : Nat) (t tl : Int) (M : List Int) : Prop where
  len : M.length = 49
  t0 : 0 ≤ t ∧ t < n ∧ t ≤ 5
  tl0 : 0 ≤ tl ∧ tl ≤ 24
  sent : memSent M = win M tl
  val : ∀ i : Nat, (i : Int) < tl → isVal (M.getD (25 + i) 0) = true
/-- A memory while a task runs: c variables are logged, s values are sent. -/
structure Run (t tl : Int) (M : List Int) (c : Nat) (s : Int) (m : List Int) : Prop where
  len : m.length = 49
  ctl : rdI m 8 = pack t c tl
  c8 : c ≤ 8
  s0 : 0 ≤ s
  var : ∀ i : Nat, i < 8 → isVal (m.getD i 0) = true
  log : ∀ i : Nat, i < c → okPair m i = true
  old : ∀ i : Nat, (i : Int) < tl → m.getD (25 + i) 0 = M.getD (25 + i) 0
  new : ∀ i : Nat, tl ≤ (i : Int) → (i : Int) < tl + s → i < 24 → isVal (m.getD (25 + i) 0) = true
theorem Run.good {n : Nat} {t tl : Int} {M m : List Int} {c : Nat} {s : Int} (b : BaseM n t tl M) (h : Run t tl M c s m) : GoodM n M m := by
  have hc := h.c8
  have ht := b.t0
  have htl := b.tl0
  have hu : unpack (rdI m 8) = (t, (c : Int), tl) := by rw [h.ctl]; exact unpack_pack (by omega) (by omega) (by omega)
  refine ⟨okMem_of h.len hu (by omega) ?_ ?_ ?_, ?_⟩
  · rw [List.all_eq_true]
    intro x hx
    obtain ⟨i, hi, rfl⟩ := List.mem_iff_getElem.mp hx
    rw [List.length_take] at hi
    have := h.var i (by omega)
    rw [List.getD_eq_getElem?_getD, List.getElem?_eq_getElem (by have := h.len; omega)] at this
    rw [List.getElem_take]
    exact this
  · rw [sent_win (tl := tl) (by rw [hu]) (by omega)]
    exact win_all (fun i hi => by rw [h.old i hi]; exact b.val i hi)
  · rw [List.all_eq_true]
    intro i hi
    rw [List.mem_range] at hi
    exact h.log i (by omega)
  · rw [memSent_win h.len hu (by omega), b.sent, win_eq h.len b.len h.old]
    exact List.prefix_rfl
theorem rdI_getD (m : List Int) (i : Nat) : rdI m (i : Int) = m.getD i 0 := by show m.getD ((i : Int)).toNat 0 = _; rw [Int.toNat_natCast]
theorem okPair_getD (m : List Int) (i : Nat) : okPair m i = (inB (m.getD (9 + 2 * i) 0) 0 7 && isVal (m.getD (9 + 2 * i + 1) 0)) := by
  unfold okPair
  rw [← rdI_getD, ← rdI_getD]
  congr 2
theorem Run.set {t tl : Int} {M m : List Int} {c : Nat} {s : Int} (h : Run t tl M c s m) {j : Nat} {v : Int} (hj : j < 49) (h8 : j ≠ 8) (hv : j < 8 → isVal v = true) (hlog : j < 9 ∨ 9 + 2 * c ≤ j) (hbox : j < 25 ∨ (tl ≤ (j : Int) - 25 ∧ isVal v = true)) : Run t tl M c s (m.set j v) where
  len := by rw [List.length_set]; exact h.len
  ctl := by have e := h.ctl; have := h.len; rw [show (8 : Int) = ((8 : Nat) : Int) from rfl, rdI_getD] at e ⊢; rw [getD_set' (by omega), if_neg (by omega)]; exact e
  c8 := h.c8
  s0 := h.s0
  var := fun i hi => by
    have := h.len
    rw [getD_set' (by omega)]
    split
    · exact hv (by omega)
    · exact h.var i hi
  log := fun i hi => by
    have := h.len
    have e := h.log i hi
    rw [okPair_getD] at e ⊢
    rw [getD_set' (by omega), getD_set' (by omega)]
    by_cases q : j < 9
    · rw [if_neg (by omega), if_neg (by omega)]; exact e
    · rw [if_neg (by omega), if_neg (by omega)]; exact e
  old := fun i hi => by
    have := h.len
    rw [getD_set' (by omega), if_neg (by omega)]; exact h.old i hi
  new := fun i h1 h2 h3 => by
    have := h.len
    rw [getD_set' (by omega)]
    split
    · rcases hbox with q | q
      · omega
      · exact q.2
    · exact h.new i h1 h2 h3
theorem Run.ctl' {t tl : Int} {M m : List Int} {c : Nat} {s : Int} (h : Run t tl M c s m) (hc : c < 8) (hp : okPair m c = true) : Run t tl M (c + 1) s (m.set 8 (pack t ((c + 1 : Nat) : Int) tl)) where
  len := by rw [List.length_set]; exact h.len
  ctl := rdI_set (by have := h.len; omega) rfl
  c8 := by omega
  s0 := h.s0
  var := fun i hi => by have := h.len; rw [getD_set' (by omega), if_neg (by omega)]; exact h.var i hi
  log := fun i hi => by
    have := h.len
    have e : okPair m i = true := by
      rcases (show i < c ∨ i = c by omega) with q | q
      · exact h.log i q
      · rw [q]; exact hp
    rw [okPair_getD] at e ⊢
    rw [getD_set' (by omega), getD_set' (by omega), if_neg (by omega), if_neg (by omega)]; exact e
  old := fun i hi => by have := h.len; rw [getD_set' (by omega), if_neg (by omega)]; exact h.old i hi
  new := fun i h1 h2 h3 => by have := h.len; rw [getD_set' (by omega), if_neg (by omega)]; exact h.new i h1 h2 h3
theorem Run.box {t tl : Int} {M m : List Int} {c : Nat} {s : Int} (htl : 0 ≤ tl) (h : Run t tl M c s m) {j : Nat} {v : Int} (hj : (j : Int) = tl + s) (h24 : j < 24) (hv : isVal v = true) : Run t tl M c (s + 1) (m.set (25 + j) v) := by
  have hs := h.s0
  have hc := h.c8
  have h' := h.set (j := 25 + j) (v := v) (by omega) (by omega) (fun q => by omega) (Or.inr (by omega)) (Or.inr ⟨by omega, hv⟩)
  exact { h' with
    s0 := by omega
    new := fun i h1 h2 h3 => by
      by_cases q : i = j
      · subst q
        rw [getD_set' (by have := h.len; omega), if_pos rfl]; exact hv
      · exact h'.new i h1 (by omega) h3 }
theorem Run.box0 {t tl : Int} {M m : List Int} {c : Nat} {s : Int} (h : Run t tl M c s m) (h24 : 24 ≤ tl + s) : Run t tl M c (s + 1) m :=
  { h with
    s0 := by have := h.s0; omega
    new := fun i h1 h2 h3 => h.new i h1 (by omega) h3 }
/-- The last write of a task. -/
theorem Run.last {n : Nat} {t tl : Int} {M m : List Int} {c : Nat} {s nt tl' : Int} (b : BaseM n t tl M) (h : Run t tl M c s m) (hn : n ≤ 6) (hnt : 0 ≤ nt ∧ nt < n) (htl : tl' = if tl + s < 24 then tl + s else 24) :
    GoodM n M (m.set 8 (pack nt 0 tl')) ∧ unpack (rdI (m.set 8 (pack nt 0 tl')) 8) = (nt, 0, tl') := by
  have hs := h.s0
  have h0 := b.tl0
  have hr : tl ≤ tl' ∧ tl' ≤ 24 ∧ tl' ≤ tl + s := by rw [htl]; split <;> omega
  have hlen := h.len
  have hu : unpack (rdI (m.set 8 (pack nt 0 tl')) 8) = (nt, 0, tl') := by rw [show rdI (m.set 8 (pack nt 0 tl')) 8 = pack nt 0 tl' from rdI_set (by omega) rfl]; exact unpack_pack (by omega) (by omega) (by omega)
  have hl' : (m.set 8 (pack nt 0 tl')).length = 49 := by rw [List.length_set]; exact h.len
  have hg : ∀ i : Nat, i ≠ 8 → (m.set 8 (pack nt 0 tl')).getD i 0 = m.getD i 0 := fun i hi => by rw [getD_set' (by omega), if_neg hi]
  refine ⟨⟨okMem_of hl' hu (by omega) ?_ ?_ rfl, ?_⟩, hu⟩
  · rw [List.all_eq_true]
    intro x hx
    obtain ⟨i, hi, rfl⟩ := List.mem_iff_getElem.mp hx
    rw [List.length_take] at hi
    have := h.var i (by omega)
    rw [← hg i (by omega), List.getD_eq_getElem?_getD, List.getElem?_eq_getElem (by omega)] at this
    rw [List.getElem_take]
    exact this
  · rw [sent_win (tl := tl') (by rw [hu]) (by omega)]
    refine win_all (fun i hi => ?_)
    rw [hg _ (by omega)]
    by_cases q : (i : Int) < tl
    · rw [h.old i q]; exact b.val i q
    · exact h.new i (by omega) (by omega) (by omega)
  · rw [memSent_win hl' hu (by omega), b.sent]
    have e : win M tl = win (m.set 8 (pack nt 0 tl')) tl := (win_eq hl' b.len (fun i hi => by rw [hg _ (by omega)]; exact h.old i hi)).symm
    rw [e]
    exact win_pre _ hr.1
/-! ### The steps of a task -/
structure TI (n : Nat) (t tl : Int) (M : List Int) (B : Nat) (o : List S227) (u : List Int) (sn : Int) (lg : List Int) (f : List Bool) (vs : List Int) : Prop where
  safe : SafeL n M o
  run : Run t tl M lg.length sn (applyM M o)
  used : ∀ x ∈ u, isVal x = true
  olen : o.length ≤ B
  ulen : u.length ≤ B
  snB : sn ≤ B
  lgf : lg.length ≤ f.count true
  vok : okV vs = true
theorem TI.mono {n : Nat} {t tl : Int} {M : List Int} {B B' : Nat} {o : List S227} {u : List Int} {sn : Int} {lg : List Int} {f : List Bool} {vs : List Int} (h : TI n t tl M B o u sn lg f vs) (hB : B ≤ B') : TI n t tl M B' o u sn lg f vs :=
  { h with olen := Nat.le_trans h.olen hB, ulen := Nat.le_trans h.ulen hB, snB := by have := h.snB; omega }
theorem TI.push {n : Nat} {t tl : Int} {M : List Int} {B : Nat} {o : List S227} {u : List Int} {sn : Int} {lg : List Int} {f : List Bool} {vs : List Int} (b : BaseM n t tl M) (h : TI n t tl M B o u sn lg f vs)
    (x : S227) {sn' : Int} {lg' : List Int} {f' : List Bool} {vs' : List Int} (hx : okMicro x) (hr : Run t tl M lg'.length sn' (mw (applyM M o) x)) (hs : sn' ≤ B + 1) (hl : lg'.length ≤ f'.count true) (hv : okV vs' = true) :
    TI n t tl M (B + 1) (o ++ [x]) u sn' lg' f' vs' where
  safe := h.safe.snoc hx (hr.good b)
  run := by rw [applyM_snoc]; exact hr
  used := h.used
  olen := by rw [List.length_append, List.length_singleton]; have := h.olen; omega
  ulen := by have := h.ulen; omega
  snB := by omega
  lgf := hl
  vok := hv
theorem TI.work {n : Nat} {t tl : Int} {M : List Int} {B : Nat} {o : List S227} {u : List Int} {sn : Int} {lg : List Int} {f : List Bool} {vs : List Int} (b : BaseM n t tl M) (h : TI n t tl M B o u sn lg f vs)
    {c : Int} (hc : 0 ≤ c ∧ c ≤ 5) : TI n t tl M (B + 1) (o ++ [(⟨c, -1, 0⟩ : S227)]) u sn lg f vs :=
  h.push b _ ⟨hc, by show (-1 : Int) ≤ -1 ∧ (-1 : Int) < 49; omega⟩ h.run (by have := h.snB; omega) h.lgf h.vok
theorem okV_iff {vs : List Int} : okV vs = true ↔ vs.all isVal = true ∧ vs.length = 8 := by
  unfold okV
  rw [Bool.and_eq_true, decide_eq_true_eq]
  exact ⟨fun h => ⟨h.1, by have := h.2; omega⟩, fun h => ⟨h.1, by have := h.2; omega⟩⟩
theorem okV_set {vs : List Int} {k : Nat} {v : Int} (h : okV vs = true) (hv : isVal v = true) : okV (vs.set k v) = true := by
  rw [okV_iff] at h ⊢
  exact ⟨all_set h.1 hv, by rw [List.length_set]; exact h.2⟩
theorem mw_set (m : List Int) (c j v : Int) (hj : 0 ≤ j) : mw m (⟨c, j, v⟩ : S227) = m.set j.toNat v := by
  unfold mw
  rw [if_neg (by show ¬ j = -1; omega)]
theorem count_le8 (l : List Bool) : l.count true ≤ l.length := List.count_le_length
theorem count_set_le (l : List Bool) (k : Nat) : l.count true ≤ (l.set k true).count true := by
  by_cases h : k < l.length
  · have hp := List.count_pos_iff (a := true) (l := l)
    rw [List.count_set h]
    cases hb : l[k] with
    | true =>
      have : 0 < l.count true := hp.mpr (hb ▸ List.getElem_mem h)
      simp; omega
    | false => simp
  · rw [List.set_eq_of_length_le (by omega)]; exact Nat.le_refl _
theorem count_set_new (l : List Bool) (k : Nat) (h : k < l.length) (hf : l.getD k true = false) : (l.set k true).count true = l.count true + 1 := by
  rw [List.getD_eq_getElem?_getD, List.getElem?_eq_getElem h] at hf
  have hf' : l[k] = false := hf
  rw [List.count_set h, hf']
  simp
theorem impl_tracer_work_f (c : Int) (o : List S227) (u : List Int) (t tl sn : Int) (lg : List Int) (f0 f1 f2 f3 f4 f5 f6 f7 : Bool) (vs : List Int) (ho : o.length ≤ 1000000) :
    impl_tracer_work.f c o u t tl sn lg f0 f1 f2 f3 f4 f5 f6 f7 vs = some (o ++ [(⟨c, -1, 0⟩ : S227)], u, t, tl, sn, lg, f0, f1, f2, f3, f4, f5, f6, f7, vs) := by
  simp only [impl_tracer_work.f, impl_tracer_work.begin, Tr.do_need, Tr.do_ret, one_fits o _ 1048576 (by omega) (by omega) 24 (by omega), ↓reduceIte]
theorem impl_tracer_write_f (a v : Int) (o : List S227) (u : List Int) (t tl sn : Int) (lg : List Int) (f0 f1 f2 f3 f4 f5 f6 f7 : Bool) (vs : List Int) (ho : o.length ≤ 1000000) :
    impl_tracer_write.f a v o u t tl sn lg f0 f1 f2 f3 f4 f5 f6 f7 vs = some (o ++ [(⟨3, a, v⟩ : S227)], u, t, tl, sn, lg, f0, f1, f2, f3, f4, f5, f6, f7, vs) := by
  simp only [impl_tracer_write.f, impl_tracer_write.begin, Tr.do_need, Tr.do_ret, one_fits o _ 1048576 (by omega) (by omega) 24 (by omega), ↓reduceIte]
set_option maxHeartbeats 4000000 in
theorem assign_c6 (k v : Int) (o : List S227) (u : List Int) (t tl sn : Int) (lg : List Int) (f0 f1 f2 f3 f4 f5 f6 f7 : Bool) (vs : List Int) (hk : 0 ≤ k ∧ k ≤ 7) : ∃ g0 g1 g2 g3 g4 g5 g6 g7 : Bool, [g0, g1, g2, g3, g4, g5, g6, g7] = ([f0, f1, f2, f3, f4, f5, f6, f7] : List Bool).set k.toNat true ∧ lp impl_tracer_assign.tree (.c6 k v o u t tl sn lg f0 f1 f2 f3 f4 f5 f6 f7 vs) = lp impl_tracer_assign.tree (.c7 k v o u t tl sn lg g0 g1 g2 g3 g4 g5 g6 g7 vs) := by
  rw [lp_eq]
  rcases (show k = 0 ∨ k = 1 ∨ k = 2 ∨ k = 3 ∨ k = 4 ∨ k = 5 ∨ k = 6 ∨ k = 7 by omega) with rfl | rfl | rfl | rfl | rfl | rfl | rfl | rfl <;>
    (simp only [impl_tracer_assign.tree, Tr.do_ite, Tr.do_jump, decide_true, ↓reduceIte, Int.reduceEq, decide_false, Bool.false_eq_true]
     exact ⟨_, _, _, _, _, _, _, _, rfl, rfl⟩)
set_option maxHeartbeats 4000000 in
theorem assign_begin (must : List Int) (k v : Int) (o : List S227) (u : List Int) (t tl sn : Int) (lg : List Int) (f0 f1 f2 f3 f4 f5 f6 f7 : Bool) (vs : List Int) (hk : 0 ≤ k ∧ k ≤ 7) (hm : must.length ≤ 1048576) :
    (impl_tracer_assign.f must k v o u t tl sn lg f0 f1 f2 f3 f4 f5 f6 f7 vs = lp impl_tracer_assign.tree (.c1 k v o u t tl sn lg f0 f1 f2 f3 f4 f5 f6 f7 vs) ∧ ([f0, f1, f2, f3, f4, f5, f6, f7] : List Bool).getD k.toNat true = false) ∨ impl_tracer_assign.f must k v o u t tl sn lg f0 f1 f2 f3 f4 f5 f6 f7 vs = lp impl_tracer_assign.tree (.c6 k v o u t tl sn lg f0 f1 f2 f3 f4 f5 f6 f7 vs) := by
  obtain ⟨h, eh⟩ := impl_HasVar_ok must k hm
  cases h with
  | false =>
    refine Or.inr ?_
    simp only [impl_tracer_assign.f, impl_tracer_assign.begin, Tr.do_call, Tr.do_ite, Tr.do_jump, impl_HasVar.told, eh, bind_ok, Bool.false_eq_true, ↓reduceIte]
  | true =>
    simp only [impl_tracer_assign.f, impl_tracer_assign.begin, Tr.do_call, Tr.do_ite, Tr.do_jump, impl_HasVar.told, eh, bind_ok, ↓reduceIte]
    rcases (show k = 0 ∨ k = 1 ∨ k = 2 ∨ k = 3 ∨ k = 4 ∨ k = 5 ∨ k = 6 ∨ k = 7 by omega) with rfl | rfl | rfl | rfl | rfl | rfl | rfl | rfl
    · simp only [decide_true, ↓reduceIte, Int.reduceEq, decide_false, Bool.false_eq_true]
      cases f0 with
      | false => exact Or.inl ⟨rfl, rfl⟩
      | true => exact Or.inr rfl
    · simp only [decide_true, ↓reduceIte, Int.reduceEq, decide_false, Bool.false_eq_true]
      cases f1 with
      | false => exact Or.inl ⟨rfl, rfl⟩
      | true => exact Or.inr rfl
    · simp only [decide_true, ↓reduceIte, Int.reduceEq, decide_false, Bool.false_eq_true]
      cases f2 with
      | false => exact Or.inl ⟨rfl, rfl⟩
      | true => exact Or.inr rfl
    · simp only [decide_true, ↓reduceIte, Int.reduceEq, decide_false, Bool.false_eq_true]
      cases f3 with
      | false => exact Or.inl ⟨rfl, rfl⟩
      | true => exact Or.inr rfl
    · simp only [decide_true, ↓reduceIte, Int.reduceEq, decide_false, Bool.false_eq_true]
      cases f4 with
      | false => exact Or.inl ⟨rfl, rfl⟩
      | true => exact Or.inr rfl
    · simp only [decide_true, ↓reduceIte, Int.reduceEq, decide_false, Bool.false_eq_true]
      cases f5 with
      | false => exact Or.inl ⟨rfl, rfl⟩
      | true => exact Or.inr rfl
    · simp only [decide_true, ↓reduceIte, Int.reduceEq, decide_false, Bool.false_eq_true]
      cases f6 with
      | false => exact Or.inl ⟨rfl, rfl⟩
      | true => exact Or.inr rfl
    · simp only [decide_true, ↓reduceIte, Int.reduceEq, decide_false, Bool.false_eq_true]
      cases f7 with
      | false => exact Or.inl ⟨rfl, rfl⟩
      | true => exact Or.inr rfl
theorem assign_c7 {n : Nat} {M : List Int} {B : Nat} (k v : Int) (o : List S227) (u : List Int) (t tl sn : Int) (lg : List Int) (f0 f1 f2 f3 f4 f5 f6 f7 : Bool) (vs : List Int) (b : BaseM n t tl M) (hB : B ≤ 900000) (h : TI n t tl M B o u sn lg [f0, f1, f2, f3, f4, f5, f6, f7] vs) (hk : 0 ≤ k ∧ k ≤ 7) (hv : isVal v = true) :
    ∃ o', lp impl_tracer_assign.tree (.c7 k v o u t tl sn lg f0 f1 f2 f3 f4 f5 f6 f7 vs) = some (o', u, t, tl, sn, lg, f0, f1, f2, f3, f4, f5, f6, f7, vs.set k.toNat v) ∧ TI n t tl M (B + 1) o' u sn lg [f0, f1, f2, f3, f4, f5, f6, f7] (vs.set k.toNat v) := by
  have hvl := (okV_iff.mp h.vok).2
  have n1 : (0 : Int) ≤ k ∧ k < (vs.length : Int) := by omega
  have hw := impl_tracer_write_f k v o u t tl sn lg f0 f1 f2 f3 f4 f5 f6 f7 (vs.set k.toNat v) (by have := h.olen; omega)
  rw [lp_eq]
  simp only [impl_tracer_assign.tree, Tr.do_need, Tr.do_call, Tr.do_ret, n1, and_self, ↓reduceIte, impl_tracer_write.told, hw, bind_ok]
  refine ⟨_, rfl, h.push b _ ⟨by show (0 : Int) ≤ 3 ∧ (3 : Int) ≤ 5; omega, by show -1 ≤ k ∧ k < 49; omega⟩ ?_ (by have := h.snB; omega) h.lgf (okV_set h.vok hv)⟩
  rw [mw_set _ _ _ _ hk.1]
  exact h.run.set (by omega) (by omega) (fun _ => hv) (Or.inl (by omega)) (Or.inl (by omega))
set_option maxHeartbeats 1000000 in
theorem assign_c6' {n : Nat} {M : List Int} {B : Nat} (k v : Int) (o : List S227) (u : List Int) (t tl sn : Int) (lg : List Int) (f0 f1 f2 f3 f4 f5 f6 f7 : Bool) (vs : List Int) (b : BaseM n t tl M) (hB : B ≤ 900000) (h : TI n t tl M B o u sn lg (([f0, f1, f2, f3, f4, f5, f6, f7] : List Bool).set k.toNat true) vs) (hk : 0 ≤ k ∧ k ≤ 7) (hv : isVal v = true) :
    ∃ o' g0 g1 g2 g3 g4 g5 g6 g7, lp impl_tracer_assign.tree (.c6 k v o u t tl sn lg f0 f1 f2 f3 f4 f5 f6 f7 vs) = some (o', u, t, tl, sn, lg, g0, g1, g2, g3, g4, g5, g6, g7, vs.set k.toNat v) ∧ TI n t tl M (B + 1) o' u sn lg [g0, g1, g2, g3, g4, g5, g6, g7] (vs.set k.toNat v) := by
  obtain ⟨g0, g1, g2, g3, g4, g5, g6, g7, e, e'⟩ := assign_c6 k v o u t tl sn lg f0 f1 f2 f3 f4 f5 f6 f7 vs hk
  rw [← e] at h
  obtain ⟨o', h1, h2⟩ := assign_c7 k v o u t tl sn lg g0 g1 g2 g3 g4 g5 g6 g7 vs b hB h hk hv
  exact ⟨o', g0, g1, g2, g3, g4, g5, g6, g7, e'.trans h1, h2⟩
set_option maxHeartbeats 2000000 in
theorem impl_tracer_assign_ok {n : Nat} {M : List Int} {B : Nat} (must : List Int) (k v : Int) (o : List S227) (u : List Int) (t tl sn : Int) (lg : List Int) (f0 f1 f2 f3 f4 f5 f6 f7 : Bool) (vs : List Int) (b : BaseM n t tl M) (hB : B ≤ 800000) (h : TI n t tl M B o u sn lg [f0, f1, f2, f3, f4, f5, f6, f7] vs) (hk : 0 ≤ k ∧ k ≤ 7) (hv : isVal v = true) (hm : must.length ≤ 1048576) :
    ∃ o' lg' g0 g1 g2 g3 g4 g5 g6 g7, impl_tracer_assign.f must k v o u t tl sn lg f0 f1 f2 f3 f4 f5 f6 f7 vs = some (o', u, t, tl, sn, lg', g0, g1, g2, g3, g4, g5, g6, g7, vs.set k.toNat v) ∧ TI n t tl M (B + 4) o' u sn lg' [g0, g1, g2, g3, g4, g5, g6, g7] (vs.set k.toNat v) := by
  rcases assign_begin must k v o u t tl sn lg f0 f1 f2 f3 f4 f5 f6 f7 vs hk hm with ⟨e, hf⟩ | e
  · rw [e, lp_eq]
    obtain ⟨hva, hvl⟩ := okV_iff.mp h.vok
    have n1 : (0 : Int) ≤ k ∧ k < (vs.length : Int) := by omega
    have hcn := count_set_new ([f0, f1, f2, f3, f4, f5, f6, f7] : List Bool) k.toNat (by simp; omega) hf
    have hc8 := count_le8 (([f0, f1, f2, f3, f4, f5, f6, f7] : List Bool).set k.toNat true)
    rw [List.length_set] at hc8
    have hl := h.lgf
    have hlg7 : lg.length ≤ 7 := by simp only [List.length_cons, List.length_nil] at hc8; omega
    have w1 : wr (2 * (lg.length : Int)) = 2 * (lg.length : Int) := wr_in (by omega)
    have w2 : wr (9 + 2 * (lg.length : Int)) = 9 + 2 * (lg.length : Int) := wr_in (by omega)
    have w3 : wr (9 + 2 * (lg.length : Int) + 1) = 9 + 2 * (lg.length : Int) + 1 := wr_in (by omega)
    have ho := h.olen
    have hw1 := impl_tracer_write_f (9 + 2 * (lg.length : Int)) k o u t tl sn lg f0 f1 f2 f3 f4 f5 f6 f7 vs (by omega)
    have hw2 := impl_tracer_write_f (9 + 2 * (lg.length : Int) + 1) (rdI vs k) (o ++ [(⟨3, 9 + 2 * (lg.length : Int), k⟩ : S227)]) u t tl sn lg f0 f1 f2 f3 f4 f5 f6 f7 vs (by rw [List.length_append, List.length_singleton]; omega)
    have hw3 := impl_tracer_write_f 8 (pack t ((lg ++ [k]).length : Int) tl) ((o ++ [(⟨3, 9 + 2 * (lg.length : Int), k⟩ : S227)]) ++ [(⟨3, 9 + 2 * (lg.length : Int) + 1, rdI vs k⟩ : S227)]) u t tl sn (lg ++ [k]) f0 f1 f2 f3 f4 f5 f6 f7 vs (by rw [List.length_append, List.length_append, List.length_singleton, List.length_singleton]; omega)
    have hkv : isVal k = true := by unfold isVal; rw [inB_iff]; omega
    have hrv : isVal (rdI vs k) = true := rdI_all hva k
    have r1 : Run t tl M lg.length sn (mw (applyM M o) (⟨3, 9 + 2 * (lg.length : Int), k⟩ : S227)) := by
      rw [mw_set _ _ _ _ (by omega)]
      exact h.run.set (by omega) (by omega) (fun _ => hkv) (Or.inr (by omega)) (Or.inl (by omega))
    have h1 := h.push b _ (vs' := vs) (lg' := lg) (f' := [f0, f1, f2, f3, f4, f5, f6, f7]) ⟨by show (0 : Int) ≤ 3 ∧ (3 : Int) ≤ 5; omega, by show -1 ≤ 9 + 2 * (lg.length : Int) ∧ 9 + 2 * (lg.length : Int) < 49; omega⟩ r1 (by have := h.snB; omega) h.lgf h.vok
    have r2 : Run t tl M lg.length sn (mw (applyM M (o ++ [(⟨3, 9 + 2 * (lg.length : Int), k⟩ : S227)])) (⟨3, 9 + 2 * (lg.length : Int) + 1, rdI vs k⟩ : S227)) := by
      rw [mw_set _ _ _ _ (by omega)]
      exact h1.run.set (by omega) (by omega) (fun _ => hrv) (Or.inr (by omega)) (Or.inl (by omega))
    have h2 := h1.push b _ (vs' := vs) (lg' := lg) (f' := [f0, f1, f2, f3, f4, f5, f6, f7]) ⟨by show (0 : Int) ≤ 3 ∧ (3 : Int) ≤ 5; omega, by show -1 ≤ 9 + 2 * (lg.length : Int) + 1 ∧ 9 + 2 * (lg.length : Int) + 1 < 49; omega⟩ r2 (by have := h.snB; omega) h.lgf h.vok
    have hp : okPair (applyM M ((o ++ [(⟨3, 9 + 2 * (lg.length : Int), k⟩ : S227)]) ++ [(⟨3, 9 + 2 * (lg.length : Int) + 1, rdI vs k⟩ : S227)])) lg.length = true := by
      have l0 := h.run.len
      rw [okPair_getD, applyM_snoc, applyM_snoc, mw_set _ _ _ _ (by omega), mw_set _ _ _ _ (by omega)]
      have l1 : (List.set (applyM M o) (9 + 2 * (lg.length : Int)).toNat k).length = 49 := by rw [List.length_set]; exact l0
      rw [getD_set' (by omega), getD_set' (by omega), getD_set' (by omega), if_neg (by omega), if_pos (by omega), if_pos (by omega), hrv]
      rw [(inB_iff (x := k)).mpr hk]
      rfl
    have r3 : Run t tl M (lg ++ [k]).length sn (mw (applyM M ((o ++ [(⟨3, 9 + 2 * (lg.length : Int), k⟩ : S227)]) ++ [(⟨3, 9 + 2 * (lg.length : Int) + 1, rdI vs k⟩ : S227)])) (⟨3, 8, pack t ((lg ++ [k]).length : Int) tl⟩ : S227)) := by
      rw [mw_set _ _ _ _ (by omega), List.length_append, List.length_singleton]
      exact h2.run.ctl' (by omega) hp
    have h3 := h2.push b _ (vs' := vs) (lg' := lg ++ [k]) (f' := ([f0, f1, f2, f3, f4, f5, f6, f7] : List Bool).set k.toNat true) ⟨by show (0 : Int) ≤ 3 ∧ (3 : Int) ≤ 5; omega, by show (-1 : Int) ≤ 8 ∧ (8 : Int) < 49; omega⟩ r3 (by have := h.snB; omega) (by rw [List.length_append, List.length_singleton]; omega) h.vok
    obtain ⟨o', g0, g1, g2, g3, g4, g5, g6, g7, e7, t7⟩ := assign_c6' k v _ u t tl sn (lg ++ [k]) f0 f1 f2 f3 f4 f5 f6 f7 vs b (by omega) h3 hk hv
    refine ⟨o', lg ++ [k], g0, g1, g2, g3, g4, g5, g6, g7, ?_, t7⟩
    simp only [impl_tracer_assign.tree, Tr.do_call, Tr.do_need, Tr.do_last, Tr.do_jump, impl_tracer_write.told, impl_PackControl.told, impl_PackControl_f, w1, w2, w3, hw1, hw2, hw3, bind_ok, n1, and_self, one_fits lg _ 1048576 (by omega) (by omega) 8 (by omega), ↓reduceIte]
    exact e7
  · rw [e]
    have h' : TI n t tl M B o u sn lg (([f0, f1, f2, f3, f4, f5, f6, f7] : List Bool).set k.toNat true) vs := { h with lgf := Nat.le_trans h.lgf (count_set_le _ _) }
    obtain ⟨o', g0, g1, g2, g3, g4, g5, g6, g7, e7, t7⟩ := assign_c6' k v _ u t tl sn lg f0 f1 f2 f3 f4 f5 f6 f7 vs b (by omega) h' hk hv
    exact ⟨o', lg, g0, g1, g2, g3, g4, g5, g6, g7, e7, t7.mono (by omega)⟩
theorem impl_tracer_send_ok {n : Nat} {M : List Int} {B : Nat} (v : Int) (o : List S227) (u : List Int) (t tl sn : Int) (lg : List Int) (f0 f1 f2 f3 f4 f5 f6 f7 : Bool) (vs : List Int) (b : BaseM n t tl M) (hB : B ≤ 900000) (h : TI n t tl M B o u sn lg [f0, f1, f2, f3, f4, f5, f6, f7] vs) (hv : isVal v = true) :
    ∃ o', impl_tracer_send.f v o u t tl sn lg f0 f1 f2 f3 f4 f5 f6 f7 vs = some (o', u, t, tl, sn + 1, lg, f0, f1, f2, f3, f4, f5, f6, f7, vs) ∧ TI n t tl M (B + 1) o' u (sn + 1) lg [f0, f1, f2, f3, f4, f5, f6, f7] vs := by
  have hs0 := h.run.s0
  have hsB := h.snB
  have htl := b.tl0
  have w1 : wr (tl + sn) = tl + sn := wr_in (by omega)
  have w2 : wr (sn + 1) = sn + 1 := wr_in (by omega)
  by_cases q : tl + sn < 24
  · have w3 : wr (25 + (tl + sn)) = 25 + (tl + sn) := wr_in (by omega)
    have hw := impl_tracer_write_f (25 + (tl + sn)) v o u t tl sn lg f0 f1 f2 f3 f4 f5 f6 f7 vs (by have := h.olen; omega)
    simp only [impl_tracer_send.f, impl_tracer_send.begin, Tr.do_ite, Tr.do_call, Tr.do_ret, w1, w2, w3, decide_eq_true q, impl_tracer_write.told, hw, bind_ok, ↓reduceIte]
    refine ⟨_, rfl, h.push b _ ⟨by show (0 : Int) ≤ 3 ∧ (3 : Int) ≤ 5; omega, by show -1 ≤ 25 + (tl + sn) ∧ 25 + (tl + sn) < 49; omega⟩ ?_ (by omega) h.lgf h.vok⟩
    rw [mw_set _ _ _ _ (by omega)]
    have := h.run.box (j := (tl + sn).toNat) htl.1 (by omega) (by omega) hv
    rw [show 25 + (tl + sn).toNat = (25 + (tl + sn)).toNat by omega] at this
    exact this
  · simp only [impl_tracer_send.f, impl_tracer_send.begin, Tr.do_ite, Tr.do_ret, w1, w2, decide_eq_false q, Bool.false_eq_true, ↓reduceIte]
    refine ⟨_, rfl, ?_⟩
    exact { h with run := h.run.box0 (by omega), olen := by have := h.olen; omega, ulen := by have := h.ulen; omega, snB := by omega }
theorem okS_kind {s : S210} (h : okS s = true) : (1 ≤ s.f0 ∧ s.f0 ≤ 6) ∧ (s.f0 = 5 → 1 ≤ s.f2 ∧ s.f2 ≤ 5) := by
  unfold okS okSt at h
  refine ⟨?_, fun e => ?_⟩
  · split at h
    · omega
    · split at h
      · omega
      · split at h
        · omega
        · split at h
          · omega
          · split at h
            · omega
            · cases h
  · rw [if_neg (by omega), if_neg (by omega), if_neg (by omega), if_pos e] at h
    simp only [Bool.and_eq_true, inB_iff] at h
    exact h.2.2
theorem impl_StmtCost_ok (s : S210) (h : okS s = true) : ∃ c, impl_StmtCost.f s.f0 s.f1 s.f2 s.f3.f0 s.f3.f1 s.f3.f2 = some c ∧ 0 ≤ c ∧ c ≤ 5 := by
  obtain ⟨⟨h1, h2⟩, _⟩ := okS_kind h
  have n1 : (0 : Int) ≤ s.f0 ∧ s.f0 < ((([0, 2, 5, 4, 1, 1, 0] : List Int).length : Nat) : Int) := ⟨by omega, by simp; omega⟩
  have hs : okSt s.f0 s.f1 s.f2 s.f3.f0 s.f3.f1 s.f3.f2 = true := h
  simp only [impl_StmtCost.f, impl_StmtCost.begin, Tr.do_call, Tr.do_ite, Tr.do_need, Tr.do_ret, impl_StmtOk.told, impl_StmtOk_f, hs, bind_ok, Bool.not_true, Bool.false_eq_true, ↓reduceIte, n1, and_self]
  refine ⟨_, rfl, ?_⟩
  rcases (show s.f0 = 1 ∨ s.f0 = 2 ∨ s.f0 = 3 ∨ s.f0 = 4 ∨ s.f0 = 5 ∨ s.f0 = 6 by omega) with e | e | e | e | e | e <;> (rw [e]; decide)
theorem isVal_sat (x : Int) : isVal (sat x) = true := by unfold isVal; rw [inB_iff]; exact sat_in x
theorem impl_ReadSensor_ok (rd : List Int) (s n : Int) : ∃ v, impl_ReadSensor.f rd s n = some v ∧ isVal v = true := by
  by_cases h0 : (rd.length : Int) = 0
  · simp only [impl_ReadSensor.f, impl_ReadSensor.begin, Tr.do_ite, Tr.do_ret, decide_eq_true h0, ↓reduceIte]
    exact ⟨0, rfl, rfl⟩
  · cases hs : inB s 0 3 with
    | false =>
      simp only [impl_ReadSensor.f, impl_ReadSensor.begin, Tr.do_ite, Tr.do_call, Tr.do_ret, decide_eq_false h0, impl_isSensor.told, impl_isSensor.f, impl_isSensor.begin, impl_within.told, impl_within_f, hs, bind_ok, Bool.not_false, Bool.false_eq_true, ↓reduceIte]
      exact ⟨0, rfl, rfl⟩
    | true =>
      by_cases hn : n < 0
      · simp only [impl_ReadSensor.f, impl_ReadSensor.begin, Tr.do_ite, Tr.do_call, Tr.do_ret, decide_eq_false h0, decide_eq_true hn, impl_isSensor.told, impl_isSensor.f, impl_isSensor.begin, impl_within.told, impl_within_f, hs, bind_ok, Bool.not_true, Bool.false_eq_true, ↓reduceIte]
        exact ⟨0, rfl, rfl⟩
      · have h1 : (0 : Int) ≤ Int.tmod n (rd.length : Int) ∧ Int.tmod n (rd.length : Int) < (rd.length : Int) := by
          rw [Int.tmod_eq_emod_of_nonneg (by omega)]
          exact ⟨Int.emod_nonneg _ h0, Int.emod_lt_of_pos _ (by omega)⟩
        simp only [impl_ReadSensor.f, impl_ReadSensor.begin, Tr.do_ite, Tr.do_call, Tr.do_need, Tr.do_ret, decide_eq_false h0, decide_eq_false hn, impl_isSensor.told, impl_isSensor.f, impl_isSensor.begin, impl_within.told, impl_within_f, hs, bind_ok, Bool.not_true, Bool.false_eq_true, ↓reduceIte, ne_eq, h0, not_false_eq_true, h1, and_self, impl_AddValues.told, impl_AddValues_f]
        exact ⟨_, rfl, isVal_sat _⟩
theorem impl_EvalExpr_ok {vs : List Int} (o a b : Int) (hv : okV vs = true) : ∃ v, impl_EvalExpr.f vs o a b = some v ∧ isVal v = true := by
  rw [impl_EvalExpr_f vs o a b (by have := okV_len hv; omega), if_pos hv]
  refine ⟨_, rfl, ?_⟩
  by_cases h : okX o a b = true
  · rw [if_pos h]; exact evX_val hv h
  · rw [if_neg h]; rfl
theorem TI.used' {n : Nat} {t tl : Int} {M : List Int} {B : Nat} {o : List S227} {u : List Int} {sn : Int} {lg : List Int} {f : List Bool} {vs : List Int} (h : TI n t tl M B o u sn lg f vs) {v : Int} (hv : isVal v = true) : TI n t tl M (B + 1) o (u ++ [v]) sn lg f vs :=
  { h with
    used := fun x hx => by
      rcases List.mem_append.mp hx with hx | hx
      · exact h.used x hx
      · rw [List.mem_singleton] at hx; rw [hx]; exact hv
    olen := by have := h.olen; omega
    ulen := by have := h.ulen; rw [List.length_append, List.length_singleton]; omega
    snB := by have := h.snB; omega }
set_option maxHeartbeats 4000000 in
theorem impl_traceOf_1_ok {n : Nat} {M : List Int} {B : Nat} (x : S210) (must rd : List Int) (at_ : Int) (o : List S227) (u : List Int) (t tl sn : Int) (lg : List Int) (f0 f1 f2 f3 f4 f5 f6 f7 : Bool) (vs : List Int) (b : BaseM n t tl M) (hB : B ≤ 700000) (h : TI n t tl M B o u sn lg [f0, f1, f2, f3, f4, f5, f6, f7] vs) (hx : okS x = true) (h6 : x.f0 ≠ 6) (hm : must.length ≤ 1048576) :
    ∃ r o' u' sn' lg' g0 g1 g2 g3 g4 g5 g6 g7 vs', impl_traceOf_1.f x.f0 x.f1 x.f2 x.f3.f0 x.f3.f1 x.f3.f2 must rd at_ o u t tl sn lg f0 f1 f2 f3 f4 f5 f6 f7 vs = some (r, must, rd, at_, o', u', t, tl, sn', lg', g0, g1, g2, g3, g4, g5, g6, g7, vs') ∧ TI n t tl M (B + 6) o' u' sn' lg' [g0, g1, g2, g3, g4, g5, g6, g7] vs' := by
  obtain ⟨c, ec, c0, c5⟩ := impl_StmtCost_ok x hx
  obtain ⟨⟨k1, k6⟩, _⟩ := okS_kind hx
  have hvar := okS_var hx
  have ew := impl_tracer_work_f c o u t tl sn lg f0 f1 f2 f3 f4 f5 f6 f7 vs (by have := h.olen; omega)
  have hW := h.work b ⟨c0, c5⟩
  simp only [impl_traceOf_1.f, impl_traceOf_1.begin, Tr.do_last, Tr.do_call, Tr.do_ite, impl_StmtCost.told, ec, bind_ok, impl_tracer_work.told, ew]
  by_cases q1 : x.f0 = 1
  · obtain ⟨v, ev, hv⟩ := impl_EvalExpr_ok x.f3.f0 x.f3.f1 x.f3.f2 h.vok
    obtain ⟨o', lg', g0, g1, g2, g3, g4, g5, g6, g7, ea, ta⟩ := impl_tracer_assign_ok must x.f1 v _ u t tl sn lg f0 f1 f2 f3 f4 f5 f6 f7 vs b (by omega) hW (hvar (Or.inl q1)) hv hm
    simp only [decide_eq_true q1, ↓reduceIte, impl_EvalExpr.told, ev, bind_ok, impl_tracer_assign.told, ea, Tr.do_jump]
    rw [lp_eq]
    simp only [impl_traceOf_1.tree, Tr.do_ret]
    exact ⟨_, _, _, _, _, _, _, _, _, _, _, _, _, _, rfl, ta.mono (by omega)⟩
  by_cases q2 : x.f0 = 2
  · obtain ⟨v, ev, hv⟩ := impl_ReadSensor_ok rd x.f2 (wr (at_ + (u.length : Int)))
    obtain ⟨o', lg', g0, g1, g2, g3, g4, g5, g6, g7, ea, ta⟩ := impl_tracer_assign_ok must x.f1 v _ (u ++ [v]) t tl sn lg f0 f1 f2 f3 f4 f5 f6 f7 vs b (by omega) (hW.used' hv) (hvar (Or.inr q2)) hv hm
    simp only [decide_eq_false q1, decide_eq_true q2, Bool.false_eq_true, ↓reduceIte, impl_ReadSensor.told, ev, bind_ok, Tr.do_both, Tr.do_last, Tr.do_need, both_same, one_fits u v 1048576 (by have := h.ulen; omega) (by omega) 8 (by omega), Tr.do_jump]
    rw [lp_eq]
    simp only [impl_traceOf_1.tree, Tr.do_call, impl_tracer_assign.told, ea, bind_ok, Tr.do_jump]
    rw [lp_eq]
    simp only [impl_traceOf_1.tree, Tr.do_ret]
    exact ⟨_, _, _, _, _, _, _, _, _, _, _, _, _, _, rfl, ta.mono (by omega)⟩
  by_cases q3 : x.f0 = 3
  · obtain ⟨v, ev, hv⟩ := impl_EvalExpr_ok x.f3.f0 x.f3.f1 x.f3.f2 h.vok
    obtain ⟨o', ea, ta⟩ := impl_tracer_send_ok v _ u t tl sn lg f0 f1 f2 f3 f4 f5 f6 f7 vs b (by omega) hW hv
    simp only [decide_eq_false q1, decide_eq_false q2, decide_eq_true q3, Bool.false_eq_true, ↓reduceIte, impl_EvalExpr.told, ev, bind_ok, impl_tracer_send.told, ea, Tr.do_jump, Tr.do_last]
    rw [lp_eq]
    simp only [impl_traceOf_1.tree, Tr.do_ret]
    exact ⟨_, _, _, _, _, _, _, _, _, _, _, _, _, _, rfl, ta.mono (by omega)⟩
  by_cases q4 : x.f0 = 4
  · obtain ⟨v, ev, hv⟩ := impl_EvalExpr_ok x.f3.f0 x.f3.f1 x.f3.f2 h.vok
    simp only [decide_eq_false q1, decide_eq_false q2, decide_eq_false q3, decide_eq_true q4, Bool.false_eq_true, ↓reduceIte, impl_EvalExpr.told, ev, bind_ok, Tr.do_ret, Tr.do_last, Tr.do_call]
    exact ⟨_, _, _, _, _, _, _, _, _, _, _, _, _, _, rfl, hW.mono (by omega)⟩
  · simp only [decide_eq_false q1, decide_eq_false q2, decide_eq_false q3, decide_eq_false q4, Bool.false_eq_true, ↓reduceIte, Tr.do_jump, Tr.do_last]
    rw [lp_eq]
    simp only [impl_traceOf_1.tree, Tr.do_ret]
    exact ⟨_, _, _, _, _, _, _, _, _, _, _, _, _, _, rfl, hW.mono (by omega)⟩
def W5 (k : Nat) : Nat := 6 * 5 ^ k
def WalkOk (n : Nat) (M : List Int) (t tl : Int) (self_ : Self impl_walk.I impl_walk.A impl_walk.K) (k : Nat) : Prop :=
  ∀ (l : List S210) (must rd : List Int) (at_ : Int) (o : List S227) (u : List Int) (sn : Int) (lg : List Int) (f0 f1 f2 f3 f4 f5 f6 f7 : Bool) (vs : List Int) (B : Nat), l.length ≤ 1048576 → From (k : Int) l 0 → must.length ≤ 1048576 → B + W5 k * l.length ≤ 600000 → TI n t tl M B o u sn lg [f0, f1, f2, f3, f4, f5, f6, f7] vs →
    ∃ o' u' sn' lg' g0 g1 g2 g3 g4 g5 g6 g7 vs', self_.f (l, must, rd, at_, o, u, t, tl, sn, lg, f0, f1, f2, f3, f4, f5, f6, f7, vs) = some (must, rd, at_, o', u', t, tl, sn', lg', g0, g1, g2, g3, g4, g5, g6, g7, vs') ∧ TI n t tl M (B + W5 k * l.length) o' u' sn' lg' [g0, g1, g2, g3, g4, g5, g6, g7] vs'
theorem W5_succ (k : Nat) : W5 (k + 1) = 5 * W5 k := by unfold W5; rw [Nat.pow_succ]; omega
theorem W5_pos (k : Nat) : 6 ≤ W5 k := by have : 0 < 5 ^ k := Nat.pow_pos (by omega); unfold W5; omega
theorem impl_bit_01 (b : Bool) : ∃ m : Nat, impl_bit.f b = some (m : Int) ∧ m ≤ 5 := by
  cases b
  · exact ⟨0, rfl, by omega⟩
  · exact ⟨1, rfl, by omega⟩
set_option maxHeartbeats 4000000 in
theorem walk_times {n : Nat} {M : List Int} {t tl : Int} (self_ : Self impl_walk.I impl_walk.A impl_walk.K) (k : Nat) (hs : WalkOk n M t tl self_ k) (l : List S210) (must rd : List Int) (at_ : Int) (i e times : Nat) (hie : i < e) (hel : e < l.length) (hl : l.length ≤ 1048576) (hF : From (k : Int) ((l.take e).drop (i + 1)) 0) (hm : must.length ≤ 1048576) (ht : times ≤ 5) :
    ∀ (m j : Nat), j + m = times → ∀ (o : List S227) (u : List Int) (sn : Int) (lg : List Int) (f0 f1 f2 f3 f4 f5 f6 f7 : Bool) (vs : List Int) (B : Nat), TI n t tl M B o u sn lg [f0, f1, f2, f3, f4, f5, f6, f7] vs → B + m * (W5 k * ((l.take e).drop (i + 1)).length) ≤ 600000 →
    ∃ o' u' sn' lg' g0 g1 g2 g3 g4 g5 g6 g7 vs', lp (impl_walk.tree self_) (.c12 l (i : Int) (e : Int) (times : Int) (j : Int) must rd at_ o u t tl sn lg f0 f1 f2 f3 f4 f5 f6 f7 vs) = lp (impl_walk.tree self_) (.c1 l ((e + 1 : Nat) : Int) must rd at_ o' u' t tl sn' lg' g0 g1 g2 g3 g4 g5 g6 g7 vs') ∧ TI n t tl M (B + m * (W5 k * ((l.take e).drop (i + 1)).length)) o' u' sn' lg' [g0, g1, g2, g3, g4, g5, g6, g7] vs' := by
  intro m
  have we : wr ((e : Int) + 1) = ((e + 1 : Nat) : Int) := wr_next (by omega)
  have wi : wr ((i : Int) + 1) = ((i + 1 : Nat) : Int) := wr_next (by omega)
  have hn1 : (0 : Int) ≤ ((i + 1 : Nat) : Int) ∧ ((i + 1 : Nat) : Int) ≤ (e : Int) ∧ (e : Int) ≤ (l.length : Int) := by omega
  have hll : ((l.take e).drop (i + 1)).length ≤ 1048576 := by rw [List.length_drop, List.length_take]; omega
  induction m with
  | zero =>
    intro j hj o u sn lg f0 f1 f2 f3 f4 f5 f6 f7 vs B hT hB
    obtain rfl : j = times := by omega
    refine ⟨o, u, sn, lg, f0, f1, f2, f3, f4, f5, f6, f7, vs, ?_, hT.mono (by omega)⟩
    rw [lp_eq]
    simp only [impl_walk.tree, Tr.do_ite, Tr.do_jump, ge_dec, Bool.false_eq_true, ↓reduceIte, we]
  | succ m ih =>
    intro j hj o u sn lg f0 f1 f2 f3 f4 f5 f6 f7 vs B hT hB
    rw [Nat.succ_mul] at hB
    obtain ⟨o', u', sn', lg', g0, g1, g2, g3, g4, g5, g6, g7, vs', e1, t1⟩ := hs ((l.take e).drop (i + 1)) must rd at_ o u sn lg f0 f1 f2 f3 f4 f5 f6 f7 vs B hll hF hm (by omega) hT
    obtain ⟨o2, u2, sn2, lg2, y0, y1, y2, y3, y4, y5, y6, y7, vs2, e2, t2⟩ := ih (j + 1) (by omega) o' u' sn' lg' g0 g1 g2 g3 g4 g5 g6 g7 vs' _ t1 (by omega)
    refine ⟨o2, u2, sn2, lg2, y0, y1, y2, y3, y4, y5, y6, y7, vs2, ?_, t2.mono (by rw [Nat.succ_mul]; omega)⟩
    rw [lp_eq]
    have q : j < times := by omega
    simp only [impl_walk.tree, Tr.do_ite, Tr.do_need, Tr.do_call, Tr.do_jump, lt_dec q, ↓reduceIte, wi, hn1, and_self, Int.toNat_natCast, Self.told, e1, bind_ok, wr_next (show j < 4611686018427387904 by omega)]
    exact e2
set_option maxHeartbeats 4000000 in
theorem walk_step {n : Nat} {M : List Int} {t tl : Int} (b : BaseM n t tl M) (self_ : Self impl_walk.I impl_walk.A impl_walk.K) (k : Nat) (hk : k ≤ 6) (hs : ∀ k', k = k' + 1 → WalkOk n M t tl self_ k') : WalkOk n M t tl (impl_walk.step self_) k := by
  intro l must rd at_ o u sn lg f0 f1 f2 f3 f4 f5 f6 f7 vs B hl hF hm hB hT
  have key : ∀ (r i : Nat), i + r = l.length → From (k : Int) l i → ∀ (o : List S227) (u : List Int) (sn : Int) (lg : List Int) (f0 f1 f2 f3 f4 f5 f6 f7 : Bool) (vs : List Int) (B' : Nat), TI n t tl M B' o u sn lg [f0, f1, f2, f3, f4, f5, f6, f7] vs → B' + W5 k * r ≤ 600000 →
      ∃ o' u' sn' lg' g0 g1 g2 g3 g4 g5 g6 g7 vs', lp (impl_walk.tree self_) (.c1 l (i : Int) must rd at_ o u t tl sn lg f0 f1 f2 f3 f4 f5 f6 f7 vs) = some (must, rd, at_, o', u', t, tl, sn', lg', g0, g1, g2, g3, g4, g5, g6, g7, vs') ∧ TI n t tl M (B' + W5 k * r) o' u' sn' lg' [g0, g1, g2, g3, g4, g5, g6, g7] vs' := by
    intro r
    induction r using Nat.strongRecOn with
    | _ r ih =>
      intro i hi hF o u sn lg f0 f1 f2 f3 f4 f5 f6 f7 vs B' hT hB'
      by_cases q : i < l.length
      · obtain ⟨hok, hF'⟩ := hF.next q
        have w : wr ((i : Int) + 1) = ((i + 1 : Nat) : Int) := wr_next (by omega)
        have hW := W5_pos k
        obtain ⟨r', rfl⟩ : ∃ r', r = r' + 1 := ⟨r - 1, by omega⟩
        have hr' : W5 k * (r' + 1) = W5 k * r' + W5 k := Nat.mul_succ _ _
        by_cases h6 : l[i].f0 = 6
        · obtain ⟨o2, u2, sn2, lg2, y0, y1, y2, y3, y4, y5, y6, y7, vs2, e2, t2⟩ := ih r' (by omega) (i + 1) (by omega) hF' o u sn lg f0 f1 f2 f3 f4 f5 f6 f7 vs B' hT (by omega)
          refine ⟨o2, u2, sn2, lg2, y0, y1, y2, y3, y4, y5, y6, y7, vs2, ?_, t2.mono (by omega)⟩
          rw [lp_eq]
          simp only [impl_walk.tree, Tr.do_ite, Tr.do_need, Tr.do_jump, lt_dec q, in_lt q, getD_lt q, and_self, decide_eq_true h6, decide_true, ↓reduceIte, w]
          exact e2
        · obtain ⟨rb, o1, u1, sn1, lg1, g0, g1, g2, g3, g4, g5, g6, g7, vs1, e1, t1⟩ := impl_traceOf_1_ok l[i] must rd at_ o u t tl sn lg f0 f1 f2 f3 f4 f5 f6 f7 vs b (by omega) hT hok h6 hm
          by_cases hop : l[i].f0 = 4 ∨ l[i].f0 = 5
          · obtain ⟨e, he, h1, h2, hk1, hBal, hlen, hFe⟩ := hF.nest q hl (by omega) hop
            obtain ⟨k', rfl⟩ : ∃ k', k = k' + 1 := ⟨k - 1, by omega⟩
            rw [show ((k' + 1 : Nat) : Int) - 1 = (k' : Int) by omega] at hBal
            have hFi : From (k' : Int) ((l.take e).drop (i + 1)) 0 := ⟨0, by omega, hBal.1, hBal.2⟩
            obtain ⟨times, htm, ht5⟩ : ∃ times : Nat, (if l[i].f0 = 4 then impl_bit.f rb else some l[i].f2) = some (times : Int) ∧ times ≤ 5 := by
              by_cases h4 : l[i].f0 = 4
              · rw [if_pos h4]; exact impl_bit_01 rb
              · rw [if_neg h4]
                have := (okS_kind hok).2 (by omega)
                exact ⟨l[i].f2.toNat, by rw [show ((l[i].f2.toNat : Nat) : Int) = l[i].f2 by omega], by omega⟩
            generalize hA : ((l.take e).drop (i + 1)).length = A at hlen
            rw [List.length_drop, List.length_drop] at hlen
            have hmul : times * (W5 k' * A) ≤ W5 (k' + 1) * A := by
              rw [W5_succ, Nat.mul_assoc]
              exact Nat.mul_le_mul_right _ ht5
            have hsplit : W5 (k' + 1) * (r' + 1) = W5 (k' + 1) * A + W5 (k' + 1) * 2 + W5 (k' + 1) * (l.length - (e + 1)) := by
              rw [← Nat.mul_add, ← Nat.mul_add]
              congr 1
              rw [List.length_drop] at hA
              omega
            obtain ⟨o2, u2, sn2, lg2, y0, y1, y2, y3, y4, y5, y6, y7, vs2, e2, t2⟩ := walk_times self_ k' (hs k' rfl) l must rd at_ i e times h1 h2 hl hFi hm ht5 times 0 (by omega) o1 u1 sn1 lg1 g0 g1 g2 g3 g4 g5 g6 g7 vs1 _ t1 (by rw [hA]; omega)
            rw [hA] at t2
            obtain ⟨o3, u3, sn3, lg3, p0, p1, p2, p3, p4, p5, p6, p7, vs3, e3, t3⟩ := ih (l.length - (e + 1)) (by omega) (e + 1) (by omega) hFe o2 u2 sn2 lg2 y0 y1 y2 y3 y4 y5 y6 y7 vs2 _ t2 (by omega)
            refine ⟨o3, u3, sn3, lg3, p0, p1, p2, p3, p4, p5, p6, p7, vs3, ?_, t3.mono (by omega)⟩
            rw [lp_eq]
            have hend : impl_endOf.f l (i : Int) = some (e : Int) := he
            by_cases h4 : l[i].f0 = 4
            · rw [if_pos h4] at htm
              simp only [impl_walk.tree, Tr.do_ite, Tr.do_need, Tr.do_call, Tr.do_jump, lt_dec q, in_lt q, getD_lt q, and_self, decide_eq_false h6, decide_eq_true hop, decide_eq_true h4, decide_true, Bool.not_true, Bool.false_eq_true, ↓reduceIte, impl_traceOf_1.told, e1, impl_isOpening.told, impl_isOpening_f, impl_endOf.told, hend, impl_bit.told, htm, bind_ok]
              exact e2.trans e3
            · rw [if_neg h4] at htm
              have htm' : l[i].f2 = (times : Int) := Option.some.inj htm
              rw [htm'] at e1
              simp only [impl_walk.tree, Tr.do_ite, Tr.do_need, Tr.do_call, Tr.do_jump, lt_dec q, in_lt q, getD_lt q, and_self, decide_eq_false h6, decide_eq_true hop, decide_eq_false h4, decide_true, Bool.not_true, Bool.false_eq_true, ↓reduceIte, impl_traceOf_1.told, e1, impl_isOpening.told, impl_isOpening_f, impl_endOf.told, hend, htm', bind_ok]
              exact e2.trans e3
          · obtain ⟨o2, u2, sn2, lg2, y0, y1, y2, y3, y4, y5, y6, y7, vs2, e2, t2⟩ := ih r' (by omega) (i + 1) (by omega) hF' o1 u1 sn1 lg1 g0 g1 g2 g3 g4 g5 g6 g7 vs1 _ t1 (by omega)
            refine ⟨o2, u2, sn2, lg2, y0, y1, y2, y3, y4, y5, y6, y7, vs2, ?_, t2.mono (by omega)⟩
            rw [lp_eq]
            simp only [impl_walk.tree, Tr.do_ite, Tr.do_need, Tr.do_call, Tr.do_jump, lt_dec q, in_lt q, getD_lt q, and_self, decide_eq_false h6, decide_eq_false hop, decide_true, Bool.not_false, Bool.false_eq_true, ↓reduceIte, impl_traceOf_1.told, e1, impl_isOpening.told, impl_isOpening_f, bind_ok, w]
            exact e2
      · obtain rfl : i = l.length := by omega
        refine ⟨o, u, sn, lg, f0, f1, f2, f3, f4, f5, f6, f7, vs, ?_, hT.mono (by omega)⟩
        rw [lp_eq]
        simp only [impl_walk.tree, Tr.do_ite, Tr.do_ret, ge_dec, Bool.false_eq_true, ↓reduceIte]
  exact key l.length 0 (by omega) hF o u sn lg f0 f1 f2 f3 f4 f5 f6 f7 vs B hT hB
theorem impl_walk_ok {n : Nat} {M : List Int} {t tl : Int} (b : BaseM n t tl M) (l : List S210) (must rd : List Int) (at_ : Int) (o : List S227) (u : List Int) (sn : Int) (lg : List Int) (f0 f1 f2 f3 f4 f5 f6 f7 : Bool) (vs : List Int) (hb : okB l.length l 0 = true) (hm : must.length ≤ 1048576) (hT : TI n t tl M 0 o u sn lg [f0, f1, f2, f3, f4, f5, f6, f7] vs) :
    ∃ o' u' sn' lg' g0 g1 g2 g3 g4 g5 g6 g7 vs', impl_walk.f l must rd at_ o u t tl sn lg f0 f1 f2 f3 f4 f5 f6 f7 vs = some (must, rd, at_, o', u', t, tl, sn', lg', g0, g1, g2, g3, g4, g5, g6, g7, vs') ∧ TI n t tl M 18000 o' u' sn' lg' [g0, g1, g2, g3, g4, g5, g6, g7] vs' := by
  have h0 := walk_step b (Self.iter impl_walk.step 4) 0 (by omega) (fun k' h => absurd h (by omega))
  have h1 := walk_step b (Self.iter impl_walk.step 5) 1 (by omega) (fun k' h => by cases h; exact h0)
  have h2 := walk_step b (Self.iter impl_walk.step 6) 2 (by omega) (fun k' h => by cases h; exact h1)
  have h3 := walk_step b (Self.iter impl_walk.step 7) 3 (by omega) (fun k' h => by cases h; exact h2)
  obtain ⟨c1, c2, c3⟩ := okB_path _ _ _ hb
  have hW : W5 3 = 750 := rfl
  obtain ⟨o', u', sn', lg', g0, g1, g2, g3, g4, g5, g6, g7, vs', e, t'⟩ := h3 l must rd at_ o u sn lg f0 f1 f2 f3 f4 f5 f6 f7 vs 0 (by omega) ⟨0, by omega, c1, c2⟩ hm (by rw [hW]; omega) hT
  exact ⟨o', u', sn', lg', g0, g1, g2, g3, g4, g5, g6, g7, vs', e, t'.mono (by rw [hW]; omega)⟩
/-! ### Tasks and boots -/
theorem unpack_ctl {w a b c : Int} (h : unpack w = (a, b, c)) (ha : 0 ≤ a) : w = pack a b c := by
  unfold unpack at h
  split at h
  · have := congrArg Prod.fst h; simp only at this; omega
  · split at h
    · rename_i e
      have h1 : Int.tmod w 8 = a := congrArg Prod.fst h
      have h2 : Int.tmod (wr (Int.tdiv w 8)) 16 = b := congrArg (fun x => x.2.1) h
      have h3 : wr (Int.tdiv w 128) = c := congrArg (fun x => x.2.2) h
      rw [h1, h2, h3] at e
      exact e.symm
    · have := congrArg Prod.fst h; simp only at this; omega
/-- The parts of a valid memory. -/
theorem okMem_view {n : Nat} {m : List Int} (h : okMem n m = true) : ∃ t c tl, unpack (rdI m 8) = (t, c, tl) ∧ rdI m 8 = pack t c tl ∧ m.length = 49 ∧ (0 ≤ t ∧ t < n ∧ t ≤ 5) ∧ (0 ≤ c ∧ c ≤ 8) ∧ (0 ≤ tl ∧ tl ≤ 24) ∧
    (m.take 8).all isVal = true ∧ (∀ i : Nat, (i : Int) < tl → isVal (m.getD (25 + i) 0) = true) ∧ (∀ i : Nat, (i : Int) < c → okPair m i = true) ∧ memSent m = win m tl := by
  obtain ⟨h1, h2, h3, h4, h5, h6⟩ := okMem_parts h
  obtain ⟨g1, g2, g3, g4, g5, g6⟩ := unpack_good h2
  rcases hu : unpack (rdI m 8) with ⟨t, c, tl⟩
  rw [hu] at h2 h3 h6 g1 g2 g3 g4 g5 g6
  simp only at h2 h3 h6 g1 g2 g3 g4 g5 g6
  refine ⟨t, c, tl, rfl, unpack_ctl hu g1, h1, ⟨g1, h3, g2⟩, ⟨g3, g4⟩, ⟨g5, g6⟩, h4, fun i hi => ?_, fun i hi => ?_, memSent_win h1 hu g5⟩
  · rw [sent_win (tl := tl) (by rw [hu]) g5, List.all_eq_true] at h5
    refine h5 _ (List.mem_iff_getElem?.mpr ⟨i, ?_⟩)
    rw [win_get, if_pos (by omega), List.getD_eq_getElem?_getD, List.getElem?_eq_getElem (by omega)]
    rfl
  · rw [List.all_eq_true] at h6
    exact h6 i (List.mem_range.mpr (by omega))
theorem take8_getD {m : List Int} (hm : m.length = 49) (h : (m.take 8).all isVal = true) (i : Nat) (hi : i < 8) : isVal (m.getD i 0) = true := by
  rw [List.all_eq_true] at h
  refine h _ (List.mem_iff_getElem?.mpr ⟨i, ?_⟩)
  rw [List.getElem?_take, if_pos hi, List.getD_eq_getElem?_getD, List.getElem?_eq_getElem (by omega)]
  rfl
theorem Clean.base {n : Nat} {m : List Int} (h : Clean n m) : ∃ t tl, unpack (rdI m 8) = (t, 0, tl) ∧ BaseM n t tl m ∧ Run t tl m 0 0 m := by
  obtain ⟨t, c, tl, hu, hc, hm, ht, hcc, htl, h8, hs, hl, hw⟩ := okMem_view h.1
  have hc0 : c = 0 := by have := h.2; rw [hu] at this; exact this
  subst hc0
  exact ⟨t, tl, hu, ⟨hm, ht, htl, hw, hs⟩, ⟨hm, hc, by omega, by omega, fun i hi => take8_getD hm h8 i hi, fun i hi => absurd hi (by omega), fun i _ => rfl, fun i h1 h2 _ => absurd h1 (by omega)⟩⟩
theorem impl_NextTask_ok {p : List S166} {vs : List Int} {t : Int} (hp : okP p = true) (hl : p.length ≤ 1048576) (hs : ∀ t ∈ p, t.f0.length ≤ 1048576) (hv : okV vs = true) (ht : 0 ≤ t ∧ t < (p.length : Int)) : ∃ v, impl_NextTask.f p vs t = some v ∧ 0 ≤ v ∧ v < (p.length : Int) := by
  obtain ⟨v1, v2⟩ := okV_iff.mp hv
  obtain ⟨e, ee, he⟩ := impl_EvalExpr_ok (vs := vs) (rdS166 p t).f1.f0 (rdS166 p t).f1.f1 (rdS166 p t).f1.f2 hv
  have w1 : wr ((p.length : Int) - 1) = (p.length : Int) - 1 := wr_in (by omega)
  have n0 : ¬ (p.length : Int) = 0 := by omega
  have hb : inB t 0 ((p.length : Int) - 1) = true := by rw [inB_iff]; omega
  have hvv : (vs.all isVal && decide ((vs.length : Int) = 8)) = true := by rw [v1, decide_eq_true (by omega)]; rfl
  have r1 : -(p.length : Int) < Int.tmod e (p.length : Int) ∧ Int.tmod e (p.length : Int) < (p.length : Int) := by
    refine ⟨?_, Int.tmod_lt_of_pos _ (by omega)⟩
    have := Int.tmod_lt_of_pos (-e) (show 0 < (p.length : Int) by omega)
    rw [Int.neg_tmod] at this
    omega
  have w2 : wr (Int.tmod e (p.length : Int) + (p.length : Int)) = Int.tmod e (p.length : Int) + (p.length : Int) := wr_in (by omega)
  simp only [impl_NextTask.f, impl_NextTask.begin, Tr.do_call, Tr.do_ite, Tr.do_need, Tr.do_val, Tr.do_ret, impl_hasTask.told, impl_hasTask.f, impl_hasTask.begin, impl_ProgramOk.told, impl_ProgramOk_f p hl hs, hp, bind_ok, impl_within.told, impl_within_f, w1, hb, impl_VarsOk.told, impl_VarsOk_f vs (by omega), hvv, Bool.not_true, Bool.false_eq_true, ↓reduceIte, ht, and_self, impl_EvalExpr.told, ee, ne_eq, n0, not_false_eq_true, w2]
  refine ⟨_, rfl, ?_, ?_⟩
  · rw [Int.tmod_eq_emod_of_nonneg (by omega)]; exact Int.emod_nonneg _ n0
  · exact Int.tmod_lt_of_pos _ (by omega)
theorem okP_body {p : List S166} (hp : okP p = true) {t : Int} (ht : 0 ≤ t ∧ t < (p.length : Int)) : okB (rdS166 p t).f0.length (rdS166 p t).f0 0 = true ∧ (rdS166 p t).f0.length ≤ 24 := by
  obtain ⟨i, rfl⟩ : ∃ i : Nat, t = i := ⟨t.toNat, by omega⟩
  have hi : i < p.length := by omega
  have e : rdS166 p (i : Int) = p[i] := getD_lt hi
  unfold okP at hp
  rw [Bool.and_eq_true, List.all_eq_true] at hp
  have := hp.1 _ (List.getElem_mem hi)
  unfold okT at this
  rw [Bool.and_eq_true] at this
  rw [e]
  exact ⟨this.1, (okB_path _ _ _ this.1).2.2⟩
/-- What a task's steps are. -/
structure TrOk (n : Nat) (m : List Int) (o : List S227) (u : List Int) : Prop where
  safe : SafeL n m o
  olen : o.length ≤ 20000
  used : ∀ x ∈ u, isVal x = true
  ulen : u.length ≤ 20000
  clean : Clean n (applyM m o)
set_option maxHeartbeats 4000000 in
theorem impl_traceOf_ok {p : List S166} {m : List Int} (rd : List Int) (at_ : Int) (hp : okP p = true) (hl : p.length ≤ 6) (hs : ∀ t ∈ p, t.f0.length ≤ 1048576) (hm : Clean p.length m) : ∃ o u, impl_traceOf.f p m rd at_ = some (o, u) ∧ TrOk p.length m o u := by
  obtain ⟨t, tl, hu, hb, hr⟩ := hm.base
  have htn : (0 : Int) ≤ t ∧ t < (p.length : Int) := ⟨hb.t0.1, hb.t0.2.1⟩
  obtain ⟨c1, c2⟩ := okP_body hp htn
  obtain ⟨must, em, hml⟩ := impl_MustLog_ok (rdS166 p t).f0 (rdS166 p t).f1.f0 (rdS166 p t).f1.f1 (rdS166 p t).f1.f2 (by omega)
  obtain ⟨_, _, _, _, _, _, _, _, _, h8, _⟩ := okMem_view hm.1
  have hm49 := hb.len
  have hmv : impl_MemVars.f m = some (m.take 8) := by rw [impl_MemVars_f, if_pos hm49]
  have hT : TI p.length t tl m 0 [] [] 0 [] [false, false, false, false, false, false, false, false] (m.take 8) := ⟨⟨by simp, fun k => by rw [List.take_nil]; exact hr.good hb⟩, hr, by simp, by simp, by simp, by omega, by simp, okV_iff.mpr ⟨h8, by rw [List.length_take]; omega⟩⟩
  obtain ⟨o1, u1, sn1, lg1, f0, f1, f2, f3, f4, f5, f6, f7, vs1, e1, t1⟩ := impl_walk_ok hb (rdS166 p t).f0 must rd at_ [] [] 0 [] false false false false false false false false (m.take 8) c1 (by omega) hT
  have e2 := impl_tracer_work_f 1 o1 u1 t tl sn1 lg1 f0 f1 f2 f3 f4 f5 f6 f7 vs1 (by have := t1.olen; omega)
  have t2 := t1.work hb (c := 1) (by omega)
  obtain ⟨nt, e3, nt0, nt1⟩ := impl_NextTask_ok hp (by omega) hs t1.vok htn
  have hsn := t1.run.s0
  have hsB := t1.snB
  have htl := hb.tl0
  have w1 : wr (tl + sn1) = tl + sn1 := wr_in (by omega)
  have e4 := impl_tracer_write_f 8 (pack nt 0 (if tl + sn1 < 24 then tl + sn1 else 24)) (o1 ++ [(⟨1, -1, 0⟩ : S227)]) u1 t tl sn1 lg1 f0 f1 f2 f3 f4 f5 f6 f7 vs1 (by have := t2.olen; omega)
  have n1 : (0 : Int) ≤ 8 ∧ (8 : Int) < (m.length : Int) := by omega
  obtain ⟨hG, hU⟩ := t2.run.last hb hl ⟨nt0, nt1⟩ (tl' := if tl + sn1 < 24 then tl + sn1 else 24) rfl
  have hap : applyM m ((o1 ++ [(⟨1, -1, 0⟩ : S227)]) ++ [(⟨3, 8, pack nt 0 (if tl + sn1 < 24 then tl + sn1 else 24)⟩ : S227)]) = (applyM m (o1 ++ [(⟨1, -1, 0⟩ : S227)])).set 8 (pack nt 0 (if tl + sn1 < 24 then tl + sn1 else 24)) := by
    rw [applyM_snoc, mw_set _ _ _ _ (by omega)]; rfl
  have ho := t2.olen
  have hul := t1.ulen
  refine ⟨(o1 ++ [(⟨1, -1, 0⟩ : S227)]) ++ [(⟨3, 8, pack nt 0 (if tl + sn1 < 24 then tl + sn1 else 24)⟩ : S227)], u1, ?_, ⟨t2.safe.snoc ⟨by show (0 : Int) ≤ 3 ∧ (3 : Int) ≤ 5; omega, by show (-1 : Int) ≤ 8 ∧ (8 : Int) < 49; omega⟩ ?_, ?_, t1.used, by omega, ?_⟩⟩
  · simp only [impl_traceOf.f, impl_traceOf.begin, Tr.do_need, Tr.do_call, Tr.do_both, Tr.do_last, Tr.do_val, Tr.do_jump, n1, and_self, ↓reduceIte, impl_UnpackControl.told, impl_UnpackControl_f, hu, bind_ok, impl_MemVars.told, hmv, htn, impl_MustLog.told, em, impl_walk.told, e1, impl_tracer_work.told, e2, impl_NextTask.told, e3, impl_PackControl.told, impl_PackControl_f, w1, impl_tracer_write.told, e4, both_same]
    rw [lp_eq]
    simp only [impl_traceOf.tree, Tr.do_ret]
  · have := hG
    rw [mw_set _ _ _ _ (by omega)]; exact this
  · rw [List.length_append, List.length_singleton]; omega
  · rw [hap]
    exact ⟨hG.1, by rw [hU]⟩
theorem okP_sizes {p : List S166} (h : okP p = true) : p.length ≤ 6 ∧ 1 ≤ p.length ∧ ∀ t ∈ p, t.f0.length ≤ 1048576 := by
  have h' := h
  unfold okP at h'
  rw [Bool.and_eq_true, List.all_eq_true, inB_iff] at h'
  refine ⟨by omega, by omega, fun t ht => ?_⟩
  have := h'.1 t ht
  unfold okT at this
  rw [Bool.and_eq_true] at this
  have := (okB_path _ _ _ this.1).2.2
  omega
theorem impl_Boot_spend_f (c : Int) (m : List Int) (a : Int) (us : List (List Int)) (left : Int) (hc : 0 ≤ c) (hl : 0 ≤ left) (hb : left ≤ 9223372036854775807) : impl_Boot_spend.f c m a us left = some (if left < c then (false, m, a, us, left) else (true, m, a, us, left - c)) := by
  by_cases q : left < c
  · simp only [impl_Boot_spend.f, impl_Boot_spend.begin, Tr.do_ite, Tr.do_ret, decide_eq_true q, q, decide_true, ↓reduceIte]
  · have w : wr (left - c) = left - c := wr_in (by omega)
    simp only [impl_Boot_spend.f, impl_Boot_spend.begin, Tr.do_ite, Tr.do_ret, decide_eq_false q, q, w, decide_false, Bool.false_eq_true, ↓reduceIte]
theorem recL_some (m : List Int) : ∀ (i : Nat) (acc : List S205), (∀ j, j < i → okPair m j = true) → (∀ w ∈ acc, (0 ≤ w.f0 ∧ w.f0 ≤ 7) ∧ isVal w.f1 = true) → ∃ l, recL m i acc = some l ∧ ∀ w ∈ l, (0 ≤ w.f0 ∧ w.f0 ≤ 7) ∧ isVal w.f1 = true
  | 0, acc, _, ha => ⟨acc, rfl, ha⟩
  | i + 1, acc, h, ha => by
    have hp := h i (by omega)
    unfold okPair at hp
    rw [Bool.and_eq_true] at hp
    obtain ⟨l, e, hl⟩ := recL_some m i (acc ++ [(⟨rdI m (9 + 2 * (i : Int)), rdI m (9 + 2 * (i : Int) + 1)⟩ : S205)]) (fun j hj => h j (by omega)) (fun w hw => by
      rcases List.mem_append.mp hw with hw | hw
      · exact ha w hw
      · rw [List.mem_singleton] at hw
        rw [hw]
        exact ⟨inB_iff.mp hp.1, hp.2⟩)
    refine ⟨l, ?_, hl⟩
    unfold recL
    rw [if_pos hp.1]
    exact e
/-- A memory in which only variables differ. -/
structure RecI (M m : List Int) : Prop where
  len : m.length = 49
  rest : ∀ i : Nat, 8 ≤ i → m.getD i 0 = M.getD i 0
  var : ∀ i : Nat, i < 8 → isVal (m.getD i 0) = true
theorem all_take8 {m : List Int} (hm : m.length = 49) (h : ∀ i : Nat, i < 8 → isVal (m.getD i 0) = true) : (m.take 8).all isVal = true := by
  rw [List.all_eq_true]
  intro x hx
  obtain ⟨i, hi, rfl⟩ := List.mem_iff_getElem.mp hx
  rw [List.length_take] at hi
  have := h i (by omega)
  rw [List.getD_eq_getElem?_getD, List.getElem?_eq_getElem (by omega)] at this
  rw [List.getElem_take]
  exact this
theorem RecI.good {n : Nat} {M m : List Int} (hM : okMem n M = true) (h : RecI M m) : GoodM n M m := by
  obtain ⟨t, c, tl, hu, hc, hm, ht, hcc, htl, h8, hs, hl, hw⟩ := okMem_view hM
  have e8 : rdI m 8 = rdI M 8 := by
    have := h.rest 8 (by omega)
    rw [show (8 : Int) = ((8 : Nat) : Int) from rfl, rdI_getD, rdI_getD]; exact this
  have hu' : unpack (rdI m 8) = (t, c, tl) := by rw [e8, hu]
  refine ⟨okMem_of h.len hu' ⟨ht.1, ht.2.1⟩ (all_take8 h.len h.var) ?_ ?_, ?_⟩
  · rw [sent_win (tl := tl) (by rw [hu']) htl.1]
    exact win_all (fun i hi => by rw [h.rest _ (by omega)]; exact hs i hi)
  · rw [List.all_eq_true]
    intro i hi
    rw [List.mem_range] at hi
    have := hl i (by omega)
    rw [okPair_getD] at this ⊢
    rw [h.rest _ (by omega), h.rest _ (by omega)]; exact this
  · rw [memSent_win h.len hu' htl.1, hw, win_eq h.len hm (fun i _ => h.rest _ (by omega))]
    exact List.prefix_rfl
theorem RecI.set {M m : List Int} (h : RecI M m) {j : Nat} {v : Int} (hj : j < 8) (hv : isVal v = true) : RecI M (m.set j v) where
  len := by rw [List.length_set]; exact h.len
  rest := fun i hi => by have := h.len; rw [getD_set' (by omega), if_neg (by omega)]; exact h.rest i hi
  var := fun i hi => by
    have := h.len
    rw [getD_set' (by omega)]
    split
    · exact hv
    · exact h.var i hi
theorem RecI.last {n : Nat} {M m : List Int} (hM : okMem n M = true) (h : RecI M m) {t c tl : Int} (hu : unpack (rdI M 8) = (t, c, tl)) : GoodM n M (m.set 8 (pack t 0 tl)) ∧ Clean n (m.set 8 (pack t 0 tl)) := by
  obtain ⟨t', c', tl', hu', hc, hm, ht, hcc, htl, h8, hs, hl, hw⟩ := okMem_view hM
  rw [hu] at hu'
  obtain ⟨rfl, rfl, rfl⟩ : t = t' ∧ c = c' ∧ tl = tl' := ⟨congrArg Prod.fst hu', congrArg (fun x => x.2.1) hu', congrArg (fun x => x.2.2) hu'⟩
  have hlen := h.len
  have hg : ∀ i : Nat, i ≠ 8 → (m.set 8 (pack t 0 tl)).getD i 0 = m.getD i 0 := fun i hi => by rw [getD_set' (by omega), if_neg hi]
  have hl' : (m.set 8 (pack t 0 tl)).length = 49 := by rw [List.length_set]; exact hlen
  have hu2 : unpack (rdI (m.set 8 (pack t 0 tl)) 8) = (t, 0, tl) := by rw [show rdI (m.set 8 (pack t 0 tl)) 8 = pack t 0 tl from rdI_set (by omega) rfl]; exact unpack_pack (by omega) (by omega) (by omega)
  have ho : okMem n (m.set 8 (pack t 0 tl)) = true := by
    refine okMem_of hl' hu2 ⟨ht.1, ht.2.1⟩ (all_take8 hl' (fun i hi => by rw [hg i (by omega)]; exact h.var i hi)) ?_ rfl
    rw [sent_win (tl := tl) (by rw [hu2]) htl.1]
    exact win_all (fun i hi => by rw [hg _ (by omega), h.rest _ (by omega)]; exact hs i hi)
  refine ⟨⟨ho, ?_⟩, ho, by rw [hu2]⟩
  rw [memSent_win hl' hu2 htl.1, hw, win_eq hl' hm (fun i _ => by rw [hg _ (by omega)]; exact h.rest _ (by omega))]
  exact List.prefix_rfl
theorem impl_Boot_recover_ok {n : Nat} {m : List Int} (hm : okMem n m = true) (a : Int) (us : List (List Int)) (left : Int) (h0 : 0 ≤ left) (hb : left ≤ 1000000000) :
    ∃ b m' left', impl_Boot_recover.f m a us left = some (b, m', a, us, left') ∧ GoodM n m m' ∧ (0 ≤ left' ∧ left' ≤ left) ∧ (b = true → Clean n m') := by
  obtain ⟨t, c, tl, hu, hc, h49, ht, hcc, htl, h8, hs, hl, hw⟩ := okMem_view hm
  have hI : RecI m m := ⟨h49, fun _ _ => rfl, fun i hi => take8_getD h49 h8 i hi⟩
  simp only [impl_Boot_recover.f, impl_Boot_recover.begin, Tr.do_call, Tr.do_jump, impl_RecoveryWrites.told, impl_RecoveryWrites_f, bind_ok]
  have hrec : recW m = if c < 1 then [] else recEnd m (recL m c.toNat []) := by unfold recW; rw [if_pos h49, hu]
  by_cases q1 : c < 1
  · rw [hrec, if_pos q1, lp_eq]
    simp only [impl_Boot_recover.tree, Tr.do_ite, Tr.do_ret, List.length_nil, ge_dec, show decide ((0 : Int) < ((0 : Nat) : Int)) = false from rfl, Bool.false_eq_true, ↓reduceIte]
    exact ⟨_, _, _, rfl, hI.good hm, by omega, fun _ => ⟨hm, by rw [hu]; show c = 0; omega⟩⟩
  · obtain ⟨l, el, hlv⟩ := recL_some m c.toNat [] (fun j hj => hl j (by omega)) (by simp)
    have hrl : recW m = l ++ [(⟨8, pack t 0 tl⟩ : S205)] := by rw [hrec, if_neg q1, el, recEnd, hu]
    have hlen := recW_len m
    generalize recW m = W at hrl hlen
    have hWl : W.length = l.length + 1 := by rw [hrl, List.length_append, List.length_singleton]
    have key := upto W.length (fun j (s : List Int × Int) => (j ≤ l.length → RecI m s.1) ∧ (j = l.length + 1 → Clean n s.1) ∧ GoodM n m s.1 ∧ 0 ≤ s.2 ∧ s.2 ≤ left) (fun j s => lp impl_Boot_recover.tree (.c2 W (W.length : Int) (j : Int) s.1 a us s.2)) (fun r => ∃ b m' left', r = (b, m', a, us, left') ∧ GoodM n m m' ∧ (0 ≤ left' ∧ left' ≤ left) ∧ (b = true → Clean n m')) (fun j hj s hs => by
      obtain ⟨s1, s2⟩ := s
      obtain ⟨hR, hC, hG, hl0, hl1⟩ := hs
      simp only at hR hC hG hl0 hl1
      rw [lp_eq]
      by_cases q : j < W.length
      · have hRj := hR (by omega)
        have esp := impl_Boot_spend_f 3 s1 a us s2 (by omega) hl0 (by omega)
        by_cases q3 : s2 < 3
        · rw [if_pos q3] at esp
          refine Or.inl ⟨(false, s1, a, us, s2), ?_, _, _, _, rfl, hG, ⟨hl0, hl1⟩, fun h => by cases h⟩
          simp only [impl_Boot_recover.tree, Tr.do_ite, Tr.do_need, Tr.do_call, Tr.do_ret, lt_dec q, in_lt q, and_self, decide_true, ↓reduceIte, impl_Boot_spend.told, esp, bind_ok, Bool.not_false]
        · rw [if_neg q3] at esp
          have hjj : (0 : Int) ≤ W[j].f0 ∧ W[j].f0 < (s1.length : Int) ∧ (j < l.length → W[j].f0 ≤ 7 ∧ isVal W[j].f1 = true) ∧ (j = l.length → W[j] = (⟨8, pack t 0 tl⟩ : S205)) := by
            have := hRj.len
            by_cases qj : j < l.length
            · have e : W[j] = l[j] := by
                have : W[j]? = some l[j] := by rw [hrl, List.getElem?_append_left qj, List.getElem?_eq_getElem qj]
                rw [List.getElem?_eq_getElem q] at this
                exact Option.some.inj this
              have hv := hlv l[j] (List.getElem_mem qj)
              rw [e]
              exact ⟨hv.1.1, by omega, fun _ => ⟨hv.1.2, hv.2⟩, fun h => absurd h (by omega)⟩
            · have e : W[j] = (⟨8, pack t 0 tl⟩ : S205) := by
                have : W[j]? = some (⟨8, pack t 0 tl⟩ : S205) := by rw [hrl, List.getElem?_append_right (by omega), show j - l.length = 0 by omega]; rfl
                rw [List.getElem?_eq_getElem q] at this
                exact Option.some.inj this
              rw [e]
              exact ⟨by show (0 : Int) ≤ 8; omega, by show (8 : Int) < _; omega, fun h => absurd h (by omega), fun _ => rfl⟩
          obtain ⟨p0, p1, p2, p3⟩ := hjj
          refine Or.inr ⟨q, (s1.set W[j].f0.toNat W[j].f1, s2 - 3), ?_, ?_, ?_, ?_, by show 0 ≤ s2 - 3; omega, by show s2 - 3 ≤ left; omega⟩
          · simp only [impl_Boot_recover.tree, Tr.do_ite, Tr.do_need, Tr.do_call, Tr.do_last, Tr.do_jump, lt_dec q, in_lt q, getD_lt q, and_self, decide_true, ↓reduceIte, impl_Boot_spend.told, esp, bind_ok, Bool.not_true, Bool.false_eq_true, p0, p1, wr_next (show j < 4611686018427387904 by omega)]
          · intro hj1
            have := p2 (by omega)
            exact hRj.set (by omega) this.2
          · intro hj1
            have e := p3 (by omega)
            simp only [e]
            exact (hRj.last hm hu).2
          · by_cases qj : j < l.length
            · exact (hRj.set (by have := (p2 qj).1; omega) (p2 qj).2).good hm
            · have e := p3 (by omega)
              simp only [e]
              exact (hRj.last hm hu).1
      · refine Or.inl ⟨(true, s1, a, us, s2), ?_, _, _, _, rfl, hG, ⟨hl0, hl1⟩, fun _ => hC (by omega)⟩
        obtain rfl : j = W.length := by omega
        simp only [impl_Boot_recover.tree, Tr.do_ite, Tr.do_ret, ge_dec, Bool.false_eq_true, ↓reduceIte]) 0 (by omega) (m, left) ⟨fun _ => hI, fun h => absurd h (by omega), hI.good hm, h0, Int.le_refl _⟩
    obtain ⟨r, e, b, m', left', rfl, h⟩ := key
    exact ⟨b, m', left', e, h⟩
theorem GoodM.trans {n : Nat} {a b c : List Int} (h : GoodM n a b) (g : GoodM n b c) : GoodM n a c := ⟨g.1, h.2.trans g.2⟩
theorem impl_Boot_task_ok {p : List S166} {m : List Int} (rd : List Int) (a : Int) (us : List (List Int)) (left : Int) (hp : okP p = true) (hl : p.length ≤ 6) (hs : ∀ t ∈ p, t.f0.length ≤ 1048576) (hm : Clean p.length m)
    (ha : 0 ≤ a ∧ a ≤ 1000000000) (hu : us.length ≤ 10000) (h0 : 0 ≤ left ∧ left ≤ 1000000000) :
    ∃ b m' a' us' left', impl_Boot_task.f p rd m a us left = some (b, m', a', us', left') ∧ GoodM p.length m m' ∧ (0 ≤ left' ∧ left' ≤ left) ∧ (a ≤ a' ∧ a' - a ≤ left - left') ∧ (b = false → us' = us) ∧
      (b = true → Clean p.length m' ∧ ∃ u, us' = us ++ [u] ∧ u.length ≤ 20000 ∧ ∀ x ∈ u, isVal x = true) := by
  obtain ⟨o, u, eo, ho⟩ := impl_traceOf_ok (m := m) rd a hp hl hs hm
  have holen := ho.olen
  have hm49 : ∀ k, (applyM m (o.take k)).length = 49 := fun k => (okMem_parts (ho.safe.2 k).1).1
  have key := upto o.length (fun j (s : Int × Int) => (a ≤ s.1 ∧ s.1 - a ≤ left - s.2) ∧ (0 ≤ s.2 ∧ s.2 ≤ left)) (fun j s => lp impl_Boot_task.tree (.c3 o u (o.length : Int) (j : Int) (applyM m (o.take j)) s.1 us s.2)) (fun r => ∃ b m' a' us' left', r = (b, m', a', us', left') ∧ GoodM p.length m m' ∧ (0 ≤ left' ∧ left' ≤ left) ∧ (a ≤ a' ∧ a' - a ≤ left - left') ∧ (b = false → us' = us) ∧ (b = true → Clean p.length m' ∧ ∃ u, us' = us ++ [u] ∧ u.length ≤ 20000 ∧ ∀ x ∈ u, isVal x = true)) (fun j hj s hs => by
    obtain ⟨s1, s2⟩ := s
    obtain ⟨hA, hL⟩ := hs
    simp only at hA hL
    rw [lp_eq]
    by_cases q : j < o.length
    · obtain ⟨⟨k0, k1⟩, k2, k3⟩ := ho.safe.1 o[j] (List.getElem_mem q)
      have esp := impl_Boot_spend_f o[j].f0 (applyM m (o.take j)) s1 us s2 k0 hL.1 (by omega)
      by_cases q3 : s2 < o[j].f0
      · rw [if_pos q3] at esp
        refine Or.inl ⟨(false, applyM m (o.take j), s1, us, s2), ?_, _, _, _, _, _, rfl, ho.safe.2 j, hL, hA, fun _ => rfl, fun h => by cases h⟩
        simp only [impl_Boot_task.tree, Tr.do_ite, Tr.do_need, Tr.do_call, Tr.do_ret, lt_dec q, in_lt q, getD_lt q, and_self, decide_true, ↓reduceIte, impl_Boot_spend.told, esp, bind_ok, Bool.not_false]
      · rw [if_neg q3] at esp
        have e49 := hm49 j
        have hnext : applyM m (o.take (j + 1)) = mw (applyM m (o.take j)) o[j] := by rw [List.take_add_one, List.getElem?_eq_getElem q]; exact applyM_snoc m _ _
        have w1 : wr (s1 + 1) = s1 + 1 := wr_in (by omega)
        have wj := wr_next (show j < 4611686018427387904 by omega)
        by_cases qn : o[j].f1 = -1
        · have hmw : applyM m (o.take (j + 1)) = applyM m (o.take j) := by rw [hnext]; unfold mw; rw [if_pos qn]
          by_cases q5 : o[j].f0 = 5
          · refine Or.inr ⟨q, (s1 + 1, s2 - o[j].f0), ?_, by show _ ∧ s1 + 1 - a ≤ left - (s2 - o[j].f0); omega, by show 0 ≤ s2 - o[j].f0 ∧ s2 - o[j].f0 ≤ left; omega⟩
            simp only [hmw, impl_Boot_task.tree, Tr.do_ite, Tr.do_need, Tr.do_call, Tr.do_last, Tr.do_jump, Tr.do_ret, lt_dec q, in_lt q, getD_lt q, and_self, decide_true, ↓reduceIte, impl_Boot_spend.told, esp, bind_ok, Bool.not_true, Bool.false_eq_true, impl_isSenseStep.told, impl_isSenseStep.f, impl_isSenseStep.begin, decide_eq_true qn, decide_eq_true q5, w1, wj]
          · refine Or.inr ⟨q, (s1, s2 - o[j].f0), ?_, by show _ ∧ s1 - a ≤ left - (s2 - o[j].f0); omega, by show 0 ≤ s2 - o[j].f0 ∧ s2 - o[j].f0 ≤ left; omega⟩
            simp only [hmw, impl_Boot_task.tree, Tr.do_ite, Tr.do_need, Tr.do_call, Tr.do_last, Tr.do_jump, Tr.do_ret, lt_dec q, in_lt q, getD_lt q, and_self, decide_true, ↓reduceIte, impl_Boot_spend.told, esp, bind_ok, Bool.not_true, Bool.false_eq_true, impl_isSenseStep.told, impl_isSenseStep.f, impl_isSenseStep.begin, decide_eq_true qn, decide_eq_false q5, w1, wj]
        · have hmw : applyM m (o.take (j + 1)) = (applyM m (o.take j)).set o[j].f1.toNat o[j].f2 := by rw [hnext]; unfold mw; rw [if_neg qn]
          have n1 : (0 : Int) ≤ o[j].f1 ∧ o[j].f1 < ((applyM m (o.take j)).length : Int) := by omega
          refine Or.inr ⟨q, (s1, s2 - o[j].f0), ?_, by show _ ∧ s1 - a ≤ left - (s2 - o[j].f0); omega, by show 0 ≤ s2 - o[j].f0 ∧ s2 - o[j].f0 ≤ left; omega⟩
          simp only [hmw, impl_Boot_task.tree, Tr.do_ite, Tr.do_need, Tr.do_call, Tr.do_last, Tr.do_jump, Tr.do_ret, lt_dec q, in_lt q, getD_lt q, and_self, decide_true, ↓reduceIte, impl_Boot_spend.told, esp, bind_ok, Bool.not_true, Bool.not_false, Bool.false_eq_true, impl_isSenseStep.told, impl_isSenseStep.f, impl_isSenseStep.begin, decide_eq_false qn, n1, w1, wj]
    · obtain rfl : j = o.length := by omega
      refine Or.inl ⟨(true, applyM m (o.take o.length), s1, us ++ [u], s2), ?_, _, _, _, _, _, rfl, ho.safe.2 _, hL, hA, (fun h => by cases h), fun _ => ⟨by rw [List.take_length]; exact ho.clean, u, rfl, ho.ulen, ho.used⟩⟩
      simp only [impl_Boot_task.tree, Tr.do_ite, Tr.do_both, Tr.do_last, Tr.do_need, Tr.do_ret, ge_dec, Bool.false_eq_true, ↓reduceIte, one_fits us u 1048576 (by omega) (by omega) 24 (by omega), both_same]) 0 (by omega) (a, left) ⟨by show a ≤ a ∧ a - a ≤ left - left; omega, by show 0 ≤ left ∧ left ≤ left; omega⟩
  obtain ⟨r, e, b, m', a', us', left', rfl, h⟩ := key
  refine ⟨b, m', a', us', left', ?_, h⟩
  simp only [impl_Boot_task.f, impl_Boot_task.begin, Tr.do_both, Tr.do_call, Tr.do_last, Tr.do_jump, impl_traceOf.told, eo, bind_ok, both_same]
  exact e
/-- What the tasks of a boot have read. -/
def UsedOk (us : List (List Int)) : Prop := us.length ≤ 10 ∧ ∀ u ∈ us, u.length ≤ 20000 ∧ ∀ x ∈ u, isVal x = true
theorem impl_boot_ok {p : List S166} {m : List Int} (rd : List Int) (a left : Int) (hp : okP p = true) (hl : p.length ≤ 6) (hs : ∀ t ∈ p, t.f0.length ≤ 1048576) (hm : okMem p.length m = true) (ha : 0 ≤ a ∧ a ≤ 900000000) (h0 : 0 ≤ left ∧ left ≤ 10000000) :
    ∃ m' a' us left', impl_boot.f p m rd a left = some (m', a', us, left') ∧ GoodM p.length m m' ∧ (0 ≤ left' ∧ left' ≤ left) ∧ (a ≤ a' ∧ a' - a ≤ left - left') ∧ UsedOk us := by
  have h49 := (okMem_parts hm).1
  obtain ⟨b, m1, left1, e1, g1, l1, c1⟩ := impl_Boot_recover_ok hm a [] left h0.1 (by omega)
  cases b with
  | false =>
    refine ⟨m1, a, [], left1, ?_, g1, l1, by omega, by simp, by simp⟩
    simp only [impl_boot.f, impl_boot.begin, Tr.do_call, Tr.do_ite, Tr.do_ret, slices_Clone_int.told, slices_Clone_int_f m (by omega), impl_Boot_recover.told, e1, bind_ok, Bool.not_false, ↓reduceIte]
  | true =>
    have key := upto 10 (fun j (s : List Int × Int × List (List Int) × Int) => s.2.2.1.length = j ∧ UsedOk s.2.2.1 ∧ Clean p.length s.1 ∧ GoodM p.length m s.1 ∧ (a ≤ s.2.1 ∧ s.2.1 - a ≤ left - s.2.2.2) ∧ (0 ≤ s.2.2.2 ∧ s.2.2.2 ≤ left)) (fun _ s => lp impl_boot.tree (.c4 rd p [] 0 [] 0 s.1 s.2.1 s.2.2.1 s.2.2.2)) (fun r => ∃ m' a' us left', r = (m', a', us, left') ∧ GoodM p.length m m' ∧ (0 ≤ left' ∧ left' ≤ left) ∧ (a ≤ a' ∧ a' - a ≤ left - left') ∧ UsedOk us) (fun j hj s hs' => by
      obtain ⟨s1, s2, s3, s4⟩ := s
      obtain ⟨hn, hU, hC, hG, hA, hL⟩ := hs'
      simp only at hn hU hC hG hA hL
      rw [lp_eq]
      by_cases q : j < 10
      · have q' : decide ((s3.length : Int) < 10) = true := decide_eq_true (by omega)
        obtain ⟨b, m2, a2, us2, left2, e2, g2, l2, A2, hf, ht⟩ := impl_Boot_task_ok rd s2 s3 s4 hp hl hs hC (by omega) (by omega) (by omega)
        cases b with
        | false =>
          refine Or.inl ⟨(m2, a2, us2, left2), ?_, _, _, _, _, rfl, hG.trans g2, by omega, by omega, by rw [hf rfl]; exact hU⟩
          simp only [impl_boot.tree, Tr.do_ite, Tr.do_call, Tr.do_ret, q', ↓reduceIte, impl_Boot_task.told, e2, bind_ok, Bool.false_eq_true]
        | true =>
          obtain ⟨hC2, u, hus, hul, huv⟩ := ht rfl
          refine Or.inr ⟨q, (m2, a2, us2, left2), ?_, by show us2.length = j + 1; rw [hus, List.length_append, List.length_singleton]; omega, ⟨by show us2.length ≤ 10; rw [hus, List.length_append, List.length_singleton]; omega, fun v hv => ?_⟩, hC2, hG.trans g2, by show a ≤ a2 ∧ a2 - a ≤ left - left2; omega, by show 0 ≤ left2 ∧ left2 ≤ left; omega⟩
          · simp only [impl_boot.tree, Tr.do_ite, Tr.do_call, Tr.do_jump, q', ↓reduceIte, impl_Boot_task.told, e2, bind_ok]
          · have hv' : v ∈ us2 := hv
            rw [hus] at hv'
            rcases List.mem_append.mp hv' with hv' | hv'
            · exact hU.2 v hv'
            · rw [List.mem_singleton] at hv'; rw [hv']; exact ⟨hul, huv⟩
      · have q' : decide ((s3.length : Int) < 10) = false := decide_eq_false (by omega)
        refine Or.inl ⟨(s1, s2, s3, s4), ?_, _, _, _, _, rfl, hG, hL, hA, hU⟩
        simp only [impl_boot.tree, Tr.do_ite, Tr.do_ret, q', Bool.false_eq_true, ↓reduceIte]) 0 (by omega) (m1, a, [], left1) ⟨rfl, ⟨by simp, by simp⟩, c1 rfl, g1, by show a ≤ a ∧ a - a ≤ left - left1; omega, l1⟩
    obtain ⟨r, e, m', a', us', left', rfl, h⟩ := key
    refine ⟨m', a', us', left', ?_, h⟩
    simp only [impl_boot.f, impl_boot.begin, Tr.do_call, Tr.do_ite, Tr.do_jump, slices_Clone_int.told, slices_Clone_int_f m (by omega), impl_Boot_recover.told, e1, bind_ok, Bool.not_true, Bool.false_eq_true, ↓reduceIte]
    exact e
/-! ### FnBootKeeps -/
theorem laws_big_f (b : List Int) : laws_big.f b = some (decide ((b.length : Int) > 1048576)) := rfl
theorem isPre_of {a b : List Int} (h : a <+: b) : isPre a b = true := by
  unfold isPre
  rw [decide_eq_true h.length_le, decide_eq_true (List.prefix_iff_eq_take.mp h)]
  rfl
/-! ### A tick of a node -/
theorem impl_Clamp_low (x b : Int) (hb : 0 ≤ b) : ∃ c : Int, impl_Clamp.f x 0 b = some c ∧ 0 ≤ c ∧ c ≤ b ∧ (c ≤ x ∨ c = 0) := by
  simp only [impl_Clamp.f, impl_Clamp.begin, Tr.do_ite, Tr.do_ret, decide_eq_true_eq]
  rw [if_neg (by omega)]
  refine ⟨_, rfl, ?_⟩
  by_cases h1 : (0 : Int) > x
  · simp only [h1, ↓reduceIte]
    by_cases h2 : b < 0
    · omega
    · simp only [h2, ↓reduceIte]; exact ⟨Int.le_refl 0, hb, Or.inr trivial⟩
  · simp only [h1, ↓reduceIte]
    by_cases h2 : b < x
    · simp only [h2, ↓reduceIte]; omega
    · simp only [h2, ↓reduceIte]; omega
theorem isPre_iff {a b : List Int} : isPre a b = true ↔ a <+: b := by
  refine ⟨fun h => ?_, isPre_of⟩
  unfold isPre at h
  rw [Bool.and_eq_true, decide_eq_true_eq, decide_eq_true_eq] at h
  rw [List.prefix_iff_eq_take]
  exact h.2
/-- What a valid node is. -/
theorem okNode_view {p : List S166} {m r : List Int} {a3 a4 a5 a6 a7 a8 a9 a10 : Int} {h : List Int} {a12 : Int} : okNode p m r a3 a4 a5 a6 a7 a8 a9 a10 h a12 = true ↔
    okP p = true ∧ okMem p.length m = true ∧ okStore a4 a5 a6 a7 = true ∧ r.all isVal = true ∧ (0 ≤ a3 ∧ a3 ≤ 400000) ∧ okSpan a8 a9 = true ∧ ((0 ≤ a10 ∧ a10 ≤ (h.length : Int)) ∧ h <+: memSent m) ∧ (0 ≤ a12 ∧ a12 ≤ 100000) := by
  unfold okNode okLink
  simp only [Bool.and_eq_true, inB_iff, isPre_iff]
  exact ⟨fun ⟨⟨q1, q2⟩, q3, q4, q5, q6, q7, q8⟩ => ⟨q1, q2, q3, q4, q5, q6, q7, q8⟩, fun ⟨q1, q2, q3, q4, q5, q6, q7, q8⟩ => ⟨⟨q1, q2⟩, q3, q4, q5, q6, q7, q8⟩⟩
theorem okStore_view {a b c d : Int} : okStore a b c d = true ↔ (1 ≤ b ∧ b ≤ 5000) ∧ (0 ≤ a ∧ a ≤ b) ∧ (1 ≤ c ∧ c ≤ b) ∧ (0 ≤ d ∧ d ≤ 100) := by
  unfold okStore; simp only [Bool.and_eq_true, inB_iff]
theorem okSpan_view {a b : Int} : okSpan a b = true ↔ 0 ≤ a ∧ a ≤ b ∧ b ≤ 1000000 := by
  unfold okSpan; simp only [Bool.and_eq_true, decide_eq_true_eq, ge_iff_le]
def onward (a : Int) : Int := if a + 1 < 1000000 then a + 1 else 1000000
theorem impl_PassOn_f (a b : Int) (h : okSpan a b = true) : impl_PassOn.f a b 1 = some (onward a, onward b) := by
  obtain ⟨h0, h1, h2⟩ := okSpan_view.mp h
  have w1 : wr (a + 1) = a + 1 := wr_in (by omega)
  have w2 : wr (b + 1) = b + 1 := wr_in (by omega)
  have h11 : okSpan 1 1 = true := rfl
  simp only [impl_PassOn.f, impl_PassOn.begin, impl_PassOff.told, impl_PassOff.f, impl_PassOff.begin, Tr.do_call, Tr.do_ite, Tr.do_ret, impl_SpanOk.told, impl_SpanOk_f, h, h11, bind_ok, Bool.not_true, Bool.false_eq_true, ↓reduceIte, w1, w2, onward]
theorem okSpan_onward {a b : Int} (h : okSpan a b = true) : okSpan (onward a) (onward b) = true := by
  rw [okSpan_view] at h ⊢
  unfold onward
  split <;> split <;> omega
/-- A tick of a valid node: a state, which is the result if it is valid. -/
structure Tick (p : List S166) (m : List Int) (a3 a4 a5 a6 a7 a8 a9 a12 : Int) (m' : List Int) (b3 b4 b8 b9 b12 : Int) : Prop where
  good : GoodM p.length m m'
  at_ : a3 ≤ b3 ∧ b3 ≤ a3 + 5000
  store : okStore b4 a5 a6 a7 = true
  low : b8 = onward a8
  high : b9 = onward a9
  done : a12 ≤ b12 ∧ b12 ≤ a12 + 10
theorem tick_ok {p : List S166} {m r : List Int} {a3 a4 a5 a6 a7 a8 a9 a10 : Int} {h : List Int} {a12 : Int} (x : Int) (hn : okNode p m r a3 a4 a5 a6 a7 a8 a9 a10 h a12 = true) (hrr : r.length ≤ 1048576) (hx : 0 ≤ x ∧ x ≤ 1000) :
    ∃ m' b3 b4 b12, Tick p m a3 a4 a5 a6 a7 a8 a9 a12 m' b3 b4 (onward a8) (onward a9) b12 ∧ (b12 = a12 ∨ a6 ≤ a4 + x) ∧
      okNode p m' r b3 b4 a5 a6 a7 (onward a8) (onward a9) a10 h b12 = (inB b3 0 400000 && inB b12 0 100000) ∧
      impl_TickNode.f p m r a3 a4 a5 a6 a7 a8 a9 a10 h a12 x = some (if (inB b3 0 400000 && inB b12 0 100000) = true then (p, m', r, b3, b4, a5, a6, a7, onward a8, onward a9, a10, h, b12, true) else (p, m, r, a3, a4, a5, a6, a7, a8, a9, a10, h, a12, false)) := by
  obtain ⟨hp, hm, hst, hr, ha3, hsp, hlk, ha12⟩ := okNode_view.mp hn
  obtain ⟨p6, p1, hs⟩ := okP_sizes hp
  obtain ⟨s1, s2, s3, s4⟩ := okStore_view.mp hst
  have hm49 := (okMem_parts hm).1
  have hml : m.length ≤ 1048576 := by omega
  have hhl : h.length ≤ 1048576 := Nat.le_trans hlk.2.length_le (memSent_le m _ hml)
  have w1 : wr (a4 + x) = a4 + x := wr_in (by omega)
  have w2 : wr (a4 + x - a7) = a4 + x - a7 := wr_in (by omega)
  obtain ⟨c, ec, c0, c1, c2⟩ := impl_Clamp_low (a4 + x - a7) a5 (by omega)
  have hi : impl_isHarvest.f x = some true := by
    have : inB x 0 1000 = true := by rw [inB_iff]; omega
    simp only [impl_isHarvest.f, impl_isHarvest.begin, Tr.do_call, Tr.do_ret, impl_within.told, impl_within_f, this, bind_ok]
  -- any node that is reached
  have hnode : ∀ (m' : List Int) (b3 b4 b12 : Int), GoodM p.length m m' → (a3 ≤ b3) → okStore b4 a5 a6 a7 = true → a12 ≤ b12 → okNode p m' r b3 b4 a5 a6 a7 (onward a8) (onward a9) a10 h b12 = (inB b3 0 400000 && inB b12 0 100000) := by
    intro m' b3 b4 b12 hG h3 hst' h12
    rw [Bool.eq_iff_iff, okNode_view, Bool.and_eq_true, inB_iff, inB_iff]
    exact ⟨fun ⟨_, _, _, _, q5, _, _, q8⟩ => ⟨q5, q8⟩, fun ⟨q5, q8⟩ => ⟨hp, hG.1, hst', hr, q5, okSpan_onward hsp, ⟨hlk.1, hlk.2.trans hG.2⟩, q8⟩⟩
  have e1 := impl_copyNode_f p m r a3 a4 a5 a6 a7 a8 a9 a10 h a12 (by omega) hs hml hrr hhl
  have e2 := impl_NodeOk_f p m r a3 a4 a5 a6 a7 a8 a9 a10 h a12 (by omega) hs hml hrr hhl
  rw [hn] at e2
  have fin' : ∀ (m' : List Int) (b3 b4 b12 : Int) (y0 : List S166) (y1 y2 : List Int) (y3 y4 y5 y6 y7 y8 y9 y10 : Int) (y11 : List Int) (y12 : Int), GoodM p.length m m' → (a3 ≤ b3) → okStore b4 a5 a6 a7 = true → a12 ≤ b12 →
      lp impl_TickNode.tree (.c9 p m r a3 a4 a5 a6 a7 a8 a9 a10 h a12 y0 y1 y2 y3 y4 y5 y6 y7 y8 y9 y10 y11 y12 p m' r b3 b4 a5 a6 a7 (onward a8) (onward a9) a10 h b12) = some (if (inB b3 0 400000 && inB b12 0 100000) = true then (p, m', r, b3, b4, a5, a6, a7, onward a8, onward a9, a10, h, b12, true) else (p, m, r, a3, a4, a5, a6, a7, a8, a9, a10, h, a12, false)) := by
    intro m' b3 b4 b12 y0 y1 y2 y3 y4 y5 y6 y7 y8 y9 y10 y11 y12 hG h3 hst' h12
    have e3 := impl_NodeOk_f p m' r b3 b4 a5 a6 a7 (onward a8) (onward a9) a10 h b12 (by omega) hs (by have := (okMem_parts hG.1).1; omega) hrr hhl
    rw [hnode m' b3 b4 b12 hG h3 hst' h12] at e3
    rw [lp_eq]
    simp only [impl_TickNode.tree, Tr.do_call, Tr.do_ite, Tr.do_ret, impl_NodeOk.told, e3, bind_ok, impl_copyNode.told, e1]
    cases (inB b3 0 400000 && inB b12 0 100000) <;> rfl
  have est : impl_Store_tick.f x p m r a3 a4 a5 a6 a7 a8 a9 a10 h a12 = some (p, m, r, a3, c, a5, a6, a7, a8, a9, a10, h, a12) := by
    simp only [impl_Store_tick.f, impl_Store_tick.begin, Tr.do_last, Tr.do_call, Tr.do_ret, w1, w2, impl_Clamp.told, ec, bind_ok]
  have epn := impl_PassOn_f a8 a9 hsp
  by_cases hc : c ≥ a6
  · obtain ⟨m', b3, us, left', eb, gb, lb, ab, ub⟩ := impl_boot_ok (m := m) r a3 c hp (by omega) hs hm (by omega) (by omega)
    have hst' : okStore 0 a5 a6 a7 = true := okStore_view.mpr ⟨s1, by omega, s3, s4⟩
    have hul := ub.1
    have w3 : wr (a12 + (us.length : Int)) = a12 + (us.length : Int) := wr_in (by omega)
    refine ⟨m', b3, 0, a12 + (us.length : Int), ⟨gb, by omega, hst', rfl, rfl, by omega⟩, Or.inr (by omega), hnode _ _ _ _ gb (by omega) hst' (by omega), ?_⟩
    simp only [impl_TickNode.f, impl_TickNode.begin, Tr.do_call, Tr.do_ite, Tr.do_both, Tr.do_last, Tr.do_jump, Tr.do_ret, impl_copyNode.told, e1, impl_NodeOk.told, e2, impl_isHarvest.told, hi, impl_Store_tick.told, est, impl_PassOn.told, epn, bind_ok, Bool.not_true, Bool.false_eq_true, ↓reduceIte, decide_eq_true hc, impl_boot.told, eb, w3, both_same, decide_true]
    exact fin' m' b3 0 (a12 + (us.length : Int)) _ _ _ _ _ _ _ _ _ _ _ _ _ gb (by omega) hst' (by omega)
  · have hst' : okStore c a5 a6 a7 = true := okStore_view.mpr ⟨s1, by omega, s3, s4⟩
    have g0 : GoodM p.length m m := ⟨hm, List.prefix_rfl⟩
    refine ⟨m, a3, c, a12, ⟨g0, by omega, hst', rfl, rfl, by omega⟩, Or.inl rfl, hnode _ _ _ _ g0 (by omega) hst' (by omega), ?_⟩
    simp only [impl_TickNode.f, impl_TickNode.begin, Tr.do_call, Tr.do_ite, Tr.do_both, Tr.do_last, Tr.do_jump, Tr.do_ret, impl_copyNode.told, e1, impl_NodeOk.told, e2, impl_isHarvest.told, hi, impl_Store_tick.told, est, impl_PassOn.told, epn, bind_ok, Bool.not_true, Bool.false_eq_true, ↓reduceIte, decide_eq_false hc]
    exact fin' m a3 c a12 _ _ _ _ _ _ _ _ _ _ _ _ _ g0 (by omega) hst' (by omega)
/-! ### FnNewNodes -/
theorem spec_l19Store_ok {b : List Int} {i : Int} (h : Int) (c : Cur b i) : ∃ x y z w i' h', spec_l19Store.f b i h = some (x, y, z, w, b, i', h') ∧ okStore x y z w = true ∧ Cur b i' := by
  obtain ⟨x1, i1, j1, e1, a1, b1, c1⟩ := spec_l01Below_ok 400 h (by omega) c
  obtain ⟨x2, i2, j2, e2, a2, b2, c2⟩ := spec_l01Below_ok 4 j1 (by omega) c1
  have w1 : wr (20 + x1) = 20 + x1 := wr_in (by omega)
  have w2 : wr (20 + x1 + 1) = 20 + x1 + 1 := wr_in (by omega)
  obtain ⟨x3, i3, j3, e3, a3, b3, c3⟩ := spec_l01Below_ok (20 + x1 + 1) j2 (by omega) c2
  obtain ⟨x4, i4, j4, e4, a4, b4, c4⟩ := spec_l01Below_ok (20 + x1) j3 (by omega) c3
  have w3 : wr (1 + x4) = 1 + x4 := wr_in (by omega)
  simp only [spec_l19Store.f, spec_l19Store.begin, Tr.do_call, Tr.do_ret, spec_l01Below.told, e1, e2, w1, w2, e3, e4, w3, bind_ok]
  exact ⟨_, _, _, _, _, _, rfl, okStore_view.mpr ⟨by omega, by omega, by omega, by omega⟩, c4⟩
/-- A new memory: valid, and nothing is sent. -/
theorem memNew_ok {l : List Int} {n : Nat} (h : l.all isVal = true) (h8 : l.length = 8) (hn : 1 ≤ n) : memNew l = (l ++ List.replicate 41 0, true) ∧ okMem n (l ++ List.replicate 41 0) = true ∧ memSent (l ++ List.replicate 41 0) = [] := by
  have e1 : memNew l = (l ++ List.replicate 41 0, true) := by
    unfold memNew
    rw [h, decide_eq_true (show (l.length : Int) = 8 by omega)]
    rfl
  have hl : (l ++ List.replicate 41 (0 : Int)).length = 49 := by rw [List.length_append, List.length_replicate]; omega
  have hall : (l ++ List.replicate 41 (0 : Int)).all isVal = true := by rw [List.all_append, h]; rfl
  have h8' : rdI (l ++ List.replicate 41 (0 : Int)) 8 = 0 := by
    rw [show (8 : Int) = ((8 : Nat) : Int) from rfl, rdI_getD, List.getD_eq_getElem?_getD, List.getElem?_append_right (by omega), h8]
    rfl
  have hu : unpack (rdI (l ++ List.replicate 41 (0 : Int)) 8) = (0, 0, 0) := by
    rw [h8']
    have := unpack_pack (a := 0) (b := 0) (c := 0) (by omega) (by omega) (by omega)
    exact this
  refine ⟨e1, okMem_of hl hu (by omega) (all_take _ hall) (all_drop _ (all_take _ hall)) rfl, ?_⟩
  rw [memSent_win hl hu (by omega)]
  rfl
/-! ### Runs over power failures -/
/-- A run behind one more boot. -/
noncomputable def bootStep (p : List S166) (rd : List Int) (s : List Int × Int × List (List Int) × List Int) (e : Int) : List Int × Int × List (List Int) × List Int :=
  match impl_boot.f p s.1 rd s.2.1 e with
  | some r => (r.1, r.2.1, s.2.2.1 ++ r.2.2.1, s.2.2.2 ++ [(r.2.2.1.length : Int)])
  | none => s
/-- The runs' result. -/
noncomputable def runs (p : List S166) (m rd es : List Int) : List Int × Int × List (List Int) × List Int := es.foldl (bootStep p rd) (m, 0, [], [])
/-! ### Acts -/
theorem bits_Mul64_one : ∀ n : Nat, n < 25 → bits_Mul64.f (IntKind.wrap .u64 1) (IntKind.wrap .u64 (n : Int)) = some (0, (n : Int))
  | 0, _ => rfl
  | 1, _ => rfl
  | 2, _ => rfl
  | 3, _ => rfl
  | 4, _ => rfl
  | 5, _ => rfl
  | 6, _ => rfl
  | 7, _ => rfl
  | 8, _ => rfl
  | 9, _ => rfl
  | 10, _ => rfl
  | 11, _ => rfl
  | 12, _ => rfl
  | 13, _ => rfl
  | 14, _ => rfl
  | 15, _ => rfl
  | 16, _ => rfl
  | 17, _ => rfl
  | 18, _ => rfl
  | 19, _ => rfl
  | 20, _ => rfl
  | 21, _ => rfl
  | 22, _ => rfl
  | 23, _ => rfl
  | 24, _ => rfl
  | n + 25, h => absurd h (by omega)
theorem slices_Repeat_bool_ok (n : Nat) (hn : n < 25) : ∃ l : List Bool, slices_Repeat_bool.f [true] (n : Int) = some l ∧ l.length = n := by
  have e1 : bits_Mul.f (IntKind.wrap .u64 1) (IntKind.wrap .u64 (n : Int)) = some (0, (n : Int)) := by
    simp only [bits_Mul.f, bits_Mul.begin, Tr.do_call, Tr.do_ret, bits_Mul64.told, bits_Mul64_one n hn, bind_ok]
  have key : ∀ (k j : Nat) (l : List Bool), j + k = n → l.length = n → (1 ≤ j ∨ n = 0) → ∃ l' : List Bool, lp slices_Repeat_bool.tree (.c8 l (j : Int)) = some l' ∧ l'.length = n := by
    intro k
    induction k using Nat.strongRecOn with
    | _ k ih =>
      intro j l hj hl h1
      rw [lp_eq]
      by_cases q : j < l.length
      · have n1 : (0 : Int) ≤ (j : Int) ∧ (j : Int) < (l.length : Int) ∧ (l.length : Int) ≤ (l.length : Int) := by omega
        have n2 : (0 : Int) ≤ 0 ∧ (0 : Int) < (j : Int) ∧ (j : Int) ≤ (l.length : Int) := by omega
        obtain ⟨d, hd, hd1, hd2, hd3⟩ : ∃ d : Nat, (if (j : Int) - 0 < (l.length : Int) - (j : Int) then (j : Int) - 0 else (l.length : Int) - (j : Int)) = (d : Int) ∧ 1 ≤ d ∧ d ≤ j ∧ j + d ≤ l.length := by
          by_cases c : (j : Int) - 0 < (l.length : Int) - (j : Int)
          · rw [if_pos c]; exact ⟨j, by omega, by omega, by omega, by omega⟩
          · rw [if_neg c]; exact ⟨l.length - j, by omega, by omega, by omega, by omega⟩
        have w : wr ((j : Int) + (d : Int)) = ((j + d : Nat) : Int) := by
          have : wr ((j : Int) + (d : Int)) = (j : Int) + (d : Int) := wr_in (by omega)
          rw [this]; omega
        simp only [slices_Repeat_bool.tree, Tr.do_ite, Tr.do_both, Tr.do_need, Tr.do_last, Tr.do_val, Tr.do_jump, lt_dec q, n1, n2, and_self, decide_true, ↓reduceIte, hd, w, both_same]
        refine ih (n - (j + d)) (by omega) (j + d) _ (by omega) ?_ (Or.inl (by omega))
        have hm : min (l.length - j) j = d ∨ True := Or.inr trivial
        simp only [List.length_append, List.length_take, List.length_drop, Int.toNat_natCast, Int.toNat_zero]
        by_cases c : (j : Int) - 0 < (l.length : Int) - (j : Int)
        · rw [if_pos c] at hd; omega
        · rw [if_neg c] at hd; omega
      · have q' : decide ((j : Int) < (l.length : Int)) = false := decide_eq_false (by omega)
        simp only [slices_Repeat_bool.tree, Tr.do_ite, Tr.do_ret, q', Bool.false_eq_true, ↓reduceIte]
        exact ⟨l, rfl, hl⟩
  have g0 : decide ((n : Int) < 0) = false := decide_eq_false (by omega)
  have g1 : decide ((0 : Int) > 0) = false := rfl
  have g2 : decide ((n : Int) > 9223372036854775807) = false := decide_eq_false (by omega)
  have w : wr (n : Int) = (n : Int) := wr_in (by omega)
  have g3 : (0 : Int) ≤ (n : Int) ∧ (n : Int) ≤ (n : Int) ∧ (n : Int) * (1 : Nat) ≤ room := ⟨by omega, by omega, by unfold room; omega⟩
  have hl1 : ((([true] : List Bool).length : Nat) : Int) = 1 := rfl
  by_cases hz : n = 0
  · subst hz
    obtain ⟨l', e, hl'⟩ := key 0 0 [] rfl rfl (Or.inr rfl)
    refine ⟨l', ?_, hl'⟩
    simp only [slices_Repeat_bool.f, slices_Repeat_bool.begin, Tr.do_ite, Tr.do_call, Tr.do_need, Tr.do_jump, g0, hl1, bits_Mul.told, e1, bind_ok, g1, g2, w, g3, and_self, Int.toNat_natCast, Bool.false_eq_true, ↓reduceIte, List.replicate_zero, List.isEmpty_nil]
    exact e
  · obtain ⟨l', e, hl'⟩ := key (n - 1) 1 (List.take n [true] ++ List.drop 1 (List.replicate n false)) (by omega) (by rw [List.length_append, List.length_take, List.length_drop, List.length_replicate, List.length_singleton]; omega) (Or.inl (by omega))
    have g4 : (List.replicate n false).isEmpty = false := by cases n with
      | zero => exact absurd rfl hz
      | succ n => rfl
    have g5 : (0 : Int) < (n : Int) ∧ (0 : Int) < 1 := by omega
    have g6 : (if (1 : Int) < (n : Int) then (1 : Int) else (n : Int)) = 1 := by split <;> omega
    refine ⟨l', ?_, hl'⟩
    simp only [slices_Repeat_bool.f, slices_Repeat_bool.begin, Tr.do_ite, Tr.do_call, Tr.do_need, Tr.do_val, Tr.do_jump, g0, hl1, bits_Mul.told, e1, bind_ok, g1, g2, w, g3, and_self, Int.toNat_natCast, Bool.false_eq_true, ↓reduceIte, g4, List.length_replicate, g5, g6]
    exact e
/-- Links keep what was sent. -/
theorem recvAll_pre {s : List Int} : ∀ (l : List (S217 × Bool)) (g : List Int), g <+: s → (∀ q ∈ l, ∃ i : Nat, q.1.f0 = (i : Int) ∧ s[i]? = some q.1.f1) → g <+: l.foldl recvStep g ∧ l.foldl recvStep g <+: s
  | [], g, hg, _ => ⟨List.prefix_rfl, hg⟩
  | q :: l, g, hg, hl => by
    obtain ⟨i, hi, hv⟩ := hl q (by simp)
    have h1 : g <+: recvStep g q ∧ recvStep g q <+: s := by
      unfold recvStep take1
      split
      · split
        · rename_i ha
          split
          · refine ⟨List.prefix_append _ _, ?_⟩
            have : i = g.length := by omega
            subst this
            obtain ⟨t, ht⟩ := hg
            subst ht
            rw [List.getElem?_append_right (Nat.le_refl _), Nat.sub_self] at hv
            cases t with
            | nil => cases hv
            | cons x t =>
              simp only [List.getElem?_cons_zero] at hv
              cases hv
              exact ⟨t, by simp⟩
          · exact ⟨List.prefix_rfl, hg⟩
        · exact ⟨List.prefix_rfl, hg⟩
      · exact ⟨List.prefix_rfl, hg⟩
    obtain ⟨h2, h3⟩ := recvAll_pre l (recvStep g q) h1.2 (fun x hx => hl x (by simp [hx]))
    exact ⟨h1.1.trans h2, h3⟩
theorem packs_at (s : List Int) (k : Int) : ∀ q ∈ packs s k, ∃ i : Nat, q.f0 = (i : Int) ∧ s[i]? = some q.f1 := by
  intro q hq
  unfold packs at hq
  split at hq
  · rename_i hb
    rw [inB_iff] at hb
    obtain ⟨i, hi, rfl⟩ := List.mem_map.mp hq
    rw [List.mem_range'_1] at hi
    have h : i < s.length := by omega
    refine ⟨i, rfl, ?_⟩
    show s[i]? = some (rdI s (i : Int))
    rw [List.getElem?_eq_getElem h, show rdI s (i : Int) = s[i] from getD_lt h]
  · simp at hq
theorem uplink_ok (p : List S166) (m r : List Int) (a3 a4 a5 a6 a7 a8 a9 a10 : Int) (h : List Int) (a12 : Int) (k : List Bool) (b : Bool) (hn : okNode p m r a3 a4 a5 a6 a7 a8 a9 a10 h a12 = true) (hr : r.length ≤ 1048576) (hk : k.length ≤ 1048576) :
    ∃ x' h', okNode p m r a3 a4 a5 a6 a7 a8 a9 x' h' a12 = true ∧ impl_Uplink.f p m r a3 a4 a5 a6 a7 a8 a9 a10 h a12 k b = some (p, m, r, a3, a4, a5, a6, a7, a8, a9, x', h', a12, true) := by
  obtain ⟨hp, hm, hst, hrv, ha3, hsp, hlk, ha12⟩ := okNode_view.mp hn
  obtain ⟨p6, p1, hs⟩ := okP_sizes hp
  have hml : m.length ≤ 1048576 := by have := (okMem_parts hm).1; omega
  have hhl : h.length ≤ 1048576 := Nat.le_trans hlk.2.length_le (memSent_le m _ hml)
  have e := impl_Uplink_f p m r a3 a4 a5 a6 a7 a8 a9 a10 h a12 k b (by omega) hs hml hr hhl hk
  have hok : okLink m a10 h = true := by unfold okLink; rw [inB_iff.mpr hlk.1, isPre_of hlk.2]; rfl
  unfold uplink at e
  rw [if_pos hn] at e
  refine ⟨_, _, ?_, e⟩
  unfold sendRound
  rw [if_pos hok]
  obtain ⟨g1, g2⟩ := recvAll_pre ((packs (memSent m) a10).zip k) h hlk.2 (fun q hq => packs_at (memSent m) a10 q.1 (List.of_mem_zip hq).1)
  have hge := g1.length_le
  refine okNode_view.mpr ⟨hp, hm, hst, hrv, ha3, hsp, ⟨?_, g2⟩, ha12⟩
  show 0 ≤ (if b = true then ((recvAll h (packs (memSent m) a10) k).length : Int) else a10) ∧ (if b = true then ((recvAll h (packs (memSent m) a10) k).length : Int) else a10) ≤ ((recvAll h (packs (memSent m) a10) k).length : Int)
  have : h.length ≤ (recvAll h (packs (memSent m) a10) k).length := hge
  split <;> omega
/-- What an act leaves. -/
def ActR (r : List Int) (t : List S166 × List Int × List Int × Int × Int × Int × Int × Int × Int × Int × Int × List Int × Int × Int) : Prop :=
  okNode t.1 t.2.1 t.2.2.1 t.2.2.2.1 t.2.2.2.2.1 t.2.2.2.2.2.1 t.2.2.2.2.2.2.1 t.2.2.2.2.2.2.2.1 t.2.2.2.2.2.2.2.2.1 t.2.2.2.2.2.2.2.2.2.1 t.2.2.2.2.2.2.2.2.2.2.1 t.2.2.2.2.2.2.2.2.2.2.2.1 t.2.2.2.2.2.2.2.2.2.2.2.2.1 = true ∧ t.2.2.1.length ≤ 100 ∧ (-1 ≤ t.2.2.2.2.2.2.2.2.2.2.2.2.2 ∧ t.2.2.2.2.2.2.2.2.2.2.2.2.2 ≤ 2000000)
set_option maxHeartbeats 2000000 in
theorem impl_ticks_ok (x13 x15 : Int) (N : Nat) (hN : N ≤ 50) (hx : 0 ≤ x15 ∧ x15 ≤ 1000) : ∀ (k i : Nat), i + k = N → ∀ (p : List S166) (m r : List Int) (a3 a4 a5 a6 a7 a8 a9 a10 : Int) (h : List Int) (a12 : Int) (y0 : List S166) (y1 y2 : List Int) (y3 y4 y5 y6 y7 y8 y9 y10 : Int) (y11 : List Int) (y12 : Int), okNode p m r a3 a4 a5 a6 a7 a8 a9 a10 h a12 = true → r.length ≤ 100 →
    ∃ t, lp impl_ticks.tree (.c2 p m r a3 a4 a5 a6 a7 a8 a9 a10 h a12 x13 (N : Int) x15 y0 y1 y2 y3 y4 y5 y6 y7 y8 y9 y10 y11 y12 (N : Int) (i : Int)) = some t ∧ ActR r t := by
  intro k
  induction k with
  | zero =>
    intro i hi p m r a3 a4 a5 a6 a7 a8 a9 a10 h a12 y0 y1 y2 y3 y4 y5 y6 y7 y8 y9 y10 y11 y12 hn hr
    have q : decide ((i : Int) < (N : Int)) = false := decide_eq_false (by omega)
    rw [lp_eq]
    simp only [impl_ticks.tree, Tr.do_ite, Tr.do_both, Tr.do_last, Tr.do_ret, q, Bool.false_eq_true, ↓reduceIte, both_same]
    have ha := (okNode_view.mp hn).2.2.2.2.2.2.2
    exact ⟨_, rfl, hn, hr, by show -1 ≤ a12 ∧ a12 ≤ 2000000; omega⟩
  | succ k ih =>
    intro i hi p m r a3 a4 a5 a6 a7 a8 a9 a10 h a12 y0 y1 y2 y3 y4 y5 y6 y7 y8 y9 y10 y11 y12 hn hr
    have q : decide ((i : Int) < (N : Int)) = true := decide_eq_true (by omega)
    obtain ⟨m', b3, b4, b12, hT, hd, hN', e⟩ := tick_ok x15 hn (by omega) hx
    have ha := (okNode_view.mp hn).2.2.2.2.2.2.2
    rw [lp_eq]
    cases hb : (inB b3 0 400000 && inB b12 0 100000) with
    | false =>
      rw [hb] at e
      simp only [Bool.false_eq_true, ↓reduceIte] at e
      simp only [impl_ticks.tree, Tr.do_ite, Tr.do_both, Tr.do_last, Tr.do_call, Tr.do_ret, q, impl_TickNode.told, e, bind_ok, Bool.not_false, ↓reduceIte, both_same]
      exact ⟨_, rfl, hn, hr, by show -1 ≤ a12 ∧ a12 ≤ 2000000; omega⟩
    | true =>
      rw [hb] at e hN'
      simp only [↓reduceIte] at e
      obtain ⟨t, et, ht⟩ := ih (i + 1) (by omega) p m' r b3 b4 a5 a6 a7 (onward a8) (onward a9) a10 h b12 y0 y1 y2 y3 y4 y5 y6 y7 y8 y9 y10 y11 y12 hN' hr
      refine ⟨t, ?_, ht⟩
      simp only [impl_ticks.tree, Tr.do_ite, Tr.do_both, Tr.do_last, Tr.do_call, Tr.do_jump, q, impl_TickNode.told, e, bind_ok, Bool.not_true, Bool.false_eq_true, ↓reduceIte, wr_next (show i < 4611686018427387904 by omega)]
      exact et
theorem impl_ActOk_ok (a b c : Int) : ∃ v, impl_ActOk.f a b c = some v ∧ (v = true → (a = 1 ∧ (1 ≤ b ∧ b ≤ 50) ∧ 0 ≤ c ∧ c ≤ 1000) ∨ (a = 2 ∧ 0 ≤ b ∧ b ≤ c ∧ c ≤ 10000) ∨ (a = 3 ∧ 0 ≤ b ∧ b ≤ 24) ∨ (a = 4 ∧ okSpan b c = true) ∨ (a = 5 ∧ isVal b = true)) := by
  simp only [impl_ActOk.f, impl_ActOk.begin, Tr.do_ite, Tr.do_call, Tr.do_ret, impl_within.told, impl_within_f, impl_isHarvest.told, impl_isHarvest.f, impl_isHarvest.begin, impl_SpanOk.told, impl_SpanOk_f, impl_IsValue.told, impl_IsValue_f, bind_ok]
  by_cases q1 : a = 1
  · subst q1
    cases h1 : inB b 1 50 with
    | false => exact ⟨false, rfl, fun h => by cases h⟩
    | true =>
      refine ⟨inB c 0 1000, rfl, fun h => Or.inl ⟨rfl, inB_iff.mp h1, inB_iff.mp h⟩⟩
  · by_cases q2 : a = 2
    · subst q2
      by_cases h1 : b ≥ 0
      · by_cases h2 : b ≤ c
        · refine ⟨decide (c ≤ 10000), ?_, fun h => Or.inr (Or.inl ⟨rfl, h1, h2, of_decide_eq_true h⟩)⟩
          simp [h1, h2]
        · exact ⟨false, by simp [h1, h2], fun h => by cases h⟩
      · exact ⟨false, by simp [h1], fun h => by cases h⟩
    · by_cases q3 : a = 3
      · subst q3
        cases h1 : inB b 0 24 with
        | false => exact ⟨false, rfl, fun h => by cases h⟩
        | true => exact ⟨inB c 0 1, rfl, fun h => Or.inr (Or.inr (Or.inl ⟨rfl, inB_iff.mp h1⟩))⟩
      · by_cases q4 : a = 4
        · subst q4
          exact ⟨okSpan b c, rfl, fun h => Or.inr (Or.inr (Or.inr (Or.inl ⟨rfl, h⟩)))⟩
        · by_cases q5 : a = 5
          · subst q5
            cases h1 : isVal b with
            | false => exact ⟨false, rfl, fun h => by cases h⟩
            | true => exact ⟨decide (c = 0), rfl, fun h => Or.inr (Or.inr (Or.inr (Or.inr ⟨rfl, rfl⟩)))⟩
          · exact ⟨false, by simp [q1, q2, q3, q4, q5], fun h => by cases h⟩
theorem okNode_span (p : List S166) (m r : List Int) (a3 a4 a5 a6 a7 a8 a9 a10 : Int) (h_ : List Int) (a12 : Int) (b8 b9 : Int) (hn : okNode p m r a3 a4 a5 a6 a7 a8 a9 a10 h_ a12 = true) (h : okSpan b8 b9 = true) : okNode p m r a3 a4 a5 a6 a7 b8 b9 a10 h_ a12 = true := by
  obtain ⟨q1, q2, q3, q4, q5, q6, q7, q8⟩ := okNode_view.mp hn
  exact okNode_view.mpr ⟨q1, q2, q3, q4, q5, h, q7, q8⟩
theorem impl_PassOff_ok (a b c d : Int) (h : okSpan a b = true) (g : okSpan c d = true) : ∃ x y, impl_PassOff.f a b c d = some (x, y) ∧ okSpan x y = true := by
  obtain ⟨h0, h1, h2⟩ := okSpan_view.mp h
  obtain ⟨g0, g1, g2⟩ := okSpan_view.mp g
  have w1 : wr (a + c) = a + c := wr_in (by omega)
  have w2 : wr (b + d) = b + d := wr_in (by omega)
  simp only [impl_PassOff.f, impl_PassOff.begin, Tr.do_call, Tr.do_ite, Tr.do_ret, impl_SpanOk.told, impl_SpanOk_f, h, g, bind_ok, Bool.not_true, Bool.false_eq_true, ↓reduceIte, w1, w2]
  refine ⟨_, _, rfl, okSpan_view.mpr ?_⟩
  split <;> split <;> omega
theorem impl_Uncertainty_ok (a b : Int) (h : okSpan a b = true) : ∃ x : Int, impl_Uncertainty.f a b = some x ∧ 0 ≤ x ∧ x ≤ 1000000 := by
  obtain ⟨h0, h1, h2⟩ := okSpan_view.mp h
  have w1 : wr (b - a) = b - a := wr_in (by omega)
  simp only [impl_Uncertainty.f, impl_Uncertainty.begin, Tr.do_call, Tr.do_ite, Tr.do_ret, impl_SpanOk.told, impl_SpanOk_f, h, bind_ok, Bool.not_true, Bool.false_eq_true, ↓reduceIte, w1]
  exact ⟨_, rfl, by omega, by omega⟩
theorem impl_Synchronize_ok (a b c d : Int) (h : okSpan a b = true) : ∃ x y z, impl_Synchronize.f a b c d = some (x, y, z) ∧ okSpan x y = true := by
  simp only [impl_Synchronize.f, impl_Synchronize.begin, Tr.do_call, Tr.do_ite, Tr.do_ret, impl_SpanOk.told, impl_SpanOk_f, h, bind_ok, Bool.not_true, Bool.false_eq_true, ↓reduceIte]
  cases hg : okSpan c d with
  | false => exact ⟨_, _, _, rfl, h⟩
  | true =>
    simp only [Bool.not_true, Bool.false_eq_true, ↓reduceIte]
    cases hx : okSpan (if c > a then c else a) (if d < b then d else b) with
    | false => exact ⟨_, _, _, rfl, h⟩
    | true => exact ⟨_, _, _, rfl, hx⟩
set_option maxHeartbeats 4000000 in
theorem impl_do_ok (p : List S166) (m r : List Int) (a3 a4 a5 a6 a7 a8 a9 a10 : Int) (h : List Int) (a12 : Int) (x y z : Int) (hn : okNode p m r a3 a4 a5 a6 a7 a8 a9 a10 h a12 = true) (hr : r.length ≤ 100)
    (hx : (x = 1 ∧ (1 ≤ y ∧ y ≤ 50) ∧ 0 ≤ z ∧ z ≤ 1000) ∨ (x = 2 ∧ 0 ≤ y ∧ y ≤ z ∧ z ≤ 10000) ∨ (x = 3 ∧ 0 ≤ y ∧ y ≤ 24) ∨ (x = 4 ∧ okSpan y z = true) ∨ (x = 5 ∧ isVal y = true)) :
    ∃ t, impl_do.f p m r a3 a4 a5 a6 a7 a8 a9 a10 h a12 x y z = some t ∧ ActR r t := by
  obtain ⟨v1, v2, v3, v4, v5, v6, v7, v8⟩ := okNode_view.mp hn
  have hml : m.length ≤ 1048576 := by have := (okMem_parts v2).1; omega
  have hs255 : ∀ (m' : List Int) (k : Int) (h' : List Int), okMem p.length m' = true → h' <+: memSent m' → h'.length ≤ 1048576 := fun m' k h' hm' hh => Nat.le_trans hh.length_le (memSent_le m' _ (by have := (okMem_parts hm').1; omega))
  rcases hx with ⟨rfl, hy, hz⟩ | ⟨rfl, hy0, hy1, hy2⟩ | ⟨rfl, hy⟩ | ⟨rfl, hy⟩ | ⟨rfl, hy⟩
  · obtain ⟨N, rfl⟩ : ∃ N : Nat, y = N := ⟨y.toNat, by omega⟩
    obtain ⟨t, et, ht⟩ := impl_ticks_ok 1 z N (by omega) hz N 0 (by omega) p m r a3 a4 a5 a6 a7 a8 a9 a10 h a12 [] [] [] 0 0 0 0 0 0 0 0 [] 0 hn hr
    have et' : impl_ticks.f p m r a3 a4 a5 a6 a7 a8 a9 a10 h a12 1 (N : Int) z = some t := et
    refine ⟨t, ?_, ht⟩
    simp only [impl_do.f, impl_do.begin, Tr.do_ite, Tr.do_call, Tr.do_ret, decide_true, ↓reduceIte, impl_ticks.told, et', bind_ok]
  · obtain ⟨s8, s9, e1, h1⟩ := impl_PassOff_ok a8 a9 y z v6 (okSpan_view.mpr ⟨hy0, hy1, by omega⟩)
    obtain ⟨u, e2, h2, h3⟩ := impl_Uncertainty_ok s8 s9 h1
    refine ⟨(p, m, r, a3, a4, a5, a6, a7, s8, s9, a10, h, a12, u), ?_, okNode_span p m r a3 a4 a5 a6 a7 a8 a9 a10 h a12 s8 s9 hn h1, hr, ?_⟩
    · simp only [impl_do.f, impl_do.begin, Tr.do_ite, Tr.do_last, Tr.do_call, Tr.do_ret, show decide ((2 : Int) = 1) = false from rfl, decide_true, Bool.false_eq_true, ↓reduceIte, impl_PassOff.told, e1, impl_Uncertainty.told, e2, bind_ok]
    · show -1 ≤ u ∧ u ≤ 2000000; omega
  · obtain ⟨N, rfl⟩ : ∃ N : Nat, y = N := ⟨y.toNat, by omega⟩
    obtain ⟨l, el, hl⟩ := slices_Repeat_bool_ok N (by omega)
    obtain ⟨x', h', hok, e⟩ := uplink_ok p m r a3 a4 a5 a6 a7 a8 a9 a10 h a12 l (decide (z = 1)) hn (by omega) (by omega)
    obtain ⟨q1, q2, q3, q4, q5, q6, q7, q8⟩ := okNode_view.mp hok
    have e9 : lp impl_do.tree (.c9 p m r a3 a4 a5 a6 a7 a8 a9 x' h' a12 [] [] [] 0 0 0 0 0 0 0 0 [] 0) = some (p, m, r, a3, a4, a5, a6, a7, a8, a9, x', h', a12, (h'.length : Int)) := by
      rw [lp_eq]
      simp only [impl_do.tree, Tr.do_both, Tr.do_last, Tr.do_ret, both_same]
    refine ⟨(p, m, r, a3, a4, a5, a6, a7, a8, a9, x', h', a12, (h'.length : Int)), ?_, hok, hr, ?_⟩
    · simp only [impl_do.f, impl_do.begin, Tr.do_ite, Tr.do_last, Tr.do_both, Tr.do_call, Tr.do_ret, Tr.do_jump, show decide ((3 : Int) = 1) = false from rfl, show decide ((3 : Int) = 2) = false from rfl, decide_true, Bool.false_eq_true, ↓reduceIte, slices_Repeat_bool.told, el, impl_Uplink.told, e, bind_ok, both_same, e9]
    · have := hs255 m 0 h' q2 q7.2
      show -1 ≤ (h'.length : Int) ∧ (h'.length : Int) ≤ 2000000; omega
  · obtain ⟨s8, s9, b, e1, h1⟩ := impl_Synchronize_ok a8 a9 y z v6
    refine ⟨(p, m, r, a3, a4, a5, a6, a7, s8, s9, a10, h, a12, bt01 b), ?_, okNode_span p m r a3 a4 a5 a6 a7 a8 a9 a10 h a12 s8 s9 hn h1, hr, ?_⟩
    · simp only [impl_do.f, impl_do.begin, Tr.do_ite, Tr.do_last, Tr.do_call, Tr.do_ret, show decide ((4 : Int) = 1) = false from rfl, show decide ((4 : Int) = 2) = false from rfl, show decide ((4 : Int) = 3) = false from rfl, decide_true, Bool.false_eq_true, ↓reduceIte, impl_Synchronize.told, e1, impl_bit.told, impl_bit_f, bind_ok]
    · show -1 ≤ bt01 b ∧ bt01 b ≤ 2000000; cases b <;> decide
  · by_cases ql : (r.length : Int) < 100
    · refine ⟨(p, m, r ++ [y], a3, a4, a5, a6, a7, a8, a9, a10, h, a12, ((r ++ [y]).length : Int)), ?_, okNode_view.mpr ⟨v1, v2, v3, by rw [List.all_append, v4]; simp [hy], v5, v6, v7, v8⟩, by show (r ++ [y]).length ≤ 100; rw [List.length_append, List.length_singleton]; omega, by show -1 ≤ ((r ++ [y]).length : Int) ∧ ((r ++ [y]).length : Int) ≤ 2000000; rw [List.length_append, List.length_singleton]; omega⟩
      simp only [impl_do.f, impl_do.begin, Tr.do_ite, Tr.do_last, Tr.do_both, Tr.do_need, Tr.do_ret, show decide ((5 : Int) = 1) = false from rfl, show decide ((5 : Int) = 2) = false from rfl, show decide ((5 : Int) = 3) = false from rfl, show decide ((5 : Int) = 4) = false from rfl, Bool.false_eq_true, ↓reduceIte, decide_eq_true ql, one_fits r y 1048576 (by omega) (by omega) 8 (by omega), both_same]
    · refine ⟨(p, m, r, a3, a4, a5, a6, a7, a8, a9, a10, h, a12, (r.length : Int)), ?_, hn, hr, by show -1 ≤ (r.length : Int) ∧ (r.length : Int) ≤ 2000000; omega⟩
      simp only [impl_do.f, impl_do.begin, Tr.do_ite, Tr.do_last, Tr.do_both, Tr.do_ret, show decide ((5 : Int) = 1) = false from rfl, show decide ((5 : Int) = 2) = false from rfl, show decide ((5 : Int) = 3) = false from rfl, show decide ((5 : Int) = 4) = false from rfl, Bool.false_eq_true, ↓reduceIte, decide_eq_false ql, both_same]
theorem impl_DoAct_ok (p : List S166) (m r : List Int) (a3 a4 a5 a6 a7 a8 a9 a10 : Int) (h : List Int) (a12 : Int) (x y z : Int) (hn : okNode p m r a3 a4 a5 a6 a7 a8 a9 a10 h a12 = true) (hr : r.length ≤ 100) : ∃ t, impl_DoAct.f p m r a3 a4 a5 a6 a7 a8 a9 a10 h a12 x y z = some t ∧ ActR r t := by
  obtain ⟨v1, v2, v3, v4, v5, v6, v7, v8⟩ := okNode_view.mp hn
  obtain ⟨p6, p1, hs⟩ := okP_sizes v1
  have hml : m.length ≤ 1048576 := by have := (okMem_parts v2).1; omega
  have hhl : h.length ≤ 1048576 := Nat.le_trans v7.2.length_le (memSent_le m _ hml)
  have e1 := impl_copyNode_f p m r a3 a4 a5 a6 a7 a8 a9 a10 h a12 (by omega) hs hml (by omega) hhl
  have e2 := impl_NodeOk_f p m r a3 a4 a5 a6 a7 a8 a9 a10 h a12 (by omega) hs hml (by omega) hhl
  rw [hn] at e2
  obtain ⟨v, e3, hv⟩ := impl_ActOk_ok x y z
  cases v with
  | false =>
    refine ⟨(p, m, r, a3, a4, a5, a6, a7, a8, a9, a10, h, a12, -1), ?_, hn, hr, by show (-1 : Int) ≤ -1 ∧ (-1 : Int) ≤ 2000000; omega⟩
    simp only [impl_DoAct.f, impl_DoAct.begin, Tr.do_ite, Tr.do_call, Tr.do_ret, impl_NodeOk.told, e2, impl_ActOk.told, e3, impl_copyNode.told, e1, bind_ok, Bool.not_true, Bool.not_false, Bool.false_eq_true, ↓reduceIte]
  | true =>
    obtain ⟨t, e4, ht⟩ := impl_do_ok p m r a3 a4 a5 a6 a7 a8 a9 a10 h a12 x y z hn hr (hv rfl)
    refine ⟨t, ?_, ht⟩
    simp only [impl_DoAct.f, impl_DoAct.begin, Tr.do_ite, Tr.do_last, Tr.do_call, Tr.do_ret, impl_NodeOk.told, e2, impl_ActOk.told, e3, impl_copyNode.told, e1, bind_ok, Bool.not_true, Bool.false_eq_true, ↓reduceIte, impl_do.told, e4]
abbrev Nd := List S166 × List Int × List Int × Int × Int × Int × Int × Int × Int × Int × Int × List Int × Int
def okNd (d : Nd) : Prop := okNode d.1 d.2.1 d.2.2.1 d.2.2.2.1 d.2.2.2.2.1 d.2.2.2.2.2.1 d.2.2.2.2.2.2.1 d.2.2.2.2.2.2.2.1 d.2.2.2.2.2.2.2.2.1 d.2.2.2.2.2.2.2.2.2.1 d.2.2.2.2.2.2.2.2.2.2.1 d.2.2.2.2.2.2.2.2.2.2.2.1 d.2.2.2.2.2.2.2.2.2.2.2.2 = true ∧ d.2.2.1.length ≤ 100
/-- A scenario behind one more act. -/
noncomputable def actStep (s : Nd × List Int) (a : S160) : Nd × List Int := match impl_DoAct.f s.1.1 s.1.2.1 s.1.2.2.1 s.1.2.2.2.1 s.1.2.2.2.2.1 s.1.2.2.2.2.2.1 s.1.2.2.2.2.2.2.1 s.1.2.2.2.2.2.2.2.1 s.1.2.2.2.2.2.2.2.2.1 s.1.2.2.2.2.2.2.2.2.2.1 s.1.2.2.2.2.2.2.2.2.2.2.1 s.1.2.2.2.2.2.2.2.2.2.2.2.1 s.1.2.2.2.2.2.2.2.2.2.2.2.2 a.f0 a.f1 a.f2 with
  | some t => ((t.1, t.2.1, t.2.2.1, t.2.2.2.1, t.2.2.2.2.1, t.2.2.2.2.2.1, t.2.2.2.2.2.2.1, t.2.2.2.2.2.2.2.1, t.2.2.2.2.2.2.2.2.1, t.2.2.2.2.2.2.2.2.2.1, t.2.2.2.2.2.2.2.2.2.2.1, t.2.2.2.2.2.2.2.2.2.2.2.1, t.2.2.2.2.2.2.2.2.2.2.2.2.1), s.2 ++ [t.2.2.2.2.2.2.2.2.2.2.2.2.2])
  | none => s
noncomputable def runActs (d : Nd) (l : List S160) : Nd × List Int := l.foldl actStep (d, [])
def RunA (k : Nat) (s : Nd × List Int) : Prop := okNd s.1 ∧ s.2.length = k ∧ ∀ x ∈ s.2, -1 ≤ x ∧ x ≤ 2000000
theorem actStep_ok {k : Nat} {s : Nd × List Int} (a : S160) (hs : RunA k s) : ∃ t, impl_DoAct.f s.1.1 s.1.2.1 s.1.2.2.1 s.1.2.2.2.1 s.1.2.2.2.2.1 s.1.2.2.2.2.2.1 s.1.2.2.2.2.2.2.1 s.1.2.2.2.2.2.2.2.1 s.1.2.2.2.2.2.2.2.2.1 s.1.2.2.2.2.2.2.2.2.2.1 s.1.2.2.2.2.2.2.2.2.2.2.1 s.1.2.2.2.2.2.2.2.2.2.2.2.1 s.1.2.2.2.2.2.2.2.2.2.2.2.2 a.f0 a.f1 a.f2 = some t ∧ actStep s a = ((t.1, t.2.1, t.2.2.1, t.2.2.2.1, t.2.2.2.2.1, t.2.2.2.2.2.1, t.2.2.2.2.2.2.1, t.2.2.2.2.2.2.2.1, t.2.2.2.2.2.2.2.2.1, t.2.2.2.2.2.2.2.2.2.1, t.2.2.2.2.2.2.2.2.2.2.1, t.2.2.2.2.2.2.2.2.2.2.2.1, t.2.2.2.2.2.2.2.2.2.2.2.2.1), s.2 ++ [t.2.2.2.2.2.2.2.2.2.2.2.2.2]) ∧ RunA (k + 1) (actStep s a) := by
  obtain ⟨t, et, h1, h2, h3⟩ := impl_DoAct_ok s.1.1 s.1.2.1 s.1.2.2.1 s.1.2.2.2.1 s.1.2.2.2.2.1 s.1.2.2.2.2.2.1 s.1.2.2.2.2.2.2.1 s.1.2.2.2.2.2.2.2.1 s.1.2.2.2.2.2.2.2.2.1 s.1.2.2.2.2.2.2.2.2.2.1 s.1.2.2.2.2.2.2.2.2.2.2.1 s.1.2.2.2.2.2.2.2.2.2.2.2.1 s.1.2.2.2.2.2.2.2.2.2.2.2.2 a.f0 a.f1 a.f2 hs.1.1 hs.1.2
  have e : actStep s a = ((t.1, t.2.1, t.2.2.1, t.2.2.2.1, t.2.2.2.2.1, t.2.2.2.2.2.1, t.2.2.2.2.2.2.1, t.2.2.2.2.2.2.2.1, t.2.2.2.2.2.2.2.2.1, t.2.2.2.2.2.2.2.2.2.1, t.2.2.2.2.2.2.2.2.2.2.1, t.2.2.2.2.2.2.2.2.2.2.2.1, t.2.2.2.2.2.2.2.2.2.2.2.2.1), s.2 ++ [t.2.2.2.2.2.2.2.2.2.2.2.2.2]) := by unfold actStep; rw [et]
  refine ⟨t, et, e, ?_⟩
  rw [e]
  refine ⟨⟨h1, h2⟩, by show (s.2 ++ [t.2.2.2.2.2.2.2.2.2.2.2.2.2]).length = k + 1; rw [List.length_append, List.length_singleton, hs.2.1], fun x hx => ?_⟩
  rcases List.mem_append.mp hx with hx | hx
  · exact hs.2.2 x hx
  · rw [List.mem_singleton] at hx; rw [hx]; exact h3
theorem fold_acts : ∀ (l : List S160) (k : Nat) (s : Nd × List Int), RunA k s → RunA (k + l.length) (l.foldl actStep s)
  | [], k, s, hs => hs
  | a :: l, k, s, hs => by
    obtain ⟨_, _, _, h⟩ := actStep_ok a hs
    have := fold_acts l (k + 1) _ h
    rw [List.length_cons, show k + (l.length + 1) = k + 1 + l.length by omega]
    exact this
theorem impl_RunActs_f (d : Nd) (l : List S160) (hd : okNd d) (hl : l.length ≤ 30) : impl_RunActs.f d.1 d.2.1 d.2.2.1 d.2.2.2.1 d.2.2.2.2.1 d.2.2.2.2.2.1 d.2.2.2.2.2.2.1 d.2.2.2.2.2.2.2.1 d.2.2.2.2.2.2.2.2.1 d.2.2.2.2.2.2.2.2.2.1 d.2.2.2.2.2.2.2.2.2.2.1 d.2.2.2.2.2.2.2.2.2.2.2.1 d.2.2.2.2.2.2.2.2.2.2.2.2 l = some ((runActs d l).1.1, (runActs d l).1.2.1, (runActs d l).1.2.2.1, (runActs d l).1.2.2.2.1, (runActs d l).1.2.2.2.2.1, (runActs d l).1.2.2.2.2.2.1, (runActs d l).1.2.2.2.2.2.2.1, (runActs d l).1.2.2.2.2.2.2.2.1, (runActs d l).1.2.2.2.2.2.2.2.2.1, (runActs d l).1.2.2.2.2.2.2.2.2.2.1, (runActs d l).1.2.2.2.2.2.2.2.2.2.2.1, (runActs d l).1.2.2.2.2.2.2.2.2.2.2.2.1, (runActs d l).1.2.2.2.2.2.2.2.2.2.2.2.2, (runActs d l).2) := by
  have v := okNode_view.mp hd.1
  obtain ⟨p6, p1, hs⟩ := okP_sizes v.1
  have hml : d.2.1.length ≤ 1048576 := by have := (okMem_parts v.2.1).1; omega
  have hhl : d.2.2.2.2.2.2.2.2.2.2.2.1.length ≤ 1048576 := Nat.le_trans v.2.2.2.2.2.2.1.2.length_le (memSent_le _ _ hml)
  have hr := hd.2
  have e1 := impl_copyNode_f d.1 d.2.1 d.2.2.1 d.2.2.2.1 d.2.2.2.2.1 d.2.2.2.2.2.1 d.2.2.2.2.2.2.1 d.2.2.2.2.2.2.2.1 d.2.2.2.2.2.2.2.2.1 d.2.2.2.2.2.2.2.2.2.1 d.2.2.2.2.2.2.2.2.2.2.1 d.2.2.2.2.2.2.2.2.2.2.2.1 d.2.2.2.2.2.2.2.2.2.2.2.2 (by omega) hs hml (by omega) hhl
  have e2 := impl_NodeOk_f d.1 d.2.1 d.2.2.1 d.2.2.2.1 d.2.2.2.2.1 d.2.2.2.2.2.1 d.2.2.2.2.2.2.1 d.2.2.2.2.2.2.2.1 d.2.2.2.2.2.2.2.2.1 d.2.2.2.2.2.2.2.2.2.1 d.2.2.2.2.2.2.2.2.2.2.1 d.2.2.2.2.2.2.2.2.2.2.2.1 d.2.2.2.2.2.2.2.2.2.2.2.2 (by omega) hs hml (by omega) hhl
  rw [hd.1] at e2
  have hg : decide ((l.length : Int) > 30) = false := decide_eq_false (by omega)
  have key := fold_loop l actStep (fun s => (s.1.1, s.1.2.1, s.1.2.2.1, s.1.2.2.2.1, s.1.2.2.2.2.1, s.1.2.2.2.2.2.1, s.1.2.2.2.2.2.2.1, s.1.2.2.2.2.2.2.2.1, s.1.2.2.2.2.2.2.2.2.1, s.1.2.2.2.2.2.2.2.2.2.1, s.1.2.2.2.2.2.2.2.2.2.2.1, s.1.2.2.2.2.2.2.2.2.2.2.2.1, s.1.2.2.2.2.2.2.2.2.2.2.2.2, s.2)) (fun i s => RunA i s) (fun i s => lp impl_RunActs.tree (.c6 [] [] [] 0 0 0 0 0 0 0 0 [] 0 s.1.1 s.1.2.1 s.1.2.2.1 s.1.2.2.2.1 s.1.2.2.2.2.1 s.1.2.2.2.2.2.1 s.1.2.2.2.2.2.2.1 s.1.2.2.2.2.2.2.2.1 s.1.2.2.2.2.2.2.2.2.1 s.1.2.2.2.2.2.2.2.2.2.1 s.1.2.2.2.2.2.2.2.2.2.2.1 s.1.2.2.2.2.2.2.2.2.2.2.2.1 s.1.2.2.2.2.2.2.2.2.2.2.2.2 s.2 l (l.length : Int) (i : Int))) (d, []) ⟨hd, rfl, by simp⟩ (fun i h s hs' => by
    obtain ⟨t, et, est, hR⟩ := actStep_ok l[i] hs'
    refine ⟨?_, hR⟩
    have hlen := hs'.2.1
    rw [lp_eq, est]
    simp only [impl_RunActs.tree, Tr.do_ite, Tr.do_need, Tr.do_call, Tr.do_jump, lt_dec h, in_lt h, getD_lt h, and_self, decide_true, ↓reduceIte, impl_DoAct.told, et, bind_ok, one_fits s.2 _ 1048576 (by omega) (by omega) 8 (by omega), wr_next (show i < 4611686018427387904 by omega)]) (fun s hs' => by
    rw [lp_eq]
    simp only [impl_RunActs.tree, Tr.do_ite, Tr.do_ret, ge_dec, Bool.false_eq_true, ↓reduceIte])
  simp only [impl_RunActs.f, impl_RunActs.begin, Tr.do_call, Tr.do_ite, Tr.do_jump, Tr.do_ret, impl_copyNode.told, e1, impl_NodeOk.told, e2, bind_ok, Bool.not_true, Bool.false_eq_true, ↓reduceIte, hg]
  exact key
theorem spec_l38Act_ok {b : List Int} {i : Int} (h : Int) (c : Cur b i) : ∃ x y z i' h', spec_l38Act.f b i h = some (x, y, z, b, i', h') ∧ Cur b i' := by
  obtain ⟨x1, i1, j1, e1, a1, b1, c1⟩ := spec_l01Below_ok 7 h (by omega) c
  simp only [spec_l38Act.f, spec_l38Act.begin, Tr.do_call, Tr.do_ite, Tr.do_ret, spec_l01Below.told, e1, bind_ok]
  obtain ⟨x2, i2, j2, e2, a2, b2, c2⟩ := spec_l01Below_ok 20 j1 (by omega) c1
  obtain ⟨x3, i3, j3, e3, a3, b3, c3⟩ := spec_l01Below_ok 9 j2 (by omega) c2
  obtain ⟨x4, i4, j4, e4, a4, b4, c4⟩ := spec_l01Below_ok 5 j1 (by omega) c1
  obtain ⟨x5, i5, j5, e5, a5, b5, c5⟩ := spec_l01Below_ok 2 j4 (by omega) c4
  obtain ⟨x6, i6, j6, e6, a6, b6, c6⟩ := spec_l01Below_ok 60 j1 (by omega) c1
  obtain ⟨x7, i7, j7, e7, a7, b7, c7⟩ := spec_l01Below_ok 40 j6 (by omega) c6
  obtain ⟨x8, i8, j8, e8, a8, b8, c8⟩ := spec_l01Below_ok 900 j1 (by omega) c1
  obtain ⟨x9, i9, j9, e9, a9, b9, c9⟩ := spec_l01Below_ok 6 j1 (by omega) c1
  obtain ⟨y1, k1, l1, f1, g1, d1⟩ := spec_l01PickInt_ok [0, 10, 60, 300] j9 (fun _ => True) (by decide) (fun _ _ => trivial) c9
  simp only [e2, e3, e4, e5, e6, e7, e8, e9, spec_l01PickInt.told, f1, bind_ok]
  by_cases q0 : x1 = 0
  · simp only [decide_eq_true q0, ↓reduceIte]; exact ⟨_, _, _, _, _, rfl, c3⟩
  · by_cases q1 : x1 = 1
    · simp only [decide_eq_false q0, decide_eq_true q1, Bool.false_eq_true, ↓reduceIte]; exact ⟨_, _, _, _, _, rfl, c5⟩
    · by_cases q2 : x1 = 2
      · simp only [decide_eq_false q0, decide_eq_false q1, decide_eq_true q2, Bool.false_eq_true, ↓reduceIte]; exact ⟨_, _, _, _, _, rfl, c5⟩
      · by_cases q3 : x1 = 3
        · simp only [decide_eq_false q0, decide_eq_false q1, decide_eq_false q2, decide_eq_true q3, Bool.false_eq_true, ↓reduceIte]; exact ⟨_, _, _, _, _, rfl, c7⟩
        · by_cases q4 : x1 = 4
          · simp only [decide_eq_false q0, decide_eq_false q1, decide_eq_false q2, decide_eq_false q3, decide_eq_true q4, Bool.false_eq_true, ↓reduceIte]; exact ⟨_, _, _, _, _, rfl, c8⟩
          · simp only [decide_eq_false q0, decide_eq_false q1, decide_eq_false q2, decide_eq_false q3, decide_eq_false q4, Bool.false_eq_true, ↓reduceIte]; exact ⟨_, _, _, _, _, rfl, d1⟩
theorem spec_l38Acts_ok {b : List Int} {i : Int} (h : Int) (c : Cur b i) : ∃ l i' h', spec_l38Acts.f b i h = some (l, b, i', h') ∧ l.length ≤ 7 ∧ Cur b i' := by
  have key := upto 7 (fun k (s : List S160 × Int × Int) => s.1.length = k ∧ Cur b s.2.1) (fun k s => lp spec_l38Acts.tree (.c3 s.1 (k : Int) b s.2.1 s.2.2)) (fun r => ∃ l i' h', r = (l, b, i', h') ∧ l.length ≤ 7 ∧ Cur b i') (fun k hk s hs => by
    obtain ⟨s1, s2, s3⟩ := s
    obtain ⟨hl, hc⟩ := hs
    simp only at hl hc
    rw [lp_eq]
    obtain ⟨x1, i1, j1, e1, a1, b1, c1⟩ := spec_l01Below_ok 7 s3 (by omega) hc
    by_cases q : (k : Int) < x1
    · obtain ⟨x, y, z, i2, j2, e2, c2⟩ := spec_l38Act_ok j1 c1
      refine Or.inr ⟨by omega, (s1 ++ [(⟨x, y, z⟩ : S160)], i2, j2), ?_, by simp [hl], c2⟩
      simp only [spec_l38Acts.tree, Tr.do_call, Tr.do_ite, Tr.do_need, Tr.do_jump, spec_l01Below.told, e1, spec_l38Act.told, e2, bind_ok, decide_eq_true q, one_fits s1 _ 1048576 (by omega) (by omega) 24 (by omega), ↓reduceIte, wr_next (show k < 4611686018427387904 by omega)]
    · refine Or.inl ⟨(s1, b, i1, j1), ?_, s1, i1, j1, rfl, by omega, c1⟩
      simp only [spec_l38Acts.tree, Tr.do_call, Tr.do_ite, Tr.do_ret, spec_l01Below.told, e1, bind_ok, decide_eq_false q, Bool.false_eq_true, ↓reduceIte]) 0 (by omega) ([], i, h) ⟨rfl, c⟩
  obtain ⟨r, e, l, i', h', rfl, p⟩ := key
  exact ⟨l, i', h', e, p⟩
set_option maxHeartbeats 2000000 in
theorem spec_DrawActs_ok (b : List Int) (hb : b.length ≤ 1048576) : ∃ (d : Nd) (l : List S160), spec_DrawActs.f b = some (d.1, d.2.1, d.2.2.1, d.2.2.2.1, d.2.2.2.2.1, d.2.2.2.2.2.1, d.2.2.2.2.2.2.1, d.2.2.2.2.2.2.2.1, d.2.2.2.2.2.2.2.2.1, d.2.2.2.2.2.2.2.2.2.1, d.2.2.2.2.2.2.2.2.2.2.1, d.2.2.2.2.2.2.2.2.2.2.2.1, d.2.2.2.2.2.2.2.2.2.2.2.2, l) ∧ okNd d ∧ l.length ≤ 7 := by
  obtain ⟨h, e1⟩ := spec_l01New_ok b hb
  obtain ⟨p, i2, j2, e2, hp, c2⟩ := spec_l06Program_ok (b := b) (i := 0) h ⟨hb, by omega⟩
  obtain ⟨v, i3, j3, e3, hv, hv8, c3⟩ := spec_l03Vars_ok j2 c2
  obtain ⟨rd, i4, j4, e4, hr, hr1, hr9, c4⟩ := spec_l12Readings_ok j3 c3
  obtain ⟨x, y, z, w, i5, j5, e5, hst, c5⟩ := spec_l19Store_ok j4 c4
  obtain ⟨l, i6, j6, e6, hl, c6⟩ := spec_l38Acts_ok j5 c5
  obtain ⟨m1, m2, m3⟩ := memNew_ok (n := p.length) hv hv8 hp.2.1
  obtain ⟨p6, p1, hs⟩ := okP_sizes hp.1
  have e7 : spec_NodeNew.f p v rd x y z w = some (p, v ++ List.replicate 41 0, rd, 0, x, y, z, w, 0, 0, 0, [], 0, true) := by
    rw [spec_NodeNew_f p v rd x y z w (by omega) hs (by omega) (by omega)]
    unfold nodeNew
    rw [m1, hp.1, hst, hr]
    rfl
  have hn : okNode p (v ++ List.replicate 41 0) rd 0 x y z w 0 0 0 [] 0 = true := okNode_view.mpr ⟨hp.1, m2, hst, hr, by omega, rfl, ⟨by simp, List.nil_prefix⟩, by omega⟩
  have e8 : lp spec_DrawActs.tree (.c4 [] [] [] 0 0 0 0 0 0 0 0 [] 0 p (v ++ List.replicate 41 0) rd 0 x y z w 0 0 0 [] 0 b i5 j5) = some (p, v ++ List.replicate 41 0, rd, 0, x, y, z, w, 0, 0, 0, [], 0, l) := by
    rw [lp_eq]
    simp only [spec_DrawActs.tree, Tr.do_both, Tr.do_last, Tr.do_call, Tr.do_ret, spec_l38Acts.told, e6, bind_ok, both_same]
  refine ⟨(p, v ++ List.replicate 41 0, rd, 0, x, y, z, w, 0, 0, 0, [], 0), l, ?_, ⟨hn, by show rd.length ≤ 100; omega⟩, hl⟩
  simp only [spec_DrawActs.f, spec_DrawActs.begin, Tr.do_both, Tr.do_last, Tr.do_call, Tr.do_jump, spec_l01New.told, e1, spec_l06Program.told, e2, spec_l03Vars.told, e3, spec_l12Readings.told, e4, spec_l19Store.told, e5, spec_NodeNew.told, e7, bind_ok, both_same, e8]
/-! ### FnReplays -/
theorem slices_Equal_int_any (a b : List Int) (ha : a.length ≤ 1048576) : slices_Equal_int.f a b = some (decide (a = b)) := by
  by_cases h : a.length = b.length
  · exact slices_Equal_int_f a b ha h
  · have h1 : decide ((a.length : Int) = (b.length : Int)) = false := decide_eq_false (by omega)
    have hne : ¬ a = b := fun e => h (by rw [e])
    simp only [slices_Equal_int.f, slices_Equal_int.begin, Tr.do_ite, Tr.do_ret, h1, Bool.not_false, ↓reduceIte, decide_eq_false hne]
theorem impl_IsReplay_f (d : Nd) (l : List S160) (k : List Int) (hd : okNd d) (hl : l.length ≤ 30) : impl_IsReplay.f d.1 d.2.1 d.2.2.1 d.2.2.2.1 d.2.2.2.2.1 d.2.2.2.2.2.1 d.2.2.2.2.2.2.1 d.2.2.2.2.2.2.2.1 d.2.2.2.2.2.2.2.2.1 d.2.2.2.2.2.2.2.2.2.1 d.2.2.2.2.2.2.2.2.2.2.1 d.2.2.2.2.2.2.2.2.2.2.2.1 d.2.2.2.2.2.2.2.2.2.2.2.2 l k = some (decide ((runActs d l).2 = k)) := by
  have v := okNode_view.mp hd.1
  obtain ⟨p6, p1, hs⟩ := okP_sizes v.1
  have hml : d.2.1.length ≤ 1048576 := by have := (okMem_parts v.2.1).1; omega
  have hhl : d.2.2.2.2.2.2.2.2.2.2.2.1.length ≤ 1048576 := Nat.le_trans v.2.2.2.2.2.2.1.2.length_le (memSent_le _ _ hml)
  have hr := hd.2
  have e1 := impl_RunActs_f d l hd hl
  have e2 := impl_NodeOk_f d.1 d.2.1 d.2.2.1 d.2.2.2.1 d.2.2.2.2.1 d.2.2.2.2.2.1 d.2.2.2.2.2.2.1 d.2.2.2.2.2.2.2.1 d.2.2.2.2.2.2.2.2.1 d.2.2.2.2.2.2.2.2.2.1 d.2.2.2.2.2.2.2.2.2.2.1 d.2.2.2.2.2.2.2.2.2.2.2.1 d.2.2.2.2.2.2.2.2.2.2.2.2 (by omega) hs hml (by omega) hhl
  rw [hd.1] at e2
  have hR : RunA (0 + l.length) (runActs d l) := fold_acts l 0 (d, []) ⟨hd, rfl, by simp⟩
  have hlen := hR.2.1
  have hg : decide ((l.length : Int) ≤ 30) = true := decide_eq_true (by omega)
  have e3 := slices_Equal_int_any (runActs d l).2 k (by omega)
  simp only [impl_IsReplay.f, impl_IsReplay.begin, Tr.do_call, Tr.do_ite, Tr.do_ret, impl_RunActs.told, e1, impl_NodeOk.told, e2, bind_ok, hg, ↓reduceIte, slices_Equal_int.told, e3]
theorem FnReplays : laws_FnReplays.Pure := by
  intro b hb
  by_cases q : (b.length : Int) > 1048576
  · simp only [laws_FnReplays.f, laws_FnReplays.begin, Tr.do_call, Tr.do_ite, Tr.do_ret, laws_big.told, laws_big_f, bind_ok, decide_eq_true q, ↓reduceIte]
  · have hl : b.length ≤ 1048576 := by omega
    obtain ⟨d, l, e1, hd, hl7⟩ := spec_DrawActs_ok b hl
    obtain ⟨x, e2, hx12, hx⟩ := spec_DrawPlaces_ok b hl
    have hx0 : 0 ≤ rdI x 0 := by
      have h0 : 0 < x.length := by omega
      have : rdI x 0 = x[0] := getD_lt (n := 0) h0
      rw [this]; exact (hx _ (List.getElem_mem h0)).1
    have e3 := impl_RunActs_f d l hd (by omega)
    have e4 := fun k => impl_IsReplay_f d l k hd (by omega)
    have hR : RunA (0 + l.length) (runActs d l) := fold_acts l 0 (d, []) ⟨hd, rfl, by simp⟩
    generalize runActs d l = s at e3 e4 hR
    obtain ⟨s1, s2⟩ := s
    obtain ⟨_, hlen, hv⟩ := hR
    simp only at e3 e4 hlen hv
    have e5 := e4 s2
    rw [decide_eq_true (rfl : s2 = s2)] at e5
    by_cases hz : s2 = []
    · have hz0 : decide ((s2.length : Int) = 0) = true := decide_eq_true (by rw [hz]; rfl)
      have e6 := e4 [1]
      rw [decide_eq_false (show ¬ s2 = [1] by rw [hz]; simp)] at e6
      simp only [laws_FnReplays.f, laws_FnReplays.begin, Tr.do_call, Tr.do_ite, Tr.do_ret, laws_big.told, laws_big_f, bind_ok, decide_eq_false q, Bool.false_eq_true, ↓reduceIte, spec_DrawActs.told, e1, impl_RunActs.told, e3, impl_IsReplay.told, e5, e6, hz0, Bool.not_true, Bool.not_false]
    · have hpos : 0 < s2.length := List.length_pos_iff.mpr hz
      have hz0 : decide ((s2.length : Int) = 0) = false := decide_eq_false (by omega)
      obtain ⟨n, hn, hn'⟩ : ∃ n : Nat, Int.tmod (rdI x 0) (s2.length : Int) = n ∧ n < s2.length := by
        have h1 : 0 ≤ Int.tmod (rdI x 0) (s2.length : Int) := by rw [Int.tmod_eq_emod_of_nonneg hx0]; exact Int.emod_nonneg _ (by omega)
        have h2 : Int.tmod (rdI x 0) (s2.length : Int) < (s2.length : Int) := Int.tmod_lt_of_pos _ (by omega)
        exact ⟨(Int.tmod (rdI x 0) (s2.length : Int)).toNat, by omega, by omega⟩
      have n1 : (0 : Int) ≤ 0 ∧ (0 : Int) < (x.length : Int) := by omega
      have n2 : ¬ (s2.length : Int) = 0 := by omega
      have n3 : (0 : Int) ≤ (n : Int) ∧ (n : Int) < (s2.length : Int) := by omega
      have hrd : rdI s2 (n : Int) = s2[n] := getD_lt hn'
      have hvn := hv s2[n] (List.getElem_mem hn')
      have w : wr (s2[n] + 1) = s2[n] + 1 := wr_in (by omega)
      have e6 := e4 (s2.set n (s2[n] + 1))
      rw [decide_eq_false (show ¬ s2 = s2.set n (s2[n] + 1) from fun e => by
        have h7 : s2[n]? = (s2.set n (s2[n] + 1))[n]? := congrArg (fun z : List Int => z[n]?) e
        rw [List.getElem?_set_self hn', List.getElem?_eq_getElem hn'] at h7
        have := Option.some.inj h7
        omega)] at e6
      simp only [laws_FnReplays.f, laws_FnReplays.begin, Tr.do_call, Tr.do_ite, Tr.do_need, Tr.do_val, Tr.do_ret, laws_big.told, laws_big_f, bind_ok, decide_eq_false q, Bool.false_eq_true, ↓reduceIte, spec_DrawActs.told, e1, impl_RunActs.told, e3, impl_IsReplay.told, e5, hz0, spec_DrawPlaces.told, e2, n1, and_self, ne_eq, n2, not_false_eq_true, hn, n3, hrd, w, Int.toNat_natCast, e6, decide_false, Bool.not_true, Bool.not_false]
end Go.Proofs.YtobfemcobakeoaaGreat.Pure
