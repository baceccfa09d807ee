/- The plain law of FnActTexts. No conditions. -/
import Derived.Test.YtpndhhellhfegaaDoorEvLFnActTexts
import Derived.Test.YtpndhhellhfegaaDoorLibP
import Derived.Lib.ItoaLen
namespace Go.Proofs.YtpndhhellhfegaaDoor.Pure
open Go.RowKit Go.Proofs.YtpndhhellhfegaaDoorEv Go.Proofs.YtpndhhellhfegaaDoor.Ev
set_option linter.unusedVariables false
set_option linter.unusedSimpArgs false
set_option maxRecDepth 20000
/-- A number between two. -/
def inB (x a b : Int) : Bool := decide (x ≥ a) && decide (x ≤ b)
theorem spec_l01In_f (x a b : Int) : spec_l01In.f x a b = some (inB x a b) := by
  simp only [spec_l01In.f, spec_l01In.begin, Tr.do_ite, Tr.do_ret, inB]
  cases decide (x ≥ a) <;> simp
theorem impl_within_f (x a b : Int) : impl_within.f x a b = some (inB x a b) := by
  simp only [impl_within.f, impl_within.begin, Tr.do_ite, Tr.do_ret, inB]
  cases decide (x ≥ a) <;> simp
/-! Everything is equal to itself. -/
def okX (a b c : Int) : Bool := inB a 1 7 && (inB b (-8) 999 && inB c (-8) 999)
theorem spec_ExprOk_f (a b c : Int) : spec_ExprOk.f a b c = some (okX a b c) := by
  simp only [spec_ExprOk.f, spec_ExprOk.begin, Tr.do_call, Tr.do_ite, Tr.do_ret, spec_l01In.told, spec_l01In_f, spec_OperandOk.told, spec_OperandOk.f, spec_OperandOk.begin, bind_ok, okX]
  cases inB a 1 7 <;> cases inB b (-8) 999 <;> rfl
/-- A valid statement. -/
def okSt (x0 x1 x2 x3 x4 x5 : Int) : Bool :=
  if x0 = 1 then decide (x2 = 0) && (inB x1 0 7 && okX x3 x4 x5)
  else if x0 = 2 then (decide (x3 = 0) && (decide (x4 = 0) && decide (x5 = 0))) && (inB x1 0 7 && inB x2 0 3)
  else if x0 = 3 ∨ x0 = 4 then decide (x1 = 0) && (decide (x2 = 0) && okX x3 x4 x5)
  else if x0 = 5 then decide (x1 = 0) && ((decide (x3 = 0) && (decide (x4 = 0) && decide (x5 = 0))) && inB x2 1 5)
  else if x0 = 6 then decide (x1 = 0) && (decide (x2 = 0) && (decide (x3 = 0) && (decide (x4 = 0) && decide (x5 = 0))))
  else false
theorem plain_c (a b c d e f g h i j k l : Int) : lp spec_l04Plain.tree (.c14 a b c d e f g h i j k l) = some (g, h, i, j, k, l) := by
  rw [lp_eq]
  rfl
theorem spec_StmtOk_f (x0 x1 x2 x3 x4 x5 : Int) : spec_StmtOk.f x0 x1 x2 x3 x4 x5 = some (okSt x0 x1 x2 x3 x4 x5) := by
  unfold okSt
  simp only [spec_StmtOk.f, spec_StmtOk.begin, spec_l04Plain.told, spec_l04Plain.f, spec_l04Plain.begin, Tr.do_call, Tr.do_ite, Tr.do_ret, Tr.do_last, Tr.do_val, Tr.do_jump, plain_c, spec_l01In.told, spec_l01In_f, spec_ExprOk.told, spec_ExprOk_f, bind_ok, decide_eq_true_eq]
  by_cases h1 : x0 = 1
  · simp only [h1, ↓reduceIte, bind_ok]
    by_cases h2 : x2 = 0 <;> cases inB x1 0 7 <;> simp [h2]
  by_cases h2 : x0 = 2
  · simp only [h2, ↓reduceIte, bind_ok]
    by_cases g3 : x3 = 0 <;> by_cases g4 : x4 = 0 <;> by_cases g5 : x5 = 0 <;> cases inB x1 0 7 <;> simp [g3, g4, g5]
  by_cases h3 : x0 = 3
  · simp only [h3, ↓reduceIte, bind_ok]
    by_cases g1 : x1 = 0 <;> by_cases g2 : x2 = 0 <;> simp [g1, g2]
  by_cases h4 : x0 = 4
  · simp only [h4, ↓reduceIte, bind_ok]
    by_cases g1 : x1 = 0 <;> by_cases g2 : x2 = 0 <;> simp [g1, g2]
  by_cases h5 : x0 = 5
  · simp only [h5, ↓reduceIte, bind_ok]
    by_cases g1 : x1 = 0 <;> by_cases g3 : x3 = 0 <;> by_cases g4 : x4 = 0 <;> by_cases g5 : x5 = 0 <;> simp [g1, g3, g4, g5]
  simp only [h1, h2, h3, h4, h5, ↓reduceIte, bind_ok, or_self]
  by_cases g1 : x1 = 0 <;> by_cases g2 : x2 = 0 <;> by_cases g3 : x3 = 0 <;> by_cases g4 : x4 = 0 <;> by_cases g5 : x5 = 0 <;> by_cases h6 : x0 = 6 <;> simp [g1, g2, g3, g4, g5, h6]
/-- The depth behind a statement. -/
def dep (x0 d : Int) : Int := if x0 = 4 ∨ x0 = 5 then d + 1 else if x0 = 6 then d - 1 else d
/-- Is a block valid from here on, at depth d? -/
def okB (n : Nat) : List S115 → Int → Bool
  | [], d => decide (d = 0) && decide ((n : Int) ≤ 24)
  | s :: l, d => okSt s.f0 s.f1 s.f2 s.f3.f0 s.f3.f1 s.f3.f2 && (inB (dep s.f0 d) 0 3 && okB n l (dep s.f0 d))
def stepB (d : Int) (s : S115) : Int ⊕ Bool := if okSt s.f0 s.f1 s.f2 s.f3.f0 s.f3.f1 s.f3.f2 = true then (if inB (dep s.f0 d) 0 3 = true then .inl (dep s.f0 d) else .inr false) else .inr false
theorem scan_okB (n : Nat) : ∀ (l : List S115) (d : Int), scan stepB (fun d => decide (d = 0) && decide ((n : Int) ≤ 24)) l d = okB n l d
  | [], d => rfl
  | s :: l, d => by
    unfold scan stepB okB
    cases okSt s.f0 s.f1 s.f2 s.f3.f0 s.f3.f1 s.f3.f2
    · rfl
    · cases inB (dep s.f0 d) 0 3
      · rfl
      · exact scan_okB n l _
theorem dep_wr {x d : Int} (h0 : 0 ≤ d) (h1 : d ≤ 3) : wr (d + 1) = d + 1 ∧ wr (d - 1) = d - 1 ∧ wr (d + 1 - 1) = d + 1 - 1 := ⟨wr_in (by omega), wr_in (by omega), wr_in (by omega)⟩
theorem inB_iff {x a b : Int} : inB x a b = true ↔ a ≤ x ∧ x ≤ b := by simp [inB]
theorem spec_BlockOk_f (l : List S115) (hl : l.length ≤ 1048576) : spec_BlockOk.f l = some (okB l.length l 0) := by
  simp only [spec_BlockOk.f, spec_BlockOk.begin, Tr.do_jump]
  rw [← scan_okB]
  refine scan_loop l stepB _ (fun _ d => 0 ≤ d ∧ d ≤ 3) (fun i d => lp spec_BlockOk.tree (.c3 l d (i : Int))) 0 ⟨by omega, by omega⟩ (fun i h d hd => ?_) (fun d hd => ?_)
  · obtain ⟨w1, w2, w3⟩ := dep_wr (x := d) hd.1 hd.2
    have w7 : wr ((i : Int) + 1) = ((i + 1 : Nat) : Int) := wr_next (by omega)
    have step : lp spec_BlockOk.tree (.c3 l d (i : Int)) = if okSt l[i].f0 l[i].f1 l[i].f2 l[i].f3.f0 l[i].f3.f1 l[i].f3.f2 = true then (if inB (dep l[i].f0 d) 0 3 = true then lp spec_BlockOk.tree (.c3 l (dep l[i].f0 d) ((i + 1 : Nat) : Int)) else some false) else some false := by
      rw [lp_eq]
      simp only [spec_BlockOk.tree, Tr.do_ite, Tr.do_need, Tr.do_call, Tr.do_ret, Tr.do_jump, spec_StmtOk.told, spec_StmtOk_f, spec_l01In.told, spec_l01In_f, getD_lt h, lt_dec h, in_lt h, and_self, decide_true, ↓reduceIte, bind_ok, w1, w2, w7]
      cases okSt l[i].f0 l[i].f1 l[i].f2 l[i].f3.f0 l[i].f3.f1 l[i].f3.f2
      · rfl
      · unfold dep
        by_cases h4 : l[i].f0 = 4
        · cases hb : inB (d + 1) 0 3 <;> simp [h4, hb]
        · by_cases h5 : l[i].f0 = 5
          · cases hb : inB (d + 1) 0 3 <;> simp [h4, h5, hb]
          · by_cases h6 : l[i].f0 = 6
            · cases hb : inB (d - 1) 0 3 <;> simp [h4, h5, h6, hb]
            · cases hb : inB d 0 3 <;> simp [h4, h5, h6, hb]
    rw [step]
    unfold stepB
    cases okSt l[i].f0 l[i].f1 l[i].f2 l[i].f3.f0 l[i].f3.f1 l[i].f3.f2
    · exact ⟨fun s' hs' => (by cases hs'), fun r hr => (by cases hr; rfl)⟩
    · cases hb : inB (dep l[i].f0 d) 0 3
      · exact ⟨fun s' hs' => (by cases hs'), fun r hr => (by cases hr; rfl)⟩
      · exact ⟨fun s' hs' => (by cases hs'; exact ⟨rfl, inB_iff.mp hb⟩), fun r hr => (by cases hr)⟩
  · rw [lp_eq]
    simp only [spec_BlockOk.tree, Tr.do_ite, Tr.do_ret, ge_dec, Bool.false_eq_true, ↓reduceIte]
    cases decide (d = 0) <;> rfl
def isVal (x : Int) : Bool := inB x (-1000000) 1000000
theorem spec_IsValue_f (x : Int) : spec_IsValue.f x = some (isVal x) := by
  simp only [spec_IsValue.f, spec_IsValue.begin, Tr.do_call, Tr.do_ret, spec_l01In.told, spec_l01In_f, bind_ok, isVal]
theorem impl_IsValue_f (x : Int) : impl_IsValue.f x = some (isVal x) := by
  simp only [impl_IsValue.f, impl_IsValue.begin, Tr.do_call, Tr.do_ret, impl_within.told, impl_within_f, bind_ok, isVal]
theorem spec_l09Values_f (l : List Int) (hl : l.length ≤ 1048576) : spec_l09Values.f l = some (l.all isVal) := by
  simp only [spec_l09Values.f, spec_l09Values.begin, Tr.do_jump]
  have e := all_loop l isVal true (fun i => lp spec_l09Values.tree (.c2 l (i : Int))) (fun i h => by
    rw [lp_eq]
    simp only [spec_l09Values.tree, Tr.do_ite, Tr.do_need, Tr.do_call, Tr.do_ret, Tr.do_jump, spec_IsValue.told, spec_IsValue_f, bind_ok, getD_lt h, lt_dec h, in_lt h, and_self, decide_true, ↓reduceIte, wr_next (show i < 4611686018427387904 by omega)]
    cases isVal l[i] <;> rfl) (by
    rw [lp_eq]
    simp only [spec_l09Values.tree, Tr.do_ite, Tr.do_ret, ge_dec, Bool.false_eq_true, ↓reduceIte])
  rw [Bool.and_true] at e
  exact e
theorem spec_VarsOk_f (l : List Int) (hl : l.length ≤ 1048576) : spec_VarsOk.f l = some (l.all isVal && decide ((l.length : Int) = 8)) := by
  simp only [spec_VarsOk.f, spec_VarsOk.begin, Tr.do_jump]
  refine all_loop l isVal _ (fun i => lp spec_VarsOk.tree (.c2 l (i : Int))) (fun i h => ?_) ?_
  · rw [lp_eq]
    simp only [spec_VarsOk.tree, Tr.do_ite, Tr.do_need, Tr.do_call, Tr.do_ret, Tr.do_jump, spec_IsValue.told, spec_IsValue_f, bind_ok, getD_lt h, lt_dec h, in_lt h, and_self, decide_true, ↓reduceIte, wr_next (show i < 4611686018427387904 by omega)]
    cases isVal l[i] <;> rfl
  · rw [lp_eq]
    simp only [spec_VarsOk.tree, Tr.do_ite, Tr.do_ret, ge_dec, Bool.false_eq_true, ↓reduceIte]
theorem fits {A B : Type} (l : List A) (m : List B) (hl : l.length ≤ 1048576) (hm : m.length ≤ 1048576) (k : Nat) (hk : k ≤ 1000) : ((l.length : Int) + (m.length : Int)) * (k : Nat) ≤ room := by
  unfold room
  have h1 : ((l.length : Int) + (m.length : Int)) * (k : Int) ≤ 2097152 * (k : Int) := Int.mul_le_mul_of_nonneg_right (by omega) (by omega)
  omega
def memNew (l : List Int) : List Int × Bool := if (l.all isVal && decide ((l.length : Int) = 8)) = true then (l ++ List.replicate 41 0, true) else ([], false)
theorem spec_MemNew_f (l : List Int) (hl : l.length ≤ 1048576) : spec_MemNew.f l = some (memNew l) := by
  simp only [spec_MemNew.f, spec_MemNew.begin, Tr.do_call, Tr.do_ite, Tr.do_need, Tr.do_ret, spec_VarsOk.told, spec_VarsOk_f l hl, bind_ok, memNew, fits ([] : List Int) l (by simp) hl 8 (by omega), ↓reduceIte, List.nil_append]
  have h2 : (0 : Int) ≤ 41 ∧ ((l.length : Int) + 41) * (8 : Nat) ≤ room := ⟨by omega, by unfold room; omega⟩
  simp only [h2, show Int.toNat 41 = 41 from rfl, and_self, ↓reduceIte]
  rcases Bool.eq_false_or_eq_true (l.all isVal && decide ((l.length : Int) = 8)) with q | q <;> simp only [q, Bool.not_true, Bool.not_false, Bool.false_eq_true, ↓reduceIte]
def okT (t : S75) : Bool := okB t.f0.length t.f0 0 && okX t.f1.f0 t.f1.f1 t.f1.f2
def okP (l : List S75) : Bool := l.all okT && inB (l.length : Int) 1 6
theorem spec_ProgramOk_f (l : List S75) (hl : l.length ≤ 1048576) (hs : ∀ t ∈ l, t.f0.length ≤ 1048576) : spec_ProgramOk.f l = some (okP l) := by
  simp only [spec_ProgramOk.f, spec_ProgramOk.begin, Tr.do_jump]
  refine all_loop l okT _ (fun i => lp spec_ProgramOk.tree (.c2 l (i : Int))) (fun i h => ?_) ?_
  · rw [lp_eq]
    simp only [spec_ProgramOk.tree, Tr.do_ite, Tr.do_need, Tr.do_call, Tr.do_ret, Tr.do_jump, spec_BlockOk.told, spec_BlockOk_f _ (hs _ (List.getElem_mem h)), spec_ExprOk.told, spec_ExprOk_f, bind_ok, getD_lt h, lt_dec h, in_lt h, and_self, decide_true, ↓reduceIte, wr_next (show i < 4611686018427387904 by omega), okT]
    rcases Bool.eq_false_or_eq_true (okB l[i].f0.length l[i].f0 0) with q | q <;> rcases Bool.eq_false_or_eq_true (okX l[i].f1.f0 l[i].f1.f1 l[i].f1.f2) with q' | q' <;> simp [q, q']
  · rw [lp_eq]
    simp only [spec_ProgramOk.tree, Tr.do_ite, Tr.do_call, Tr.do_ret, spec_l01In.told, spec_l01In_f, bind_ok, ge_dec, Bool.false_eq_true, ↓reduceIte]
def okStore (a b c d : Int) : Bool := inB b 1 5000 && (inB a 0 b && (inB c 1 b && inB d 0 100))
theorem spec_StoreOk_f (a b c d : Int) : spec_StoreOk.f a b c d = some (okStore a b c d) := by
  simp only [spec_StoreOk.f, spec_StoreOk.begin, Tr.do_call, Tr.do_ite, Tr.do_ret, spec_l01In.told, spec_l01In_f, bind_ok, okStore]
  cases inB b 1 5000 <;> cases inB a 0 b <;> cases inB c 1 b <;> rfl
theorem spec_l06Copy_f (l : List S75) (hl : l.length ≤ 1048576) (hs : ∀ t ∈ l, t.f0.length ≤ 1048576) : spec_l06Copy.f l = some l := by
  simp only [spec_l06Copy.f, spec_l06Copy.begin, Tr.do_jump]
  have e := app_loop l (fun t : S75 => t) id (fun i s => lp spec_l06Copy.tree (.c3 l [] s (i : Int))) [] (fun i h => by
    rw [lp_eq]
    have hr : rdS75 l (i : Int) = l[i] := getD_lt h
    have hin := in_lt h
    have hlt := lt_dec h
    have h1 : (([] : List S115).length + (l[i].f0.length : Int)) * (48 : Nat) ≤ room := fits [] l[i].f0 (by simp) (hs _ (List.getElem_mem h)) 48 (by omega)
    have h2 : ∀ t : S75, ((([] ++ (l.take i).map (fun t : S75 => t)).length : Int) + (([t] : List S75).length : Int)) * (48 : Nat) ≤ room := fun t => fits _ [t] (by simp; omega) (by simp) 48 (by omega)
    generalize ([] ++ (l.take i).map (fun t : S75 => t)) = acc at h2 ⊢
    have c4 : ∀ s, lp spec_l06Copy.tree (.c4 l [] s (i : Int)) = lp spec_l06Copy.tree (.c3 l [] s ((i + 1 : Nat) : Int)) := fun s => by
      rw [lp_eq]
      simp only [spec_l06Copy.tree, Tr.do_jump, wr_next (show i < 4611686018427387904 by omega)]
    simp only [spec_l06Copy.tree, Tr.do_ite, Tr.do_need, Tr.do_both, Tr.do_last, Tr.do_val, Tr.do_jump, hr, hin, hlt, and_self, decide_true, ↓reduceIte, h1, h2, c4, List.nil_append, both_same]) (fun s => by
    rw [lp_eq]
    simp only [spec_l06Copy.tree, Tr.do_ite, Tr.do_ret, ge_dec, Bool.false_eq_true, ↓reduceIte, id])
  rw [List.map_id''] at e
  · exact e
  · exact fun _ => rfl
/-- A new node, and whether there is one. -/
def nodeNew (p : List S75) (m r : List Int) (a b c d : Int) : List S75 × List Int × List Int × Int × Int × Int × Int × Int × Int × Int × Int × List Int × Int × Bool :=
  if (memNew m).2 = true then (if okP p = true then (if okStore a b c d = true then (if r.all isVal = true then (p, (memNew m).1, r, 0, a, b, c, d, 0, 0, 0, [], 0, true)
  else ([], [], [], 0, 0, 0, 0, 0, 0, 0, 0, [], 0, false)) else ([], [], [], 0, 0, 0, 0, 0, 0, 0, 0, [], 0, false)) else ([], [], [], 0, 0, 0, 0, 0, 0, 0, 0, [], 0, false)) else ([], [], [], 0, 0, 0, 0, 0, 0, 0, 0, [], 0, false)
theorem spec_NodeNew_f (p : List S75) (m r : List Int) (a b c d : Int) (hp : p.length ≤ 1048576) (hs : ∀ t ∈ p, t.f0.length ≤ 1048576) (hm : m.length ≤ 1048576) (hr : r.length ≤ 1048576) : spec_NodeNew.f p m r a b c d = some (nodeNew p m r a b c d) := by
  simp only [spec_NodeNew.f, spec_NodeNew.begin, Tr.do_call, Tr.do_ite, Tr.do_need, Tr.do_both, Tr.do_last, Tr.do_ret, spec_MemNew.told, spec_MemNew_f m hm, spec_ProgramOk.told, spec_ProgramOk_f p hp hs, spec_StoreOk.told, spec_StoreOk_f, spec_l09Values.told, spec_l09Values_f r hr, spec_l06Copy.told, spec_l06Copy_f p hp hs, bind_ok, fits ([] : List Int) r (by simp) hr 8 (by omega), ↓reduceIte, List.nil_append, both_same, nodeNew]
  cases (memNew m).2 <;> cases okP p <;> cases okStore a b c d <;> cases r.all isVal <;> rfl
/-- The control word of three numbers. -/
def pack (a b c : Int) : Int := if (inB a 0 5 && (inB b 0 8 && inB c 0 24)) = true then a + 8 * (b + 16 * c) else -1
/-- The three numbers of a control word. -/
def unpack (c : Int) : Int × Int × Int :=
  if c < 0 then (-1, -1, -1) else if pack (Int.tmod c 8) (Int.tmod (wr (Int.tdiv c 8)) 16) (wr (Int.tdiv c 128)) = c then (Int.tmod c 8, Int.tmod (wr (Int.tdiv c 8)) 16, wr (Int.tdiv c 128)) else (-1, -1, -1)
def okPair (m : List Int) (i : Nat) : Bool := inB (rdI m (9 + 2 * (i : Int))) 0 7 && isVal (rdI m (9 + 2 * (i : Int) + 1))
/-- What has been sent. -/
def sent (m : List Int) : List Int := (m.take (Int.toNat (25 + (unpack (rdI m 8)).2.2))).drop 25
/-- A valid memory of a program with n tasks. -/
def okMem (n : Nat) (m : List Int) : Bool :=
  decide (m.length = 49) && (!decide ((unpack (rdI m 8)).1 < 0) && (!decide ((unpack (rdI m 8)).1 ≥ (n : Int)) && ((m.take 8).all isVal && ((sent m).all isVal && (List.range (Int.toNat (unpack (rdI m 8)).2.1)).all (okPair m)))))
def memSent (m : List Int) : List Int := if m.length = 49 then (if (unpack (rdI m 8)).2.2 < 0 then [] else sent m) else []
/-- Is a list the beginning of another? -/
def isPre (a b : List Int) : Bool := decide (a.length ≤ b.length) && decide (a = b.take a.length)
def okLink (m : List Int) (at_ : Int) (h : List Int) : Bool := inB at_ 0 h.length && isPre h (memSent m)
def okSpan (a b : Int) : Bool := decide (a ≥ 0) && (decide (a ≤ b) && decide (b ≤ 1000000))
theorem impl_SpanOk_f (a b : Int) : impl_SpanOk.f a b = some (okSpan a b) := by
  simp only [impl_SpanOk.f, impl_SpanOk.begin, Tr.do_ite, Tr.do_ret, okSpan]
  cases decide (a ≥ 0) <;> cases decide (a ≤ b) <;> rfl
/-- A valid node. -/
def okNode (p : List S75) (m r : List Int) (a3 a4 a5 a6 a7 a8 a9 a10 : Int) (h : List Int) (a12 : Int) : Bool :=
  (okP p && okMem p.length m) && (okStore a4 a5 a6 a7 && (r.all isVal && (inB a3 0 400000 && (okSpan a8 a9 && (okLink m a10 h && inB a12 0 100000)))))
/-! ### Packets -/
theorem one_fits {B : Type} (s : List B) (x : B) (n : Nat) (hs : s.length ≤ n) (hn : n ≤ 1048576) (k : Nat) (hk : k ≤ 1000) : ((s.length : Int) + (([x] : List B).length : Int)) * (k : Nat) ≤ room := fits s [x] (by omega) (by simp) k hk
/-! ### Expressions -/
/-! ### Recovery -/
/-! ### Draws -/
/-- Something is there, and it is so. -/
def Ok {A : Type} (o : Option A) (P : A → Prop) : Prop := ∃ r, o = some r ∧ P r
/-- A loop that counts up to a limit, told by a property of its states. -/
theorem upto {S R : Type} (N : Nat) (Inv : Nat → S → Prop) (L : Nat → S → Option R) (P : R → Prop)
    (h : ∀ i, i ≤ N → ∀ s, Inv i s → Ok (L i s) P ∨ (i < N ∧ ∃ s', L i s = L (i + 1) s' ∧ Inv (i + 1) s')) : ∀ i, i ≤ N → ∀ s, Inv i s → Ok (L i s) P := by
  have key : ∀ (n i : Nat), i + n = N → ∀ s, Inv i s → Ok (L i s) P := by
    intro n
    induction n with
    | zero =>
      intro i hi s hs
      rcases h i (by omega) s hs with e | ⟨e, _⟩
      · exact e
      · omega
    | succ n ih =>
      intro i hi s hs
      rcases h i (by omega) s hs with e | ⟨_, s', e, hs'⟩
      · exact e
      · rw [e]; exact ih (i + 1) (by omega) s' hs'
  exact fun i hi s hs => key (N - i) i (by omega) s hs
/-- The place of a draw. -/
def Cur (b : List Int) (i : Int) : Prop := b.length ≤ 1048576 ∧ 0 ≤ i
theorem band255 (x : Int) : 0 ≤ bitAnd .i64 x 255 ∧ bitAnd .i64 x 255 ≤ 255 := by
  unfold bitAnd
  have h : (BitVec.ofInt (IntKind.bits .i64) x &&& BitVec.ofInt (IntKind.bits .i64) 255).toNat ≤ 255 := by
    rw [BitVec.toNat_and]
    exact Nat.le_trans Nat.and_le_right (by decide)
  rw [wr_in (by omega)]
  omega
theorem spec_l01Byte_ok {b : List Int} {i : Int} (h : Int) (c : Cur b i) : ∃ x i' h', spec_l01Byte.f b i h = some (x, b, i', h') ∧ 0 ≤ x ∧ x ≤ 255 ∧ Cur b i' := by
  have h1 : (0 : Int) ≤ 33 := by omega
  have h2 : (0 : Int) ≤ 45 := by omega
  simp only [spec_l01Byte.f, spec_l01Byte.begin, Tr.do_both, Tr.do_need, Tr.do_val, Tr.do_last, Tr.do_jump, both_same, h1, h2, ↓reduceIte]
  rw [lp_eq]
  by_cases q : i < (b.length : Int)
  · have h3 : (0 : Int) ≤ i ∧ i < (b.length : Int) := ⟨c.2, q⟩
    simp only [spec_l01Byte.tree, Tr.do_ite, Tr.do_need, Tr.do_last, Tr.do_ret, decide_eq_true q, h3, and_self, ↓reduceIte]
    have w : wr (i + 1) = i + 1 := wr_in (by have := c.1; have := c.2; omega)
    exact ⟨_, _, _, rfl, (band255 _).1, (band255 _).2, c.1, by rw [w]; have := c.2; omega⟩
  · simp only [spec_l01Byte.tree, Tr.do_ite, Tr.do_ret, decide_eq_false q, Bool.false_eq_true, ↓reduceIte]
    exact ⟨_, _, _, rfl, (band255 _).1, (band255 _).2, c⟩
theorem spec_l01Below_ok {b : List Int} {i : Int} (n h : Int) (hn : 1 ≤ n) (c : Cur b i) : ∃ x i' h', spec_l01Below.f n b i h = some (x, b, i', h') ∧ 0 ≤ x ∧ x < n ∧ Cur b i' := by
  have h0 : decide (n ≤ 0) = false := decide_eq_false (by omega)
  have h1 : n ≠ 0 := by omega
  obtain ⟨x1, i1, j1, e1, a1, b1, c1⟩ := spec_l01Byte_ok h c
  by_cases q : n ≤ 256
  · simp only [spec_l01Below.f, spec_l01Below.begin, Tr.do_ite, Tr.do_call, Tr.do_need, Tr.do_ret, h0, decide_eq_true q, spec_l01Byte.told, e1, bind_ok, h1, ne_eq, not_false_eq_true, Bool.false_eq_true, ↓reduceIte]
    refine ⟨_, _, _, rfl, ?_, ?_, c1⟩
    · rw [Int.tmod_eq_emod_of_nonneg a1]; exact Int.emod_nonneg _ h1
    · rw [Int.tmod_eq_emod_of_nonneg a1]; exact Int.emod_lt_of_pos _ (by omega)
  · obtain ⟨x2, i2, j2, e2, a2, b2, c2⟩ := spec_l01Byte_ok j1 c1
    obtain ⟨x3, i3, j3, e3, a3, b3, c3⟩ := spec_l01Byte_ok j2 c2
    obtain ⟨x4, i4, j4, e4, a4, b4, c4⟩ := spec_l01Byte_ok j3 c3
    have w1 : wr (x1 * 16777216) = x1 * 16777216 := wr_in (by omega)
    have w2 : wr (x2 * 65536) = x2 * 65536 := wr_in (by omega)
    have w3 : wr (x3 * 256) = x3 * 256 := wr_in (by omega)
    have w4 : wr (x1 * 16777216 + x2 * 65536) = x1 * 16777216 + x2 * 65536 := wr_in (by omega)
    have w5 : wr (x1 * 16777216 + x2 * 65536 + x3 * 256) = x1 * 16777216 + x2 * 65536 + x3 * 256 := wr_in (by omega)
    have w6 : wr (x1 * 16777216 + x2 * 65536 + x3 * 256 + x4) = x1 * 16777216 + x2 * 65536 + x3 * 256 + x4 := wr_in (by omega)
    have a0 : 0 ≤ x1 * 16777216 + x2 * 65536 + x3 * 256 + x4 := by omega
    simp only [spec_l01Below.f, spec_l01Below.begin, Tr.do_ite, Tr.do_call, Tr.do_need, Tr.do_val, Tr.do_ret, h0, decide_eq_false q, spec_l01Byte.told, e1, e2, e3, e4, bind_ok, h1, ne_eq, not_false_eq_true, Bool.false_eq_true, ↓reduceIte, w1, w2, w3, w4, w5, w6]
    refine ⟨_, _, _, rfl, ?_, ?_, c4⟩
    · rw [Int.tmod_eq_emod_of_nonneg a0]; exact Int.emod_nonneg _ h1
    · rw [Int.tmod_eq_emod_of_nonneg a0]; exact Int.emod_lt_of_pos _ (by omega)
theorem spec_l01Once_ok {b : List Int} {i : Int} (n h : Int) (hn : 1 ≤ n) (c : Cur b i) : ∃ x i' h', spec_l01Once.f n b i h = some (x, b, i', h') ∧ Cur b i' := by
  obtain ⟨x1, i1, j1, e1, a1, b1, c1⟩ := spec_l01Below_ok n h hn c
  simp only [spec_l01Once.f, spec_l01Once.begin, Tr.do_call, Tr.do_ret, spec_l01Below.told, e1, bind_ok]
  exact ⟨_, _, _, rfl, c1⟩
theorem spec_l01PickInt_ok {b : List Int} {i : Int} (l : List Int) (h : Int) (P : Int → Prop) (hn : 1 ≤ l.length) (hp : ∀ x ∈ l, P x) (c : Cur b i) : ∃ x i' h', spec_l01PickInt.f l b i h = some (x, b, i', h') ∧ P x ∧ Cur b i' := by
  obtain ⟨x1, i1, j1, e1, a1, b1, c1⟩ := spec_l01Below_ok (l.length : Int) h (by omega) c
  have h1 : (0 : Int) ≤ x1 ∧ x1 < (l.length : Int) := ⟨a1, b1⟩
  simp only [spec_l01PickInt.f, spec_l01PickInt.begin, Tr.do_call, Tr.do_need, Tr.do_ret, spec_l01Below.told, e1, bind_ok, h1, and_self, ↓reduceIte]
  refine ⟨_, _, _, rfl, ?_, c1⟩
  have h2 : x1.toNat < l.length := by omega
  have : rdI l x1 = l[x1.toNat] := by show l.getD x1.toNat 0 = _; rw [List.getD_eq_getElem?_getD, List.getElem?_eq_getElem h2]; rfl
  rw [this]
  exact hp _ (List.getElem_mem h2)
theorem spec_l01New_ok (b : List Int) (hb : b.length ≤ 1048576) : ∃ h, spec_l01New.f b = some (b, 0, h) := by
  have key := upto b.length (fun _ (_ : Int) => True) (fun i s => lp spec_l01New.tree (.c3 b s (i : Int))) (fun r => ∃ h, r = (b, 0, h)) (fun i hi s _ => by
    rw [lp_eq]
    by_cases q : i < b.length
    · by_cases q' : (i : Int) < 4000
      · refine Or.inr ⟨q, bitAnd .i64 (wr (wr (wr (s * 131) + wr (rdI b (i : Int))) + 7)) 1073741823, ?_, trivial⟩
        simp only [spec_l01New.tree, Tr.do_ite, Tr.do_need, Tr.do_val, Tr.do_jump, lt_dec q, decide_eq_true q', decide_true, q', in_lt q, and_self, ↓reduceIte, wr_next (show i < 4611686018427387904 by omega)]
      · refine Or.inl ⟨(b, 0, s), ?_, s, rfl⟩
        simp only [spec_l01New.tree, Tr.do_ite, Tr.do_ret, lt_dec q, decide_eq_false q', Bool.false_eq_true, ↓reduceIte]
    · refine Or.inl ⟨(b, 0, s), ?_, s, rfl⟩
      obtain rfl : i = b.length := by omega
      simp only [spec_l01New.tree, Tr.do_ite, Tr.do_ret, ge_dec, Bool.false_eq_true, ↓reduceIte]) 0 (by omega) (wr (98347 + (b.length : Int))) trivial
  obtain ⟨r, e, h, rfl⟩ := key
  exact ⟨h, e⟩
theorem spec_l03Operand_ok {b : List Int} {i : Int} (h : Int) (c : Cur b i) : ∃ x i' h', spec_l03Operand.f b i h = some (x, b, i', h') ∧ inB x (-8) 999 = true ∧ Cur b i' := by
  obtain ⟨x1, i1, j1, e1, c1⟩ := spec_l01Once_ok 2 h (by omega) c
  cases x1 with
  | true =>
    obtain ⟨x2, i2, j2, e2, a2, b2, c2⟩ := spec_l01Below_ok 5 j1 (by omega) c1
    simp only [spec_l03Operand.f, spec_l03Operand.begin, Tr.do_call, Tr.do_ite, Tr.do_ret, spec_l01Once.told, e1, spec_l01Below.told, e2, bind_ok, ↓reduceIte]
    refine ⟨_, _, _, rfl, ?_, c2⟩
    have w : wr (-1 - x2) = -1 - x2 := wr_in (by omega)
    rw [w, inB_iff]
    omega
  | false =>
    obtain ⟨x2, i2, j2, e2, a2, c2⟩ := spec_l01PickInt_ok [0, 1, 2, 3, 10, 999] j1 (fun x => inB x (-8) 999 = true) (by decide) (by decide) c1
    simp only [spec_l03Operand.f, spec_l03Operand.begin, Tr.do_call, Tr.do_ite, Tr.do_ret, spec_l01Once.told, e1, spec_l01PickInt.told, e2, bind_ok, Bool.false_eq_true, ↓reduceIte]
    exact ⟨_, _, _, rfl, a2, c2⟩
theorem spec_l03Expr_ok {b : List Int} {i : Int} (h : Int) (c : Cur b i) : ∃ o x y i' h', spec_l03Expr.f b i h = some (o, x, y, b, i', h') ∧ okX o x y = true ∧ Cur b i' := by
  obtain ⟨x1, i1, j1, e1, a1, b1, c1⟩ := spec_l01Below_ok 7 h (by omega) c
  obtain ⟨x2, i2, j2, e2, a2, c2⟩ := spec_l03Operand_ok j1 c1
  obtain ⟨x3, i3, j3, e3, a3, c3⟩ := spec_l03Operand_ok j2 c2
  simp only [spec_l03Expr.f, spec_l03Expr.begin, Tr.do_call, Tr.do_ret, spec_l01Below.told, e1, spec_l03Operand.told, e2, e3, bind_ok]
  refine ⟨_, _, _, _, _, rfl, ?_, c3⟩
  unfold okX
  have w : wr (1 + x1) = 1 + x1 := wr_in (by omega)
  rw [a2, a3, w]
  simp only [Bool.and_true, inB_iff]
  omega
theorem spec_l03Vars_ok {b : List Int} {i : Int} (h : Int) (c : Cur b i) : ∃ l i' h', spec_l03Vars.f b i h = some (l, b, i', h') ∧ l.all isVal = true ∧ l.length = 8 ∧ Cur b i' := by
  have key := upto 8 (fun k (s : List Int × Int × Int) => s.1.length = k ∧ s.1.all isVal = true ∧ Cur b s.2.1) (fun k s => lp spec_l03Vars.tree (.c3 s.1 (k : Int) b s.2.1 s.2.2)) (fun r => ∃ l i' h', r = (l, b, i', h') ∧ l.all isVal = true ∧ l.length = 8 ∧ Cur b i') (fun k hk s hs => by
    obtain ⟨s1, s2, s3⟩ := s
    obtain ⟨hl, hv, hc⟩ := hs
    simp only at hl hv hc
    rw [lp_eq]
    by_cases q : k < 8
    · obtain ⟨x1, i1, j1, e1, a1, b1, c1⟩ := spec_l01Below_ok 2000 s3 (by omega) hc
      have w : wr (x1 - 1000) = x1 - 1000 := wr_in (by omega)
      have hvx : isVal (x1 - 1000) = true := by unfold isVal; rw [inB_iff]; omega
      obtain ⟨x2, i2, j2, e2, a2, c2⟩ := spec_l01PickInt_ok [0, 1, 2, 5, x1 - 1000, 1000000] j1 (fun x => isVal x = true) (by simp) (by
        intro x hx
        simp only [List.mem_cons, List.not_mem_nil, or_false] at hx
        rcases hx with rfl | rfl | rfl | rfl | rfl | rfl
        · rfl
        · rfl
        · rfl
        · rfl
        · exact hvx
        · rfl) c1
      have q' : decide ((k : Int) < 8) = true := decide_eq_true (by omega)
      refine Or.inr ⟨q, (s1 ++ [x2], i2, j2), ?_, by simp [hl], by simp [hv, a2], c2⟩
      simp only [spec_l03Vars.tree, Tr.do_call, Tr.do_ite, Tr.do_need, Tr.do_jump, q', spec_l01Below.told, e1, w, spec_l01PickInt.told, e2, bind_ok, one_fits s1 x2 1048576 (by omega) (by omega) 8 (by omega), ↓reduceIte, wr_next (show k < 4611686018427387904 by omega)]
    · have q' : decide ((k : Int) < 8) = false := decide_eq_false (by omega)
      refine Or.inl ⟨(s1, b, s2, s3), ?_, s1, s2, s3, rfl, hv, by omega, hc⟩
      simp only [spec_l03Vars.tree, Tr.do_ite, Tr.do_ret, q', Bool.false_eq_true, ↓reduceIte]) 0 (by omega) ([], i, h) ⟨rfl, rfl, c⟩
  obtain ⟨r, e, l, i', h', rfl, p⟩ := key
  exact ⟨l, i', h', e, p⟩
theorem spec_l04Stmt_ok {b : List Int} {i : Int} (h : Int) (c : Cur b i) : ∃ x0 x1 x2 x3 x4 x5 i' h', spec_l04Stmt.f b i h = some (x0, x1, x2, x3, x4, x5, b, i', h') ∧ okSt x0 x1 x2 x3 x4 x5 = true ∧ x0 ≤ 3 ∧ Cur b i' := by
  obtain ⟨x1, i1, j1, e1, a1, b1, c1⟩ := spec_l01Below_ok 7 h (by omega) c
  obtain ⟨x2, i2, j2, e2, a2, b2, c2⟩ := spec_l01Below_ok 5 j1 (by omega) c1
  obtain ⟨x3, i3, j3, e3, a3, b3, c3⟩ := spec_l01Below_ok 4 j2 (by omega) c2
  obtain ⟨o4, x4, y4, i4, j4, e4, a4, c4⟩ := spec_l03Expr_ok j1 c1
  obtain ⟨o5, x5, y5, i5, j5, e5, a5, c5⟩ := spec_l03Expr_ok j2 c2
  have k1 : okSt 2 x2 x3 0 0 0 = true := by
    have h1 : inB x2 0 7 = true := by rw [inB_iff]; omega
    have h2 : inB x3 0 3 = true := by rw [inB_iff]; omega
    simp [okSt, h1, h2]
  have k2 : okSt 3 0 0 o4 x4 y4 = true := by simp [okSt, a4]
  have k3 : okSt 1 x2 0 o5 x5 y5 = true := by
    have h1 : inB x2 0 7 = true := by rw [inB_iff]; omega
    simp [okSt, a5, h1]
  simp only [spec_l04Stmt.f, spec_l04Stmt.begin, Tr.do_call, Tr.do_ite, Tr.do_ret, spec_l01Below.told, e1, e2, e3, spec_l03Expr.told, e4, e5, bind_ok]
  by_cases q0 : x1 = 0
  · simp only [q0, decide_true, ↓reduceIte]
    exact ⟨_, _, _, _, _, _, _, _, rfl, k1, by decide, c3⟩
  · by_cases q1 : x1 = 1
    · subst q1
      simp only [show decide ((1 : Int) = 0) = false from rfl, decide_true, Bool.false_eq_true, ↓reduceIte]
      exact ⟨_, _, _, _, _, _, _, _, rfl, k1, by decide, c3⟩
    · by_cases q2 : x1 = 2
      · subst q2
        simp only [show decide ((2 : Int) = 0) = false from rfl, show decide ((2 : Int) = 1) = false from rfl, decide_true, Bool.false_eq_true, ↓reduceIte]
        exact ⟨_, _, _, _, _, _, _, _, rfl, k2, by decide, c4⟩
      · simp only [decide_eq_false q0, decide_eq_false q1, decide_eq_false q2, Bool.false_eq_true, ↓reduceIte]
        exact ⟨_, _, _, _, _, _, _, _, rfl, k3, by decide, c5⟩
/-- Statements that leave a block as it is. -/
def Trans (d : Int) (l : List S115) : Prop := ∀ n t, okB n (l ++ t) d = okB n t d
theorem Trans.nil (d : Int) : Trans d [] := fun _ _ => rfl
theorem Trans.app {d : Int} {l m : List S115} (h : Trans d l) (g : Trans d m) : Trans d (l ++ m) := fun n t => by rw [List.append_assoc, h, g]
theorem Trans.one {d : Int} {x0 x1 x2 x3 x4 x5 : Int} (h : okSt x0 x1 x2 x3 x4 x5 = true) (h0 : x0 ≤ 3) (hd : 0 ≤ d) (hd' : d ≤ 3) : Trans d [(⟨x0, x1, x2, (⟨x3, x4, x5⟩ : S72)⟩ : S115)] := fun n t => by
  have e : dep x0 d = d := by unfold dep; rw [if_neg (by omega), if_neg (by omega)]
  have hb : inB d 0 3 = true := by rw [inB_iff]; omega
  show (okSt x0 x1 x2 x3 x4 x5 && (inB (dep x0 d) 0 3 && okB n t (dep x0 d))) = _
  rw [h, e, hb]; rfl
theorem Trans.nest {d : Int} {x0 x1 x2 x3 x4 x5 : Int} {l : List S115} (h : okSt x0 x1 x2 x3 x4 x5 = true) (h0 : x0 = 4 ∨ x0 = 5) (hd : 0 ≤ d) (hd' : d ≤ 2) (hl : Trans (d + 1) l) :
    Trans d (([(⟨x0, x1, x2, (⟨x3, x4, x5⟩ : S72)⟩ : S115)] ++ l) ++ [(⟨6, 0, 0, (⟨0, 0, 0⟩ : S72)⟩ : S115)]) := fun n t => by
  have e : dep x0 d = d + 1 := by unfold dep; rw [if_pos h0]
  have e' : dep 6 (d + 1) = d := by unfold dep; rw [if_neg (by omega), if_pos rfl]; omega
  have hb : inB (d + 1) 0 3 = true := by rw [inB_iff]; omega
  have hb' : inB d 0 3 = true := by rw [inB_iff]; omega
  rw [List.append_assoc, List.append_assoc]
  show (okSt x0 x1 x2 x3 x4 x5 && (inB (dep x0 d) 0 3 && okB n (l ++ ([(⟨6, 0, 0, (⟨0, 0, 0⟩ : S72)⟩ : S115)] ++ t)) (dep x0 d))) = _
  rw [h, e, hb, hl]
  show (true && (true && (okSt 6 0 0 0 0 0 && (inB (dep 6 (d + 1)) 0 3 && okB n t (dep 6 (d + 1)))))) = _
  rw [e', hb']
  rfl
def bnd (d : Int) (n : Nat) : Nat := if d = 2 then n else if d = 1 then 4 * n else 15 + n
theorem bnd_big {d : Int} {n : Nat} (hn : n ≤ 5) : bnd d n ≤ 20 := by unfold bnd; split; omega; split <;> omega
theorem bnd_one {d : Int} {k n : Nat} (h : k ≤ bnd d n) : k + 1 ≤ bnd d (n + 1) := by unfold bnd at *; split at h; rw [if_pos ‹_›]; omega; rw [if_neg ‹_›]; split at h; rw [if_pos ‹_›]; omega; rw [if_neg ‹_›]; omega
theorem bnd_nest {d : Int} {k j n m : Nat} (hd : d = 0 ∨ d = 1) (h : k ≤ bnd d n) (h6 : k < 6) (hm : m ≤ 2) (hj : j ≤ bnd (d + 1) m) : k + 1 + j + 1 ≤ bnd d (n + 1) := by
  rcases hd with rfl | rfl
  · have e : bnd (0 + 1) m = 4 * m := rfl
    have e2 : bnd 0 (n + 1) = 15 + (n + 1) := rfl
    rw [e] at hj; rw [e2]; omega
  · have e : bnd (1 + 1) m = m := rfl
    have e2 : bnd 1 (n + 1) = 4 * (n + 1) := rfl
    have e3 : bnd 1 n = 4 * n := rfl
    rw [e] at hj; rw [e3] at h; rw [e2]; omega
def BlkOk (self_ : Self spec_l05Block.I spec_l05Block.A spec_l05Block.K) (d : Int) : Prop :=
  ∀ (n : Nat) (b : List Int) (i h : Int), n ≤ 5 → Cur b i → ∃ l i' h', self_.f ((n : Int), d, b, i, h) = some (l, b, i', h') ∧ Trans d l ∧ l.length ≤ bnd d n ∧ Cur b i'
theorem blk_step (self_ : Self spec_l05Block.I spec_l05Block.A spec_l05Block.K) (d : Int) (hd : 0 ≤ d ∧ d ≤ 2) (hs : d < 2 → BlkOk self_ (d + 1)) : BlkOk (spec_l05Block.step self_) d := by
  intro n b i h hn c
  have key := upto n (fun k (s : List S115 × Int × Int) => Trans d s.1 ∧ s.1.length ≤ bnd d k ∧ Cur b s.2.1) (fun k s => lp (spec_l05Block.tree self_) (.c3 (n : Int) d s.1 (k : Int) b s.2.1 s.2.2)) (fun r => ∃ l i' h', r = (l, b, i', h') ∧ Trans d l ∧ l.length ≤ bnd d n ∧ Cur b i') (fun k hk s hs' => by
    obtain ⟨s1, s2, s3⟩ := s
    obtain ⟨hT, hL, hC⟩ := hs'
    simp only at hT hL hC
    rw [lp_eq]
    have hb20 := bnd_big (d := d) (show k ≤ 5 by omega)
    by_cases q : k < n
    · have wk := wr_next (show k < 4611686018427387904 by omega)
      have plain : ∀ (s2 s3 : Int), Cur b s2 → ∃ x0 x1 x2 x3 x4 x5 i' h', spec_l04Stmt.f b s2 s3 = some (x0, x1, x2, x3, x4, x5, b, i', h') ∧ Trans d (s1 ++ [(⟨x0, x1, x2, (⟨x3, x4, x5⟩ : S72)⟩ : S115)]) ∧ (s1 ++ [(⟨x0, x1, x2, (⟨x3, x4, x5⟩ : S72)⟩ : S115)]).length ≤ bnd d (k + 1) ∧ Cur b i' := by
        intro s2 s3 hC
        obtain ⟨x0, x1, x2, x3, x4, x5, i', h', e, ho, h3, c'⟩ := spec_l04Stmt_ok s3 hC
        exact ⟨x0, x1, x2, x3, x4, x5, i', h', e, hT.app (Trans.one ho h3 (by omega) (by omega)), by rw [List.length_append, List.length_singleton]; exact bnd_one hL, c'⟩
      have fit : ∀ x : S115, ((s1.length : Int) + (([x] : List S115).length : Int)) * (48 : Nat) ≤ room := fun x => one_fits s1 x 1048576 (by omega) (by omega) 48 (by omega)
      by_cases q2 : d < 2
      · by_cases q6 : (s1.length : Int) < 6
        · obtain ⟨x1, i1, j1, e1, c1⟩ := spec_l01Once_ok 5 s3 (by omega) hC
          cases x1 with
          | false =>
            obtain ⟨y0, y1, y2, y3, y4, y5, i2, j2, e2, t2, l2, c2⟩ := plain i1 j1 c1
            refine Or.inr ⟨q, (_, i2, j2), ?_, t2, l2, c2⟩
            simp only [spec_l05Block.tree, Tr.do_ite, Tr.do_call, Tr.do_val, Tr.do_need, Tr.do_jump, lt_dec q, decide_eq_true q2, decide_eq_true q6, spec_l01Once.told, e1, spec_l04Stmt.told, e2, bind_ok, fit, wk, Bool.false_eq_true, ↓reduceIte]
          | true =>
            obtain ⟨x2, i2, j2, e2, a2, b2, c2⟩ := spec_l01Below_ok 3 j1 (by omega) c1
            obtain ⟨x3, i3, j3, e3, c3⟩ := spec_l01Once_ok 2 j2 (by omega) c2
            have wd : wr (d + 1) = d + 1 := wr_in (by omega)
            cases x3 with
            | true =>
              obtain ⟨o4, x4, y4, i4, j4, e4, a4, c4⟩ := spec_l03Expr_ok j3 c3
              obtain ⟨x5, i5, j5, e5, a5, b5, c5⟩ := spec_l01Below_ok 2 j4 (by omega) c4
              obtain ⟨m, hm⟩ : ∃ m : Nat, wr (1 + x5) = m := ⟨(1 + x5).toNat, by have w5 : wr (1 + x5) = 1 + x5 := wr_in (by omega); omega⟩
              have hm2 : m ≤ 2 := by have w5 : wr (1 + x5) = 1 + x5 := wr_in (by omega); omega
              obtain ⟨l6, i6, j6, e6, t6, n6, c6⟩ := hs q2 m b i5 j5 (by omega) c5
              have hn20 := bnd_big (d := d + 1) (show m ≤ 5 by omega)
              have fit2 : ∀ x : S115, (((s1 ++ [x]).length : Int) + (l6.length : Int)) * (48 : Nat) ≤ room := fun x => fits _ _ (by rw [List.length_append, List.length_singleton]; omega) (by omega) 48 (by omega)
              have fit3 : ∀ x y : S115, ((((s1 ++ [x]) ++ l6).length : Int) + (([y] : List S115).length : Int)) * (48 : Nat) ≤ room := fun x y => fits _ _ (by rw [List.length_append, List.length_append, List.length_singleton]; omega) (by simp) 48 (by omega)
              refine Or.inr ⟨q, (((s1 ++ [(⟨4, 0, 0, (⟨o4, x4, y4⟩ : S72)⟩ : S115)]) ++ l6) ++ [(⟨6, 0, 0, (⟨0, 0, 0⟩ : S72)⟩ : S115)], i6, j6), ?_, ?_, ?_, c6⟩
              rotate_left 1
              · have := hT.app (Trans.nest (x0 := 4) (x1 := 0) (x2 := 0) (x3 := o4) (x4 := x4) (x5 := y4) (l := l6) (by simp [okSt, a4]) (Or.inl rfl) hd.1 (by omega) t6)
                rw [← List.append_assoc, ← List.append_assoc] at this
                exact this
              · simp only [List.length_append, List.length_singleton]
                exact bnd_nest (by omega) hL (by omega) hm2 n6
              · simp only [spec_l05Block.tree, Tr.do_ite, Tr.do_call, Tr.do_val, Tr.do_need, Tr.do_jump, lt_dec q, decide_eq_true q2, decide_eq_true q6, spec_l01Once.told, e1, e3, spec_l01Below.told, e2, e5, spec_l03Expr.told, e4, Self.told, hm, wd, e6, bind_ok, fit, fit2, fit3, wk, ↓reduceIte]
            | false =>
              obtain ⟨x5, i5, j5, e5, a5, b5, c5⟩ := spec_l01Below_ok 2 j3 (by omega) c3
              obtain ⟨m, hm⟩ : ∃ m : Nat, wr (1 + x5) = m := ⟨(1 + x5).toNat, by have w5 : wr (1 + x5) = 1 + x5 := wr_in (by omega); omega⟩
              have hm2 : m ≤ 2 := by have w5 : wr (1 + x5) = 1 + x5 := wr_in (by omega); omega
              have w2 : wr (1 + x2) = 1 + x2 := wr_in (by omega)
              obtain ⟨l6, i6, j6, e6, t6, n6, c6⟩ := hs q2 m b i5 j5 (by omega) c5
              have hn20 := bnd_big (d := d + 1) (show m ≤ 5 by omega)
              have fit2 : ∀ x : S115, (((s1 ++ [x]).length : Int) + (l6.length : Int)) * (48 : Nat) ≤ room := fun x => fits _ _ (by rw [List.length_append, List.length_singleton]; omega) (by omega) 48 (by omega)
              have fit3 : ∀ x y : S115, ((((s1 ++ [x]) ++ l6).length : Int) + (([y] : List S115).length : Int)) * (48 : Nat) ≤ room := fun x y => fits _ _ (by rw [List.length_append, List.length_append, List.length_singleton]; omega) (by simp) 48 (by omega)
              have hin : inB (1 + x2) 1 5 = true := by rw [inB_iff]; omega
              refine Or.inr ⟨q, (((s1 ++ [(⟨5, 0, 1 + x2, (⟨0, 0, 0⟩ : S72)⟩ : S115)]) ++ l6) ++ [(⟨6, 0, 0, (⟨0, 0, 0⟩ : S72)⟩ : S115)], i6, j6), ?_, ?_, ?_, c6⟩
              rotate_left 1
              · have := hT.app (Trans.nest (x0 := 5) (x1 := 0) (x2 := 1 + x2) (x3 := 0) (x4 := 0) (x5 := 0) (l := l6) (by simp [okSt, hin]) (Or.inr rfl) hd.1 (by omega) t6)
                rw [← List.append_assoc, ← List.append_assoc] at this
                exact this
              · simp only [List.length_append, List.length_singleton]
                exact bnd_nest (by omega) hL (by omega) hm2 n6
              · simp only [spec_l05Block.tree, Tr.do_ite, Tr.do_call, Tr.do_val, Tr.do_need, Tr.do_jump, lt_dec q, decide_eq_true q2, decide_eq_true q6, spec_l01Once.told, e1, e3, spec_l01Below.told, e2, e5, Self.told, hm, wd, w2, e6, bind_ok, fit, fit2, fit3, wk, Bool.false_eq_true, ↓reduceIte]
        · obtain ⟨y0, y1, y2, y3, y4, y5, i2, j2, e2, t2, l2, c2⟩ := plain s2 s3 hC
          refine Or.inr ⟨q, (_, i2, j2), ?_, t2, l2, c2⟩
          simp only [spec_l05Block.tree, Tr.do_ite, Tr.do_call, Tr.do_val, Tr.do_need, Tr.do_jump, lt_dec q, decide_eq_true q2, decide_eq_false q6, spec_l04Stmt.told, e2, bind_ok, fit, wk, Bool.false_eq_true, ↓reduceIte]
      · obtain ⟨y0, y1, y2, y3, y4, y5, i2, j2, e2, t2, l2, c2⟩ := plain s2 s3 hC
        refine Or.inr ⟨q, (_, i2, j2), ?_, t2, l2, c2⟩
        simp only [spec_l05Block.tree, Tr.do_ite, Tr.do_call, Tr.do_val, Tr.do_need, Tr.do_jump, lt_dec q, decide_eq_false q2, spec_l04Stmt.told, e2, bind_ok, fit, wk, Bool.false_eq_true, ↓reduceIte]
    · obtain rfl : k = n := by omega
      refine Or.inl ⟨(s1, b, s2, s3), ?_, s1, s2, s3, rfl, hT, hL, hC⟩
      simp only [spec_l05Block.tree, Tr.do_ite, Tr.do_ret, ge_dec, Bool.false_eq_true, ↓reduceIte]) 0 (by omega) ([], i, h) ⟨Trans.nil d, by simp, c⟩
  obtain ⟨r, e, l, i', h', rfl, p⟩ := key
  refine ⟨l, i', h', ?_, p⟩
  simp only [spec_l05Block.step, spec_l05Block.begin, Tr.do_jump]
  exact e
theorem spec_l05Block_ok (n : Nat) {b : List Int} {i : Int} (h : Int) (hn : n ≤ 5) (c : Cur b i) : ∃ l i' h', spec_l05Block.f (n : Int) 0 b i h = some (l, b, i', h') ∧ Trans 0 l ∧ l.length ≤ 20 ∧ Cur b i' := by
  have h2 := blk_step (Self.iter spec_l05Block.step 5) 2 (by omega) (fun h => absurd h (by omega))
  have h1 := blk_step (Self.iter spec_l05Block.step 6) 1 (by omega) (fun _ => h2)
  have h0 := blk_step (Self.iter spec_l05Block.step 7) 0 (by omega) (fun _ => h1)
  obtain ⟨l, i', h', e, t, n', c'⟩ := h0 n b i h hn c
  exact ⟨l, i', h', e, t, Nat.le_trans n' (bnd_big hn), c'⟩
theorem spec_l05Case_ok {b : List Int} {i : Int} (h : Int) (c : Cur b i) : ∃ l i' h', spec_l05Case.f b i h = some (l, b, i', h') ∧ okB l.length l 0 = true ∧ l.length ≤ 20 ∧ Cur b i' := by
  obtain ⟨x1, i1, j1, e1, a1, b1, c1⟩ := spec_l01Below_ok 6 h (by omega) c
  obtain ⟨m, rfl⟩ : ∃ m : Nat, x1 = m := ⟨x1.toNat, by omega⟩
  obtain ⟨l, i2, j2, e2, t2, n2, c2⟩ := spec_l05Block_ok m j1 (by omega) c1
  simp only [spec_l05Case.f, spec_l05Case.begin, Tr.do_call, Tr.do_ret, spec_l01Below.told, e1, spec_l05Block.told, e2, bind_ok]
  refine ⟨_, _, _, rfl, ?_, n2, c2⟩
  have := t2 l.length []
  rw [List.append_nil] at this
  rw [this]
  show (decide ((0 : Int) = 0) && decide ((l.length : Int) ≤ 24)) = true
  rw [decide_eq_true (show (l.length : Int) ≤ 24 by omega)]
  rfl
/-- A program that was drawn. -/
def PrOk (p : List S75) : Prop := okP p = true ∧ 1 ≤ p.length ∧ p.length ≤ 3 ∧ ∀ t ∈ p, t.f0.length ≤ 20
theorem spec_l06Program_ok {b : List Int} {i : Int} (h : Int) (c : Cur b i) : ∃ p i' h', spec_l06Program.f b i h = some (p, b, i', h') ∧ PrOk p ∧ Cur b i' := by
  have key := upto 3 (fun k (s : List S75 × Int × Int) => s.1.length = k ∧ s.1.all okT = true ∧ (∀ t ∈ s.1, t.f0.length ≤ 20) ∧ Cur b s.2.1) (fun k s => lp spec_l06Program.tree (.c3 [] s.1 (k : Int) b s.2.1 s.2.2)) (fun r => ∃ l i' h', r = (l, b, i', h') ∧ PrOk l ∧ Cur b i') (fun k hk s hs => by
    obtain ⟨s1, s2, s3⟩ := s
    obtain ⟨hl, hv, hb, hc⟩ := hs
    simp only at hl hv hb hc
    rw [lp_eq]
    obtain ⟨x1, i1, j1, e1, a1, b1, c1⟩ := spec_l01Below_ok 3 s3 (by omega) hc
    have w : wr (1 + x1) = 1 + x1 := wr_in (by omega)
    by_cases q : (k : Int) < 1 + x1
    · obtain ⟨l2, i2, j2, e2, o2, n2, c2⟩ := spec_l05Case_ok j1 c1
      obtain ⟨o3, x3, y3, i3, j3, e3, a3, c3⟩ := spec_l03Expr_ok j2 c2
      have fit : ∀ x : S75, ((s1.length : Int) + (([x] : List S75).length : Int)) * (48 : Nat) ≤ room := fun x => one_fits s1 x 1048576 (by omega) (by omega) 48 (by omega)
      refine Or.inr ⟨by omega, (s1 ++ [(⟨l2, (⟨o3, x3, y3⟩ : S72)⟩ : S75)], i3, j3), ?_, by simp [hl], ?_, ?_, c3⟩
      · simp only [spec_l06Program.tree, Tr.do_call, Tr.do_ite, Tr.do_both, Tr.do_last, Tr.do_need, Tr.do_jump, spec_l01Below.told, e1, bind_ok, w, decide_eq_true q, spec_l05Case.told, e2, spec_l03Expr.told, e3, fit, both_same, ↓reduceIte, wr_next (show k < 4611686018427387904 by omega)]
      · rw [List.all_append, hv]
        show (true && (okB l2.length l2 0 && okX o3 x3 y3 && true)) = true
        rw [o2, a3]; rfl
      · intro t ht
        rcases List.mem_append.mp ht with ht | ht
        · exact hb t ht
        · rw [List.mem_singleton] at ht; rw [ht]; exact n2
    · refine Or.inl ⟨(s1, b, i1, j1), ?_, s1, i1, j1, rfl, ⟨?_, by omega, by omega, hb⟩, c1⟩
      · simp only [spec_l06Program.tree, Tr.do_call, Tr.do_ite, Tr.do_ret, spec_l01Below.told, e1, bind_ok, w, decide_eq_false q, Bool.false_eq_true, ↓reduceIte]
      · unfold okP
        rw [hv, (inB_iff (x := (s1.length : Int)) (a := 1) (b := 6)).mpr (by omega)]
        rfl) 0 (by omega) ([], i, h) ⟨rfl, rfl, by simp, c⟩
  obtain ⟨r, e, l, i', h', rfl, p⟩ := key
  refine ⟨l, i', h', ?_, p⟩
  simp only [spec_l06Program.f, spec_l06Program.begin, Tr.do_jump]
  exact e
/-! ### Drawn memories -/
theorem unpack_pack {a b c : Int} (ha : 0 ≤ a ∧ a ≤ 5) (hb : 0 ≤ b ∧ b ≤ 8) (hc : 0 ≤ c ∧ c ≤ 24) : unpack (pack a b c) = (a, b, c) := by
  have hp : ∀ x y z : Int, 0 ≤ x ∧ x ≤ 5 → 0 ≤ y ∧ y ≤ 8 → 0 ≤ z ∧ z ≤ 24 → pack x y z = x + 8 * (y + 16 * z) := fun x y z h1 h2 h3 => by
    unfold pack
    rw [inB_iff.mpr h1, inB_iff.mpr h2, inB_iff.mpr h3]
    rfl
  rw [hp a b c ha hb hc]
  unfold unpack
  generalize hw : a + 8 * (b + 16 * c) = w
  have w0 : 0 ≤ w := by omega
  have e1 : Int.tmod w 8 = a := by rw [Int.tmod_eq_emod_of_nonneg w0]; omega
  have e2 : Int.tdiv w 8 = b + 16 * c := by rw [Int.tdiv_eq_ediv_of_nonneg w0]; omega
  have e3 : wr (b + 16 * c) = b + 16 * c := wr_in (by omega)
  have e4 : Int.tmod (b + 16 * c) 16 = b := by rw [Int.tmod_eq_emod_of_nonneg (by omega)]; omega
  have e5 : Int.tdiv w 128 = c := by rw [Int.tdiv_eq_ediv_of_nonneg w0]; omega
  have e6 : wr c = c := wr_in (by omega)
  rw [e1, e2, e3, e4, e5, e6, hp a b c ha hb hc, if_neg (by omega), if_pos hw]
theorem all_take {m : List Int} (k : Nat) (h : m.all isVal = true) : (m.take k).all isVal = true := by
  rw [List.all_eq_true] at h ⊢
  exact fun x hx => h x (List.mem_of_mem_take hx)
theorem all_drop {m : List Int} (k : Nat) (h : m.all isVal = true) : (m.drop k).all isVal = true := by
  rw [List.all_eq_true] at h ⊢
  exact fun x hx => h x (List.mem_of_mem_drop hx)
theorem okMem_of {n : Nat} {m : List Int} {t c tl : Int} (hm : m.length = 49) (e : unpack (rdI m 8) = (t, c, tl)) (ht : 0 ≤ t ∧ t < n) (h8 : (m.take 8).all isVal = true) (hs : (sent m).all isVal = true) (hl : (List.range c.toNat).all (okPair m) = true) : okMem n m = true := by
  unfold okMem
  rw [e, decide_eq_true hm, decide_eq_false (show ¬ t < 0 by omega), decide_eq_false (show ¬ t ≥ (n : Int) by omega), h8, hs, hl]
  rfl
theorem spec_l12Readings_ok {b : List Int} {i : Int} (h : Int) (c : Cur b i) : ∃ l i' h', spec_l12Readings.f b i h = some (l, b, i', h') ∧ l.all isVal = true ∧ 1 ≤ l.length ∧ l.length ≤ 9 ∧ Cur b i' := by
  have key := upto 9 (fun k (s : List Int × Int × Int) => s.1.length = k ∧ s.1.all isVal = true ∧ Cur b s.2.1) (fun k s => lp spec_l12Readings.tree (.c3 s.1 (k : Int) b s.2.1 s.2.2)) (fun r => ∃ l i' h', r = (l, b, i', h') ∧ l.all isVal = true ∧ 1 ≤ l.length ∧ l.length ≤ 9 ∧ Cur b i') (fun k hk s hs => by
    obtain ⟨s1, s2, s3⟩ := s
    obtain ⟨hl, hv, hc⟩ := hs
    simp only at hl hv hc
    rw [lp_eq]
    obtain ⟨x1, i1, j1, e1, a1, b1, c1⟩ := spec_l01Below_ok 9 s3 (by omega) hc
    have w : wr (1 + x1) = 1 + x1 := wr_in (by omega)
    by_cases q : (k : Int) < 1 + x1
    · obtain ⟨x2, i2, j2, e2, a2, b2, c2⟩ := spec_l01Below_ok 800 j1 (by omega) c1
      have w2 : wr (x2 - 200) = x2 - 200 := wr_in (by omega)
      have hvx : isVal (x2 - 200) = true := by unfold isVal; rw [inB_iff]; omega
      refine Or.inr ⟨by omega, (s1 ++ [x2 - 200], i2, j2), ?_, by simp [hl], by simp [hv, hvx], c2⟩
      simp only [spec_l12Readings.tree, Tr.do_call, Tr.do_ite, Tr.do_need, Tr.do_jump, spec_l01Below.told, e1, e2, bind_ok, w, w2, decide_eq_true q, one_fits s1 _ 1048576 (by omega) (by omega) 8 (by omega), ↓reduceIte, wr_next (show k < 4611686018427387904 by omega)]
    · refine Or.inl ⟨(s1, b, i1, j1), ?_, s1, i1, j1, rfl, hv, by omega, by omega, c1⟩
      simp only [spec_l12Readings.tree, Tr.do_call, Tr.do_ite, Tr.do_ret, spec_l01Below.told, e1, bind_ok, w, decide_eq_false q, Bool.false_eq_true, ↓reduceIte]) 0 (by omega) ([], i, h) ⟨rfl, rfl, c⟩
  obtain ⟨r, e, l, i', h', rfl, p⟩ := key
  exact ⟨l, i', h', e, p⟩
/-! ### Blocks as paths of depths -/
def okS (s : S115) : Bool := okSt s.f0 s.f1 s.f2 s.f3.f0 s.f3.f1 s.f3.f2
def inr (lo hi : Int) : List S115 → Int → Bool
  | [], _ => true
  | s :: l, d => okS s && (inB (dep s.f0 d) lo hi && inr lo hi l (dep s.f0 d))
def fin : List S115 → Int → Int
  | [], d => d
  | s :: l, d => fin l (dep s.f0 d)
theorem okB_path (n : Nat) : ∀ (l : List S115) (d : Int), okB n l d = true → inr 0 3 l d = true ∧ fin l d = 0 ∧ n ≤ 24
  | [], d, h => by
    unfold okB at h
    rw [Bool.and_eq_true, decide_eq_true_eq, decide_eq_true_eq] at h
    exact ⟨rfl, h.1, by omega⟩
  | s :: l, d, h => by
    unfold okB at h
    rw [Bool.and_eq_true, Bool.and_eq_true] at h
    obtain ⟨a, b, c⟩ := okB_path n l _ h.2.2
    refine ⟨?_, b, c⟩
    unfold inr okS
    rw [h.1, h.2.1, a]
    rfl
/-! ### What has to be logged: only that it can be found -/
theorem okP_sizes {p : List S75} (h : okP p = true) : p.length ≤ 6 ∧ 1 ≤ p.length ∧ ∀ t ∈ p, t.f0.length ≤ 1048576 := by
  have h' := h
  unfold okP at h'
  rw [Bool.and_eq_true, List.all_eq_true, inB_iff] at h'
  refine ⟨by omega, by omega, fun t ht => ?_⟩
  have := h'.1 t ht
  unfold okT at this
  rw [Bool.and_eq_true] at this
  have := (okB_path _ _ _ this.1).2.2
  omega
theorem isPre_of {a b : List Int} (h : a <+: b) : isPre a b = true := by
  unfold isPre
  rw [decide_eq_true h.length_le, decide_eq_true (List.prefix_iff_eq_take.mp h)]
  rfl
theorem laws_big_f (b : List Int) : laws_big.f b = some (decide ((b.length : Int) > 1048576)) := rfl
theorem isPre_iff {a b : List Int} : isPre a b = true ↔ a <+: b := by
  refine ⟨fun h => ?_, isPre_of⟩
  unfold isPre at h
  rw [Bool.and_eq_true, decide_eq_true_eq, decide_eq_true_eq] at h
  rw [List.prefix_iff_eq_take]
  exact h.2
/-- What a valid node is. -/
theorem okNode_view {p : List S75} {m r : List Int} {a3 a4 a5 a6 a7 a8 a9 a10 : Int} {h : List Int} {a12 : Int} : okNode p m r a3 a4 a5 a6 a7 a8 a9 a10 h a12 = true ↔
    okP p = true ∧ okMem p.length m = true ∧ okStore a4 a5 a6 a7 = true ∧ r.all isVal = true ∧ (0 ≤ a3 ∧ a3 ≤ 400000) ∧ okSpan a8 a9 = true ∧ ((0 ≤ a10 ∧ a10 ≤ (h.length : Int)) ∧ h <+: memSent m) ∧ (0 ≤ a12 ∧ a12 ≤ 100000) := by
  unfold okNode okLink
  simp only [Bool.and_eq_true, inB_iff, isPre_iff]
  exact ⟨fun ⟨⟨q1, q2⟩, q3, q4, q5, q6, q7, q8⟩ => ⟨q1, q2, q3, q4, q5, q6, q7, q8⟩, fun ⟨q1, q2, q3, q4, q5, q6, q7, q8⟩ => ⟨⟨q1, q2⟩, q3, q4, q5, q6, q7, q8⟩⟩
theorem okStore_view {a b c d : Int} : okStore a b c d = true ↔ (1 ≤ b ∧ b ≤ 5000) ∧ (0 ≤ a ∧ a ≤ b) ∧ (1 ≤ c ∧ c ≤ b) ∧ (0 ≤ d ∧ d ≤ 100) := by
  unfold okStore; simp only [Bool.and_eq_true, inB_iff]
theorem okSpan_view {a b : Int} : okSpan a b = true ↔ 0 ≤ a ∧ a ≤ b ∧ b ≤ 1000000 := by
  unfold okSpan; simp only [Bool.and_eq_true, decide_eq_true_eq, ge_iff_le]
abbrev Nd := List S75 × List Int × List Int × Int × Int × Int × Int × Int × Int × Int × Int × List Int × Int
def okNd (d : Nd) : Prop := okNode d.1 d.2.1 d.2.2.1 d.2.2.2.1 d.2.2.2.2.1 d.2.2.2.2.2.1 d.2.2.2.2.2.2.1 d.2.2.2.2.2.2.2.1 d.2.2.2.2.2.2.2.2.1 d.2.2.2.2.2.2.2.2.2.1 d.2.2.2.2.2.2.2.2.2.2.1 d.2.2.2.2.2.2.2.2.2.2.2.1 d.2.2.2.2.2.2.2.2.2.2.2.2 = true ∧ d.2.2.1.length ≤ 100
/-! ### Texts: bytes, digits, words -/
theorem bs_append (a b : List UInt8) : bs a ++ bs b = bs (a ++ b) := by
  apply ByteArray.ext
  simp [bs]
theorem bs_size (a : List UInt8) : (bs a).size = a.length := by simp [bs, ByteArray.size]
/-- A space and a number, i times. -/
def sp (l : List Int) : Nat → List UInt8
  | 0 => []
  | i + 1 => sp l i ++ ([32] ++ Lib.itoa (l.getD i 0))
theorem sp_length {l : List Int} (h : ∀ i, -9223372036854775808 ≤ l.getD i 0 ∧ l.getD i 0 ≤ 9223372036854775807) : ∀ i, (sp l i).length ≤ 22 * i := by
  intro i
  induction i with
  | zero => exact Nat.le_refl 0
  | succ i ih =>
    have := Lib.itoa_length_le (l.getD i 0) (h i).1 (h i).2
    unfold sp
    rw [List.length_append, List.length_append, List.length_singleton]
    omega
theorem ba_beq (a b : ByteArray) : (a == b) = decide (a = b) := by
  have h : (a == b) = (a.data == b.data) := rfl
  rw [h, Bool.eq_iff_iff, beq_iff_eq, decide_eq_true_eq]
  exact ⟨fun h => ByteArray.ext h, fun h => by rw [h]⟩
theorem ba_bne (a b : ByteArray) : (a != b) = !decide (a = b) := by
  show (!(a == b)) = _
  rw [ba_beq]
theorem ba_same (a : ByteArray) : (a != a) = false := by
  rw [ba_bne, decide_eq_true rfl]
  rfl
/-! ### Numbers as texts -/
theorem fits_room {a b : ByteArray} (h : a.size + b.size ≤ 100000000) : (a.size : Int) + (b.size : Int) ≤ room := by
  unfold room
  omega
theorem impl_FormatInt_f (x : Int) (h0 : -9223372036854775808 ≤ x) (h1 : x ≤ 9223372036854775807) : impl_FormatInt.f x = some (bs (Lib.itoa x)) := by
  have e : strconv_Itoa.f x = some (bs (Lib.itoa x)) := if_pos ⟨h0, h1⟩
  simp only [impl_FormatInt.f, impl_FormatInt.begin, Tr.do_call, Tr.do_ret, strconv_Itoa.told, e, bind_ok]
/-! ### Words, numerals -/
/-- A word: not empty, no space in it. -/
def Word (w : List UInt8) : Prop := w ≠ [] ∧ ∀ b ∈ w, Lib.isSp b = false
theorem fieldsGo_word : ∀ (w cur r : List UInt8), (∀ b ∈ w, Lib.isSp b = false) → Lib.fieldsGo cur (w ++ r) = Lib.fieldsGo (cur ++ w) r := by
  intro w
  induction w with
  | nil => intro cur r _; simp
  | cons b w ih =>
    intro cur r h
    have hb : Lib.isSp b = false := h b (List.mem_cons_self ..)
    have := ih (cur ++ [b]) r (fun x hx => h x (List.mem_cons_of_mem _ hx))
    simp only [List.cons_append, Lib.fieldsGo, hb]
    rw [if_neg (by decide), this, List.append_assoc]
    rfl
theorem fieldsGo_space (cur r : List UInt8) (h : cur ≠ []) : Lib.fieldsGo cur (32 :: r) = cur :: Lib.fieldsGo [] r := by
  have h1 : Lib.isSp 32 = true := by decide
  simp [Lib.fieldsGo, h, h1]
/-- The digits of a numeral. -/
theorem decDigits_digit : ∀ (u : Nat) (b : UInt8), b ∈ Lib.decDigits u → 48 ≤ b.toNat ∧ b.toNat ≤ 57 := by
  intro u
  induction u using Nat.strongRecOn with
  | _ u ih =>
    intro b hb
    by_cases hu : u < 10
    · rw [Lib.decDigits_one hu] at hb
      rw [List.mem_singleton.1 hb, UInt8.toNat_ofNat']
      omega
    · rw [Lib.decDigits, dif_neg hu] at hb
      rcases List.mem_append.1 hb with hb | hb
      · exact ih (u / 10) (by omega) b hb
      · rw [List.mem_singleton.1 hb, UInt8.toNat_ofNat']
        omega
theorem digit_noSp {b : UInt8} (h : 33 ≤ b.toNat) : Lib.isSp b = false := by
  unfold Lib.isSp
  simp only [Bool.or_eq_false_iff, beq_eq_false_iff_ne, ne_eq]
  refine ⟨⟨⟨⟨⟨?_, ?_⟩, ?_⟩, ?_⟩, ?_⟩, ?_⟩ <;> (intro e; subst e; revert h; decide)
theorem decDigits_ne (u : Nat) : Lib.decDigits u ≠ [] := by
  intro h
  have := Lib.decDigits_length u
  have hp := Lib.nDigits_pos u
  rw [h] at this
  simp at this
  omega
theorem itoa_word (x : Int) : Word (Lib.itoa x) := by
  unfold Lib.itoa
  by_cases hx : x < 0
  · rw [if_pos hx]
    refine ⟨by simp, fun b hb => ?_⟩
    rcases List.mem_cons.1 hb with rfl | hb
    · decide
    · exact digit_noSp (by have := decDigits_digit _ _ hb; omega)
  · rw [if_neg hx]
    exact ⟨decDigits_ne _, fun b hb => digit_noSp (by have := decDigits_digit _ _ hb; omega)⟩
theorem digit_toNat (d : Nat) (h : d < 10) : (UInt8.ofNat (48 + d)).toNat = 48 + d := by
  rw [UInt8.toNat_ofNat']
  omega
theorem parse_append : ∀ (l r : List UInt8) (acc n : Nat), Lib.parseUint10 acc l = .ok n → Lib.parseUint10 acc (l ++ r) = Lib.parseUint10 n r := by
  intro l
  induction l with
  | nil =>
    intro r acc n h
    simp only [Lib.parseUint10] at h
    injection h with h
    subst h
    rfl
  | cons c l ih =>
    intro r acc n h
    simp only [Lib.parseUint10, List.cons_append] at h ⊢
    split at h
    · rename_i h1
      rw [if_pos h1]
      split at h
      · cases h
      · rename_i h2
        rw [if_neg h2]
        split at h
        · cases h
        · rename_i h3
          rw [if_neg h3]
          exact ih r _ n h
    · cases h
theorem parse_digits : ∀ u : Nat, u < 1000000000 → Lib.parseUint10 0 (Lib.decDigits u) = .ok u := by
  intro u
  induction u using Nat.strongRecOn with
  | _ u ih =>
    intro hb
    by_cases hu : u < 10
    · rw [Lib.decDigits_one hu]
      simp only [Lib.parseUint10]
      rw [digit_toNat u hu, if_pos ⟨by omega, by omega⟩, if_neg (by omega), if_neg (by omega)]
      congr 1
      omega
    · rw [Lib.decDigits, dif_neg hu, parse_append _ _ _ _ (ih (u / 10) (by omega) (by omega))]
      simp only [Lib.parseUint10]
      rw [digit_toNat (u % 10) (by omega), if_pos ⟨by omega, by omega⟩, if_neg (by omega), if_neg (by omega)]
      congr 1
      omega
theorem digits_cons (u : Nat) : ∃ (c : UInt8) (r : List UInt8), Lib.decDigits u = c :: r ∧ 48 ≤ c.toNat ∧ c.toNat ≤ 57 := by
  cases h : Lib.decDigits u with
  | nil => exact absurd h (decDigits_ne u)
  | cons c r => exact ⟨c, r, rfl, decDigits_digit u c (by rw [h]; exact List.mem_cons_self ..)⟩
theorem atoi_itoa (x : Int) (h0 : -1000000 ≤ x) (h1 : x ≤ 1000000) : Lib.atoiAll (Lib.itoa x) = .ok x := by
  unfold Lib.itoa
  by_cases hx : x < 0
  · rw [if_pos hx]
    have hm : Lib.parseMag (Lib.decDigits x.natAbs) = .ok x.natAbs := by
      unfold Lib.parseMag
      rw [if_neg (decDigits_ne _)]
      exact parse_digits _ (by omega)
    have e45 : (45 : UInt8).toNat = 45 := rfl
    unfold Lib.atoiAll
    simp only [e45, or_true, if_true, hm, not_true_eq_false, false_and, if_false, true_and]
    rw [if_neg (by omega)]
    congr 1
    omega
  · rw [if_neg hx]
    have hm : Lib.parseMag (Lib.decDigits x.toNat) = .ok x.toNat := by
      unfold Lib.parseMag
      rw [if_neg (decDigits_ne _)]
      exact parse_digits _ (by omega)
    obtain ⟨c, r, e, c0, c1⟩ := digits_cons x.toNat
    rw [e] at hm ⊢
    have n43 : ¬ (c.toNat = 43 ∨ c.toNat = 45) := by omega
    have n45 : ¬ (c.toNat = 45) := by omega
    unfold Lib.atoiAll
    simp only [n43, if_false, hm]
    show (if ¬ (c.toNat = 45) ∧ 9223372036854775808 ≤ x.toNat then Lib.NumEnd.range else if c.toNat = 45 ∧ 9223372036854775808 < x.toNat then Lib.NumEnd.range else Lib.NumEnd.ok (if c.toNat = 45 then -((x.toNat : Nat) : Int) else ((x.toNat : Nat) : Int))) = Lib.NumEnd.ok x
    rw [if_neg (by omega), if_neg (by omega), if_neg n45]
    congr 1
    omega
theorem join_len : ∀ ws : List (List UInt8), (∀ w ∈ ws, w.length ≤ 600) → (Lib.join ws [32]).length ≤ 601 * ws.length := by
  intro ws
  unfold Lib.join
  induction ws with
  | nil => intro _; exact Nat.le_refl 0
  | cons w ws ih =>
    intro h
    have hw := h w (List.mem_cons_self ..)
    have ih := ih (fun x hx => h x (List.mem_cons_of_mem _ hx))
    cases ws with
    | nil =>
      have e : List.intercalate [32] [w] = w := by simp [List.intercalate, List.intersperse]
      rw [e, List.length_singleton]
      omega
    | cons v ws =>
      have e : List.intercalate [32] (w :: v :: ws) = w ++ 32 :: List.intercalate [32] (v :: ws) := by simp [List.intercalate, List.intersperse]
      rw [e, List.length_append, List.length_cons, List.length_cons (a := w)]
      omega
/-! ### A word and numbers -/
theorem spaced_step (w : List UInt8) (l : List Int) (hw : w.length ≤ 1000000) (hl : l.length ≤ 100000) (h : ∀ i, -9223372036854775808 ≤ l.getD i 0 ∧ l.getD i 0 ≤ 9223372036854775807) (i : Nat) (hi : i < l.length) :
    lp impl_spaced.tree (.c3 (bs (w ++ sp l i)) l (l.length : Int) (i : Int)) = lp impl_spaced.tree (.c3 (bs (w ++ sp l (i + 1))) l (l.length : Int) ((i + 1 : Nat) : Int)) := by
  have e := impl_FormatInt_f (l.getD i 0) (h i).1 (h i).2
  have hp := sp_length h i
  have hn := Lib.itoa_length_le (l.getD i 0) (h i).1 (h i).2
  have s1 := fits_room (a := (⟨#[32]⟩ : ByteArray)) (b := bs (Lib.itoa (l.getD i 0))) (by rw [bs_size]; show 1 + _ ≤ _; omega)
  have c1 : (⟨#[32]⟩ : ByteArray) ++ bs (Lib.itoa (l.getD i 0)) = bs ([32] ++ Lib.itoa (l.getD i 0)) := bs_append [32] _
  have s2 := fits_room (a := bs (w ++ sp l i)) (b := bs ([32] ++ Lib.itoa (l.getD i 0))) (by rw [bs_size, bs_size, List.length_append, List.length_append, List.length_singleton]; omega)
  have c2 : bs (w ++ sp l i) ++ bs ([32] ++ Lib.itoa (l.getD i 0)) = bs (w ++ sp l (i + 1)) := by rw [bs_append, List.append_assoc]; rfl
  have hg : rdI l (i : Int) = l.getD i 0 := rfl
  rw [lp_eq]
  simp only [impl_spaced.tree, Tr.do_ite, Tr.do_need, Tr.do_call, Tr.do_jump, lt_dec hi, in_lt hi, and_self, decide_true, ↓reduceIte, hg, impl_FormatInt.told, e, bind_ok, c1, s1, s2, c2, wr_next (show i < 4611686018427387904 by omega)]
theorem impl_spaced_f (w : List UInt8) (l : List Int) (hw : w.length ≤ 1000000) (hl : l.length ≤ 100000) (h : ∀ i, -9223372036854775808 ≤ l.getD i 0 ∧ l.getD i 0 ≤ 9223372036854775807) : impl_spaced.f (bs w) l = some (bs (w ++ sp l l.length)) := by
  simp only [impl_spaced.f, impl_spaced.begin, Tr.do_jump]
  have h0 : bs w = bs (w ++ sp l 0) := by unfold sp; rw [List.append_nil]
  rw [h0]
  refine same_loop l.length _ (fun i => lp impl_spaced.tree (.c3 (bs (w ++ sp l i)) l (l.length : Int) (i : Int))) (fun i hi => spaced_step w l hw hl h i hi) ?_
  rw [lp_eq]
  simp only [impl_spaced.tree, Tr.do_ite, Tr.do_ret, ge_dec, Bool.false_eq_true, ↓reduceIte]
theorem range_one {x : Int} (h : -9223372036854775808 ≤ x ∧ x ≤ 9223372036854775807) : ∀ i, -9223372036854775808 ≤ ([x] : List Int).getD i 0 ∧ ([x] : List Int).getD i 0 ≤ 9223372036854775807
  | 0 => h
  | _ + 1 => ⟨show (-9223372036854775808 : Int) ≤ 0 by decide, show (0 : Int) ≤ 9223372036854775807 by decide⟩
/-! ### Acts as texts -/
def okAct (a b c : Int) : Bool := if a = 1 then inB b 1 50 && inB c 0 1000 else if a = 2 then decide (b ≥ 0) && (decide (b ≤ c) && decide (c ≤ 10000)) else if a = 3 then inB b 0 24 && inB c 0 1 else if a = 4 then okSpan b c else if a = 5 then isVal b && decide (c = 0) else false
theorem impl_ActOk_f (a b c : Int) : impl_ActOk.f a b c = some (okAct a b c) := by
  simp only [impl_ActOk.f, impl_ActOk.begin, Tr.do_ite, Tr.do_call, Tr.do_ret, impl_within.told, impl_within_f, impl_isHarvest.told, impl_isHarvest.f, impl_isHarvest.begin, impl_SpanOk.told, impl_SpanOk_f, impl_IsValue.told, impl_IsValue_f, bind_ok, okAct, decide_eq_true_eq]
  by_cases q1 : a = 1
  · simp only [q1, ↓reduceIte]
    cases inB b 1 50 <;> rfl
  · by_cases q2 : a = 2
    · simp only [q2, ↓reduceIte, show ¬ ((2 : Int) = 1) by decide]
      by_cases h1 : b ≥ 0
      · by_cases h2 : b ≤ c
        · simp only [h1, h2, ↓reduceIte, decide_true, Bool.true_and]
        · simp only [h1, h2, ↓reduceIte, decide_true, decide_false, Bool.true_and, Bool.false_and]
      · simp only [h1, ↓reduceIte, decide_false, Bool.false_and]
    · by_cases q3 : a = 3
      · simp only [q3, ↓reduceIte, show ¬ ((3 : Int) = 1) by decide, show ¬ ((3 : Int) = 2) by decide]
        cases inB b 0 24 <;> rfl
      · by_cases q4 : a = 4
        · simp only [q4, ↓reduceIte, show ¬ ((4 : Int) = 1) by decide, show ¬ ((4 : Int) = 2) by decide, show ¬ ((4 : Int) = 3) by decide]
        · by_cases q5 : a = 5
          · simp only [q5, ↓reduceIte, show ¬ ((5 : Int) = 1) by decide, show ¬ ((5 : Int) = 2) by decide, show ¬ ((5 : Int) = 3) by decide, show ¬ ((5 : Int) = 4) by decide]
            cases isVal b <;> rfl
          · simp only [q1, q2, q3, q4, q5, ↓reduceIte]
theorem okAct_facts {a b c : Int} (h : okAct a b c = true) : (a = 1 ∨ a = 2 ∨ a = 3 ∨ a = 4 ∨ a = 5) ∧ (-1000000 ≤ b ∧ b ≤ 1000000) ∧ (-1000000 ≤ c ∧ c ≤ 1000000) ∧ (a = 5 → c = 0) := by
  unfold okAct at h
  by_cases q1 : a = 1
  · rw [if_pos q1, Bool.and_eq_true, inB_iff, inB_iff] at h
    omega
  rw [if_neg q1] at h
  by_cases q2 : a = 2
  · rw [if_pos q2, Bool.and_eq_true, Bool.and_eq_true, decide_eq_true_eq, decide_eq_true_eq, decide_eq_true_eq] at h
    omega
  rw [if_neg q2] at h
  by_cases q3 : a = 3
  · rw [if_pos q3, Bool.and_eq_true, inB_iff, inB_iff] at h
    omega
  rw [if_neg q3] at h
  by_cases q4 : a = 4
  · rw [if_pos q4, okSpan_view] at h
    omega
  rw [if_neg q4] at h
  by_cases q5 : a = 5
  · rw [if_pos q5, Bool.and_eq_true, decide_eq_true_eq] at h
    unfold isVal at h
    rw [inB_iff] at h
    omega
  rw [if_neg q5] at h
  cases h
/-- An act's name. -/
def nm (a : Int) : List UInt8 := if a = 1 then [116, 105, 99, 107] else if a = 2 then [100, 97, 114, 107] else if a = 3 then [117, 112, 108, 105, 110, 107] else if a = 4 then [99, 108, 111, 99, 107] else [114, 101, 97, 100, 105, 110, 103]
/-- The words of an act. -/
def wordsOf (a b c : Int) : List (List UInt8) := if a = 5 then [nm a, Lib.itoa b] else [nm a, Lib.itoa b, Lib.itoa c]
theorem two_words (w : List UInt8) (b c : Int) : w ++ sp [b, c] 2 = Lib.join [w, Lib.itoa b, Lib.itoa c] [32] := by
  simp [sp, Lib.join, List.intercalate, List.intersperse]
theorem one_word (w : List UInt8) (b : Int) : w ++ sp [b] 1 = Lib.join [w, Lib.itoa b] [32] := by
  simp [sp, Lib.join, List.intercalate, List.intersperse]
theorem range_two {x y : Int} (h : -9223372036854775808 ≤ x ∧ x ≤ 9223372036854775807) (g : -9223372036854775808 ≤ y ∧ y ≤ 9223372036854775807) : ∀ i, -9223372036854775808 ≤ ([x, y] : List Int).getD i 0 ∧ ([x, y] : List Int).getD i 0 ≤ 9223372036854775807
  | 0 => h
  | 1 => g
  | _ + 2 => ⟨show (-9223372036854775808 : Int) ≤ 0 by decide, show (0 : Int) ≤ 9223372036854775807 by decide⟩
/-- The names, as the program lists them. -/
def names6 : List ByteArray := [bs [], bs [116, 105, 99, 107], bs [100, 97, 114, 107], bs [117, 112, 108, 105, 110, 107], bs [99, 108, 111, 99, 107], bs [114, 101, 97, 100, 105, 110, 103]]
theorem impl_actNames_f : impl_actNames.f = some names6 := rfl
/-- The text of an act. -/
def actText (a b c : Int) : List UInt8 := Lib.join (wordsOf a b c) [32]
theorem impl_FormatAct_f (a b c : Int) (hb : -9223372036854775808 ≤ b ∧ b ≤ 9223372036854775807) (hc : -9223372036854775808 ≤ c ∧ c ≤ 9223372036854775807) : impl_FormatAct.f a b c = some (if okAct a b c = true then (bs (actText a b c), true) else (bs [], false)) := by
  have e1 := impl_ActOk_f a b c
  cases h : okAct a b c with
  | false =>
    rw [h] at e1
    simp only [impl_FormatAct.f, impl_FormatAct.begin, Tr.do_call, Tr.do_ite, Tr.do_ret, impl_ActOk.told, e1, bind_ok, Bool.not_false, Bool.false_eq_true, ↓reduceIte]
    rfl
  | true =>
    rw [h] at e1
    have f := (okAct_facts h).1
    have n2 : [b, c].length ≤ 100000 := show 2 ≤ 100000 by decide
    have hn : ∀ k, names6.getD k ByteArray.empty = names6.getD k ByteArray.empty := fun _ => rfl
    by_cases q5 : a = 5
    · subst q5
      have e2 := impl_spaced_f [114, 101, 97, 100, 105, 110, 103] [b] (by decide) (show 1 ≤ 100000 by decide) (range_one hb)
      have e3 : impl_spaced.f (⟨#[114, 101, 97, 100, 105, 110, 103]⟩ : ByteArray) [b] = some (bs (actText 5 b c)) := e2.trans (congrArg (fun l => some (bs l)) (one_word _ b))
      simp only [impl_FormatAct.f, impl_FormatAct.begin, Tr.do_call, Tr.do_ite, Tr.do_ret, impl_ActOk.told, e1, bind_ok, Bool.not_true, Bool.false_eq_true, ↓reduceIte, decide_true, impl_spaced.told, e3]
    · have e2 : ∀ w, w.length ≤ 10 → impl_spaced.f (bs w) [b, c] = some (bs (w ++ sp [b, c] 2)) := fun w hw => impl_spaced_f w [b, c] (by omega) n2 (range_two hb hc)
      have nn : (names6.length : Int) = 6 := rfl
      have n6 : (0 : Int) ≤ a ∧ a < (names6.length : Int) := by rw [nn]; omega
      have e3 : impl_spaced.f (rdY names6 a) [b, c] = some (bs (actText a b c)) := by
        have k : rdY names6 a = bs (nm a) := by rcases f with rfl | rfl | rfl | rfl | rfl <;> rfl
        have hw : (nm a).length ≤ 10 := by rcases f with rfl | rfl | rfl | rfl | rfl <;> decide
        rw [k, e2 _ hw, two_words]
        unfold actText wordsOf
        rw [if_neg q5]
      simp only [impl_FormatAct.f, impl_FormatAct.begin, Tr.do_call, Tr.do_ite, Tr.do_need, Tr.do_both, Tr.do_last, Tr.do_ret, impl_ActOk.told, e1, bind_ok, Bool.not_true, Bool.false_eq_true, ↓reduceIte, decide_eq_false q5, impl_actNames.told, impl_actNames_f, n6, and_self, impl_spaced.told, e3, both_same]
/-! ### Reading acts -/
theorem bs_inj {u v : List UInt8} (h : bs u = bs v) : u = v := by
  have := congrArg (fun x : ByteArray => x.data.toList) h
  simpa [bs] using this
theorem bs_data (l : List UInt8) : (bs l).data.toList = l := by simp [bs]
theorem nm_inj {a b : Int} (ha : a = 1 ∨ a = 2 ∨ a = 3 ∨ a = 4 ∨ a = 5) (hb : b = 1 ∨ b = 2 ∨ b = 3 ∨ b = 4 ∨ b = 5) (h : nm a = nm b) : a = b := by
  rcases ha with rfl | rfl | rfl | rfl | rfl <;> rcases hb with rfl | rfl | rfl | rfl | rfl <;> first | rfl | (exact absurd h (by decide))
theorem joined (ws : List (List UInt8)) (hn : ws.length ≤ 24) (h : ∀ w ∈ ws, w.length ≤ 600) : strings_Join.f (ws.map bs) (⟨#[32]⟩ : ByteArray) = some (bs (Lib.join ws [32])) := by
  have e : List.map (fun x : ByteArray => x.data.toList) (ws.map bs) = ws := by simp [bs, Function.comp_def]
  have hl := join_len ws h
  unfold strings_Join.f
  rw [e, List.length_map]
  refine if_pos ⟨by omega, ?_⟩
  show (Lib.join ws [32]).length ≤ _
  omega
theorem atoi_f (v : List UInt8) (hv : v.length ≤ 600) : strconv_Atoi.f (bs v) = some (atoiNum v) := by
  unfold strconv_Atoi.f
  rw [if_pos (by rw [bs_size]; omega), bs_data]
theorem atoiNum_itoa (x : Int) (h0 : -1000000 ≤ x) (h1 : x ≤ 1000000) : atoiNum (Lib.itoa x) = x := by
  unfold atoiNum
  rw [atoi_itoa x h0 h1]
theorem idx_step (w v : List UInt8) (i : Nat) (hi : i < 6) (hv : rdY names6 (i : Int) = bs v) :
    (w = v → lp slices_Index_string.tree (.c2 names6 (bs w) 6 (i : Int)) = some (i : Int)) ∧ (w ≠ v → lp slices_Index_string.tree (.c2 names6 (bs w) 6 (i : Int)) = lp slices_Index_string.tree (.c2 names6 (bs w) 6 ((i + 1 : Nat) : Int))) := by
  have hn : (names6.length : Int) = 6 := rfl
  have h1 : (0 : Int) ≤ (i : Int) ∧ (i : Int) < (names6.length : Int) := by omega
  have h2 : decide ((i : Int) < 6) = true := decide_eq_true (by omega)
  refine ⟨fun h => ?_, fun h => ?_⟩
  · have hb : (bs w == bs v) = true := by rw [ba_beq, h, decide_eq_true rfl]
    rw [lp_eq]
    simp only [slices_Index_string.tree, Tr.do_ite, Tr.do_need, Tr.do_ret, h1, h2, and_self, ↓reduceIte, hv, hb]
  · have hb : (bs w == bs v) = false := by rw [ba_beq]; exact decide_eq_false (fun e => h (bs_inj e))
    conv => lhs; rw [lp_eq]
    simp only [slices_Index_string.tree, Tr.do_ite, Tr.do_need, Tr.do_jump, h1, h2, and_self, ↓reduceIte, hv, hb, Bool.false_eq_true, wr_next (show i < 4611686018427387904 by omega)]
theorem index_f (w : List UInt8) (hw : w ≠ []) : ∃ r, slices_Index_string.f names6 (bs w) = some r ∧ (-1 ≤ r ∧ r ≤ 5) ∧ (∀ a, (a = 1 ∨ a = 2 ∨ a = 3 ∨ a = 4 ∨ a = 5) → w = nm a → r = a) := by
  have s0 := idx_step w [] 0 (by decide) rfl
  have s1 := idx_step w (nm 1) 1 (by decide) rfl
  have s2 := idx_step w (nm 2) 2 (by decide) rfl
  have s3 := idx_step w (nm 3) 3 (by decide) rfl
  have s4 := idx_step w (nm 4) 4 (by decide) rfl
  have s5 := idx_step w (nm 5) 5 (by decide) rfl
  have s6 : lp slices_Index_string.tree (.c2 names6 (bs w) 6 ((6 : Nat) : Int)) = some (-1) := by
    rw [lp_eq]
    simp only [slices_Index_string.tree, Tr.do_ite, Tr.do_ret, show decide (((6 : Nat) : Int) < 6) = false from rfl, Bool.false_eq_true, ↓reduceIte]
  have e0 : slices_Index_string.f names6 (bs w) = lp slices_Index_string.tree (.c2 names6 (bs w) 6 ((0 : Nat) : Int)) := rfl
  rw [e0, s0.2 hw]
  have only : ∀ i : Int, (i = 1 ∨ i = 2 ∨ i = 3 ∨ i = 4 ∨ i = 5) → w = nm i → ∀ a, (a = 1 ∨ a = 2 ∨ a = 3 ∨ a = 4 ∨ a = 5) → w = nm a → i = a := fun i hi h a ha h' => nm_inj hi ha (h.symm.trans h')
  by_cases h1 : w = nm 1
  · exact ⟨1, s1.1 h1, by decide, only 1 (by decide) h1⟩
  by_cases h2 : w = nm 2
  · exact ⟨2, (s1.2 h1).trans (s2.1 h2), by decide, only 2 (by decide) h2⟩
  by_cases h3 : w = nm 3
  · exact ⟨3, (s1.2 h1).trans ((s2.2 h2).trans (s3.1 h3)), by decide, only 3 (by decide) h3⟩
  by_cases h4 : w = nm 4
  · exact ⟨4, (s1.2 h1).trans ((s2.2 h2).trans ((s3.2 h3).trans (s4.1 h4))), by decide, only 4 (by decide) h4⟩
  by_cases h5 : w = nm 5
  · exact ⟨5, (s1.2 h1).trans ((s2.2 h2).trans ((s3.2 h3).trans ((s4.2 h4).trans (s5.1 h5)))), by decide, only 5 (by decide) h5⟩
  refine ⟨-1, (s1.2 h1).trans ((s2.2 h2).trans ((s3.2 h3).trans ((s4.2 h4).trans ((s5.2 h5).trans s6)))), by decide, fun a ha h => ?_⟩
  rcases ha with rfl | rfl | rfl | rfl | rfl
  · exact absurd h h1
  · exact absurd h h2
  · exact absurd h h3
  · exact absurd h h4
  · exact absurd h h5
theorem nm_word (a : Int) : Word (nm a) := by
  unfold nm
  refine ⟨?_, ?_⟩
  · repeat' split
    all_goals simp
  · repeat' split
    all_goals decide
theorem wordsOf_words (a b c : Int) : ∀ w ∈ wordsOf a b c, Word w := by
  intro w hw
  unfold wordsOf at hw
  split at hw
  · simp only [List.mem_cons, List.not_mem_nil, or_false] at hw
    rcases hw with rfl | rfl
    · exact nm_word a
    · exact itoa_word b
  · simp only [List.mem_cons, List.not_mem_nil, or_false] at hw
    rcases hw with rfl | rfl | rfl
    · exact nm_word a
    · exact itoa_word b
    · exact itoa_word c
theorem wordsOf_len (a b c : Int) (hb : -1000000 ≤ b ∧ b ≤ 1000000) (hc : -1000000 ≤ c ∧ c ≤ 1000000) : (wordsOf a b c).length ≤ 3 ∧ ∀ w ∈ wordsOf a b c, w.length ≤ 21 := by
  have l1 := Lib.itoa_length_le b (by omega) (by omega)
  have l2 := Lib.itoa_length_le c (by omega) (by omega)
  have l3 : (nm a).length ≤ 21 := by
    unfold nm
    repeat' split
    all_goals decide
  unfold wordsOf
  split
  · refine ⟨show 2 ≤ 3 by decide, fun w hw => ?_⟩
    simp only [List.mem_cons, List.not_mem_nil, or_false] at hw
    rcases hw with rfl | rfl
    · exact l3
    · exact l1
  · refine ⟨show 3 ≤ 3 by decide, fun w hw => ?_⟩
    simp only [List.mem_cons, List.not_mem_nil, or_false] at hw
    rcases hw with rfl | rfl | rfl
    · exact l3
    · exact l1
    · exact l2
theorem okByte_iff {b : UInt8} : okByte b = true ↔ 32 ≤ b.toNat ∧ b.toNat ≤ 126 := by
  unfold okByte
  simp
theorem itoa_bytes (x : Int) : ∀ b ∈ Lib.itoa x, okByte b = true := by
  unfold Lib.itoa
  intro b hb
  rw [okByte_iff]
  split at hb
  · rcases List.mem_cons.1 hb with rfl | hb
    · decide
    · have := decDigits_digit _ _ hb; omega
  · have := decDigits_digit _ _ hb; omega
theorem nm_bytes (a : Int) : ∀ b ∈ nm a, okByte b = true := by
  unfold nm
  repeat' split
  all_goals decide
theorem join_bytes : ∀ ws : List (List UInt8), (∀ w ∈ ws, ∀ b ∈ w, okByte b = true) → ∀ b ∈ Lib.join ws [32], okByte b = true := by
  intro ws
  unfold Lib.join
  induction ws with
  | nil => intro _ b hb; simp [List.intercalate, List.intersperse] at hb
  | cons w ws ih =>
    intro h b hb
    have ih := ih (fun x hx => h x (List.mem_cons_of_mem _ hx))
    cases ws with
    | nil =>
      have e : List.intercalate [32] [w] = w := by simp [List.intercalate, List.intersperse]
      rw [e] at hb
      exact h w (List.mem_cons_self ..) b hb
    | cons v ws =>
      have e : List.intercalate [32] (w :: v :: ws) = w ++ 32 :: List.intercalate [32] (v :: ws) := by simp [List.intercalate, List.intersperse]
      rw [e] at hb
      rcases List.mem_append.1 hb with hb | hb
      · exact h w (List.mem_cons_self ..) b hb
      · rcases List.mem_cons.1 hb with rfl | hb
        · decide
        · exact ih b hb
theorem act_bytes (a b c : Int) : ∀ x ∈ actText a b c, okByte x = true := by
  refine join_bytes _ (fun w hw => ?_)
  unfold wordsOf at hw
  split at hw
  · simp only [List.mem_cons, List.not_mem_nil, or_false] at hw
    rcases hw with rfl | rfl
    · exact nm_bytes a
    · exact itoa_bytes b
  · simp only [List.mem_cons, List.not_mem_nil, or_false] at hw
    rcases hw with rfl | rfl | rfl
    · exact nm_bytes a
    · exact itoa_bytes b
    · exact itoa_bytes c
theorem fields_tail : ∀ (ws : List (List UInt8)), (∀ w ∈ ws, Word w) → Lib.fieldsGo [] (Lib.join ws [32] ++ [32]) = ws := by
  intro ws
  unfold Lib.join
  induction ws with
  | nil => intro _; rfl
  | cons w ws ih =>
    intro h
    have hw := h w (List.mem_cons_self ..)
    have ih := ih (fun x hx => h x (List.mem_cons_of_mem _ hx))
    cases ws with
    | nil =>
      have e : List.intercalate [32] [w] = w := by simp [List.intercalate, List.intersperse]
      rw [e, fieldsGo_word w [] [32] hw.2, List.nil_append, fieldsGo_space w [] hw.1]
      rfl
    | cons v ws =>
      have e : List.intercalate [32] (w :: v :: ws) = w ++ 32 :: List.intercalate [32] (v :: ws) := by simp [List.intercalate, List.intersperse]
      rw [e, List.append_assoc, fieldsGo_word w [] _ hw.2, List.nil_append, List.cons_append, fieldsGo_space w _ hw.1, ih]
theorem fieldsGo_skip (r : List UInt8) : Lib.fieldsGo [] (32 :: r) = Lib.fieldsGo [] r := by
  have h1 : Lib.isSp 32 = true := by decide
  simp [Lib.fieldsGo, h1]
theorem splitRes_words {l : List UInt8} {ws : List (List UInt8)} (hl : l.length ≤ 600) (hb : ∀ b ∈ l, okByte b = true) (hf : Lib.fields l = ws) (hn : ws.length ≤ 24) : splitRes l = (ws.map bs, true) := by
  unfold splitRes splitDone
  rw [if_neg (by omega), if_pos (List.all_eq_true.mpr hb), hf, if_neg (by omega)]
theorem act_len (a b c : Int) (hb : -1000000 ≤ b ∧ b ≤ 1000000) (hc : -1000000 ≤ c ∧ c ≤ 1000000) : (actText a b c).length ≤ 590 := by
  obtain ⟨h1, h2⟩ := wordsOf_len a b c hb hc
  unfold actText
  unfold wordsOf at h1 h2 ⊢
  split
  · rename_i q
    rw [if_pos q] at h2
    have k1 := h2 _ (List.mem_cons_self ..)
    have k2 := h2 _ (List.mem_cons_of_mem _ (List.mem_cons_self ..))
    simp [Lib.join, List.intercalate, List.intersperse]
    omega
  · rename_i q
    rw [if_neg q] at h2
    have k1 := h2 _ (List.mem_cons_self ..)
    have k2 := h2 _ (List.mem_cons_of_mem _ (List.mem_cons_self ..))
    have k3 := h2 _ (List.mem_cons_of_mem _ (List.mem_cons_of_mem _ (List.mem_cons_self ..)))
    simp [Lib.join, List.intercalate, List.intersperse]
    omega
/-- A line that has just the words of an act is read as the act. -/
theorem impl_ParseAct_act (a b c : Int) (h : okAct a b c = true) (l : List UInt8) (hl : l.length ≤ 600) (hbs : ∀ x ∈ l, okByte x = true) (hf : Lib.fields l = wordsOf a b c) : impl_ParseAct.f (bs l) = some (a, b, c, true) := by
  obtain ⟨fa, fb, fc, f5⟩ := okAct_facts h
  obtain ⟨n3, n21⟩ := wordsOf_len a b c fb fc
  have es : impl_SplitFields.f (bs l) = some ((wordsOf a b c).map bs, true) := by
    show some (splitRes (bs l).data.toList) = _
    rw [bs_data, splitRes_words hl hbs hf (by omega)]
  have ej := joined (wordsOf a b c) (by omega) (fun w hw => Nat.le_trans (n21 w hw) (by decide))
  have eF := impl_FormatAct_f a b c (by omega) (by omega)
  rw [h, if_pos rfl] at eF
  have hsame : (bs (actText a b c) != bs (Lib.join (wordsOf a b c) [32])) = false := ba_same _
  obtain ⟨r, er, _, ha⟩ := index_f (nm a) (nm_word a).1
  obtain rfl : r = a := ha a fa rfl
  have ab := atoi_f (Lib.itoa b) (by have := Lib.itoa_length_le b (by omega) (by omega); omega)
  rw [atoiNum_itoa b fb.1 fb.2] at ab
  have ac := atoi_f (Lib.itoa c) (by have := Lib.itoa_length_le c (by omega) (by omega); omega)
  rw [atoiNum_itoa c fc.1 fc.2] at ac
  have e8 : ∀ u0 u1 u2, lp impl_ParseAct.tree (.c8 u0 u1 u2 ((wordsOf r b c).map bs) r b c) = some (r, b, c, true) := fun u0 u1 u2 => by
    rw [lp_eq]
    simp only [impl_ParseAct.tree, Tr.do_call, Tr.do_ite, Tr.do_ret, impl_FormatAct.told, eF, bind_ok, Bool.not_true, Bool.false_eq_true, ↓reduceIte, strings_Join.told, ej, hsame]
  have n2 : decide (((((wordsOf r b c).map bs).length : Nat) : Int) < 2) = false := by
    refine decide_eq_false ?_
    rw [List.length_map]
    unfold wordsOf
    split
    · show ¬ ((2 : Nat) : Int) < 2; omega
    · show ¬ ((3 : Nat) : Int) < 2; omega
  have m0 : (0 : Int) ≤ 0 ∧ (0 : Int) < ((((wordsOf r b c).map bs).length : Nat) : Int) := by
    have := of_decide_eq_false n2
    omega
  have m1 : (0 : Int) ≤ 1 ∧ (1 : Int) < ((((wordsOf r b c).map bs).length : Nat) : Int) := by
    have := of_decide_eq_false n2
    omega
  have g0 : rdY ((wordsOf r b c).map bs) 0 = bs (nm r) := by
    unfold wordsOf
    split <;> rfl
  have g1 : rdY ((wordsOf r b c).map bs) 1 = bs (Lib.itoa b) := by
    unfold wordsOf
    split <;> rfl
  have e5 : ∀ u0 u1 u2, lp impl_ParseAct.tree (.c5 u0 u1 u2 ((wordsOf r b c).map bs) r 0 0) = some (r, b, c, true) := fun u0 u1 u2 => by
    rw [lp_eq]
    by_cases q : r = 5
    · have hc0 := f5 q
      have n3 : decide (((((wordsOf r b c).map bs).length : Nat) : Int) > 2) = false := by
        refine decide_eq_false ?_
        rw [List.length_map]
        unfold wordsOf
        rw [if_pos q]
        show ¬ ((2 : Nat) : Int) > 2
        omega
      have e8' := e8 u0 u1 u2
      simp only [impl_ParseAct.tree, Tr.do_call, Tr.do_ite, Tr.do_need, Tr.do_jump, m1, and_self, ↓reduceIte, g1, strconv_Atoi.told, ab, bind_ok, n3, Bool.false_eq_true]
      rw [hc0] at e8' ⊢
      exact e8'
    · have n3 : decide (((((wordsOf r b c).map bs).length : Nat) : Int) > 2) = true := by
        refine decide_eq_true ?_
        rw [List.length_map]
        unfold wordsOf
        rw [if_neg q]
        show ((3 : Nat) : Int) > 2
        omega
      have m2 : (0 : Int) ≤ 2 ∧ (2 : Int) < ((((wordsOf r b c).map bs).length : Nat) : Int) := by
        have := of_decide_eq_true n3
        omega
      have g2 : rdY ((wordsOf r b c).map bs) 2 = bs (Lib.itoa c) := by
        unfold wordsOf
        rw [if_neg q]
        rfl
      simp only [impl_ParseAct.tree, Tr.do_call, Tr.do_ite, Tr.do_need, Tr.do_jump, m1, m2, and_self, ↓reduceIte, g1, g2, strconv_Atoi.told, ab, ac, bind_ok, n3]
      exact e8 u0 u1 u2
  have e5' := e5 0 0 0
  simp only [impl_ParseAct.f, impl_ParseAct.begin, Tr.do_call, Tr.do_ite, Tr.do_need, Tr.do_both, Tr.do_last, Tr.do_jump, impl_SplitFields.told, es, bind_ok, Bool.not_true, Bool.false_eq_true, ↓reduceIte, n2, m0, and_self, impl_actNames.told, impl_actNames_f, g0, slices_Index_string.told, er, both_same, e5']
/-! ### A memory while a task runs -/
def win (m : List Int) (tl : Int) : List Int := (m.drop 25).take tl.toNat
theorem sent_win {m : List Int} {tl : Int} (h : (unpack (rdI m 8)).2.2 = tl) (h0 : 0 ≤ tl) : sent m = win m tl := by
  unfold sent win
  rw [h, List.drop_take]
  congr 1
  omega
theorem memSent_win {m : List Int} {t c tl : Int} (hm : m.length = 49) (h : unpack (rdI m 8) = (t, c, tl)) (h0 : 0 ≤ tl) : memSent m = win m tl := by
  unfold memSent
  rw [if_pos hm, h, if_neg (by simp only; omega)]
  exact sent_win (by rw [h]) h0
theorem rdI_getD (m : List Int) (i : Nat) : rdI m (i : Int) = m.getD i 0 := by show m.getD ((i : Int)).toNat 0 = _; rw [Int.toNat_natCast]
theorem spec_l19Store_ok {b : List Int} {i : Int} (h : Int) (c : Cur b i) : ∃ x y z w i' h', spec_l19Store.f b i h = some (x, y, z, w, b, i', h') ∧ okStore x y z w = true ∧ Cur b i' := by
  obtain ⟨x1, i1, j1, e1, a1, b1, c1⟩ := spec_l01Below_ok 400 h (by omega) c
  obtain ⟨x2, i2, j2, e2, a2, b2, c2⟩ := spec_l01Below_ok 4 j1 (by omega) c1
  have w1 : wr (20 + x1) = 20 + x1 := wr_in (by omega)
  have w2 : wr (20 + x1 + 1) = 20 + x1 + 1 := wr_in (by omega)
  obtain ⟨x3, i3, j3, e3, a3, b3, c3⟩ := spec_l01Below_ok (20 + x1 + 1) j2 (by omega) c2
  obtain ⟨x4, i4, j4, e4, a4, b4, c4⟩ := spec_l01Below_ok (20 + x1) j3 (by omega) c3
  have w3 : wr (1 + x4) = 1 + x4 := wr_in (by omega)
  simp only [spec_l19Store.f, spec_l19Store.begin, Tr.do_call, Tr.do_ret, spec_l01Below.told, e1, e2, w1, w2, e3, e4, w3, bind_ok]
  exact ⟨_, _, _, _, _, _, rfl, okStore_view.mpr ⟨by omega, by omega, by omega, by omega⟩, c4⟩
/-- A new memory: valid, and nothing is sent. -/
theorem memNew_ok {l : List Int} {n : Nat} (h : l.all isVal = true) (h8 : l.length = 8) (hn : 1 ≤ n) : memNew l = (l ++ List.replicate 41 0, true) ∧ okMem n (l ++ List.replicate 41 0) = true ∧ memSent (l ++ List.replicate 41 0) = [] := by
  have e1 : memNew l = (l ++ List.replicate 41 0, true) := by
    unfold memNew
    rw [h, decide_eq_true (show (l.length : Int) = 8 by omega)]
    rfl
  have hl : (l ++ List.replicate 41 (0 : Int)).length = 49 := by rw [List.length_append, List.length_replicate]; omega
  have hall : (l ++ List.replicate 41 (0 : Int)).all isVal = true := by rw [List.all_append, h]; rfl
  have h8' : rdI (l ++ List.replicate 41 (0 : Int)) 8 = 0 := by
    rw [show (8 : Int) = ((8 : Nat) : Int) from rfl, rdI_getD, List.getD_eq_getElem?_getD, List.getElem?_append_right (by omega), h8]
    rfl
  have hu : unpack (rdI (l ++ List.replicate 41 (0 : Int)) 8) = (0, 0, 0) := by
    rw [h8']
    have := unpack_pack (a := 0) (b := 0) (c := 0) (by omega) (by omega) (by omega)
    exact this
  refine ⟨e1, okMem_of hl hu (by omega) (all_take _ hall) (all_drop _ (all_take _ hall)) rfl, ?_⟩
  rw [memSent_win hl hu (by omega)]
  rfl
/-! ### Drawn acts are valid -/
theorem okAct_dark {x y : Int} (h : 0 ≤ x ∧ x < 20 ∧ 0 ≤ y ∧ y < 9) : okAct 2 x (wr (x + y)) = true := by
  rw [show wr (x + y) = x + y from wr_in (by omega)]
  unfold okAct
  rw [if_neg (by decide), if_pos rfl, Bool.and_eq_true, Bool.and_eq_true, decide_eq_true_eq, decide_eq_true_eq, decide_eq_true_eq]
  omega
theorem okAct_up {x y : Int} (h : 0 ≤ x ∧ x < 5 ∧ 0 ≤ y ∧ y < 2) : okAct 3 x y = true := by
  unfold okAct
  rw [if_neg (by decide), if_neg (by decide), if_pos rfl, Bool.and_eq_true, inB_iff, inB_iff]
  omega
theorem okAct_clock {x y : Int} (h : 0 ≤ x ∧ x < 60 ∧ 0 ≤ y ∧ y < 40) : okAct 4 x (wr (x + y)) = true := by
  rw [show wr (x + y) = x + y from wr_in (by omega)]
  unfold okAct
  rw [if_neg (by decide), if_neg (by decide), if_neg (by decide), if_pos rfl, okSpan_view]
  omega
theorem okAct_read {x : Int} (h : 0 ≤ x ∧ x < 900) : okAct 5 (wr (x - 200)) 0 = true := by
  rw [show wr (x - 200) = x - 200 from wr_in (by omega)]
  unfold okAct
  rw [if_neg (by decide), if_neg (by decide), if_neg (by decide), if_neg (by decide), if_pos rfl, Bool.and_eq_true, decide_eq_true_eq]
  unfold isVal
  rw [inB_iff]
  omega
theorem okAct_tick {x y : Int} (h : 0 ≤ x ∧ x < 6 ∧ 0 ≤ y ∧ y ≤ 1000) : okAct 1 (wr (1 + x)) y = true := by
  rw [show wr (1 + x) = 1 + x from wr_in (by omega)]
  unfold okAct
  rw [if_pos rfl, Bool.and_eq_true, inB_iff, inB_iff]
  omega
theorem spec_l38Act_v {b : List Int} {i : Int} (h : Int) (c : Cur b i) : ∃ x y z i' h', spec_l38Act.f b i h = some (x, y, z, b, i', h') ∧ okAct x y z = true ∧ Cur b i' := by
  obtain ⟨x1, i1, j1, e1, a1, b1, c1⟩ := spec_l01Below_ok 7 h (by omega) c
  simp only [spec_l38Act.f, spec_l38Act.begin, Tr.do_call, Tr.do_ite, Tr.do_ret, spec_l01Below.told, e1, bind_ok]
  obtain ⟨x2, i2, j2, e2, a2, b2, c2⟩ := spec_l01Below_ok 20 j1 (by omega) c1
  obtain ⟨x3, i3, j3, e3, a3, b3, c3⟩ := spec_l01Below_ok 9 j2 (by omega) c2
  obtain ⟨x4, i4, j4, e4, a4, b4, c4⟩ := spec_l01Below_ok 5 j1 (by omega) c1
  obtain ⟨x5, i5, j5, e5, a5, b5, c5⟩ := spec_l01Below_ok 2 j4 (by omega) c4
  obtain ⟨x6, i6, j6, e6, a6, b6, c6⟩ := spec_l01Below_ok 60 j1 (by omega) c1
  obtain ⟨x7, i7, j7, e7, a7, b7, c7⟩ := spec_l01Below_ok 40 j6 (by omega) c6
  obtain ⟨x8, i8, j8, e8, a8, b8, c8⟩ := spec_l01Below_ok 900 j1 (by omega) c1
  obtain ⟨x9, i9, j9, e9, a9, b9, c9⟩ := spec_l01Below_ok 6 j1 (by omega) c1
  obtain ⟨y1, k1, l1, f1, g1, d1⟩ := spec_l01PickInt_ok [0, 10, 60, 300] j9 (fun y => 0 ≤ y ∧ y ≤ 1000) (by simp) (by simp) c9
  simp only [e2, e3, e4, e5, e6, e7, e8, e9, spec_l01PickInt.told, f1, bind_ok]
  by_cases q0 : x1 = 0
  · simp only [decide_eq_true q0, ↓reduceIte]; exact ⟨_, _, _, _, _, rfl, okAct_dark (by omega), c3⟩
  · by_cases q1 : x1 = 1
    · simp only [decide_eq_false q0, decide_eq_true q1, Bool.false_eq_true, ↓reduceIte]; exact ⟨_, _, _, _, _, rfl, okAct_up (by omega), c5⟩
    · by_cases q2 : x1 = 2
      · simp only [decide_eq_false q0, decide_eq_false q1, decide_eq_true q2, Bool.false_eq_true, ↓reduceIte]; exact ⟨_, _, _, _, _, rfl, okAct_up (by omega), c5⟩
      · by_cases q3 : x1 = 3
        · simp only [decide_eq_false q0, decide_eq_false q1, decide_eq_false q2, decide_eq_true q3, Bool.false_eq_true, ↓reduceIte]; exact ⟨_, _, _, _, _, rfl, okAct_clock (by omega), c7⟩
        · by_cases q4 : x1 = 4
          · simp only [decide_eq_false q0, decide_eq_false q1, decide_eq_false q2, decide_eq_false q3, decide_eq_true q4, Bool.false_eq_true, ↓reduceIte]; exact ⟨_, _, _, _, _, rfl, okAct_read (by omega), c8⟩
          · simp only [decide_eq_false q0, decide_eq_false q1, decide_eq_false q2, decide_eq_false q3, decide_eq_false q4, Bool.false_eq_true, ↓reduceIte]; exact ⟨_, _, _, _, _, rfl, okAct_tick (by omega), d1⟩
theorem spec_l38Acts_v {b : List Int} {i : Int} (h : Int) (c : Cur b i) : ∃ l i' h', spec_l38Acts.f b i h = some (l, b, i', h') ∧ (l.length ≤ 7 ∧ ∀ x ∈ l, okAct x.f0 x.f1 x.f2 = true) ∧ Cur b i' := by
  have key := upto 7 (fun k (s : List S43 × Int × Int) => (s.1.length = k ∧ ∀ x ∈ s.1, okAct x.f0 x.f1 x.f2 = true) ∧ Cur b s.2.1) (fun k s => lp spec_l38Acts.tree (.c3 s.1 (k : Int) b s.2.1 s.2.2)) (fun r => ∃ l i' h', r = (l, b, i', h') ∧ (l.length ≤ 7 ∧ ∀ x ∈ l, okAct x.f0 x.f1 x.f2 = true) ∧ Cur b i') (fun k hk s hs => by
    obtain ⟨s1, s2, s3⟩ := s
    obtain ⟨⟨hl, hv⟩, hc⟩ := hs
    simp only at hl hv hc
    rw [lp_eq]
    obtain ⟨x1, i1, j1, e1, a1, b1, c1⟩ := spec_l01Below_ok 7 s3 (by omega) hc
    by_cases q : (k : Int) < x1
    · obtain ⟨x, y, z, i2, j2, e2, ov, c2⟩ := spec_l38Act_v j1 c1
      refine Or.inr ⟨by omega, (s1 ++ [(⟨x, y, z⟩ : S43)], i2, j2), ?_, ⟨by simp [hl], fun u hu => by
        rcases List.mem_append.1 hu with hu | hu
        · exact hv u hu
        · rw [List.mem_singleton.1 hu]; exact ov⟩, c2⟩
      simp only [spec_l38Acts.tree, Tr.do_call, Tr.do_ite, Tr.do_need, Tr.do_jump, spec_l01Below.told, e1, spec_l38Act.told, e2, bind_ok, decide_eq_true q, one_fits s1 _ 1048576 (by omega) (by omega) 24 (by omega), ↓reduceIte, wr_next (show k < 4611686018427387904 by omega)]
    · refine Or.inl ⟨(s1, b, i1, j1), ?_, s1, i1, j1, rfl, ⟨by omega, hv⟩, c1⟩
      simp only [spec_l38Acts.tree, Tr.do_call, Tr.do_ite, Tr.do_ret, spec_l01Below.told, e1, bind_ok, decide_eq_false q, Bool.false_eq_true, ↓reduceIte]) 0 (by omega) ([], i, h) ⟨⟨rfl, fun _ h => by cases h⟩, c⟩
  obtain ⟨r, e, l, i', h', rfl, p⟩ := key
  exact ⟨l, i', h', e, p⟩
set_option maxHeartbeats 2000000 in
theorem spec_DrawActs_v (b : List Int) (hb : b.length ≤ 1048576) : ∃ (d : Nd) (l : List S43), spec_DrawActs.f b = some (d.1, d.2.1, d.2.2.1, d.2.2.2.1, d.2.2.2.2.1, d.2.2.2.2.2.1, d.2.2.2.2.2.2.1, d.2.2.2.2.2.2.2.1, d.2.2.2.2.2.2.2.2.1, d.2.2.2.2.2.2.2.2.2.1, d.2.2.2.2.2.2.2.2.2.2.1, d.2.2.2.2.2.2.2.2.2.2.2.1, d.2.2.2.2.2.2.2.2.2.2.2.2, l) ∧ okNd d ∧ l.length ≤ 7 ∧ ∀ x ∈ l, okAct x.f0 x.f1 x.f2 = true := by
  obtain ⟨h, e1⟩ := spec_l01New_ok b hb
  obtain ⟨p, i2, j2, e2, hp, c2⟩ := spec_l06Program_ok (b := b) (i := 0) h ⟨hb, by omega⟩
  obtain ⟨v, i3, j3, e3, hv, hv8, c3⟩ := spec_l03Vars_ok j2 c2
  obtain ⟨rd, i4, j4, e4, hr, hr1, hr9, c4⟩ := spec_l12Readings_ok j3 c3
  obtain ⟨x, y, z, w, i5, j5, e5, hst, c5⟩ := spec_l19Store_ok j4 c4
  obtain ⟨l, i6, j6, e6, hl, c6⟩ := spec_l38Acts_v j5 c5
  obtain ⟨m1, m2, m3⟩ := memNew_ok (n := p.length) hv hv8 hp.2.1
  obtain ⟨p6, p1, hs⟩ := okP_sizes hp.1
  have e7 : spec_NodeNew.f p v rd x y z w = some (p, v ++ List.replicate 41 0, rd, 0, x, y, z, w, 0, 0, 0, [], 0, true) := by
    rw [spec_NodeNew_f p v rd x y z w (by omega) hs (by omega) (by omega)]
    unfold nodeNew
    rw [m1, hp.1, hst, hr]
    rfl
  have hn : okNode p (v ++ List.replicate 41 0) rd 0 x y z w 0 0 0 [] 0 = true := okNode_view.mpr ⟨hp.1, m2, hst, hr, by omega, rfl, ⟨by simp, List.nil_prefix⟩, by omega⟩
  have e8 : lp spec_DrawActs.tree (.c4 [] [] [] 0 0 0 0 0 0 0 0 [] 0 p (v ++ List.replicate 41 0) rd 0 x y z w 0 0 0 [] 0 b i5 j5) = some (p, v ++ List.replicate 41 0, rd, 0, x, y, z, w, 0, 0, 0, [], 0, l) := by
    rw [lp_eq]
    simp only [spec_DrawActs.tree, Tr.do_both, Tr.do_last, Tr.do_call, Tr.do_ret, spec_l38Acts.told, e6, bind_ok, both_same]
  refine ⟨(p, v ++ List.replicate 41 0, rd, 0, x, y, z, w, 0, 0, 0, [], 0), l, ?_, ⟨hn, by show rd.length ≤ 100; omega⟩, hl⟩
  simp only [spec_DrawActs.f, spec_DrawActs.begin, Tr.do_both, Tr.do_last, Tr.do_call, Tr.do_jump, spec_l01New.told, e1, spec_l06Program.told, e2, spec_l03Vars.told, e3, spec_l12Readings.told, e4, spec_l19Store.told, e5, spec_NodeNew.told, e7, bind_ok, both_same, e8]
theorem FnActTexts : laws_FnActTexts.Pure := by
  intro b hb
  by_cases q : (b.length : Int) > 1048576
  · simp only [laws_FnActTexts.f, laws_FnActTexts.begin, Tr.do_call, Tr.do_ite, Tr.do_ret, laws_big.told, laws_big_f, bind_ok, decide_eq_true q, ↓reduceIte]
  · obtain ⟨d, l, e1, _, hl, hv⟩ := spec_DrawActs_v b (by omega)
    simp only [laws_FnActTexts.f, laws_FnActTexts.begin, Tr.do_call, Tr.do_ite, Tr.do_jump, laws_big.told, laws_big_f, bind_ok, decide_eq_false q, Bool.false_eq_true, ↓reduceIte, spec_DrawActs.told, e1]
    refine same_loop l.length true (fun i => lp laws_FnActTexts.tree (.c5 l (i : Int))) (fun i hi => ?_) ?_
    · have hg : rdS43 l (i : Int) = l[i] := getD_lt hi
      have hok := hv l[i] (List.getElem_mem hi)
      generalize l[i] = a at hg hok
      obtain ⟨_, fb, fc, _⟩ := okAct_facts hok
      have eF := impl_FormatAct_f a.f0 a.f1 a.f2 (by omega) (by omega)
      rw [hok, if_pos rfl] at eF
      have hlen := act_len a.f0 a.f1 a.f2 fb fc
      have s1 := fits_room (a := (⟨#[32, 32]⟩ : ByteArray)) (b := bs (actText a.f0 a.f1 a.f2)) (by rw [bs_size]; show 2 + _ ≤ _; omega)
      have c1 : (⟨#[32, 32]⟩ : ByteArray) ++ bs (actText a.f0 a.f1 a.f2) = bs ([32, 32] ++ actText a.f0 a.f1 a.f2) := bs_append [32, 32] _
      have s2 := fits_room (a := bs ([32, 32] ++ actText a.f0 a.f1 a.f2)) (b := (⟨#[32]⟩ : ByteArray)) (by rw [bs_size, List.length_append]; show 2 + _ + 1 ≤ _; omega)
      have c2 : bs ([32, 32] ++ actText a.f0 a.f1 a.f2) ++ (⟨#[32]⟩ : ByteArray) = bs (([32, 32] ++ actText a.f0 a.f1 a.f2) ++ [32]) := bs_append _ [32]
      have eP := impl_ParseAct_act a.f0 a.f1 a.f2 hok (([32, 32] ++ actText a.f0 a.f1 a.f2) ++ [32]) (by rw [List.length_append, List.length_append]; show 2 + _ + 1 ≤ _; omega) (fun x hx => by
        rcases List.mem_append.1 hx with hx | hx
        · rcases List.mem_append.1 hx with hx | hx
          · simp only [List.mem_cons, List.not_mem_nil, or_false, or_self] at hx
            rw [hx]; decide
          · exact act_bytes _ _ _ x hx
        · rw [List.mem_singleton.1 hx]; decide) (by
        show Lib.fieldsGo [] ([32, 32] ++ actText a.f0 a.f1 a.f2 ++ [32]) = _
        rw [List.append_assoc]
        show Lib.fieldsGo [] (32 :: 32 :: (actText a.f0 a.f1 a.f2 ++ [32])) = _
        rw [fieldsGo_skip, fieldsGo_skip]
        exact fields_tail _ (wordsOf_words _ _ _))
      rw [lp_eq]
      simp only [laws_FnActTexts.tree, Tr.do_call, Tr.do_ite, Tr.do_need, Tr.do_val, Tr.do_last, Tr.do_jump, lt_dec hi, in_lt hi, and_self, ↓reduceIte, hg, impl_FormatAct.told, eF, bind_ok, s1, c1, s2, c2, impl_ParseAct.told, eP, Bool.not_true, Bool.false_eq_true, decide_true, Bool.and_self, wr_next (show i < 4611686018427387904 by omega)]
    · rw [lp_eq]
      simp only [laws_FnActTexts.tree, Tr.do_ite, Tr.do_ret, ge_dec, Bool.false_eq_true, ↓reduceIte]
end Go.Proofs.YtpndhhellhfegaaDoor.Pure
