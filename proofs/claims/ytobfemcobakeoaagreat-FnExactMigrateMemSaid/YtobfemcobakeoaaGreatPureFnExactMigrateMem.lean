/- The plain law of FnExactMigrateMem. No conditions. -/
import Derived.Test.YtobfemcobakeoaaGreatEvLFnExactMigrateMem
import Derived.Test.YtobfemcobakeoaaGreatLibP
namespace Go.Proofs.YtobfemcobakeoaaGreat.Pure
open Go.RowKit Go.Proofs.YtobfemcobakeoaaGreatEv Go.Proofs.YtobfemcobakeoaaGreat.Ev
set_option linter.unusedVariables false
set_option linter.unusedSimpArgs false
set_option maxRecDepth 20000
/-- A number between two. -/
def inB (x a b : Int) : Bool := decide (x ≥ a) && decide (x ≤ b)
theorem spec_l01In_f (x a b : Int) : spec_l01In.f x a b = some (inB x a b) := by
  simp only [spec_l01In.f, spec_l01In.begin, Tr.do_ite, Tr.do_ret, inB]
  cases decide (x ≥ a) <;> simp
theorem impl_within_f (x a b : Int) : impl_within.f x a b = some (inB x a b) := by
  simp only [impl_within.f, impl_within.begin, Tr.do_ite, Tr.do_ret, inB]
  cases decide (x ≥ a) <;> simp
/-- How many statements and tasks there are. -/
def tot (l : List S172) : Nat := l.length + (l.map fun t => t.f0.length).sum
def small : Nat := 1048576
theorem laws_szStmtS_f (l : List S239) (n : Int) (hl : l.length ≤ 9223372036854775807) (h0 : 0 ≤ n) (h1 : n ≤ 1048576) : laws_szStmtS.f l n = some (if n - l.length < 0 then -1 else n - l.length) := by
  have w : wr (n - l.length) = n - l.length := wr_in (by omega)
  simp only [laws_szStmtS.f, laws_szStmtS.begin, Tr.do_ite, Tr.do_ret, w, decide_eq_true_eq]
  split <;> rfl
theorem laws_szTask_f (l : List S239) (a b c n : Int) (hl : l.length ≤ 9223372036854775807) (h0 : 0 ≤ n) (h1 : n ≤ 1048576) : laws_szTask.f l a b c n = some (if n - l.length < 0 then -1 else n - l.length) := by
  simp only [laws_szTask.f, laws_szTask.begin, Tr.do_call, Tr.do_ite, Tr.do_ret, laws_szStmtS.told, laws_szStmtS_f l n hl h0 h1, bind_ok, decide_eq_true_eq]
  by_cases h : n - (l.length : Int) < 0
  · simp [h]
  · simp [h]
theorem laws_szTaskS_f (l : List S172) (n : Int) (hl : l.length ≤ 9223372036854775807) (hs : ∀ t ∈ l, t.f0.length ≤ 9223372036854775807) (h0 : 0 ≤ n) (h1 : n ≤ 1048576) :
    laws_szTaskS.f l n = some (if (tot l : Int) ≤ n then n - tot l else -1) := by
  have w : wr (n - l.length) = n - l.length := wr_in (by omega)
  simp only [laws_szTaskS.f, laws_szTaskS.begin, Tr.do_ite, Tr.do_ret, Tr.do_jump, w, decide_eq_true_eq]
  split
  · rename_i h
    rw [if_neg (by unfold tot; omega)]
  · rename_i h
    have key := scan_loop l (fun (s : Int) t => if s - t.f0.length < 0 then .inr (-1) else .inl (s - t.f0.length)) (fun s => s) (fun _ s => 0 ≤ s ∧ s ≤ 1048576) (fun i s => lp laws_szTaskS.tree (.c5 l s (i : Int))) (n - l.length) ⟨by omega, by omega⟩
      (fun i h s hi => by
        have e := laws_szTask_f l[i].f0 l[i].f1.f0 l[i].f1.f1 l[i].f1.f2 s (hs _ (List.getElem_mem h)) hi.1 hi.2
        have step : lp laws_szTaskS.tree (.c5 l s (i : Int)) = if s - l[i].f0.length < 0 then some (-1) else lp laws_szTaskS.tree (.c5 l (s - l[i].f0.length) ((i + 1 : Nat) : Int)) := by
          rw [lp_eq]
          simp only [laws_szTaskS.tree, Tr.do_ite, Tr.do_need, Tr.do_call, Tr.do_ret, Tr.do_jump, laws_szTask.told, getD_lt h, lt_dec h, in_lt h, e, bind_ok, wr_next (show i < 4611686018427387904 by omega), ↓reduceIte, and_self, decide_eq_true_eq]
          by_cases q : s - (l[i].f0.length : Int) < 0
          · simp [q]
          · simp [q]
        refine ⟨fun s' hs' => ?_, fun r hr => ?_⟩
        · split at hs'
          · cases hs'
          · rename_i q
            cases hs'
            exact ⟨by rw [step, if_neg q], by omega, by omega⟩
        · split at hr
          · rename_i q
            cases hr
            rw [step, if_pos q]
          · cases hr)
      (fun s hi => by rw [lp_eq]; simp only [laws_szTaskS.tree, Tr.do_ite, Tr.do_ret, ge_dec, Bool.false_eq_true, ↓reduceIte])
    rw [show ((0 : Nat) : Int) = 0 from rfl] at key
    rw [key]
    congr 1
    have gen : ∀ (l : List S172) (s : Int), 0 ≤ s → scan (fun (s : Int) (t : S172) => if s - t.f0.length < 0 then .inr (-1) else .inl (s - t.f0.length)) (fun s => s) l s = if (((l.map fun t => t.f0.length).sum : Nat) : Int) ≤ s then s - ((l.map fun t => t.f0.length).sum : Nat) else -1 := by
      intro l
      induction l with
      | nil => intro s hs; simp [scan, hs]
      | cons t l ih =>
        intro s hs
        unfold scan
        by_cases q : s - (t.f0.length : Int) < 0
        · rw [if_pos q]
          dsimp only
          rw [List.map_cons, List.sum_cons, if_neg (by omega)]
        · rw [if_neg q]
          dsimp only
          rw [ih _ (by omega), List.map_cons, List.sum_cons]
          by_cases q' : (((l.map fun t => t.f0.length).sum : Nat) : Int) ≤ s - (t.f0.length : Int)
          · rw [if_pos q', if_pos (by omega)]; omega
          · rw [if_neg q', if_neg (by omega)]
    rw [gen _ _ (by omega)]
    unfold tot
    by_cases q : (((l.map fun t => t.f0.length).sum : Nat) : Int) ≤ n - (l.length : Int)
    · rw [if_pos q, if_pos (by omega)]; omega
    · rw [if_neg q, if_neg (by omega)]
theorem laws_szProgram_f (l : List S172) (n : Int) (hl : l.length ≤ 9223372036854775807) (hs : ∀ t ∈ l, t.f0.length ≤ 9223372036854775807) (h0 : 0 ≤ n) (h1 : n ≤ 1048576) :
    laws_szProgram.f l n = some (if (tot l : Int) ≤ n then n - tot l else -1) := by
  simp only [laws_szProgram.f, laws_szProgram.begin, Tr.do_call, Tr.do_ite, Tr.do_ret, laws_szTaskS.told, laws_szTaskS_f l n hl hs h0 h1, bind_ok, decide_eq_true_eq]
  by_cases h : (tot l : Int) ≤ n
  · rw [if_pos h]
    have q : ¬ (n - (tot l : Int) < 0) := by omega
    simp only [q, ↓reduceIte]
  · rw [if_neg h]
    rfl
/-- A law's statement as a program's. -/
def toSt (x : S239) : S210 := ⟨x.f0, x.f1, x.f2, (⟨x.f3.f0, x.f3.f1, x.f3.f2⟩ : S153)⟩
/-- A law's task as a program's. -/
def toTk (x : S172) : S166 := ⟨x.f0.map toSt, (⟨x.f1.f0, x.f1.f1, x.f1.f2⟩ : S153)⟩
theorem laws_toExpr_f (a b c : Int) : laws_toExpr.f a b c = some (a, b, c) := rfl
theorem laws_toStmt_f (a b c d e f : Int) : laws_toStmt.f a b c d e f = some (a, b, c, d, e, f) := rfl
theorem laws_toStmtS_f (l : List S239) (hl : l.length ≤ 1048576) : laws_toStmtS.f l = some (l.map toSt) := by
  have h1 : (0 : Int) ≤ (List.length l : Int) ∧ (List.length l : Int) ≤ (List.length l : Int) ∧ (List.length l : Int) * (48 : Nat) ≤ room := ⟨by omega, by omega, by unfold room; omega⟩
  simp only [laws_toStmtS.f, laws_toStmtS.begin, Tr.do_need, Tr.do_jump, h1, and_self, decide_true, ↓reduceIte, Int.toNat_natCast]
  refine map_loop l toSt z210 id (fun i s => lp laws_toStmtS.tree (.c3 l s (i : Int))) (fun i h s hs => ?_) (fun s => ?_)
  · rw [lp_eq]
    have h2 : i < s.length := by omega
    simp only [laws_toStmtS.tree, Tr.do_ite, Tr.do_need, Tr.do_call, Tr.do_val, Tr.do_jump, laws_toStmt.told, laws_toStmt_f, bind_ok, lt_dec h, in_lt h, in_lt h2, getD_lt h, and_self, decide_true, ↓reduceIte, wr_next (show i < 4611686018427387904 by omega), Int.toNat_natCast, toSt]
  · rw [lp_eq]
    simp only [laws_toStmtS.tree, Tr.do_ite, Tr.do_ret, ge_dec, Bool.false_eq_true, ↓reduceIte, id]
theorem laws_toTask_f (l : List S239) (a b c : Int) (hl : l.length ≤ 1048576) : laws_toTask.f l a b c = some (l.map toSt, a, b, c) := by
  simp only [laws_toTask.f, laws_toTask.begin, Tr.do_call, Tr.do_ret, laws_toStmtS.told, laws_toExpr.told, laws_toStmtS_f l hl, laws_toExpr_f, bind_ok]
theorem laws_toTaskS_f (l : List S172) (hl : l.length ≤ 1048576) (hs : ∀ t ∈ l, t.f0.length ≤ 1048576) : laws_toTaskS.f l = some (l.map toTk) := by
  have h1 : (0 : Int) ≤ (List.length l : Int) ∧ (List.length l : Int) ≤ (List.length l : Int) ∧ (List.length l : Int) * (48 : Nat) ≤ room := ⟨by omega, by omega, by unfold room; omega⟩
  simp only [laws_toTaskS.f, laws_toTaskS.begin, Tr.do_need, Tr.do_jump, h1, and_self, decide_true, ↓reduceIte, Int.toNat_natCast]
  refine map_loop l toTk z166 id (fun i s => lp laws_toTaskS.tree (.c3 l s (i : Int))) (fun i h s hs' => ?_) (fun s => ?_)
  · rw [lp_eq]
    have h2 : i < s.length := by omega
    simp only [laws_toTaskS.tree, Tr.do_ite, Tr.do_need, Tr.do_call, Tr.do_val, Tr.do_jump, laws_toTask.told, laws_toTask_f _ _ _ _ (hs _ (List.getElem_mem h)), bind_ok, lt_dec h, in_lt h, in_lt h2, getD_lt h, and_self, decide_true, ↓reduceIte, wr_next (show i < 4611686018427387904 by omega), Int.toNat_natCast, toTk]
  · rw [lp_eq]
    simp only [laws_toTaskS.tree, Tr.do_ite, Tr.do_ret, ge_dec, Bool.false_eq_true, ↓reduceIte, id]
theorem laws_toProgram_f (l : List S172) (hl : l.length ≤ 1048576) (hs : ∀ t ∈ l, t.f0.length ≤ 1048576) : laws_toProgram.f l = some (l.map toTk) := by
  simp only [laws_toProgram.f, laws_toProgram.begin, Tr.do_call, Tr.do_ret, laws_toTaskS.told, laws_toTaskS_f l hl hs, bind_ok]
theorem laws_toIntS_f (l : List Int) (hl : l.length ≤ 1048576) : laws_toIntS.f l = some l := by
  have h1 : (0 : Int) ≤ (List.length l : Int) ∧ (List.length l : Int) ≤ (List.length l : Int) ∧ (List.length l : Int) * (8 : Nat) ≤ room := ⟨by omega, by omega, by unfold room; omega⟩
  simp only [laws_toIntS.f, laws_toIntS.begin, Tr.do_need, Tr.do_jump, h1, and_self, decide_true, ↓reduceIte, Int.toNat_natCast]
  have e := map_loop l (fun x : Int => x) 0 id (fun i s => lp laws_toIntS.tree (.c3 l s (i : Int))) (fun i h s hs => by
    rw [lp_eq]
    have h2 : i < s.length := by omega
    simp only [laws_toIntS.tree, Tr.do_ite, Tr.do_need, Tr.do_call, Tr.do_val, Tr.do_jump, bind_ok, lt_dec h, in_lt h, in_lt h2, getD_lt h, and_self, decide_true, ↓reduceIte, wr_next (show i < 4611686018427387904 by omega), Int.toNat_natCast]) (fun s => by
    rw [lp_eq]
    simp only [laws_toIntS.tree, Tr.do_ite, Tr.do_ret, ge_dec, Bool.false_eq_true, ↓reduceIte, id])
  rw [List.map_id''] at e
  · exact e
  · exact fun _ => rfl
/-! Everything is equal to itself. -/
theorem laws_eqExpr_f (a b c : Int) : laws_eqExpr.f a b c a b c = some true := by
  simp [laws_eqExpr.f, laws_eqExpr.begin]
theorem laws_eqStmt_f (a b c d e f : Int) : laws_eqStmt.f a b c d e f a b c d e f = some true := by
  simp [laws_eqStmt.f, laws_eqStmt.begin, laws_eqExpr.told, laws_eqExpr_f]
theorem laws_eqStmtS_f (l : List S210) (hl : l.length ≤ 1048576) : laws_eqStmtS.f l l = some true := by
  simp only [laws_eqStmtS.f, laws_eqStmtS.begin, Tr.do_ite, Tr.do_jump, decide_true, Bool.not_true, Bool.false_eq_true, ↓reduceIte]
  refine same_loop l.length true (fun i => lp laws_eqStmtS.tree (.c4 l l (i : Int))) (fun i h => by
    rw [lp_eq]
    simp only [laws_eqStmtS.tree, Tr.do_ite, Tr.do_need, Tr.do_last, Tr.do_call, Tr.do_jump, laws_eqStmt.told, laws_eqStmt_f, bind_ok, lt_dec h, in_lt h, getD_lt h, and_self, decide_true, ↓reduceIte, Bool.not_true, Bool.false_eq_true, wr_next (show i < 4611686018427387904 by omega)]) (by
    rw [lp_eq]
    simp only [laws_eqStmtS.tree, Tr.do_ite, Tr.do_ret, ge_dec, Bool.false_eq_true, ↓reduceIte])
theorem laws_eqTask_f (l : List S210) (a b c : Int) (hl : l.length ≤ 1048576) : laws_eqTask.f l a b c l a b c = some true := by
  simp [laws_eqTask.f, laws_eqTask.begin, laws_eqStmtS.told, laws_eqStmtS_f l hl, laws_eqExpr.told, laws_eqExpr_f]
theorem laws_eqTaskS_f (l : List S166) (hl : l.length ≤ 1048576) (hs : ∀ t ∈ l, t.f0.length ≤ 1048576) : laws_eqTaskS.f l l = some true := by
  simp only [laws_eqTaskS.f, laws_eqTaskS.begin, Tr.do_ite, Tr.do_jump, decide_true, Bool.not_true, Bool.false_eq_true, ↓reduceIte]
  refine same_loop l.length true (fun i => lp laws_eqTaskS.tree (.c4 l l (i : Int))) (fun i h => by
    rw [lp_eq]
    simp only [laws_eqTaskS.tree, Tr.do_ite, Tr.do_need, Tr.do_last, Tr.do_call, Tr.do_jump, laws_eqTask.told, laws_eqTask_f _ _ _ _ (hs _ (List.getElem_mem h)), bind_ok, lt_dec h, in_lt h, getD_lt h, and_self, decide_true, ↓reduceIte, Bool.not_true, Bool.false_eq_true, wr_next (show i < 4611686018427387904 by omega)]) (by
    rw [lp_eq]
    simp only [laws_eqTaskS.tree, Tr.do_ite, Tr.do_ret, ge_dec, Bool.false_eq_true, ↓reduceIte])
theorem laws_eqProgram_f (l : List S166) (hl : l.length ≤ 1048576) (hs : ∀ t ∈ l, t.f0.length ≤ 1048576) : laws_eqProgram.f l l = some true := by
  simp [laws_eqProgram.f, laws_eqProgram.begin, laws_eqTaskS.told, laws_eqTaskS_f l hl hs]
theorem laws_eqIntS_f (l : List Int) (hl : l.length ≤ 1048576) : laws_eqIntS.f l l = some true := by
  simp only [laws_eqIntS.f, laws_eqIntS.begin, Tr.do_ite, Tr.do_jump, decide_true, Bool.not_true, Bool.false_eq_true, ↓reduceIte]
  refine same_loop l.length true (fun i => lp laws_eqIntS.tree (.c4 l l (i : Int))) (fun i h => by
    rw [lp_eq]
    simp only [laws_eqIntS.tree, Tr.do_ite, Tr.do_need, Tr.do_last, Tr.do_call, Tr.do_jump, bind_ok, lt_dec h, in_lt h, getD_lt h, and_self, decide_true, ↓reduceIte, decide_true, Bool.not_true, Bool.false_eq_true, wr_next (show i < 4611686018427387904 by omega)]) (by
    rw [lp_eq]
    simp only [laws_eqIntS.tree, Tr.do_ite, Tr.do_ret, ge_dec, Bool.false_eq_true, ↓reduceIte])
theorem getD_set {A : Type} {m : List A} {i : Nat} {v z : A} (h : i < m.length) : (m.set i v).getD ((i : Int)).toNat z = v := by
  rw [List.getD, Int.toNat_natCast, List.getElem?_set_self h]
  rfl
/-- A statement with numbers of its own. -/
def mkSt (k : Int) : S210 := ⟨k, k + 1, k + 1 + 1, (⟨k + 1 + 1 + 1, k + 1 + 1 + 1 + 1, k + 1 + 1 + 1 + 1 + 1⟩ : S153)⟩
def nextSt (k : Int) (_ : S210) : Int := k + 1 + 1 + 1 + 1 + 1 + 1
/-- Statements with numbers of their own. -/
def mkSts (k : Int) (l : List S210) : List S210 := mapS nextSt (fun k _ => mkSt k) k l
theorem fold_nextSt (l : List S210) (k : Int) : l.foldl nextSt k = k + 6 * l.length :=
  foldl_inv l nextSt (fun i s => s = k + 6 * i) k (by simp) (fun i h s hs => by unfold nextSt; omega)
theorem laws_markStmtS_f (k : Int) (l : List S210) (h0 : 0 ≤ k) (h1 : k + 6 * l.length ≤ 1099511627776) : laws_markStmtS.f k l = some (k + 6 * l.length, mkSts k l) := by
  simp only [laws_markStmtS.f, laws_markStmtS.begin, Tr.do_jump]
  have e := put_loop l nextSt (fun k _ => mkSt k) z210 (fun i s => s = k + 6 * i) (fun s m => (s, m)) (fun i s m => lp laws_markStmtS.tree (.c2 s (i : Int) m)) k (by simp) (fun i h s m hs hm hg => by
    refine ⟨?_, by unfold nextSt; omega⟩
    rw [lp_eq]
    have h2 : i < m.length := by omega
    have w1 : wr (s + 1) = s + 1 := wr_in (by omega)
    have w2 : wr (s + 1 + 1) = s + 1 + 1 := wr_in (by omega)
    have w3 : wr (s + 1 + 1 + 1) = s + 1 + 1 + 1 := wr_in (by omega)
    have w4 : wr (s + 1 + 1 + 1 + 1) = s + 1 + 1 + 1 + 1 := wr_in (by omega)
    have w5 : wr (s + 1 + 1 + 1 + 1 + 1) = s + 1 + 1 + 1 + 1 + 1 := wr_in (by omega)
    have w6 : wr (s + 1 + 1 + 1 + 1 + 1 + 1) = s + 1 + 1 + 1 + 1 + 1 + 1 := wr_in (by omega)
    have w7 : wr ((i : Int) + 1) = ((i + 1 : Nat) : Int) := wr_next (by omega)
    clear hs h0 h1
    simp only [laws_markStmtS.tree, Tr.do_ite, Tr.do_need, Tr.do_val, Tr.do_jump, List.length_set, lt_dec h2, in_lt h2, and_self, decide_true, ↓reduceIte, Int.toNat_natCast, List.set_set, hg, w1, w2, w3, w4, w5, w6, w7, List.getD, List.getElem?_set_self h2, List.getElem?_set_self, Option.getD_some, h2]
    rfl) (fun s m hs hm => by
    rw [lp_eq]
    simp only [laws_markStmtS.tree, Tr.do_ite, Tr.do_ret, hm, ge_dec, Bool.false_eq_true, ↓reduceIte])
  rw [fold_nextSt] at e
  exact e
/-- The numbers that tasks take. -/
def wt (l : List S166) : Nat := (l.map fun t => 6 * t.f0.length + 3).sum
def nextTk (k : Int) (t : S166) : Int := k + 6 * t.f0.length + 1 + 1 + 1
def mkTk (k : Int) (t : S166) : S166 := ⟨mkSts k t.f0, (⟨k + 6 * t.f0.length, k + 6 * t.f0.length + 1, k + 6 * t.f0.length + 1 + 1⟩ : S153)⟩
/-- Tasks with numbers of their own. -/
def mkTks (k : Int) (l : List S166) : List S166 := mapS nextTk mkTk k l
theorem fold_nextTk : ∀ (l : List S166) (k : Int), l.foldl nextTk k = k + wt l
  | [], k => by simp [wt]
  | t :: l, k => by
    rw [List.foldl_cons, fold_nextTk l, nextTk, wt, wt, List.map_cons, List.sum_cons]
    omega
theorem wt_drop (l : List S166) (i : Nat) (h : i < l.length) : wt (l.drop i) = 6 * l[i].f0.length + 3 + wt (l.drop (i + 1)) := by
  rw [wt, wt, List.drop_eq_getElem_cons h, List.map_cons, List.sum_cons]
theorem laws_markTaskS_f (k : Int) (l : List S166) (hl : l.length ≤ 1048576) (h0 : 0 ≤ k) (h1 : k + wt l ≤ 1099511627776) : laws_markTaskS.f k l = some (k + wt l, mkTks k l) := by
  simp only [laws_markTaskS.f, laws_markTaskS.begin, Tr.do_jump]
  have e := put_loop l nextTk mkTk z166 (fun i s => 0 ≤ s ∧ s + wt (l.drop i) ≤ 1099511627776) (fun s m => (s, m)) (fun i s m => lp laws_markTaskS.tree (.c2 s (i : Int) m)) k ⟨h0, by simpa using h1⟩ (fun i h s m hs hm hg => by
    have hw := wt_drop l i h
    refine ⟨?_, by unfold nextTk; omega, by unfold nextTk; omega⟩
    rw [lp_eq]
    have h2 : i < m.length := by omega
    have hc := laws_markStmtS_f s l[i].f0 hs.1 (by omega)
    have w1 : wr (s + 6 * (l[i].f0.length : Int) + 1) = s + 6 * (l[i].f0.length : Int) + 1 := wr_in (by omega)
    have w2 : wr (s + 6 * (l[i].f0.length : Int) + 1 + 1) = s + 6 * (l[i].f0.length : Int) + 1 + 1 := wr_in (by omega)
    have w3 : wr (s + 6 * (l[i].f0.length : Int) + 1 + 1 + 1) = s + 6 * (l[i].f0.length : Int) + 1 + 1 + 1 := wr_in (by omega)
    have w7 : wr ((i : Int) + 1) = ((i + 1 : Nat) : Int) := wr_next (by omega)
    have hg' : rdS166 m (i : Int) = l[i] := hg
    clear hs h0 h1 hw hl
    simp only [laws_markTaskS.tree, Tr.do_ite, Tr.do_need, Tr.do_call, Tr.do_val, Tr.do_jump, laws_markStmtS.told, List.length_set, lt_dec h2, in_lt h2, and_self, decide_true, ↓reduceIte, Int.toNat_natCast, List.set_set, hg', hc, bind_ok, w1, w2, w3, w7, List.getD, List.getElem?_set_self h2, List.getElem?_set_self, Option.getD_some, h2]
    rfl) (fun s m hs hm => by
    rw [lp_eq]
    simp only [laws_markTaskS.tree, Tr.do_ite, Tr.do_ret, hm, ge_dec, Bool.false_eq_true, ↓reduceIte])
  rw [fold_nextTk] at e
  exact e
def nextI (k : Int) (_ : Int) : Int := k + 1
/-- A row of numbers. -/
def mkIs (k : Int) (l : List Int) : List Int := mapS nextI (fun k _ => k) k l
theorem fold_nextI (l : List Int) (k : Int) : l.foldl nextI k = k + l.length :=
  foldl_inv l nextI (fun i s => s = k + i) k (by simp) (fun i h s hs => by unfold nextI; omega)
theorem laws_markIntS_f (k : Int) (l : List Int) (h0 : 0 ≤ k) (h1 : k + l.length ≤ 1099511627776) : laws_markIntS.f k l = some (k + l.length, mkIs k l) := by
  simp only [laws_markIntS.f, laws_markIntS.begin, Tr.do_jump]
  have e := put_loop l nextI (fun k _ => k) 0 (fun i s => s = k + i) (fun s m => (s, m)) (fun i s m => lp laws_markIntS.tree (.c2 s (i : Int) m)) k (by simp) (fun i h s m hs hm hg => by
    refine ⟨?_, by unfold nextI; omega⟩
    rw [lp_eq]
    have h2 : i < m.length := by omega
    have w1 : wr (s + 1) = s + 1 := wr_in (by omega)
    have w7 : wr ((i : Int) + 1) = ((i + 1 : Nat) : Int) := wr_next (by omega)
    simp only [laws_markIntS.tree, Tr.do_ite, Tr.do_need, Tr.do_jump, lt_dec h2, in_lt h2, and_self, decide_true, ↓reduceIte, Int.toNat_natCast, w1, w7, nextI]) (fun s m hs hm => by
    rw [lp_eq]
    simp only [laws_markIntS.tree, Tr.do_ite, Tr.do_ret, hm, ge_dec, Bool.false_eq_true, ↓reduceIte])
  rw [fold_nextI] at e
  exact e
theorem laws_heldIntS_f (k : Int) (l : List Int) (h0 : 0 ≤ k) (h1 : k + l.length ≤ 1099511627776) : laws_heldIntS.f (mkIs k l) k = some (k + l.length) := by
  simp only [laws_heldIntS.f, laws_heldIntS.begin, Tr.do_jump]
  have hlen : (mkIs k l).length = l.length := mapS_length _ _ _ _
  have e := held_loop l nextI (fun k _ => k) 0 (fun i s => s = k + i) (fun s => s) k (fun i s => lp laws_heldIntS.tree (.c2 (mkIs k l) s (i : Int))) (by simp) (fun i h s hs hg => by
    refine ⟨?_, by unfold nextI; omega⟩
    rw [lp_eq]
    have h2 : i < (mkIs k l).length := by omega
    have w1 : wr (s + 1) = s + 1 := wr_in (by omega)
    have w7 : wr ((i : Int) + 1) = ((i + 1 : Nat) : Int) := wr_next (by omega)
    have hg' : rdI (mkIs k l) (i : Int) = s := hg
    simp only [laws_heldIntS.tree, Tr.do_ite, Tr.do_need, Tr.do_jump, lt_dec h2, in_lt h2, and_self, decide_true, ↓reduceIte, hg', w1, w7, Bool.not_true, Bool.false_eq_true, nextI]) (fun s hs => by
    rw [lp_eq]
    simp only [laws_heldIntS.tree, Tr.do_ite, Tr.do_ret, hlen, ge_dec, Bool.false_eq_true, ↓reduceIte])
  rw [fold_nextI] at e
  exact e
def okX (a b c : Int) : Bool := inB a 1 7 && (inB b (-8) 999 && inB c (-8) 999)
theorem spec_ExprOk_f (a b c : Int) : spec_ExprOk.f a b c = some (okX a b c) := by
  simp only [spec_ExprOk.f, spec_ExprOk.begin, Tr.do_call, Tr.do_ite, Tr.do_ret, spec_l01In.told, spec_l01In_f, spec_OperandOk.told, spec_OperandOk.f, spec_OperandOk.begin, bind_ok, okX]
  cases inB a 1 7 <;> cases inB b (-8) 999 <;> rfl
theorem impl_ExprOk_f (a b c : Int) : impl_ExprOk.f a b c = some (okX a b c) := by
  simp only [impl_ExprOk.f, impl_ExprOk.begin, Tr.do_call, Tr.do_ite, Tr.do_ret, impl_within.told, impl_within_f, impl_OperandOk.told, impl_OperandOk.f, impl_OperandOk.begin, bind_ok, okX]
  cases inB a 1 7 <;> cases inB b (-8) 999 <;> rfl
/-- A valid statement. -/
def okSt (x0 x1 x2 x3 x4 x5 : Int) : Bool :=
  if x0 = 1 then decide (x2 = 0) && (inB x1 0 7 && okX x3 x4 x5)
  else if x0 = 2 then (decide (x3 = 0) && (decide (x4 = 0) && decide (x5 = 0))) && (inB x1 0 7 && inB x2 0 3)
  else if x0 = 3 ∨ x0 = 4 then decide (x1 = 0) && (decide (x2 = 0) && okX x3 x4 x5)
  else if x0 = 5 then decide (x1 = 0) && ((decide (x3 = 0) && (decide (x4 = 0) && decide (x5 = 0))) && inB x2 1 5)
  else if x0 = 6 then decide (x1 = 0) && (decide (x2 = 0) && (decide (x3 = 0) && (decide (x4 = 0) && decide (x5 = 0))))
  else false
theorem plain_c (a b c d e f g h i j k l : Int) : lp spec_l04Plain.tree (.c14 a b c d e f g h i j k l) = some (g, h, i, j, k, l) := by
  rw [lp_eq]
  rfl
theorem spec_StmtOk_f (x0 x1 x2 x3 x4 x5 : Int) : spec_StmtOk.f x0 x1 x2 x3 x4 x5 = some (okSt x0 x1 x2 x3 x4 x5) := by
  unfold okSt
  simp only [spec_StmtOk.f, spec_StmtOk.begin, spec_l04Plain.told, spec_l04Plain.f, spec_l04Plain.begin, Tr.do_call, Tr.do_ite, Tr.do_ret, Tr.do_last, Tr.do_val, Tr.do_jump, plain_c, spec_l01In.told, spec_l01In_f, spec_ExprOk.told, spec_ExprOk_f, bind_ok, decide_eq_true_eq]
  by_cases h1 : x0 = 1
  · simp only [h1, ↓reduceIte, bind_ok]
    by_cases h2 : x2 = 0 <;> cases inB x1 0 7 <;> simp [h2]
  by_cases h2 : x0 = 2
  · simp only [h2, ↓reduceIte, bind_ok]
    by_cases g3 : x3 = 0 <;> by_cases g4 : x4 = 0 <;> by_cases g5 : x5 = 0 <;> cases inB x1 0 7 <;> simp [g3, g4, g5]
  by_cases h3 : x0 = 3
  · simp only [h3, ↓reduceIte, bind_ok]
    by_cases g1 : x1 = 0 <;> by_cases g2 : x2 = 0 <;> simp [g1, g2]
  by_cases h4 : x0 = 4
  · simp only [h4, ↓reduceIte, bind_ok]
    by_cases g1 : x1 = 0 <;> by_cases g2 : x2 = 0 <;> simp [g1, g2]
  by_cases h5 : x0 = 5
  · simp only [h5, ↓reduceIte, bind_ok]
    by_cases g1 : x1 = 0 <;> by_cases g3 : x3 = 0 <;> by_cases g4 : x4 = 0 <;> by_cases g5 : x5 = 0 <;> simp [g1, g3, g4, g5]
  simp only [h1, h2, h3, h4, h5, ↓reduceIte, bind_ok, or_self]
  by_cases g1 : x1 = 0 <;> by_cases g2 : x2 = 0 <;> by_cases g3 : x3 = 0 <;> by_cases g4 : x4 = 0 <;> by_cases g5 : x5 = 0 <;> by_cases h6 : x0 = 6 <;> simp [g1, g2, g3, g4, g5, h6]
theorem impl_StmtOk_c5 (x0 x1 x2 x3 x4 x5 : Int) : lp impl_StmtOk.tree (.c5 x0 x1 x2 x3 x4 x5) = some (if x0 = 2 then inB x2 0 3 else if x0 = 5 then inB x2 1 5 else decide (x2 = 0)) := by
  rw [lp_eq]
  simp only [impl_StmtOk.tree, Tr.do_call, Tr.do_ite, Tr.do_ret, impl_isSensor.told, impl_isSensor.f, impl_isSensor.begin, impl_within.told, impl_within_f, bind_ok, decide_eq_true_eq]
  split
  · rfl
  · split <;> rfl
theorem impl_StmtOk_c3 (x0 x1 x2 x3 x4 x5 : Int) : lp impl_StmtOk.tree (.c3 x0 x1 x2 x3 x4 x5) = some (if x0 = 1 ∨ x0 = 3 ∨ x0 = 4 then okX x3 x4 x5 && decide (x2 = 0) else (decide (x3 = 0) && (decide (x4 = 0) && decide (x5 = 0))) && (if x0 = 2 then inB x2 0 3 else if x0 = 5 then inB x2 1 5 else decide (x2 = 0))) := by
  rw [lp_eq]
  simp only [impl_StmtOk.tree, Tr.do_call, Tr.do_ite, Tr.do_ret, Tr.do_val, Tr.do_jump, impl_hasExpr.told, impl_hasExpr.f, impl_hasExpr.begin, impl_ExprOk.told, impl_ExprOk_f, impl_StmtOk_c5, bind_ok, decide_eq_true_eq]
  by_cases h1 : x0 = 1
  · cases hx : okX x3 x4 x5 <;> simp [h1]
  by_cases h3 : x0 = 3
  · cases hx : okX x3 x4 x5 <;> simp [h3]
  by_cases h4 : x0 = 4
  · cases hx : okX x3 x4 x5 <;> simp [h4]
  by_cases g3 : x3 = 0 <;> by_cases g4 : x4 = 0 <;> by_cases g5 : x5 = 0 <;> simp [h1, h3, h4, g3, g4, g5]
theorem impl_StmtOk_f (x0 x1 x2 x3 x4 x5 : Int) : impl_StmtOk.f x0 x1 x2 x3 x4 x5 = some (okSt x0 x1 x2 x3 x4 x5) := by
  unfold okSt
  simp only [impl_StmtOk.f, impl_StmtOk.begin, Tr.do_call, Tr.do_ite, Tr.do_ret, Tr.do_val, Tr.do_jump, impl_hasVar.told, impl_hasVar.f, impl_hasVar.begin, impl_isVar.told, impl_isVar.f, impl_isVar.begin, impl_within.told, impl_within_f, impl_StmtOk_c3, bind_ok, decide_eq_true_eq]
  by_cases h1 : x0 = 1
  · subst h1
    rw [show inB 1 1 6 = true from rfl]
    cases inB x1 0 7 <;> cases okX x3 x4 x5 <;> simp
  by_cases h2 : x0 = 2
  · subst h2
    rw [show inB 2 1 6 = true from rfl]
    cases inB x1 0 7 <;> simp
  by_cases h3 : x0 = 3
  · subst h3
    rw [show inB 3 1 6 = true from rfl]
    by_cases g1 : x1 = 0 <;> cases okX x3 x4 x5 <;> simp [g1]
  by_cases h4 : x0 = 4
  · subst h4
    rw [show inB 4 1 6 = true from rfl]
    by_cases g1 : x1 = 0 <;> cases okX x3 x4 x5 <;> simp [g1]
  by_cases h5 : x0 = 5
  · subst h5
    rw [show inB 5 1 6 = true from rfl]
    by_cases g1 : x1 = 0 <;> simp [g1]
  by_cases h6 : x0 = 6
  · subst h6
    rw [show inB 6 1 6 = true from rfl]
    by_cases g1 : x1 = 0 <;> by_cases g2 : x2 = 0 <;> simp [g1, g2]
  · have hb : inB x0 1 6 = false := by
      unfold inB
      by_cases q : x0 ≥ 1
      · rw [decide_eq_true q, decide_eq_false (by omega)]
        rfl
      · rw [decide_eq_false q, Bool.false_and]
    simp [hb, h1, h2, h3, h4, h5, h6]
/-- The depth behind a statement. -/
def dep (x0 d : Int) : Int := if x0 = 4 ∨ x0 = 5 then d + 1 else if x0 = 6 then d - 1 else d
/-- Is a block valid from here on, at depth d? -/
def okB (n : Nat) : List S210 → Int → Bool
  | [], d => decide (d = 0) && decide ((n : Int) ≤ 24)
  | s :: l, d => okSt s.f0 s.f1 s.f2 s.f3.f0 s.f3.f1 s.f3.f2 && (inB (dep s.f0 d) 0 3 && okB n l (dep s.f0 d))
def stepB (d : Int) (s : S210) : Int ⊕ Bool := if okSt s.f0 s.f1 s.f2 s.f3.f0 s.f3.f1 s.f3.f2 = true then (if inB (dep s.f0 d) 0 3 = true then .inl (dep s.f0 d) else .inr false) else .inr false
theorem scan_okB (n : Nat) : ∀ (l : List S210) (d : Int), scan stepB (fun d => decide (d = 0) && decide ((n : Int) ≤ 24)) l d = okB n l d
  | [], d => rfl
  | s :: l, d => by
    unfold scan stepB okB
    cases okSt s.f0 s.f1 s.f2 s.f3.f0 s.f3.f1 s.f3.f2
    · rfl
    · cases inB (dep s.f0 d) 0 3
      · rfl
      · exact scan_okB n l _
theorem dep_wr {x d : Int} (h0 : 0 ≤ d) (h1 : d ≤ 3) : wr (d + 1) = d + 1 ∧ wr (d - 1) = d - 1 ∧ wr (d + 1 - 1) = d + 1 - 1 := ⟨wr_in (by omega), wr_in (by omega), wr_in (by omega)⟩
theorem inB_iff {x a b : Int} : inB x a b = true ↔ a ≤ x ∧ x ≤ b := by simp [inB]
theorem spec_BlockOk_f (l : List S210) (hl : l.length ≤ 1048576) : spec_BlockOk.f l = some (okB l.length l 0) := by
  simp only [spec_BlockOk.f, spec_BlockOk.begin, Tr.do_jump]
  rw [← scan_okB]
  refine scan_loop l stepB _ (fun _ d => 0 ≤ d ∧ d ≤ 3) (fun i d => lp spec_BlockOk.tree (.c3 l d (i : Int))) 0 ⟨by omega, by omega⟩ (fun i h d hd => ?_) (fun d hd => ?_)
  · obtain ⟨w1, w2, w3⟩ := dep_wr (x := d) hd.1 hd.2
    have w7 : wr ((i : Int) + 1) = ((i + 1 : Nat) : Int) := wr_next (by omega)
    have step : lp spec_BlockOk.tree (.c3 l d (i : Int)) = if okSt l[i].f0 l[i].f1 l[i].f2 l[i].f3.f0 l[i].f3.f1 l[i].f3.f2 = true then (if inB (dep l[i].f0 d) 0 3 = true then lp spec_BlockOk.tree (.c3 l (dep l[i].f0 d) ((i + 1 : Nat) : Int)) else some false) else some false := by
      rw [lp_eq]
      simp only [spec_BlockOk.tree, Tr.do_ite, Tr.do_need, Tr.do_call, Tr.do_ret, Tr.do_jump, spec_StmtOk.told, spec_StmtOk_f, spec_l01In.told, spec_l01In_f, getD_lt h, lt_dec h, in_lt h, and_self, decide_true, ↓reduceIte, bind_ok, w1, w2, w7]
      cases okSt l[i].f0 l[i].f1 l[i].f2 l[i].f3.f0 l[i].f3.f1 l[i].f3.f2
      · rfl
      · unfold dep
        by_cases h4 : l[i].f0 = 4
        · cases hb : inB (d + 1) 0 3 <;> simp [h4, hb]
        · by_cases h5 : l[i].f0 = 5
          · cases hb : inB (d + 1) 0 3 <;> simp [h4, h5, hb]
          · by_cases h6 : l[i].f0 = 6
            · cases hb : inB (d - 1) 0 3 <;> simp [h4, h5, h6, hb]
            · cases hb : inB d 0 3 <;> simp [h4, h5, h6, hb]
    rw [step]
    unfold stepB
    cases okSt l[i].f0 l[i].f1 l[i].f2 l[i].f3.f0 l[i].f3.f1 l[i].f3.f2
    · exact ⟨fun s' hs' => (by cases hs'), fun r hr => (by cases hr; rfl)⟩
    · cases hb : inB (dep l[i].f0 d) 0 3
      · exact ⟨fun s' hs' => (by cases hs'), fun r hr => (by cases hr; rfl)⟩
      · exact ⟨fun s' hs' => (by cases hs'; exact ⟨rfl, inB_iff.mp hb⟩), fun r hr => (by cases hr)⟩
  · rw [lp_eq]
    simp only [spec_BlockOk.tree, Tr.do_ite, Tr.do_ret, ge_dec, Bool.false_eq_true, ↓reduceIte]
    cases decide (d = 0) <;> rfl
theorem impl_BlockOk_f (l : List S210) (hl : l.length ≤ 1048576) : impl_BlockOk.f l = some (okB l.length l 0) := by
  simp only [impl_BlockOk.f, impl_BlockOk.begin, Tr.do_jump]
  rw [← scan_okB]
  refine scan_loop l stepB _ (fun _ d => 0 ≤ d ∧ d ≤ 3) (fun i d => lp impl_BlockOk.tree (.c3 l d l (List.length l : Int) (i : Int))) 0 ⟨by omega, by omega⟩ (fun i h d hd => ?_) (fun d hd => ?_)
  · obtain ⟨w1, w2, w3⟩ := dep_wr (x := d) hd.1 hd.2
    have w7 : wr ((i : Int) + 1) = ((i + 1 : Nat) : Int) := wr_next (by omega)
    have c12 : lp impl_BlockOk.tree .c12 = some false := by rw [lp_eq]; rfl
    have tst : ∀ (x : Int) (A : Option Bool), (if x < 0 then some false else if x > 3 then some false else A) = if inB x 0 3 = true then A else some false := fun x A => by
      by_cases q : x < 0
      · rw [if_pos q, if_neg (by rw [inB_iff]; omega)]
      · rw [if_neg q]
        by_cases q' : x > 3
        · rw [if_pos q', if_neg (by rw [inB_iff]; omega)]
        · rw [if_neg q', if_pos (by rw [inB_iff]; omega)]
    have step : lp impl_BlockOk.tree (.c3 l d l (List.length l : Int) (i : Int)) = if okSt l[i].f0 l[i].f1 l[i].f2 l[i].f3.f0 l[i].f3.f1 l[i].f3.f2 = true then (if inB (dep l[i].f0 d) 0 3 = true then lp impl_BlockOk.tree (.c3 l (dep l[i].f0 d) l (List.length l : Int) ((i + 1 : Nat) : Int)) else some false) else some false := by
      rw [lp_eq]
      simp only [impl_BlockOk.tree, Tr.do_ite, Tr.do_need, Tr.do_call, Tr.do_ret, Tr.do_jump, impl_StmtOk.told, impl_StmtOk_f, impl_isOpening.told, impl_isOpening.f, impl_isOpening.begin, c12, getD_lt h, lt_dec h, in_lt h, and_self, decide_true, ↓reduceIte, bind_ok, w1, w2, w3, w7, decide_eq_true_eq, tst]
      cases okSt l[i].f0 l[i].f1 l[i].f2 l[i].f3.f0 l[i].f3.f1 l[i].f3.f2
      · rfl
      · unfold dep
        by_cases h4 : l[i].f0 = 4
        · simp [h4]
        · by_cases h5 : l[i].f0 = 5
          · simp [h4, h5]
          · by_cases h6 : l[i].f0 = 6
            · simp [h4, h5, h6]
            · simp [h4, h5, h6]
    rw [step]
    unfold stepB
    cases okSt l[i].f0 l[i].f1 l[i].f2 l[i].f3.f0 l[i].f3.f1 l[i].f3.f2
    · exact ⟨fun s' hs' => (by cases hs'), fun r hr => (by cases hr; rfl)⟩
    · cases hb : inB (dep l[i].f0 d) 0 3
      · exact ⟨fun s' hs' => (by cases hs'), fun r hr => (by cases hr; rfl)⟩
      · exact ⟨fun s' hs' => (by cases hs'; exact ⟨rfl, inB_iff.mp hb⟩), fun r hr => (by cases hr)⟩
  · rw [lp_eq]
    simp only [impl_BlockOk.tree, Tr.do_ite, Tr.do_ret, ge_dec, Bool.false_eq_true, ↓reduceIte]
    cases decide (d = 0) <;> rfl
def isVal (x : Int) : Bool := inB x (-1000000) 1000000
theorem spec_IsValue_f (x : Int) : spec_IsValue.f x = some (isVal x) := by
  simp only [spec_IsValue.f, spec_IsValue.begin, Tr.do_call, Tr.do_ret, spec_l01In.told, spec_l01In_f, bind_ok, isVal]
theorem impl_IsValue_f (x : Int) : impl_IsValue.f x = some (isVal x) := by
  simp only [impl_IsValue.f, impl_IsValue.begin, Tr.do_call, Tr.do_ret, impl_within.told, impl_within_f, bind_ok, isVal]
theorem spec_l09Values_f (l : List Int) (hl : l.length ≤ 1048576) : spec_l09Values.f l = some (l.all isVal) := by
  simp only [spec_l09Values.f, spec_l09Values.begin, Tr.do_jump]
  have e := all_loop l isVal true (fun i => lp spec_l09Values.tree (.c2 l (i : Int))) (fun i h => by
    rw [lp_eq]
    simp only [spec_l09Values.tree, Tr.do_ite, Tr.do_need, Tr.do_call, Tr.do_ret, Tr.do_jump, spec_IsValue.told, spec_IsValue_f, bind_ok, getD_lt h, lt_dec h, in_lt h, and_self, decide_true, ↓reduceIte, wr_next (show i < 4611686018427387904 by omega)]
    cases isVal l[i] <;> rfl) (by
    rw [lp_eq]
    simp only [spec_l09Values.tree, Tr.do_ite, Tr.do_ret, ge_dec, Bool.false_eq_true, ↓reduceIte])
  rw [Bool.and_true] at e
  exact e
theorem spec_VarsOk_f (l : List Int) (hl : l.length ≤ 1048576) : spec_VarsOk.f l = some (l.all isVal && decide ((l.length : Int) = 8)) := by
  simp only [spec_VarsOk.f, spec_VarsOk.begin, Tr.do_jump]
  refine all_loop l isVal _ (fun i => lp spec_VarsOk.tree (.c2 l (i : Int))) (fun i h => ?_) ?_
  · rw [lp_eq]
    simp only [spec_VarsOk.tree, Tr.do_ite, Tr.do_need, Tr.do_call, Tr.do_ret, Tr.do_jump, spec_IsValue.told, spec_IsValue_f, bind_ok, getD_lt h, lt_dec h, in_lt h, and_self, decide_true, ↓reduceIte, wr_next (show i < 4611686018427387904 by omega)]
    cases isVal l[i] <;> rfl
  · rw [lp_eq]
    simp only [spec_VarsOk.tree, Tr.do_ite, Tr.do_ret, ge_dec, Bool.false_eq_true, ↓reduceIte]
theorem any_not {A : Type} (l : List A) (p : A → Bool) : (!(l.any fun x => !p x)) = l.all p := by
  induction l with
  | nil => rfl
  | cons a l ih => rw [List.any_cons, List.all_cons, ← ih]; cases p a <;> simp
theorem impl_areValues_f (l : List Int) (hl : l.length ≤ 1048576) : impl_areValues.f l = some (l.all isVal) := by
  obtain ⟨r, hr, hd⟩ := find_loop l (fun x => !isVal x) (fun i => lp slices_IndexFunc_int_areValues_1.tree (.c2 l (List.length l : Int) (i : Int))) (fun i h => by
    rw [lp_eq]
    simp only [slices_IndexFunc_int_areValues_1.tree, Tr.do_ite, Tr.do_need, Tr.do_call, Tr.do_ret, Tr.do_jump, impl_areValues_1.told, impl_areValues_1.f, impl_areValues_1.begin, impl_IsValue.told, impl_IsValue_f, bind_ok, getD_lt h, lt_dec h, in_lt h, and_self, decide_true, ↓reduceIte, wr_next (show i < 4611686018427387904 by omega)]) (by
    rw [lp_eq]
    simp only [slices_IndexFunc_int_areValues_1.tree, Tr.do_ite, Tr.do_ret, ge_dec, Bool.false_eq_true, ↓reduceIte])
  have hr' : lp slices_IndexFunc_int_areValues_1.tree (.c2 l (List.length l : Int) 0) = some r := hr
  simp only [impl_areValues.f, impl_areValues.begin, Tr.do_call, Tr.do_ret, slices_ContainsFunc_int_areValues_1.told, slices_ContainsFunc_int_areValues_1.f, slices_ContainsFunc_int_areValues_1.begin, slices_IndexFunc_int_areValues_1.told, slices_IndexFunc_int_areValues_1.f, slices_IndexFunc_int_areValues_1.begin, Tr.do_jump, hr', bind_ok, hd, any_not]
theorem impl_VarsOk_f (l : List Int) (hl : l.length ≤ 1048576) : impl_VarsOk.f l = some (l.all isVal && decide ((l.length : Int) = 8)) := by
  simp only [impl_VarsOk.f, impl_VarsOk.begin, Tr.do_call, Tr.do_ite, Tr.do_ret, impl_areValues.told, impl_areValues_f l hl, bind_ok]
  cases decide ((l.length : Int) = 8) <;> simp
theorem fits {A B : Type} (l : List A) (m : List B) (hl : l.length ≤ 1048576) (hm : m.length ≤ 1048576) (k : Nat) (hk : k ≤ 1000) : ((l.length : Int) + (m.length : Int)) * (k : Nat) ≤ room := by
  unfold room
  have h1 : ((l.length : Int) + (m.length : Int)) * (k : Int) ≤ 2097152 * (k : Int) := Int.mul_le_mul_of_nonneg_right (by omega) (by omega)
  omega
theorem slices_Clone_int_f (l : List Int) (hl : l.length ≤ 1048576) : slices_Clone_int.f l = some l := by
  simp only [slices_Clone_int.f, slices_Clone_int.begin, Tr.do_nilq, Tr.do_ret, Tr.do_need, fits ([] : List Int) l (by simp) hl 8 (by omega), ↓reduceIte, List.nil_append]
  cases l <;> simp
def memNew (l : List Int) : List Int × Bool := if (l.all isVal && decide ((l.length : Int) = 8)) = true then (l ++ List.replicate 41 0, true) else ([], false)
def okT (t : S166) : Bool := okB t.f0.length t.f0 0 && okX t.f1.f0 t.f1.f1 t.f1.f2
def okP (l : List S166) : Bool := l.all okT && inB (l.length : Int) 1 6
theorem spec_ProgramOk_f (l : List S166) (hl : l.length ≤ 1048576) (hs : ∀ t ∈ l, t.f0.length ≤ 1048576) : spec_ProgramOk.f l = some (okP l) := by
  simp only [spec_ProgramOk.f, spec_ProgramOk.begin, Tr.do_jump]
  refine all_loop l okT _ (fun i => lp spec_ProgramOk.tree (.c2 l (i : Int))) (fun i h => ?_) ?_
  · rw [lp_eq]
    simp only [spec_ProgramOk.tree, Tr.do_ite, Tr.do_need, Tr.do_call, Tr.do_ret, Tr.do_jump, spec_BlockOk.told, spec_BlockOk_f _ (hs _ (List.getElem_mem h)), spec_ExprOk.told, spec_ExprOk_f, bind_ok, getD_lt h, lt_dec h, in_lt h, and_self, decide_true, ↓reduceIte, wr_next (show i < 4611686018427387904 by omega), okT]
    rcases Bool.eq_false_or_eq_true (okB l[i].f0.length l[i].f0 0) with q | q <;> rcases Bool.eq_false_or_eq_true (okX l[i].f1.f0 l[i].f1.f1 l[i].f1.f2) with q' | q' <;> simp [q, q']
  · rw [lp_eq]
    simp only [spec_ProgramOk.tree, Tr.do_ite, Tr.do_call, Tr.do_ret, spec_l01In.told, spec_l01In_f, bind_ok, ge_dec, Bool.false_eq_true, ↓reduceIte]
theorem impl_ProgramOk_f (l : List S166) (hl : l.length ≤ 1048576) (hs : ∀ t ∈ l, t.f0.length ≤ 1048576) : impl_ProgramOk.f l = some (okP l) := by
  obtain ⟨r, hr, hd⟩ := find_loop l (fun x => !okT x) (fun i => lp slices_IndexFunc_impl_Task_ProgramOk_1.tree (.c2 l (List.length l : Int) (i : Int))) (fun i h => by
    rw [lp_eq]
    simp only [slices_IndexFunc_impl_Task_ProgramOk_1.tree, Tr.do_ite, Tr.do_need, Tr.do_call, Tr.do_ret, Tr.do_jump, impl_ProgramOk_1.told, impl_ProgramOk_1.f, impl_ProgramOk_1.begin, impl_taskOk.told, impl_taskOk.f, impl_taskOk.begin, impl_BlockOk.told, impl_BlockOk_f _ (hs _ (List.getElem_mem h)), impl_ExprOk.told, impl_ExprOk_f, bind_ok, getD_lt h, lt_dec h, in_lt h, and_self, decide_true, ↓reduceIte, wr_next (show i < 4611686018427387904 by omega), okT]
    rcases Bool.eq_false_or_eq_true (okB l[i].f0.length l[i].f0 0) with q | q <;> rcases Bool.eq_false_or_eq_true (okX l[i].f1.f0 l[i].f1.f1 l[i].f1.f2) with q' | q' <;> simp [q, q']) (by
    rw [lp_eq]
    simp only [slices_IndexFunc_impl_Task_ProgramOk_1.tree, Tr.do_ite, Tr.do_ret, ge_dec, Bool.false_eq_true, ↓reduceIte])
  have hr' : lp slices_IndexFunc_impl_Task_ProgramOk_1.tree (.c2 l (List.length l : Int) 0) = some r := hr
  simp only [impl_ProgramOk.f, impl_ProgramOk.begin, Tr.do_call, Tr.do_ite, Tr.do_ret, impl_within.told, impl_within_f, slices_ContainsFunc_impl_Task_ProgramOk_1.told, slices_ContainsFunc_impl_Task_ProgramOk_1.f, slices_ContainsFunc_impl_Task_ProgramOk_1.begin, slices_IndexFunc_impl_Task_ProgramOk_1.told, slices_IndexFunc_impl_Task_ProgramOk_1.f, slices_IndexFunc_impl_Task_ProgramOk_1.begin, Tr.do_jump, hr', bind_ok, hd, any_not, okP]
  cases inB (l.length : Int) 1 6 <;> simp
def okStore (a b c d : Int) : Bool := inB b 1 5000 && (inB a 0 b && (inB c 1 b && inB d 0 100))
/-- A new node, and whether there is one. -/
def nodeNew (p : List S166) (m r : List Int) (a b c d : Int) : List S166 × List Int × List Int × Int × Int × Int × Int × Int × Int × Int × Int × List Int × Int × Bool :=
  if (memNew m).2 = true then (if okP p = true then (if okStore a b c d = true then (if r.all isVal = true then (p, (memNew m).1, r, 0, a, b, c, d, 0, 0, 0, [], 0, true)
  else ([], [], [], 0, 0, 0, 0, 0, 0, 0, 0, [], 0, false)) else ([], [], [], 0, 0, 0, 0, 0, 0, 0, 0, [], 0, false)) else ([], [], [], 0, 0, 0, 0, 0, 0, 0, 0, [], 0, false)) else ([], [], [], 0, 0, 0, 0, 0, 0, 0, 0, [], 0, false)
theorem nodeNew_sizes (p : List S166) (m r : List Int) (a b c d : Int) (hp : p.length ≤ 1048576) (hs : ∀ t ∈ p, t.f0.length ≤ 1048576) (hw : wt p ≤ 100000000) (hr : r.length ≤ 1048576) :
    (nodeNew p m r a b c d).1.length ≤ 1048576 ∧ (∀ t ∈ (nodeNew p m r a b c d).1, t.f0.length ≤ 1048576) ∧ wt (nodeNew p m r a b c d).1 ≤ 100000000 ∧ (nodeNew p m r a b c d).2.1.length ≤ 1048576 ∧ (nodeNew p m r a b c d).2.2.1.length ≤ 1048576 ∧ (nodeNew p m r a b c d).2.2.2.2.2.2.2.2.2.2.2.1.length ≤ 1048576 := by
  have hz : wt ([] : List S166) ≤ 100000000 := by simp [wt]
  have hn : (memNew m).1.length ≤ 1048576 := by
    unfold memNew
    split
    · rename_i h
      rw [Bool.and_eq_true] at h
      have := of_decide_eq_true h.2
      rw [List.length_append, List.length_replicate]
      omega
    · simp
  unfold nodeNew
  split
  · split
    · split
      · split
        · exact ⟨hp, hs, hw, hn, hr, by simp⟩
        · exact ⟨by simp, by simp, hz, by simp, by simp, by simp⟩
      · exact ⟨by simp, by simp, hz, by simp, by simp, by simp⟩
    · exact ⟨by simp, by simp, hz, by simp, by simp, by simp⟩
  · exact ⟨by simp, by simp, hz, by simp, by simp, by simp⟩
/-- What the sizes say. -/
theorem tot_le (l : List S172) (n : Nat) (h : tot l ≤ n) : l.length ≤ n ∧ (∀ t ∈ l, t.f0.length ≤ n) ∧ wt (l.map toTk) ≤ 6 * n := by
  have key : ∀ l : List S172, (∀ t ∈ l, t.f0.length ≤ (l.map fun t => t.f0.length).sum) ∧ wt (l.map toTk) = 6 * (l.map fun t => t.f0.length).sum + 3 * l.length := by
    intro l
    induction l with
    | nil => exact ⟨by simp, rfl⟩
    | cons t l ih =>
      refine ⟨fun u hu => ?_, ?_⟩
      · rw [List.map_cons, List.sum_cons]
        rcases List.mem_cons.mp hu with rfl | hu
        · omega
        · have := ih.1 u hu
          omega
      · have h2 := ih.2
        unfold wt at h2 ⊢
        rw [List.map_cons, List.map_cons, List.sum_cons, h2, List.map_cons, List.sum_cons, List.length_cons]
        show 6 * (t.f0.map toSt).length + 3 + _ = _
        rw [List.length_map]
        omega
  obtain ⟨h1, h2⟩ := key l
  unfold tot at h
  exact ⟨by omega, fun t ht => by have := h1 t ht; omega, by omega⟩
/-- The control word of three numbers. -/
def pack (a b c : Int) : Int := if (inB a 0 5 && (inB b 0 8 && inB c 0 24)) = true then a + 8 * (b + 16 * c) else -1
theorem pack_wr (a b c : Int) (h : (inB a 0 5 && (inB b 0 8 && inB c 0 24)) = true) : wr (a + wr (8 * wr (b + wr (16 * c)))) = a + 8 * (b + 16 * c) := by
  rw [Bool.and_eq_true, Bool.and_eq_true, inB_iff, inB_iff, inB_iff] at h
  have w1 : wr (16 * c) = 16 * c := wr_in (by omega)
  have w2 : wr (b + 16 * c) = b + 16 * c := wr_in (by omega)
  have w3 : wr (8 * (b + 16 * c)) = 8 * (b + 16 * c) := wr_in (by omega)
  have w4 : wr (a + 8 * (b + 16 * c)) = a + 8 * (b + 16 * c) := wr_in (by omega)
  rw [w1, w2, w3, w4]
theorem pack_le (a b c : Int) : pack a b c ≤ 3141 := by
  unfold pack
  split
  · rename_i h
    rw [Bool.and_eq_true, Bool.and_eq_true, inB_iff, inB_iff, inB_iff] at h
    omega
  · omega
theorem spec_PackControl_f (a b c : Int) : spec_PackControl.f a b c = some (pack a b c) := by
  simp only [spec_PackControl.f, spec_PackControl.begin, Tr.do_call, Tr.do_ite, Tr.do_ret, spec_l01In.told, spec_l01In_f, bind_ok]
  have h := pack_wr a b c
  unfold pack
  by_cases q : (inB a 0 5 && (inB b 0 8 && inB c 0 24)) = true
  · rw [h q]
    rw [Bool.and_eq_true, Bool.and_eq_true] at q
    simp [q.1, q.2.1, q.2.2]
  · clear h
    cases qa : inB a 0 5 <;> cases qb : inB b 0 8 <;> cases qc : inB c 0 24 <;> simp_all
theorem impl_PackControl_f (a b c : Int) : impl_PackControl.f a b c = some (pack a b c) := by
  simp only [impl_PackControl.f, impl_PackControl.begin, Tr.do_call, Tr.do_ite, Tr.do_ret, impl_within.told, impl_within_f, bind_ok]
  have h := pack_wr a b c
  unfold pack
  by_cases q : (inB a 0 5 && (inB b 0 8 && inB c 0 24)) = true
  · rw [h q]
    rw [Bool.and_eq_true, Bool.and_eq_true] at q
    simp [q.1, q.2.1, q.2.2]
  · clear h
    cases qa : inB a 0 5 <;> cases qb : inB b 0 8 <;> cases qc : inB c 0 24 <;> simp_all
/-- The three numbers of a control word. -/
def unpack (c : Int) : Int × Int × Int :=
  if c < 0 then (-1, -1, -1) else if pack (Int.tmod c 8) (Int.tmod (wr (Int.tdiv c 8)) 16) (wr (Int.tdiv c 128)) = c then (Int.tmod c 8, Int.tmod (wr (Int.tdiv c 8)) 16, wr (Int.tdiv c 128)) else (-1, -1, -1)
theorem spec_UnpackControl_f (c : Int) : spec_UnpackControl.f c = some (unpack c) := by
  simp only [spec_UnpackControl.f, spec_UnpackControl.begin, Tr.do_call, Tr.do_ite, Tr.do_need, Tr.do_ret, spec_PackControl.told, spec_PackControl_f, bind_ok, unpack, decide_eq_true_eq]
  by_cases h : c < 0
  · rw [if_pos h, if_pos h]
  rw [if_neg h, if_neg h]
  by_cases h2 : c > 100000
  · have := pack_le (Int.tmod c 8) (Int.tmod (wr (Int.tdiv c 8)) 16) (wr (Int.tdiv c 128))
    rw [if_pos h2, if_neg (by omega)]
  rw [if_neg h2]
  by_cases q : pack (Int.tmod c 8) (Int.tmod (wr (Int.tdiv c 8)) 16) (wr (Int.tdiv c 128)) = c <;> simp [q]
theorem impl_UnpackControl_f (c : Int) : impl_UnpackControl.f c = some (unpack c) := by
  simp only [impl_UnpackControl.f, impl_UnpackControl.begin, Tr.do_call, Tr.do_ite, Tr.do_need, Tr.do_ret, impl_PackControl.told, impl_PackControl_f, bind_ok, unpack, decide_eq_true_eq]
  by_cases h : c < 0
  · simp [h]
  by_cases q : pack (Int.tmod c 8) (Int.tmod (wr (Int.tdiv c 8)) 16) (wr (Int.tdiv c 128)) = c <;> simp [q, h]
theorem unpack_in (c : Int) : unpack c = (-1, -1, -1) ∨ (0 ≤ (unpack c).1 ∧ (unpack c).1 ≤ 5 ∧ 0 ≤ (unpack c).2.1 ∧ (unpack c).2.1 ≤ 8 ∧ 0 ≤ (unpack c).2.2 ∧ (unpack c).2.2 ≤ 24) := by
  unfold unpack
  split
  · exact .inl rfl
  split
  · rename_i h q
    right
    unfold pack at q
    split at q
    · rename_i p
      rw [Bool.and_eq_true, Bool.and_eq_true, inB_iff, inB_iff, inB_iff] at p
      exact ⟨p.1.1, p.1.2, p.2.1.1, p.2.1.2, p.2.2.1, p.2.2.2⟩
    · omega
  · exact .inl rfl
def okPair (m : List Int) (i : Nat) : Bool := inB (rdI m (9 + 2 * (i : Int))) 0 7 && isVal (rdI m (9 + 2 * (i : Int) + 1))
theorem pair_facts (m : List Int) (hm : m.length = 49) (i n : Nat) (h : i < n) (hn : n ≤ 8) :
    wr (2 * (i : Int)) = 2 * (i : Int) ∧ wr (9 + 2 * (i : Int)) = 9 + 2 * (i : Int) ∧ wr (9 + 2 * (i : Int) + 1) = 9 + 2 * (i : Int) + 1 ∧ ((0 : Int) ≤ 9 + 2 * (i : Int) ∧ 9 + 2 * (i : Int) < (m.length : Int)) ∧ ((0 : Int) ≤ 9 + 2 * (i : Int) + 1 ∧ 9 + 2 * (i : Int) + 1 < (m.length : Int)) ∧ wr ((i : Int) + 1) = ((i + 1 : Nat) : Int) :=
  ⟨wr_in (by omega), wr_in (by omega), wr_in (by omega), by omega, by omega, wr_next (by omega)⟩
theorem spec_MemOk_c7 (m : List Int) (hm : m.length = 49) (n : Nat) (hn : n ≤ 8) : lp spec_MemOk.tree (.c7 m (n : Int) 0) = some ((List.range n).all (okPair m)) := by
  have e := all_loop (List.range n) (okPair m) true (fun i => lp spec_MemOk.tree (.c7 m (n : Int) (i : Int))) (fun i h => by
    rw [List.length_range] at h
    obtain ⟨w1, w2, w3, n1, n2, w4⟩ := pair_facts m hm i n h hn
    rw [lp_eq, List.getElem_range]
    simp only [spec_MemOk.tree, Tr.do_ite, Tr.do_need, Tr.do_call, Tr.do_ret, Tr.do_jump, w1, w2, w3, w4, n1, n2, lt_dec h, and_self, ↓reduceIte, spec_l01In.told, spec_l01In_f, spec_IsValue.told, spec_IsValue_f, bind_ok, okPair]
    rcases Bool.eq_false_or_eq_true (inB (rdI m (9 + 2 * (i : Int))) 0 7) with q | q <;> rcases Bool.eq_false_or_eq_true (isVal (rdI m (9 + 2 * (i : Int) + 1))) with q' | q' <;> simp only [q, q', Bool.not_true, Bool.not_false, Bool.and_self, Bool.and_true, Bool.and_false, Bool.false_eq_true, ↓reduceIte]) (by
    rw [lp_eq, List.length_range]
    simp only [spec_MemOk.tree, Tr.do_ite, Tr.do_ret, ge_dec, Bool.false_eq_true, ↓reduceIte])
  rw [Bool.and_true] at e
  exact e
theorem impl_MemOk_c7 (m : List Int) (hm : m.length = 49) (n : Nat) (hn : n ≤ 8) : lp impl_MemOk.tree (.c7 m (n : Int) 0) = some ((List.range n).all (okPair m)) := by
  have e := all_loop (List.range n) (okPair m) true (fun i => lp impl_MemOk.tree (.c7 m (n : Int) (i : Int))) (fun i h => by
    rw [List.length_range] at h
    obtain ⟨w1, w2, w3, n1, n2, w4⟩ := pair_facts m hm i n h hn
    rw [lp_eq, List.getElem_range]
    simp only [impl_MemOk.tree, Tr.do_ite, Tr.do_need, Tr.do_call, Tr.do_ret, Tr.do_jump, w1, w2, w3, w4, n1, n2, lt_dec h, and_self, ↓reduceIte, impl_isVar.told, impl_isVar.f, impl_isVar.begin, impl_within.told, impl_within_f, impl_IsValue.told, impl_IsValue_f, bind_ok, okPair]
    rcases Bool.eq_false_or_eq_true (inB (rdI m (9 + 2 * (i : Int))) 0 7) with q | q <;> rcases Bool.eq_false_or_eq_true (isVal (rdI m (9 + 2 * (i : Int) + 1))) with q' | q' <;> simp only [q, q', Bool.not_true, Bool.not_false, Bool.and_self, Bool.and_true, Bool.and_false, Bool.false_eq_true, ↓reduceIte]) (by
    rw [lp_eq, List.length_range]
    simp only [impl_MemOk.tree, Tr.do_ite, Tr.do_ret, ge_dec, Bool.false_eq_true, ↓reduceIte])
  rw [Bool.and_true] at e
  exact e
/-- What has been sent. -/
def sent (m : List Int) : List Int := (m.take (Int.toNat (25 + (unpack (rdI m 8)).2.2))).drop 25
/-- A valid memory of a program with n tasks. -/
def okMem (n : Nat) (m : List Int) : Bool :=
  decide (m.length = 49) && (!decide ((unpack (rdI m 8)).1 < 0) && (!decide ((unpack (rdI m 8)).1 ≥ (n : Int)) && ((m.take 8).all isVal && ((sent m).all isVal && (List.range (Int.toNat (unpack (rdI m 8)).2.1)).all (okPair m)))))
theorem sent_len (m : List Int) : (sent m).length ≤ m.length := by
  unfold sent
  rw [List.length_drop, List.length_take]
  omega
theorem unpack_bad {c : Int} (h : (unpack c).1 < 0) : unpack c = (-1, -1, -1) := by
  rcases unpack_in c with e | e
  · exact e
  · omega
theorem unpack_good {c : Int} (h : ¬ (unpack c).1 < 0) : 0 ≤ (unpack c).1 ∧ (unpack c).1 ≤ 5 ∧ 0 ≤ (unpack c).2.1 ∧ (unpack c).2.1 ≤ 8 ∧ 0 ≤ (unpack c).2.2 ∧ (unpack c).2.2 ≤ 24 := by
  rcases unpack_in c with e | e
  · rw [e] at h
    exact absurd (by decide) h
  · exact e
theorem memok_facts (m : List Int) (hm : m.length = 49) (h : ¬ (unpack (rdI m 8)).1 < 0) :
    wr (25 + (unpack (rdI m 8)).2.2) = 25 + (unpack (rdI m 8)).2.2 ∧ ((0 : Int) ≤ 25 ∧ (25 : Int) ≤ 25 + (unpack (rdI m 8)).2.2 ∧ 25 + (unpack (rdI m 8)).2.2 ≤ (m.length : Int)) ∧ ∃ n : Nat, (unpack (rdI m 8)).2.1 = (n : Int) ∧ n ≤ 8 := by
  obtain ⟨a, b, c, d, e, f⟩ := unpack_good h
  exact ⟨wr_in (by omega), ⟨by omega, by omega, by omega⟩, (unpack (rdI m 8)).2.1.toNat, by omega, by omega⟩
theorem spec_MemOk_f (p : List S166) (m : List Int) (hp : p.length ≤ 1048576) (hs : ∀ t ∈ p, t.f0.length ≤ 1048576) : spec_MemOk.f p m = some (okP p && okMem p.length m) := by
  simp only [spec_MemOk.f, spec_MemOk.begin, Tr.do_call, Tr.do_ite, Tr.do_ret, spec_ProgramOk.told, spec_ProgramOk_f p hp hs, bind_ok]
  unfold okMem
  cases okP p
  · rfl
  by_cases hm : ¬ m.length = 49
  · have hm' : ¬ (m.length : Int) = 49 := by omega
    simp only [hm, hm', decide_false, Bool.not_false, Bool.not_true, Bool.false_eq_true, ↓reduceIte, Bool.false_and, Bool.and_false]
  have hm : m.length = 49 := by omega
  have hm' : decide ((m.length : Int) = 49) = true := decide_eq_true (by omega)
  have n1 : (0 : Int) ≤ 8 ∧ (8 : Int) < (m.length : Int) := by omega
  have n2 : (0 : Int) ≤ 0 ∧ (0 : Int) ≤ 8 ∧ (8 : Int) ≤ (m.length : Int) := by omega
  have v1 := spec_l09Values_f (m.take 8) (by rw [List.length_take]; omega)
  have v2 := spec_l09Values_f (sent m) (Nat.le_trans (sent_len m) (by omega))
  rw [show decide (m.length = 49) = true from decide_eq_true hm]
  simp only [hm', Tr.do_need, Tr.do_ite, Tr.do_call, Tr.do_ret, Tr.do_jump, spec_UnpackControl.told, spec_UnpackControl_f, spec_l09Values.told, bind_ok, n1, n2, and_self, ↓reduceIte, decide_eq_true_eq, Bool.not_true, Bool.false_eq_true, Bool.true_and, show Int.toNat 8 = 8 from rfl, v1]
  by_cases h1 : (unpack (rdI m 8)).1 < 0
  · simp only [h1, ↓reduceIte, decide_true, decide_false, Bool.not_true, Bool.not_false, Bool.false_and, Bool.and_false, Bool.true_and, Bool.false_eq_true]
  by_cases h2 : (unpack (rdI m 8)).1 ≥ (p.length : Int)
  · simp only [h1, h2, ↓reduceIte, decide_true, decide_false, Bool.not_true, Bool.not_false, Bool.false_and, Bool.and_false, Bool.true_and, Bool.false_eq_true]
  obtain ⟨w, n3, n, hn, hn8⟩ := memok_facts m hm h1
  have c7 := spec_MemOk_c7 m hm n hn8
  unfold sent at v2
  simp only [h1, h2, w, n3, hn, and_self, ↓reduceIte, decide_false, Bool.not_false, Bool.true_and, show Int.toNat 25 = 25 from rfl, v2, bind_ok, c7, Int.toNat_natCast, sent]
  rcases Bool.eq_false_or_eq_true ((m.take 8).all isVal) with q | q <;> simp only [q, Bool.not_true, Bool.not_false, Bool.false_eq_true, ↓reduceIte, Bool.true_and, Bool.false_and]
  rcases Bool.eq_false_or_eq_true (((m.take (Int.toNat (25 + (unpack (rdI m 8)).2.2))).drop 25).all isVal) with q | q <;> simp only [q, Bool.not_true, Bool.not_false, Bool.false_eq_true, ↓reduceIte, Bool.true_and, Bool.false_and]
theorem impl_MemOk_f (p : List S166) (m : List Int) (hp : p.length ≤ 1048576) (hs : ∀ t ∈ p, t.f0.length ≤ 1048576) : impl_MemOk.f p m = some (okP p && okMem p.length m) := by
  simp only [impl_MemOk.f, impl_MemOk.begin, Tr.do_call, Tr.do_ite, Tr.do_ret, impl_ProgramOk.told, impl_ProgramOk_f p hp hs, bind_ok]
  unfold okMem
  cases okP p
  · rfl
  by_cases hm : ¬ m.length = 49
  · have hm' : ¬ (m.length : Int) = 49 := by omega
    simp only [hm, hm', decide_false, Bool.not_false, Bool.not_true, Bool.false_eq_true, ↓reduceIte, Bool.false_and, Bool.and_false]
  have hm : m.length = 49 := by omega
  have hm' : decide ((m.length : Int) = 49) = true := decide_eq_true (by omega)
  have n1 : (0 : Int) ≤ 8 ∧ (8 : Int) < (m.length : Int) := by omega
  have n2 : (0 : Int) ≤ 0 ∧ (0 : Int) ≤ 8 ∧ (8 : Int) ≤ (m.length : Int) := by omega
  have v1 := impl_areValues_f (m.take 8) (by rw [List.length_take]; omega)
  have v2 := impl_areValues_f (sent m) (Nat.le_trans (sent_len m) (by omega))
  rw [show decide (m.length = 49) = true from decide_eq_true hm]
  simp only [hm', Tr.do_need, Tr.do_ite, Tr.do_call, Tr.do_ret, Tr.do_jump, impl_UnpackControl.told, impl_UnpackControl_f, impl_areValues.told, bind_ok, n1, n2, and_self, ↓reduceIte, decide_eq_true_eq, Bool.not_true, Bool.false_eq_true, Bool.true_and, show Int.toNat 8 = 8 from rfl, v1]
  by_cases h1 : (unpack (rdI m 8)).1 < 0
  · cases (m.take 8).all isVal <;> simp only [h1, ↓reduceIte, decide_true, decide_false, Bool.not_true, Bool.not_false, Bool.false_and, Bool.and_false, Bool.true_and, Bool.false_eq_true]
  by_cases h2 : (unpack (rdI m 8)).1 ≥ (p.length : Int)
  · cases (m.take 8).all isVal <;> simp only [h1, h2, ↓reduceIte, decide_true, decide_false, Bool.not_true, Bool.not_false, Bool.false_and, Bool.and_false, Bool.true_and, Bool.false_eq_true]
  obtain ⟨w, n3, n, hn, hn8⟩ := memok_facts m hm h1
  have c7 := impl_MemOk_c7 m hm n hn8
  unfold sent at v2
  simp only [h1, h2, w, n3, hn, and_self, ↓reduceIte, decide_false, Bool.not_false, Bool.true_and, show Int.toNat 25 = 25 from rfl, v2, bind_ok, c7, Int.toNat_natCast, sent]
  rcases Bool.eq_false_or_eq_true ((m.take 8).all isVal) with q | q <;> simp only [q, Bool.not_true, Bool.not_false, Bool.false_eq_true, ↓reduceIte, Bool.true_and, Bool.false_and]
  rcases Bool.eq_false_or_eq_true (((m.take (Int.toNat (25 + (unpack (rdI m 8)).2.2))).drop 25).all isVal) with q | q <;> simp only [q, Bool.not_true, Bool.not_false, Bool.false_eq_true, ↓reduceIte, Bool.true_and, Bool.false_and]
theorem memSent_facts (m : List Int) (hm : m.length = 49) : ((0 : Int) ≤ 8 ∧ (8 : Int) < (m.length : Int)) := by omega
def memSent (m : List Int) : List Int := if m.length = 49 then (if (unpack (rdI m 8)).2.2 < 0 then [] else sent m) else []
theorem unpack_good' {c : Int} (h : ¬ (unpack c).2.2 < 0) : ¬ (unpack c).1 < 0 := by
  rcases unpack_in c with e | e
  · rw [e] at h
    exact absurd (by decide) h
  · omega
theorem memSent_le (m : List Int) (n : Nat) (h : m.length ≤ n) : (memSent m).length ≤ n := by
  unfold memSent
  split
  · split
    · simp
    · exact Nat.le_trans (sent_len m) h
  · simp
/-- Is a list the beginning of another? -/
def isPre (a b : List Int) : Bool := decide (a.length ≤ b.length) && decide (a = b.take a.length)
def okLink (m : List Int) (at_ : Int) (h : List Int) : Bool := inB at_ 0 h.length && isPre h (memSent m)
def okSpan (a b : Int) : Bool := decide (a ≥ 0) && (decide (a ≤ b) && decide (b ≤ 1000000))
/-- A valid node. -/
def okNode (p : List S166) (m r : List Int) (a3 a4 a5 a6 a7 a8 a9 a10 : Int) (h : List Int) (a12 : Int) : Bool :=
  (okP p && okMem p.length m) && (okStore a4 a5 a6 a7 && (r.all isVal && (inB a3 0 400000 && (okSpan a8 a9 && (okLink m a10 h && inB a12 0 100000)))))
def sentBy (p : List S166) (m r : List Int) (a3 a4 a5 a6 a7 a8 a9 a10 : Int) (h : List Int) (a12 : Int) : List Int := if okNode p m r a3 a4 a5 a6 a7 a8 a9 a10 h a12 = true then memSent m else []
/-- How large a node is. -/
def totNode (p : List S172) (m r h : List Int) : Nat := tot p + m.length + r.length + h.length
/-- What a node's size says of its parts. -/
theorem totNode_le (p : List S172) (m r h : List Int) (hn : totNode p m r h ≤ 1048576) :
    p.length ≤ 1048576 ∧ (∀ t ∈ p, t.f0.length ≤ 1048576) ∧ m.length ≤ 1048576 ∧ r.length ≤ 1048576 ∧ h.length ≤ 1048576 ∧ (p.map toTk).length ≤ 1048576 ∧ (∀ t ∈ p.map toTk, t.f0.length ≤ 1048576) ∧ wt (p.map toTk) ≤ 100000000 := by
  unfold totNode at hn
  obtain ⟨b1, b2, b3⟩ := tot_le p 1048576 (by omega)
  refine ⟨b1, b2, by omega, by omega, by omega, by rw [List.length_map]; exact b1, fun t ht => ?_, by omega⟩
  obtain ⟨u, hu, rfl⟩ := List.mem_map.mp ht
  show (u.f0.map toSt).length ≤ 1048576
  rw [List.length_map]
  exact b2 u hu
theorem fold_loop {A S R : Type} (l : List A) (f : S → A → S) (g : S → R) (Inv : Nat → S → Prop) (L : Nat → S → Option R) (s : S) (h0 : Inv 0 s)
    (hstep : ∀ i (h : i < l.length) s, Inv i s → L i s = L (i + 1) (f s l[i]) ∧ Inv (i + 1) (f s l[i])) (hend : ∀ s, Inv l.length s → L l.length s = some (g s)) : L 0 s = some (g (l.foldl f s)) := by
  have key : ∀ (n i : Nat) s, i + n = l.length → Inv i s → L i s = some (g ((l.drop i).foldl f s)) := by
    intro n
    induction n with
    | zero => intro i s hi hI; obtain rfl : i = l.length := (by omega); rw [List.drop_length]; exact hend s hI
    | succ n ih =>
      intro i s hi hI
      have h : i < l.length := by omega
      obtain ⟨e, hI'⟩ := hstep i h s hI
      rw [e, ih (i + 1) _ (by omega) hI', List.drop_eq_getElem_cons h, List.foldl_cons]
  exact key l.length 0 s (by omega) h0
theorem count_loop {B R : Type} (n : Nat) (f : Nat → B) (g : List B → R) (L : Nat → List B → Option R) (k : Nat) (hk : k ≤ n)
    (hstep : ∀ i, i < n → ∀ s : List B, s.length ≤ i → L i s = L (i + 1) (s ++ [f i])) (hend : ∀ s, L n s = some (g s)) : L k [] = some (g ((List.range' k (n - k)).map f)) := by
  have key : ∀ (m i : Nat) (s : List B), i + m = n → s.length ≤ i → L i s = some (g (s ++ (List.range' i m).map f)) := by
    intro m
    induction m with
    | zero => intro i s hi hs; obtain rfl : i = n := (by omega); rw [hend]; simp
    | succ m ih =>
      intro i s hi hs
      rw [hstep i (by omega) s hs, ih (i + 1) _ (by omega) (by rw [List.length_append, List.length_singleton]; omega), List.range'_succ, List.map_cons, List.append_assoc]
      rfl
  have := key (n - k) k [] (by omega) (by simp)
  simpa using this
/-! ### Packets -/
theorem one_fits {B : Type} (s : List B) (x : B) (n : Nat) (hs : s.length ≤ n) (hn : n ≤ 1048576) (k : Nat) (hk : k ≤ 1000) : ((s.length : Int) + (([x] : List B).length : Int)) * (k : Nat) ≤ room := fits s [x] (by omega) (by simp) k hk
def take1 (g : List Int) (a b : Int) : List Int := if a = (g.length : Int) then (if (g.length : Int) < 255 then g ++ [b] else g) else g
theorem take1_le (g : List Int) (a b : Int) (h : g.length ≤ 1048576) : (take1 g a b).length ≤ 1048576 := by
  unfold take1
  split
  · split
    · rw [List.length_append, List.length_singleton]; omega
    · exact h
  · exact h
/-! ### Expressions -/
def sat (n : Int) : Int := if n < -1000000 then -1000000 else if n > 1000000 then 1000000 else n
theorem sat_in (n : Int) : -1000000 ≤ sat n ∧ sat n ≤ 1000000 := by unfold sat; split; omega; split <;> omega
theorem spec_Clamp_f (a : Int) : spec_Clamp.f a (-1000000) 1000000 = some (sat a) := by
  simp only [spec_Clamp.f, spec_Clamp.begin, Tr.do_ite, Tr.do_ret, decide_eq_true_eq, sat]
  rw [if_neg (by omega)]
  split
  · rfl
  · split <;> rfl
theorem impl_Clamp_f (a : Int) : impl_Clamp.f a (-1000000) 1000000 = some (sat a) := by
  simp only [impl_Clamp.f, impl_Clamp.begin, Tr.do_ite, Tr.do_ret, decide_eq_true_eq, sat]
  rw [if_neg (by omega)]
  refine congrArg some (show (_ : Int) = _ from ?_)
  split <;> split <;> (try split) <;> (try split) <;> omega
theorem spec_Saturate_f (a : Int) : spec_Saturate.f a = some (sat a) := by simp only [spec_Saturate.f, spec_Saturate.begin, Tr.do_call, Tr.do_ret, spec_Clamp.told, spec_Clamp_f, bind_ok]
theorem impl_Saturate_f (a : Int) : impl_Saturate.f a = some (sat a) := by simp only [impl_Saturate.f, impl_Saturate.begin, Tr.do_call, Tr.do_ret, impl_Clamp.told, impl_Clamp_f, bind_ok]
theorem sat_add (a b : Int) : wr (sat a + sat b) = sat a + sat b := wr_in (by have := sat_in a; have := sat_in b; omega)
theorem sat_sub (a b : Int) : wr (sat a - sat b) = sat a - sat b := wr_in (by have := sat_in a; have := sat_in b; omega)
theorem mul_in (x y : Int) (hx : -1000000 ≤ x ∧ x ≤ 1000000) (hy : -1000000 ≤ y ∧ y ≤ 1000000) : -1000000000000 ≤ x * y ∧ x * y ≤ 1000000000000 := by
  have h1 := Int.mul_nonneg (a := 1000000 - x) (b := 1000000 - y) (by omega) (by omega)
  have h2 := Int.mul_nonneg (a := 1000000 + x) (b := 1000000 + y) (by omega) (by omega)
  have h3 := Int.mul_nonneg (a := 1000000 - x) (b := 1000000 + y) (by omega) (by omega)
  have h4 := Int.mul_nonneg (a := 1000000 + x) (b := 1000000 - y) (by omega) (by omega)
  rw [Int.sub_mul, Int.mul_sub, Int.mul_sub] at h1
  rw [Int.add_mul, Int.mul_add, Int.mul_add] at h2
  rw [Int.sub_mul, Int.mul_add, Int.mul_add] at h3
  rw [Int.add_mul, Int.mul_sub, Int.mul_sub] at h4
  generalize x * y = p at *
  omega
theorem sat_mul (a b : Int) : wr (sat a * sat b) = sat a * sat b := wr_in (by have := mul_in _ _ (sat_in a) (sat_in b); omega)
theorem spec_AddValues_f (a b : Int) : spec_AddValues.f a b = some (sat (sat a + sat b)) := by simp only [spec_AddValues.f, spec_AddValues.begin, Tr.do_call, Tr.do_ret, spec_Saturate.told, spec_Saturate_f, bind_ok, sat_add]
theorem impl_AddValues_f (a b : Int) : impl_AddValues.f a b = some (sat (sat a + sat b)) := by simp only [impl_AddValues.f, impl_AddValues.begin, Tr.do_call, Tr.do_ret, impl_Saturate.told, impl_Saturate_f, bind_ok, sat_add]
theorem spec_SubValues_f (a b : Int) : spec_SubValues.f a b = some (sat (sat a - sat b)) := by simp only [spec_SubValues.f, spec_SubValues.begin, Tr.do_call, Tr.do_ret, spec_Saturate.told, spec_Saturate_f, bind_ok, sat_sub]
theorem impl_SubValues_f (a b : Int) : impl_SubValues.f a b = some (sat (sat a - sat b)) := by simp only [impl_SubValues.f, impl_SubValues.begin, Tr.do_call, Tr.do_ret, impl_Saturate.told, impl_Saturate_f, bind_ok, sat_sub]
theorem spec_MulValues_f (a b : Int) : spec_MulValues.f a b = some (sat (sat a * sat b)) := by simp only [spec_MulValues.f, spec_MulValues.begin, Tr.do_call, Tr.do_ret, spec_Saturate.told, spec_Saturate_f, bind_ok, sat_mul]
theorem impl_MulValues_f (a b : Int) : impl_MulValues.f a b = some (sat (sat a * sat b)) := by simp only [impl_MulValues.f, impl_MulValues.begin, Tr.do_call, Tr.do_ret, impl_Saturate.told, impl_Saturate_f, bind_ok, sat_mul]
def bt01 (b : Bool) : Int := if b = true then 1 else 0
theorem spec_l03Bit_f (b : Bool) : spec_l03Bit.f b = some (bt01 b) := by cases b <;> rfl
theorem impl_bit_f (b : Bool) : impl_bit.f b = some (bt01 b) := by cases b <;> rfl
/-- An operand's value. -/
def val (vs : List Int) (n : Int) : Int := if n < 0 then rdI vs (-1 - n) else n
theorem val_facts {vs : List Int} {n : Int} (hv : vs.length = 8) (hn : -8 ≤ n) (h : n < 0) : wr (-1 - n) = -1 - n ∧ ((0 : Int) ≤ -1 - n ∧ -1 - n < (vs.length : Int)) := ⟨wr_in (by omega), by omega, by omega⟩
theorem spec_l03Value_f (vs : List Int) (n : Int) (hv : vs.length = 8) (hn : -8 ≤ n) : spec_l03Value.f vs n = some (val vs n) := by
  simp only [spec_l03Value.f, spec_l03Value.begin, Tr.do_ite, Tr.do_need, Tr.do_ret, decide_eq_true_eq]
  unfold val
  by_cases h : n < 0
  · obtain ⟨w, f⟩ := val_facts hv hn h
    rw [if_pos h, if_pos h, w, if_pos f]
  · rw [if_neg h, if_neg h]
theorem impl_operand_f (vs : List Int) (n : Int) (hv : vs.length = 8) (hn : -8 ≤ n) : impl_operand.f vs n = some (val vs n) := by
  simp only [impl_operand.f, impl_operand.begin, Tr.do_ite, Tr.do_need, Tr.do_ret, decide_eq_true_eq]
  unfold val
  by_cases h : n < 0
  · obtain ⟨w, f⟩ := val_facts hv hn h
    rw [if_pos h, if_pos h, w, if_pos f]
  · rw [if_neg h, if_neg h]
/-- An expression's value. -/
def evX (vs : List Int) (o a b : Int) : Int :=
  if o = 1 then sat (sat (val vs a) + sat (val vs b)) else if o = 2 then sat (sat (val vs a) - sat (val vs b)) else if o = 3 then sat (sat (val vs a) * sat (val vs b))
  else if o = 4 then (if val vs b < val vs a then val vs b else val vs a) else if o = 5 then (if val vs b > val vs a then val vs b else val vs a)
  else if o = 6 then bt01 (decide (val vs a < val vs b)) else bt01 (decide (val vs a = val vs b))
theorem spec_l03Eval_f (vs : List Int) (o a b : Int) (hv : vs.length = 8) (ha : -8 ≤ a) (hb : -8 ≤ b) : spec_l03Eval.f vs o a b = some (evX vs o a b) := by
  simp only [spec_l03Eval.f, spec_l03Eval.begin, Tr.do_call, Tr.do_ite, Tr.do_ret, spec_l03Value.told, spec_l03Value_f vs a hv ha, spec_l03Value_f vs b hv hb, spec_AddValues.told, spec_AddValues_f, spec_SubValues.told, spec_SubValues_f, spec_MulValues.told, spec_MulValues_f, spec_l03Bit.told, spec_l03Bit_f, bind_ok, decide_eq_true_eq, evX]
  split
  · rfl
  split
  · rfl
  split
  · rfl
  split
  · rfl
  split
  · rfl
  split <;> rfl
def okV (vs : List Int) : Bool := vs.all isVal && decide ((vs.length : Int) = 8)
theorem okX_in {o a b : Int} (h : okX o a b = true) : (1 ≤ o ∧ o ≤ 7) ∧ (-8 ≤ a ∧ a ≤ 999) ∧ (-8 ≤ b ∧ b ≤ 999) := by
  unfold okX at h
  rw [Bool.and_eq_true, Bool.and_eq_true, inB_iff, inB_iff, inB_iff] at h
  exact ⟨h.1, h.2.1, h.2.2⟩
theorem okV_len {vs : List Int} (h : okV vs = true) : vs.length = 8 := by
  unfold okV at h
  rw [Bool.and_eq_true] at h
  have := of_decide_eq_true h.2
  omega
theorem impl_EvalExpr_f (vs : List Int) (o a b : Int) (hl : vs.length ≤ 1048576) : impl_EvalExpr.f vs o a b = some (if okV vs = true then (if okX o a b = true then evX vs o a b else 0) else 0) := by
  simp only [impl_EvalExpr.f, impl_EvalExpr.begin, Tr.do_call, Tr.do_ite, Tr.do_ret, Tr.do_last, impl_VarsOk.told, impl_VarsOk_f vs hl, impl_ExprOk.told, impl_ExprOk_f, bind_ok]
  show (if (!okV vs) = true then _ else _) = _
  cases hv : okV vs with
  | false => rfl
  | true =>
    cases hx : okX o a b with
    | false => rfl
    | true =>
      obtain ⟨_, ha, hb⟩ := okX_in hx
      have hl8 := okV_len hv
      simp only [Bool.not_true, Bool.false_eq_true, ↓reduceIte, impl_operand.told, impl_operand_f vs a hl8 ha.1, impl_operand_f vs b hl8 hb.1, impl_AddValues.told, impl_AddValues_f, impl_SubValues.told, impl_SubValues_f, impl_MulValues.told, impl_MulValues_f, impl_bit.told, impl_bit_f, bind_ok, decide_eq_true_eq, evX]
      split
      · rfl
      split
      · rfl
      split
      · rfl
      split
      · rfl
      split
      · rfl
      split <;> rfl
theorem isVal_iff {x : Int} : isVal x = true ↔ -1000000 ≤ x ∧ x ≤ 1000000 := inB_iff
theorem rdI_all {vs : List Int} (h : vs.all isVal = true) (i : Int) : isVal (rdI vs i) = true := by
  unfold rdI
  rw [List.getD_eq_getElem?_getD]
  cases hg : vs[i.toNat]? with
  | none => rfl
  | some x => exact List.all_eq_true.mp h x (List.mem_of_getElem? hg)
theorem val_val {vs : List Int} {n : Int} (h : vs.all isVal = true) (hn : n ≤ 999) : isVal (val vs n) = true := by
  unfold val
  split
  · exact rdI_all h _
  · rw [isVal_iff]; omega
theorem evX_val {vs : List Int} {o a b : Int} (hv : okV vs = true) (hx : okX o a b = true) : isVal (evX vs o a b) = true := by
  unfold okV at hv
  rw [Bool.and_eq_true] at hv
  obtain ⟨_, ha, hb⟩ := okX_in hx
  have va := val_val (n := a) hv.1 ha.2
  have vb := val_val (n := b) hv.1 hb.2
  have hs : ∀ n, isVal (sat n) = true := fun n => isVal_iff.mpr (sat_in n)
  have h01 : ∀ b, isVal (bt01 b) = true := fun b => by cases b <;> rfl
  unfold evX
  split
  · exact hs _
  split
  · exact hs _
  split
  · exact hs _
  split
  · split
    · exact vb
    · exact va
  split
  · split
    · exact vb
    · exact va
  split
  · exact h01 _
  · exact h01 _
/-! ### Recovery -/
def recL (m : List Int) : Nat → List S205 → Option (List S205)
  | 0, acc => some acc
  | i + 1, acc => if inB (rdI m (9 + 2 * (i : Int))) 0 7 = true then recL m i (acc ++ [(⟨rdI m (9 + 2 * (i : Int)), rdI m (9 + 2 * (i : Int) + 1)⟩ : S205)]) else none
def recEnd (m : List Int) (o : Option (List S205)) : List S205 := match o with
  | some l => l ++ [(⟨8, pack (unpack (rdI m 8)).1 0 (unpack (rdI m 8)).2.2⟩ : S205)]
  | none => []
/-- The writes of a recovery. -/
def recW (m : List Int) : List S205 := if m.length = 49 then (if (unpack (rdI m 8)).2.1 < 1 then [] else recEnd m (recL m (unpack (rdI m 8)).2.1.toNat [])) else []
theorem recL_len (m : List Int) : ∀ (i : Nat) (acc l : List S205), recL m i acc = some l → l.length = acc.length + i
  | 0, acc, l, h => by cases h; rfl
  | i + 1, acc, l, h => by
    unfold recL at h
    split at h
    · have := recL_len m i _ l h
      rw [List.length_append, List.length_singleton] at this
      omega
    · cases h
theorem unpack_count (c : Int) (h : ¬ (unpack c).2.1 < 1) : (unpack c).2.1 ≤ 8 := by
  rcases unpack_in c with e | e
  · rw [e] at h; exact absurd (by decide) h
  · omega
theorem recW_len (m : List Int) : (recW m).length ≤ 9 := by
  unfold recW
  split
  · split
    · simp
    · rename_i h
      have h8 := unpack_count _ h
      unfold recEnd
      split
      · rename_i l hl
        have := recL_len m _ _ _ hl
        rw [List.length_append, List.length_singleton]
        rw [List.length_nil] at this
        omega
      · simp
  · simp
theorem rec_facts (m : List Int) (hm : m.length = 49) (i : Nat) (hi : i < 8) :
    wr (2 * (i : Int)) = 2 * (i : Int) ∧ wr (9 + 2 * (i : Int)) = 9 + 2 * (i : Int) ∧ wr (9 + 2 * (i : Int) + 1) = 9 + 2 * (i : Int) + 1 ∧ ((0 : Int) ≤ 9 + 2 * (i : Int) ∧ 9 + 2 * (i : Int) < (m.length : Int)) ∧ ((0 : Int) ≤ 9 + 2 * (i : Int) + 1 ∧ 9 + 2 * (i : Int) + 1 < (m.length : Int)) ∧ wr ((i : Int) - 1) = (i : Int) - 1 ∧ ((i + 1 : Nat) : Int) - 1 = (i : Int) ∧ decide ((i : Int) ≥ 0) = true :=
  ⟨wr_in (by omega), wr_in (by omega), wr_in (by omega), by omega, by omega, wr_in (by omega), by omega, decide_eq_true (by omega)⟩
theorem spec_rec_loop (m : List Int) (hm : m.length = 49) (t c tl : Int) (hc : ¬ c < 1) : ∀ (i : Nat) (acc : List S205), i ≤ 8 → acc.length + i ≤ 8 →
    lp spec_RecoveryWrites.tree (.c6 m acc t c tl ((i : Int) - 1)) = some (match recL m i acc with | some l => l ++ [(⟨8, pack t 0 tl⟩ : S205)] | none => [])
  | 0, acc, _, ha => by
    rw [lp_eq]
    have h1 : ∀ x : S205, ((acc.length : Int) + (([x] : List S205).length : Int)) * (16 : Nat) ≤ room := fun x => fits acc [x] (by omega) (by simp) 16 (by omega)
    have h2 : decide (((0 : Nat) : Int) - 1 ≥ 0) = false := by decide
    have h3 : decide (c ≤ 0) = false := decide_eq_false (by omega)
    simp only [spec_RecoveryWrites.tree, Tr.do_ite, Tr.do_need, Tr.do_call, Tr.do_ret, h2, h3, spec_PackControl.told, spec_PackControl_f, bind_ok, h1, Bool.false_eq_true, ↓reduceIte, recL]
  | i + 1, acc, hi, ha => by
    rw [lp_eq]
    obtain ⟨w1, w2, w3, n1, n2, w4, e1, e2⟩ := rec_facts m hm i (by omega)
    have h1 : ∀ x : S205, ((acc.length : Int) + (([x] : List S205).length : Int)) * (16 : Nat) ≤ room := fun x => fits acc [x] (by omega) (by simp) 16 (by omega)
    simp only [spec_RecoveryWrites.tree, Tr.do_ite, Tr.do_need, Tr.do_call, Tr.do_ret, Tr.do_val, Tr.do_jump, e1, e2, w1, w2, w3, w4, n1, n2, and_self, spec_l01In.told, spec_l01In_f, bind_ok, h1, ↓reduceIte]
    unfold recL
    cases hb : inB (rdI m (9 + 2 * (i : Int))) 0 7 with
    | false => rfl
    | true =>
      simp only [Bool.not_true, Bool.false_eq_true, ↓reduceIte]
      exact spec_rec_loop m hm t c tl hc i _ (by omega) (by rw [List.length_append, List.length_singleton]; omega)
theorem impl_rec_loop (m : List Int) (hm : m.length = 49) (t tl : Int) : ∀ (i : Nat) (acc : List S205), i ≤ 8 → acc.length + i ≤ 8 →
    lp impl_RecoveryWrites.tree (.c8 m t tl acc ((i : Int) - 1)) = some (match recL m i acc with | some l => l ++ [(⟨8, pack t 0 tl⟩ : S205)] | none => [])
  | 0, acc, _, ha => by
    rw [lp_eq]
    have h1 : ∀ x : S205, ((acc.length : Int) + (([x] : List S205).length : Int)) * (16 : Nat) ≤ room := fun x => fits acc [x] (by omega) (by simp) 16 (by omega)
    have h2 : decide (((0 : Nat) : Int) - 1 ≥ 0) = false := by decide
    simp only [impl_RecoveryWrites.tree, Tr.do_ite, Tr.do_need, Tr.do_call, Tr.do_ret, h2, impl_PackControl.told, impl_PackControl_f, bind_ok, h1, Bool.false_eq_true, ↓reduceIte, recL]
  | i + 1, acc, hi, ha => by
    rw [lp_eq]
    obtain ⟨w1, w2, w3, n1, n2, w4, e1, e2⟩ := rec_facts m hm i (by omega)
    have h1 : ∀ x : S205, ((acc.length : Int) + (([x] : List S205).length : Int)) * (16 : Nat) ≤ room := fun x => fits acc [x] (by omega) (by simp) 16 (by omega)
    simp only [impl_RecoveryWrites.tree, Tr.do_ite, Tr.do_need, Tr.do_call, Tr.do_ret, Tr.do_val, Tr.do_jump, e1, e2, w1, w2, w3, w4, n1, n2, and_self, impl_isVar.told, impl_isVar.f, impl_isVar.begin, impl_within.told, impl_within_f, bind_ok, h1, ↓reduceIte]
    unfold recL
    cases hb : inB (rdI m (9 + 2 * (i : Int))) 0 7 with
    | false => rfl
    | true =>
      simp only [Bool.not_true, Bool.false_eq_true, ↓reduceIte]
      exact impl_rec_loop m hm t tl i _ (by omega) (by rw [List.length_append, List.length_singleton]; omega)
theorem spec_rec_none (m : List Int) (t c tl i : Int) (hi : i < 0) (hc : c < 1) : lp spec_RecoveryWrites.tree (.c6 m [] t c tl i) = some [] := by
  rw [lp_eq]
  have h2 : decide (i ≥ 0) = false := decide_eq_false (by omega)
  have h3 : decide (c ≤ 0) = true := decide_eq_true (by omega)
  simp only [spec_RecoveryWrites.tree, Tr.do_ite, Tr.do_ret, h2, h3, Bool.false_eq_true, ↓reduceIte]
theorem spec_RecoveryWrites_f (m : List Int) : spec_RecoveryWrites.f m = some (recW m) := by
  simp only [spec_RecoveryWrites.f, spec_RecoveryWrites.begin, Tr.do_ite, Tr.do_need, Tr.do_call, Tr.do_ret, Tr.do_jump, spec_UnpackControl.told, spec_UnpackControl_f, bind_ok]
  unfold recW
  by_cases hm : m.length = 49
  · have hm' : decide ((m.length : Int) = 49) = true := decide_eq_true (by omega)
    rw [if_pos hm]
    simp only [hm', memSent_facts m hm, and_self, Bool.not_true, Bool.false_eq_true, ↓reduceIte]
    by_cases h : (unpack (rdI m 8)).2.1 < 1
    · rw [if_pos h]
      have hw : wr ((unpack (rdI m 8)).2.1 - 1) < 0 := by
        have : wr ((unpack (rdI m 8)).2.1 - 1) = (unpack (rdI m 8)).2.1 - 1 := wr_in (by rcases unpack_in (rdI m 8) with e | e <;> first | (rw [e]; decide) | omega)
        omega
      exact spec_rec_none m _ _ _ _ hw h
    · rw [if_neg h]
      have h8 := unpack_count _ h
      obtain ⟨n, hn⟩ : ∃ n : Nat, (unpack (rdI m 8)).2.1 = n := ⟨(unpack (rdI m 8)).2.1.toNat, by omega⟩
      have hw : wr ((unpack (rdI m 8)).2.1 - 1) = (n : Int) - 1 := by rw [hn]; exact wr_in (by omega)
      rw [hw, spec_rec_loop m hm _ _ _ h n [] (by omega) (by simp; omega), hn, Int.toNat_natCast]
      rfl
  · have hm' : decide ((m.length : Int) = 49) = false := decide_eq_false (by omega)
    rw [if_neg hm]
    simp only [hm', Bool.not_false, ↓reduceIte]
theorem impl_RecoveryWrites_f (m : List Int) : impl_RecoveryWrites.f m = some (recW m) := by
  simp only [impl_RecoveryWrites.f, impl_RecoveryWrites.begin, Tr.do_ite, Tr.do_need, Tr.do_call, Tr.do_ret, Tr.do_jump, impl_UnpackControl.told, impl_UnpackControl_f, bind_ok, decide_eq_true_eq]
  unfold recW
  by_cases hm : m.length = 49
  · have hm' : decide ((m.length : Int) = 49) = true := decide_eq_true (by omega)
    rw [if_pos hm]
    simp only [hm', memSent_facts m hm, and_self, Bool.not_true, Bool.false_eq_true, ↓reduceIte]
    by_cases h : (unpack (rdI m 8)).2.1 < 1
    · rw [if_pos h, if_pos h]
    · rw [if_neg h, if_neg h]
      have h8 := unpack_count _ h
      obtain ⟨n, hn⟩ : ∃ n : Nat, (unpack (rdI m 8)).2.1 = n := ⟨(unpack (rdI m 8)).2.1.toNat, by omega⟩
      have hw : wr ((unpack (rdI m 8)).2.1 - 1) = (n : Int) - 1 := by rw [hn]; exact wr_in (by omega)
      rw [hw, impl_rec_loop m hm _ _ n [] (by omega) (by simp; omega), hn, Int.toNat_natCast]
      rfl
  · have hm' : decide ((m.length : Int) = 49) = false := decide_eq_false (by omega)
    rw [if_neg hm]
    simp only [hm', Bool.not_false, ↓reduceIte]
def wr1 (m : List Int) (w : S205) : List Int := if inB w.f0 0 ((m.length : Int) - 1) = true then m.set w.f0.toNat w.f1 else m
/-- A memory behind some writes. -/
def applyW (m : List Int) (l : List S205) : List Int := l.foldl wr1 m
theorem wr1_len (m : List Int) (w : S205) : (wr1 m w).length = m.length := by unfold wr1; split <;> simp
theorem applyW_len : ∀ (l : List S205) (m : List Int), (applyW m l).length = m.length
  | [], m => rfl
  | w :: l, m => by
    show (applyW (wr1 m w) l).length = _
    rw [applyW_len l, wr1_len]
theorem inB_wr {x : Int} {n : Nat} (hn : n ≤ 1048576) : wr ((n : Int) - 1) = (n : Int) - 1 := wr_in (by omega)
theorem spec_ApplyWrites_f (m : List Int) (l : List S205) (k : Nat) (hm : m.length ≤ 1048576) (hl : l.length ≤ 1048576) : spec_ApplyWrites.f m l (k : Int) = some (applyW m (l.take k)) := by
  simp only [spec_ApplyWrites.f, spec_ApplyWrites.begin, Tr.do_need, Tr.do_jump, fits ([] : List Int) m (by simp) hm 8 (by omega), ↓reduceIte, List.nil_append]
  refine fold_loop (l.take k) wr1 id (fun _ s => s.length = m.length) (fun i s => lp spec_ApplyWrites.tree (.c3 m l (k : Int) s (i : Int))) m rfl (fun i h s hs => ?_) (fun s hs => ?_)
  · have h' := h
    rw [List.length_take] at h'
    have h1 : i < l.length := by omega
    have h2 : i < k := by omega
    refine ⟨?_, by rw [wr1_len]; exact hs⟩
    rw [lp_eq, List.getElem_take]
    have hw : wr ((m.length : Int) - 1) = (m.length : Int) - 1 := wr_in (by omega)
    simp only [spec_ApplyWrites.tree, Tr.do_ite, Tr.do_need, Tr.do_call, Tr.do_jump, Tr.do_last, spec_l01In.told, spec_l01In_f, bind_ok, lt_dec h1, lt_dec h2, in_lt h1, getD_lt h1, and_self, ↓reduceIte, hw, wr_next (show i < 4611686018427387904 by omega)]
    unfold wr1
    rw [hs]
    cases hb : inB l[i].f0 0 ((m.length : Int) - 1) with
    | false => rfl
    | true =>
      rw [inB_iff] at hb
      have hn : (0 : Int) ≤ l[i].f0 ∧ l[i].f0 < (m.length : Int) := by omega
      simp only [hn, and_self, decide_true, ↓reduceIte]
  · rw [lp_eq, List.length_take]
    by_cases h : l.length ≤ k
    · simp only [spec_ApplyWrites.tree, Tr.do_ite, Tr.do_ret, Nat.min_eq_right h, ge_dec, Bool.false_eq_true, ↓reduceIte, id]
    · simp only [spec_ApplyWrites.tree, Tr.do_ite, Tr.do_ret, Nat.min_eq_left (by omega : k ≤ l.length), ge_dec, Bool.false_eq_true, ↓reduceIte, id]
      split <;> rfl
theorem impl_Clamp0 (k n : Nat) : impl_Clamp.f (k : Int) 0 (n : Int) = some ((min k n : Nat) : Int) := by
  simp only [impl_Clamp.f, impl_Clamp.begin, Tr.do_ite, Tr.do_ret, decide_eq_true_eq]
  rw [if_neg (by omega)]
  refine congrArg some (show (_ : Int) = _ from ?_)
  split <;> split <;> omega
theorem impl_ApplyWrites_f (m : List Int) (l : List S205) (k : Nat) (hm : m.length ≤ 1048576) (hl : l.length ≤ 1048576) : impl_ApplyWrites.f m l (k : Int) = some (applyW m (l.take k)) := by
  have h0 : (0 : Int) ≤ 0 ∧ (0 : Int) ≤ ((min k l.length : Nat) : Int) ∧ ((min k l.length : Nat) : Int) ≤ (l.length : Int) := by omega
  have ht : l.take (min k l.length) = l.take k := by
    by_cases h : k ≤ l.length
    · rw [Nat.min_eq_left h]
    · rw [Nat.min_eq_right (by omega), List.take_length, List.take_of_length_le (by omega)]
  simp only [impl_ApplyWrites.f, impl_ApplyWrites.begin, Tr.do_need, Tr.do_call, Tr.do_jump, slices_Clone_int.told, slices_Clone_int_f m hm, impl_Clamp.told, impl_Clamp0, bind_ok, h0, and_self, ↓reduceIte, Int.toNat_natCast, ht]
  refine fold_loop (l.take k) wr1 id (fun _ s => s.length = m.length) (fun i s => lp impl_ApplyWrites.tree (.c3 s (l.take k) ((l.take k).length : Int) (i : Int))) m rfl (fun i h s hs => ?_) (fun s hs => ?_)
  · refine ⟨?_, by rw [wr1_len]; exact hs⟩
    rw [lp_eq]
    have h' := h
    rw [List.length_take] at h'
    have hw : wr ((s.length : Int) - 1) = (s.length : Int) - 1 := wr_in (by omega)
    simp only [impl_ApplyWrites.tree, Tr.do_ite, Tr.do_need, Tr.do_call, Tr.do_jump, impl_within.told, impl_within_f, bind_ok, lt_dec h, in_lt h, getD_lt h, and_self, ↓reduceIte, hw, wr_next (show i < 4611686018427387904 by omega)]
    unfold wr1
    cases hb : inB (l.take k)[i].f0 0 ((s.length : Int) - 1) with
    | false => rfl
    | true =>
      rw [inB_iff] at hb
      have hn : (0 : Int) ≤ (l.take k)[i].f0 ∧ (l.take k)[i].f0 < (s.length : Int) := by omega
      simp only [hn, and_self, decide_true, ↓reduceIte]
  · rw [lp_eq]
    simp only [impl_ApplyWrites.tree, Tr.do_ite, Tr.do_ret, ge_dec, Bool.false_eq_true, ↓reduceIte, id]
/-- A memory behind a recovery. -/
def recov (m : List Int) : List Int := applyW m (recW m)
theorem recov_len (m : List Int) : (recov m).length = m.length := applyW_len _ _
theorem spec_Recovered_f (m : List Int) (hm : m.length ≤ 1048576) : spec_Recovered.f m = some (recov m) := by
  simp only [spec_Recovered.f, spec_Recovered.begin, Tr.do_call, Tr.do_ret, spec_RecoveryWrites.told, spec_RecoveryWrites_f, spec_ApplyWrites.told, bind_ok, spec_ApplyWrites_f m (recW m) (recW m).length hm (by have := recW_len m; omega), List.take_length, recov]
theorem impl_Recovered_f (m : List Int) (hm : m.length ≤ 1048576) : impl_Recovered.f m = some (recov m) := by
  simp only [impl_Recovered.f, impl_Recovered.begin, Tr.do_call, Tr.do_ret, impl_RecoveryWrites.told, impl_RecoveryWrites_f, impl_ApplyWrites.told, bind_ok, impl_ApplyWrites_f m (recW m) (recW m).length hm (by have := recW_len m; omega), List.take_length, recov]
/-- The variables are values. -/
def V8 (m : List Int) : Prop := m.length = 49 ∧ ∀ i, i < 8 → isVal (m.getD i 0) = true
theorem V8_of {m : List Int} (hm : m.length = 49) (h : (m.take 8).all isVal = true) : V8 m := by
  refine ⟨hm, fun i hi => ?_⟩
  have h1 : i < (m.take 8).length := by rw [List.length_take]; omega
  have := List.all_eq_true.mp h _ (List.getElem_mem h1)
  rw [List.getElem_take] at this
  rw [List.getD_eq_getElem?_getD, List.getElem?_eq_getElem (by omega)]
  exact this
theorem V8_okV {m : List Int} (h : V8 m) : okV (m.take 8) = true := by
  unfold okV
  rw [Bool.and_eq_true]
  refine ⟨List.all_eq_true.mpr fun x hx => ?_, decide_eq_true (by rw [List.length_take]; have := h.1; omega)⟩
  obtain ⟨i, hi, rfl⟩ := List.mem_iff_getElem.mp hx
  rw [List.length_take] at hi
  have := h.2 i (by omega)
  rw [List.getD_eq_getElem?_getD, List.getElem?_eq_getElem (by omega)] at this
  rw [List.getElem_take]
  exact this
theorem V8_set {m : List Int} (h : V8 m) (k : Nat) (v : Int) (hv : k < 8 → isVal v = true) : V8 (m.set k v) := by
  refine ⟨by rw [List.length_set]; exact h.1, fun i hi => ?_⟩
  rw [List.getD_eq_getElem?_getD, List.getElem?_set]
  split
  · rename_i e
    subst e
    rw [if_pos (by have := h.1; omega)]
    exact hv hi
  · rw [← List.getD_eq_getElem?_getD]; exact h.2 i hi
theorem V8_wr1 {m : List Int} (h : V8 m) (w : S205) (hw : 8 ≤ w.f0 ∨ isVal w.f1 = true) : V8 (wr1 m w) := by
  unfold wr1
  split
  · rename_i hb
    rw [inB_iff] at hb
    exact V8_set h _ _ (fun hk => hw.resolve_left (by omega))
  · exact h
theorem V8_apply : ∀ (l : List S205) {m : List Int}, V8 m → (∀ w ∈ l, 8 ≤ w.f0 ∨ isVal w.f1 = true) → V8 (applyW m l)
  | [], m, h, _ => h
  | w :: l, m, h, hw => V8_apply l (V8_wr1 h w (hw w (by simp))) (fun x hx => hw x (by simp [hx]))
theorem recL_val (m : List Int) : ∀ (i : Nat) (acc l : List S205), (List.range i).all (okPair m) = true → (∀ w ∈ acc, 8 ≤ w.f0 ∨ isVal w.f1 = true) → recL m i acc = some l → ∀ w ∈ l, 8 ≤ w.f0 ∨ isVal w.f1 = true
  | 0, acc, l, _, ha, h => by cases h; exact ha
  | i + 1, acc, l, hp, ha, h => by
    rw [List.range_succ, List.all_append, Bool.and_eq_true] at hp
    unfold recL at h
    split at h
    · refine recL_val m i _ l hp.1 (fun w hw => ?_) h
      rcases List.mem_append.mp hw with hw | hw
      · exact ha w hw
      · rw [List.mem_singleton] at hw
        subst hw
        have := hp.2
        simp only [List.all_cons, List.all_nil, Bool.and_true, okPair, Bool.and_eq_true] at this
        exact .inr this.2
    · cases h
theorem okMem_parts {n : Nat} {m : List Int} (h : okMem n m = true) : m.length = 49 ∧ ¬ (unpack (rdI m 8)).1 < 0 ∧ (unpack (rdI m 8)).1 < n ∧ (m.take 8).all isVal = true ∧ (sent m).all isVal = true ∧ (List.range (Int.toNat (unpack (rdI m 8)).2.1)).all (okPair m) = true := by
  unfold okMem at h
  simp only [Bool.and_eq_true, decide_eq_true_eq, Bool.not_eq_true', decide_eq_false_iff_not] at h
  exact ⟨h.1, h.2.1, by omega, h.2.2.2.1, h.2.2.2.2.1, h.2.2.2.2.2⟩
theorem recov_V8 {n : Nat} {m : List Int} (h : okMem n m = true) : V8 (recov m) := by
  obtain ⟨hm, _, _, hv, _, hp⟩ := okMem_parts h
  refine V8_apply _ (V8_of hm hv) (fun w hw => ?_)
  unfold recW at hw
  rw [if_pos hm] at hw
  by_cases hc : (unpack (rdI m 8)).2.1 < 1
  · rw [if_pos hc] at hw
    cases hw
  · rw [if_neg hc] at hw
    unfold recEnd at hw
    split at hw
    · rename_i l hl
      rcases List.mem_append.mp hw with hw | hw
      · exact recL_val m _ _ _ hp (fun w hw => by cases hw) hl w hw
      · rw [List.mem_singleton] at hw
        subst hw
        exact .inl (by show (8 : Int) ≤ 8; omega)
    · cases hw
theorem spec_MemVars_f (m : List Int) : spec_MemVars.f m = some (if m.length = 49 then m.take 8 else []) := by
  simp only [spec_MemVars.f, spec_MemVars.begin, Tr.do_ite, Tr.do_need, Tr.do_ret, List.nil_append]
  by_cases hm : m.length = 49
  · have hm' : decide ((m.length : Int) = 49) = true := decide_eq_true (by omega)
    have n1 : (0 : Int) ≤ 0 ∧ (0 : Int) ≤ 8 ∧ (8 : Int) ≤ (m.length : Int) := by omega
    have n2 := fits ([] : List Int) (m.take (Int.toNat 8)) (by simp) (by rw [List.length_take]; omega) 8 (by omega)
    rw [if_pos hm]
    simp only [hm', n1, n2, and_self, Bool.not_true, Bool.false_eq_true, ↓reduceIte]
    rfl
  · have hm' : decide ((m.length : Int) = 49) = false := decide_eq_false (by omega)
    rw [if_neg hm]
    simp only [hm', Bool.not_false, ↓reduceIte]
theorem impl_MemVars_f (m : List Int) : impl_MemVars.f m = some (if m.length = 49 then m.take 8 else []) := by
  simp only [impl_MemVars.f, impl_MemVars.begin, Tr.do_ite, Tr.do_need, Tr.do_ret, Tr.do_call]
  by_cases hm : m.length = 49
  · have hm' : decide ((m.length : Int) = 49) = true := decide_eq_true (by omega)
    have n1 : (0 : Int) ≤ 0 ∧ (0 : Int) ≤ 8 ∧ (8 : Int) ≤ (m.length : Int) := by omega
    rw [if_pos hm]
    simp only [hm', n1, and_self, Bool.not_true, Bool.false_eq_true, ↓reduceIte, slices_Clone_int.told, slices_Clone_int_f (m.take (Int.toNat 8)) (by rw [List.length_take]; omega), bind_ok]
    rfl
  · have hm' : decide ((m.length : Int) = 49) = false := decide_eq_false (by omega)
    rw [if_neg hm]
    simp only [hm', Bool.not_false, ↓reduceIte]
/-! ### Migration -/
def okE (e : S153) : Bool := okX e.f0 e.f1 e.f2
def okR (r : List S153) : Bool := r.all okE && decide ((r.length : Int) = 8)
theorem spec_RulesOk_f (r : List S153) (hr : r.length ≤ 1048576) : spec_RulesOk.f r = some (okR r) := by
  simp only [spec_RulesOk.f, spec_RulesOk.begin, Tr.do_jump]
  refine all_loop r okE _ (fun i => lp spec_RulesOk.tree (.c2 r (i : Int))) (fun i h => ?_) ?_
  · rw [lp_eq]
    simp only [spec_RulesOk.tree, Tr.do_ite, Tr.do_need, Tr.do_call, Tr.do_ret, Tr.do_jump, spec_ExprOk.told, spec_ExprOk_f, bind_ok, getD_lt h, lt_dec h, in_lt h, and_self, decide_true, ↓reduceIte, wr_next (show i < 4611686018427387904 by omega), okE]
    rcases Bool.eq_false_or_eq_true (okX r[i].f0 r[i].f1 r[i].f2) with q | q <;> simp [q]
  · rw [lp_eq]
    simp only [spec_RulesOk.tree, Tr.do_ite, Tr.do_ret, ge_dec, Bool.false_eq_true, ↓reduceIte]
theorem impl_RulesOk_f (r : List S153) (hr : r.length ≤ 1048576) : impl_RulesOk.f r = some (okR r) := by
  obtain ⟨x, hx, hd⟩ := find_loop r (fun x => !okE x) (fun i => lp slices_IndexFunc_impl_Expr_RulesOk_1.tree (.c2 r (List.length r : Int) (i : Int))) (fun i h => by
    rw [lp_eq]
    simp only [slices_IndexFunc_impl_Expr_RulesOk_1.tree, Tr.do_ite, Tr.do_need, Tr.do_call, Tr.do_ret, Tr.do_jump, impl_RulesOk_1.told, impl_RulesOk_1.f, impl_RulesOk_1.begin, impl_ExprOk.told, impl_ExprOk_f, bind_ok, getD_lt h, lt_dec h, in_lt h, and_self, decide_true, ↓reduceIte, wr_next (show i < 4611686018427387904 by omega), okE]
    rcases Bool.eq_false_or_eq_true (okX r[i].f0 r[i].f1 r[i].f2) with q | q <;> simp [q]) (by
    rw [lp_eq]
    simp only [slices_IndexFunc_impl_Expr_RulesOk_1.tree, Tr.do_ite, Tr.do_ret, ge_dec, Bool.false_eq_true, ↓reduceIte])
  have hx' : lp slices_IndexFunc_impl_Expr_RulesOk_1.tree (.c2 r (List.length r : Int) 0) = some x := hx
  simp only [impl_RulesOk.f, impl_RulesOk.begin, Tr.do_call, Tr.do_ite, Tr.do_ret, slices_ContainsFunc_impl_Expr_RulesOk_1.told, slices_ContainsFunc_impl_Expr_RulesOk_1.f, slices_ContainsFunc_impl_Expr_RulesOk_1.begin, slices_IndexFunc_impl_Expr_RulesOk_1.told, slices_IndexFunc_impl_Expr_RulesOk_1.f, slices_IndexFunc_impl_Expr_RulesOk_1.begin, Tr.do_jump, hx', bind_ok, hd, any_not, okR]
  cases decide ((r.length : Int) = 8) <;> simp
def evE (v : List Int) (e : S153) : Int := evX v e.f0 e.f1 e.f2
def migr (v : List Int) (r : List S153) : List Int × Bool := if okV v = true then (if okR r = true then (r.map (evE v), true) else ([], false)) else ([], false)
theorem okR_facts {r : List S153} (h : okR r = true) : r.length = 8 ∧ ∀ i (hi : i < r.length), okX r[i].f0 r[i].f1 r[i].f2 = true := by
  unfold okR at h
  rw [Bool.and_eq_true] at h
  have := of_decide_eq_true h.2
  exact ⟨by omega, fun i hi => List.all_eq_true.mp h.1 _ (List.getElem_mem hi)⟩
theorem spec_Migrate_f (v : List Int) (r : List S153) (hv : v.length ≤ 1048576) (hr : r.length ≤ 1048576) : spec_Migrate.f v r = some (migr v r) := by
  simp only [spec_Migrate.f, spec_Migrate.begin, Tr.do_call, Tr.do_ite, Tr.do_ret, Tr.do_jump, spec_VarsOk.told, spec_VarsOk_f v hv, spec_RulesOk.told, spec_RulesOk_f r hr, bind_ok]
  show (if (!okV v) = true then _ else _) = _
  unfold migr
  cases h1 : okV v with
  | false => rfl
  | true =>
    cases h2 : okR r with
    | false => rfl
    | true =>
      obtain ⟨h8, hx⟩ := okR_facts h2
      simp only [Bool.not_true, Bool.false_eq_true, ↓reduceIte]
      have e := app_loop r (evE v) (fun s => (s, true)) (fun i s => lp spec_Migrate.tree (.c5 v r s (i : Int))) [] (fun i h => by
        obtain ⟨_, ha, hb⟩ := okX_in (hx i h)
        have h3 : ∀ y : Int, ((([] ++ (r.take i).map (evE v)).length : Int) + (([y] : List Int).length : Int)) * (8 : Nat) ≤ room := fun y => fits _ [y] (by simp; omega) (by simp) 8 (by omega)
        generalize ([] ++ (r.take i).map (evE v)) = acc at h3 ⊢
        have h4 : decide ((i : Int) < 8) = true := decide_eq_true (by omega)
        rw [lp_eq]
        simp only [spec_Migrate.tree, Tr.do_ite, Tr.do_need, Tr.do_call, Tr.do_jump, h4, in_lt h, getD_lt h, and_self, ↓reduceIte, spec_l03Eval.told, spec_l03Eval_f v _ _ _ (okV_len h1) ha.1 hb.1, bind_ok, h3, wr_next (show i < 4611686018427387904 by omega), evE]) (fun s => by
        have h4 : decide ((r.length : Int) < 8) = false := decide_eq_false (by omega)
        rw [lp_eq]
        simp only [spec_Migrate.tree, Tr.do_ite, Tr.do_ret, h4, Bool.false_eq_true, ↓reduceIte])
      exact e
theorem impl_Migrate_f (v : List Int) (r : List S153) (hv : v.length ≤ 1048576) (hr : r.length ≤ 1048576) : impl_Migrate.f v r = some (migr v r) := by
  simp only [impl_Migrate.f, impl_Migrate.begin, Tr.do_call, Tr.do_ite, Tr.do_ret, Tr.do_jump, impl_VarsOk.told, impl_VarsOk_f v hv, impl_RulesOk.told, impl_RulesOk_f r hr, bind_ok]
  show (if (!okV v) = true then _ else _) = _
  unfold migr
  cases h1 : okV v with
  | false => rfl
  | true =>
    cases h2 : okR r with
    | false => rfl
    | true =>
      obtain ⟨h8, hx⟩ := okR_facts h2
      simp only [Bool.not_true, Bool.false_eq_true, ↓reduceIte]
      have e := app_loop r (evE v) (fun s => (s, true)) (fun i s => lp impl_Migrate.tree (.c5 v s r (List.length r : Int) (i : Int))) [] (fun i h => by
        have h3 : ∀ y : Int, ((([] ++ (r.take i).map (evE v)).length : Int) + (([y] : List Int).length : Int)) * (8 : Nat) ≤ room := fun y => fits _ [y] (by simp; omega) (by simp) 8 (by omega)
        generalize ([] ++ (r.take i).map (evE v)) = acc at h3 ⊢
        rw [lp_eq]
        simp only [impl_Migrate.tree, Tr.do_ite, Tr.do_need, Tr.do_call, Tr.do_jump, lt_dec h, in_lt h, getD_lt h, and_self, ↓reduceIte, impl_EvalExpr.told, impl_EvalExpr_f v _ _ _ hv, h1, hx i h, bind_ok, h3, decide_true, wr_next (show i < 4611686018427387904 by omega), evE]) (fun s => by
        rw [lp_eq]
        simp only [impl_Migrate.tree, Tr.do_ite, Tr.do_ret, ge_dec, Bool.false_eq_true, ↓reduceIte])
      exact e
/-- A memory with other variables, at its first task. -/
def migMem (m : List Int) (r : List S153) : List Int :=
  ((r.map (evE ((recov m).take 8))) ++ (recov m).drop 8).set 8 (pack 0 0 (unpack (rdI ((r.map (evE ((recov m).take 8))) ++ (recov m).drop 8) 8)).2.2)
def migrMem (p : List S166) (m : List Int) (r : List S153) : List Int × Bool := if (okP p && okMem p.length m) = true then (if okR r = true then (migMem m r, true) else ([], false)) else ([], false)
/-- Numbers laid over a row's beginning. -/
theorem over_loop (v : List Int) (R : Type) (g : List Int → R) (L : Nat → List Int → Option R) (o : List Int) (ho : v.length ≤ o.length)
    (hstep : ∀ i (h : i < v.length) s, s.length = o.length → L i s = L (i + 1) (s.set i v[i])) (hend : ∀ s, L v.length s = some (g s)) : L 0 o = some (g (v ++ o.drop v.length)) := by
  have key : ∀ (n i : Nat), i + n = v.length → L i (v.take i ++ o.drop i) = some (g (v ++ o.drop v.length)) := by
    intro n
    induction n with
    | zero => intro i hi; obtain rfl : i = v.length := (by omega); rw [hend, List.take_length]
    | succ n ih =>
      intro i hi
      have h : i < v.length := by omega
      rw [hstep i h _ (by rw [List.length_append, List.length_take, List.length_drop]; omega), ← ih (i + 1) (by omega)]
      congr 1
      rw [List.set_append_right _ _ (by rw [List.length_take]; omega), List.length_take, Nat.min_eq_left (by omega), Nat.sub_self, List.drop_eq_getElem_cons (by omega : i < o.length), List.set_cons_zero, List.take_add_one, List.getElem?_eq_getElem h, List.append_assoc]
      rfl
  simpa using key v.length 0 (by omega)
theorem spec_MigrateMem_f (p : List S166) (m : List Int) (r : List S153) (hp : p.length ≤ 1048576) (hs : ∀ t ∈ p, t.f0.length ≤ 1048576) (hm : m.length ≤ 1048576) (hr : r.length ≤ 1048576) : spec_MigrateMem.f p m r = some (migrMem p m r) := by
  simp only [spec_MigrateMem.f, spec_MigrateMem.begin, Tr.do_call, Tr.do_ite, Tr.do_ret, Tr.do_last, Tr.do_jump, spec_MemOk.told, spec_MemOk_f p m hp hs, spec_RulesOk.told, spec_RulesOk_f r hr, spec_Recovered.told, spec_Recovered_f m hm, spec_MemVars.told, spec_MemVars_f, spec_Migrate.told, bind_ok]
  unfold migrMem
  cases h1 : (okP p && okMem p.length m) with
  | false => rfl
  | true =>
    cases h2 : okR r with
    | false => rfl
    | true =>
      rw [Bool.and_eq_true] at h1
      have hV := recov_V8 h1.2
      obtain ⟨h8, _⟩ := okR_facts h2
      have hl := hV.1
      simp only [Bool.not_true, Bool.false_eq_true, ↓reduceIte, hl]
      rw [spec_Migrate_f _ r (by rw [List.length_take]; omega) hr]
      simp only [bind_ok, migr, V8_okV hV, h2, ↓reduceIte]
      have hvl : (r.map (evE ((recov m).take 8))).length = 8 := by rw [List.length_map]; exact h8
      generalize hv : r.map (evE ((recov m).take 8)) = v at hvl ⊢
      have e := over_loop v _ (fun s => ((s.set 8 (pack 0 0 (unpack (rdI s 8)).2.2), true) : List Int × Bool)) (fun i s => if s.length = 49 then lp spec_MigrateMem.tree (.c6 s v (i : Int)) else some ((s.set 8 (pack 0 0 (unpack (rdI s 8)).2.2), true) : List Int × Bool)) (recov m) (by omega) (fun i h s hs' => by
        have hs49 : s.length = 49 := by omega
        have hs49' : (s.set i v[i]).length = 49 := by rw [List.length_set]; exact hs49
        rw [if_pos hs49, if_pos hs49', lp_eq]
        have h2 : i < s.length := by omega
        have h4 : decide ((i : Int) < 8) = true := decide_eq_true (by omega)
        simp only [spec_MigrateMem.tree, Tr.do_ite, Tr.do_need, Tr.do_jump, h4, in_lt h, in_lt h2, getD_lt h, and_self, ↓reduceIte, Int.toNat_natCast, wr_next (show i < 4611686018427387904 by omega)]) (fun s => by
        split
        · rename_i hs49
          have h4 : decide ((v.length : Int) < 8) = false := decide_eq_false (by omega)
          have n1 : (0 : Int) ≤ 8 ∧ (8 : Int) < (s.length : Int) := by omega
          rw [lp_eq]
          simp only [spec_MigrateMem.tree, Tr.do_ite, Tr.do_need, Tr.do_call, Tr.do_ret, h4, n1, and_self, Bool.false_eq_true, ↓reduceIte, spec_UnpackControl.told, spec_UnpackControl_f, spec_PackControl.told, spec_PackControl_f, bind_ok]
          rfl
        · rfl)
      rw [if_pos hl] at e
      refine Eq.trans e ?_
      unfold migMem
      rw [hv, hvl]
theorem impl_MigrateMem_f (p : List S166) (m : List Int) (r : List S153) (hp : p.length ≤ 1048576) (hs : ∀ t ∈ p, t.f0.length ≤ 1048576) (hm : m.length ≤ 1048576) (hr : r.length ≤ 1048576) : impl_MigrateMem.f p m r = some (migrMem p m r) := by
  simp only [impl_MigrateMem.f, impl_MigrateMem.begin, Tr.do_call, Tr.do_ite, Tr.do_ret, Tr.do_last, Tr.do_need, Tr.do_val, Tr.do_jump, impl_MemOk.told, impl_MemOk_f p m hp hs, impl_RulesOk.told, impl_RulesOk_f r hr, impl_Recovered.told, impl_Recovered_f m hm, impl_MemVars.told, impl_MemVars_f, impl_Migrate.told, impl_UnpackControl.told, impl_UnpackControl_f, impl_PackControl.told, impl_PackControl_f, bind_ok]
  unfold migrMem
  cases h1 : (okP p && okMem p.length m) with
  | false => rfl
  | true =>
    cases h2 : okR r with
    | false => rfl
    | true =>
      rw [Bool.and_eq_true] at h1
      have hV := recov_V8 h1.2
      obtain ⟨h8, _⟩ := okR_facts h2
      have hl := hV.1
      simp only [Bool.not_true, Bool.false_eq_true, ↓reduceIte, hl]
      rw [impl_Migrate_f _ r (by rw [List.length_take]; omega) hr]
      simp only [bind_ok, migr, V8_okV hV, h2, ↓reduceIte]
      have hvl : (r.map (evE ((recov m).take 8))).length = 8 := by rw [List.length_map]; exact h8
      unfold migMem
      generalize hv : r.map (evE ((recov m).take 8)) = v at hvl ⊢
      have ht : v.take 49 = v := List.take_of_length_le (by omega)
      have n0 : (0 : Int) < ((49 : Nat) : Int) ∧ (0 : Int) < ((8 : Nat) : Int) := by omega
      have n1 : (0 : Int) ≤ 8 ∧ (8 : Int) < ((v ++ List.drop 8 (recov m)).length : Int) := by rw [List.length_append, List.length_drop, hl, hvl]; omega
      simp only [hvl, ht, n0, n1, and_self, ↓reduceIte]
      rfl
theorem migrMem_le (p : List S166) (m : List Int) (r : List S153) : (migrMem p m r).1.length ≤ 1048576 := by
  unfold migrMem
  split
  · rename_i h1
    split
    · rename_i h2
      rw [Bool.and_eq_true] at h1
      obtain ⟨h8, _⟩ := okR_facts h2
      have hl := (recov_V8 h1.2).1
      unfold migMem
      rw [List.length_set, List.length_append, List.length_map, List.length_drop]
      omega
    · simp
  · simp
/-! ### Rules of the law -/
def toE (e : S153) : S153 := ⟨e.f0, e.f1, e.f2⟩
theorem laws_szExprS_f (l : List S153) (n : Int) (hl : l.length ≤ 9223372036854775807) (h0 : 0 ≤ n) (h1 : n ≤ 1048576) : laws_szExprS.f l n = some (if n - l.length < 0 then -1 else n - l.length) := by
  have w : wr (n - l.length) = n - l.length := wr_in (by omega)
  simp only [laws_szExprS.f, laws_szExprS.begin, Tr.do_ite, Tr.do_ret, w, decide_eq_true_eq]
  split <;> rfl
theorem laws_szRules_f (l : List S153) (n : Int) (hl : l.length ≤ 9223372036854775807) (h0 : 0 ≤ n) (h1 : n ≤ 1048576) : laws_szRules.f l n = some (if n - l.length < 0 then -1 else n - l.length) := by
  simp only [laws_szRules.f, laws_szRules.begin, Tr.do_call, Tr.do_ite, Tr.do_ret, laws_szExprS.told, laws_szExprS_f l n hl h0 h1, bind_ok, decide_eq_true_eq]
  by_cases h : n - (l.length : Int) < 0
  · simp [h]
  · simp [h]
theorem laws_toExprS_f (l : List S153) (hl : l.length ≤ 1048576) : laws_toExprS.f l = some (l.map toE) := by
  have h1 : (0 : Int) ≤ (List.length l : Int) ∧ (List.length l : Int) ≤ (List.length l : Int) ∧ (List.length l : Int) * (24 : Nat) ≤ room := ⟨by omega, by omega, by unfold room; omega⟩
  simp only [laws_toExprS.f, laws_toExprS.begin, Tr.do_need, Tr.do_jump, h1, and_self, decide_true, ↓reduceIte, Int.toNat_natCast]
  refine map_loop l toE z153 id (fun i s => lp laws_toExprS.tree (.c3 l s (i : Int))) (fun i h s hs => ?_) (fun s => ?_)
  · rw [lp_eq]
    have h2 : i < s.length := by omega
    simp only [laws_toExprS.tree, Tr.do_ite, Tr.do_need, Tr.do_call, Tr.do_val, Tr.do_jump, laws_toExpr.told, laws_toExpr_f, bind_ok, lt_dec h, in_lt h, in_lt h2, getD_lt h, and_self, decide_true, ↓reduceIte, wr_next (show i < 4611686018427387904 by omega), Int.toNat_natCast, toE]
  · rw [lp_eq]
    simp only [laws_toExprS.tree, Tr.do_ite, Tr.do_ret, ge_dec, Bool.false_eq_true, ↓reduceIte, id]
theorem laws_toRules_f (l : List S153) (hl : l.length ≤ 1048576) : laws_toRules.f l = some (l.map toE) := by
  simp only [laws_toRules.f, laws_toRules.begin, Tr.do_call, Tr.do_ret, laws_toExprS.told, laws_toExprS_f l hl, bind_ok]
theorem laws_eqExprS_f (l : List S153) (hl : l.length ≤ 1048576) : laws_eqExprS.f l l = some true := by
  simp only [laws_eqExprS.f, laws_eqExprS.begin, Tr.do_ite, Tr.do_jump, decide_true, Bool.not_true, Bool.false_eq_true, ↓reduceIte]
  refine same_loop l.length true (fun i => lp laws_eqExprS.tree (.c4 l l (i : Int))) (fun i h => by
    rw [lp_eq]
    simp only [laws_eqExprS.tree, Tr.do_ite, Tr.do_need, Tr.do_last, Tr.do_call, Tr.do_jump, laws_eqExpr.told, laws_eqExpr_f, bind_ok, lt_dec h, in_lt h, getD_lt h, and_self, decide_true, ↓reduceIte, Bool.not_true, Bool.false_eq_true, wr_next (show i < 4611686018427387904 by omega)]) (by
    rw [lp_eq]
    simp only [laws_eqExprS.tree, Tr.do_ite, Tr.do_ret, ge_dec, Bool.false_eq_true, ↓reduceIte])
theorem laws_eqRules_f (l : List S153) (hl : l.length ≤ 1048576) : laws_eqRules.f l l = some true := by
  simp [laws_eqRules.f, laws_eqRules.begin, laws_eqExprS.told, laws_eqExprS_f l hl]
def nextE (k : Int) (_ : S153) : Int := k + 1 + 1 + 1
theorem laws_markExprS_f (k : Int) (l : List S153) (h0 : 0 ≤ k) (h1 : k + 3 * l.length ≤ 1099511627776) : ∃ l', laws_markExprS.f k l = some (k + 3 * l.length, l') := by
  simp only [laws_markExprS.f, laws_markExprS.begin, Tr.do_jump]
  have e := put_loop l nextE (fun k _ => (⟨k, k + 1, k + 1 + 1⟩ : S153)) z153 (fun i s => s = k + 3 * i) (fun s m => (s, m)) (fun i s m => lp laws_markExprS.tree (.c2 s (i : Int) m)) k (by simp) (fun i h s m hs hm hg => by
    refine ⟨?_, by unfold nextE; omega⟩
    rw [lp_eq]
    have h2 : i < m.length := by omega
    have w1 : wr (s + 1) = s + 1 := wr_in (by omega)
    have w2 : wr (s + 1 + 1) = s + 1 + 1 := wr_in (by omega)
    have w3 : wr (s + 1 + 1 + 1) = s + 1 + 1 + 1 := wr_in (by omega)
    have w7 : wr ((i : Int) + 1) = ((i + 1 : Nat) : Int) := wr_next (by omega)
    clear hs h0 h1
    simp only [laws_markExprS.tree, Tr.do_ite, Tr.do_need, Tr.do_val, Tr.do_jump, List.length_set, lt_dec h2, in_lt h2, and_self, decide_true, ↓reduceIte, Int.toNat_natCast, List.set_set, hg, w1, w2, w3, w7, List.getD, List.getElem?_set_self h2, List.getElem?_set_self, Option.getD_some, h2]
    rfl) (fun s m hs hm => by
    rw [lp_eq]
    simp only [laws_markExprS.tree, Tr.do_ite, Tr.do_ret, hm, ge_dec, Bool.false_eq_true, ↓reduceIte])
  have e2 : l.foldl nextE k = k + 3 * l.length := foldl_inv l nextE (fun i s => s = k + 3 * i) k (by simp) (fun i h s hs => by unfold nextE; omega)
  rw [e2] at e
  exact ⟨_, e⟩
theorem laws_markRules_f (k : Int) (l : List S153) (h0 : 0 ≤ k) (h1 : k + 3 * l.length ≤ 1099511627776) : ∃ l', laws_markRules.f k l = some (k + 3 * l.length, l') := by
  obtain ⟨l', e⟩ := laws_markExprS_f k l h0 h1
  exact ⟨l', by simp only [laws_markRules.f, laws_markRules.begin, Tr.do_call, Tr.do_ret, laws_markExprS.told, e, bind_ok]⟩
theorem FnExactMigrateMem : laws_FnExactMigrateMem.Pure := by
  intro p m r hp hm hr
  have hp0 : p.length ≤ 9223372036854775807 := hp.1
  have hs0 : ∀ t ∈ p, t.f0.length ≤ 9223372036854775807 := fun t ht => (hp.2 t ht).1.1
  have hr0 : r.length ≤ 9223372036854775807 := hr.1
  simp only [laws_FnExactMigrateMem.f, laws_FnExactMigrateMem.begin, Tr.do_ite, Tr.do_call, Tr.do_ret, Tr.do_last, Tr.do_both, laws_szProgram.told, laws_szProgram_f p 1048576 hp0 hs0 (by omega) (by omega), bind_ok, decide_eq_true_eq]
  by_cases q0 : (m.length : Int) > 1048576
  · rw [if_pos q0]
  rw [if_neg q0]
  have hm1 : m.length ≤ 1048576 := by omega
  by_cases q4 : ¬ (tot p : Int) ≤ 1048576
  · simp only [q4, ↓reduceIte]
    rfl
  have q3 : (tot p : Int) ≤ 1048576 := by omega
  have q3' : ¬ ((1048576 : Int) - (tot p : Int) < 0) := by omega
  simp only [q3, q3', ↓reduceIte, laws_szRules.told, laws_szRules_f r (1048576 - (tot p : Int)) hr0 (by omega) (by omega), bind_ok]
  by_cases q5 : 1048576 - (tot p : Int) - (r.length : Int) < 0
  · simp only [q5, ↓reduceIte]
    rfl
  have hr1 : r.length ≤ 1048576 := by omega
  obtain ⟨b1, b2, b3⟩ := tot_le p 1048576 (by omega)
  have p1 : (p.map toTk).length ≤ 1048576 := by rw [List.length_map]; exact b1
  have p2 : ∀ t ∈ p.map toTk, t.f0.length ≤ 1048576 := fun t ht => by
    obtain ⟨u, hu, rfl⟩ := List.mem_map.mp ht
    show (u.f0.map toSt).length ≤ 1048576
    rw [List.length_map]
    exact b2 u hu
  have r1 : (r.map toE).length ≤ 1048576 := by rw [List.length_map]; exact hr1
  have e1 := laws_toProgram_f p b1 b2
  have e2 := laws_toIntS_f m hm1
  have e3 := laws_toRules_f r hr1
  have e4 := spec_MigrateMem_f (p.map toTk) m (r.map toE) p1 p2 hm1 r1
  have e5 := impl_MigrateMem_f (p.map toTk) m (r.map toE) p1 p2 hm1 r1
  have e6 := laws_eqProgram_f (p.map toTk) p1 p2
  have e7 := laws_eqIntS_f m hm1
  have e8 := laws_eqRules_f (r.map toE) r1
  have m1 : laws_markProgram.f 1 (p.map toTk) = some (1 + (wt (p.map toTk) : Int), mkTks 1 (p.map toTk)) := by
    simp only [laws_markProgram.f, laws_markProgram.begin, Tr.do_call, Tr.do_ret, laws_markTaskS.told, laws_markTaskS_f 1 (p.map toTk) p1 (by omega) (by omega), bind_ok]
  have m2 := laws_markIntS_f (1 + (wt (p.map toTk) : Int)) m (by omega) (by omega)
  obtain ⟨l', m3⟩ := laws_markRules_f (1 + (wt (p.map toTk) : Int) + m.length) (r.map toE) (by omega) (by omega)
  have m4 : ¬ (1 + (wt (p.map toTk) : Int) + m.length + 3 * (r.map toE).length < 0) := by omega
  have hw := migrMem_le (p.map toTk) m (r.map toE)
  generalize migrMem (p.map toTk) m (r.map toE) = w at e4 e5 hw
  obtain ⟨w0, w1⟩ := w
  have e9 := laws_eqIntS_f w0 hw
  have m5 := laws_markIntS_f 1 w0 (by omega) (by simp only at hw; omega)
  have m6 := laws_heldIntS_f 1 w0 (by omega) (by simp only at hw; omega)
  have m7 : ¬ (1 + (w0.length : Int) < 0) := by omega
  have hb : (w1 != w1) = false := by cases w1 <;> rfl
  simp only [q5, ↓reduceIte, laws_toProgram.told, e1, laws_toIntS.told, e2, laws_toRules.told, e3, spec_MigrateMem.told, e4, impl_MigrateMem.told, e5, laws_eqIntS.told, e9, e7, laws_eqProgram.told, e6, laws_eqRules.told, e8, laws_markProgram.told, m1, laws_markIntS.told, m2, m5, laws_markRules.told, m3, laws_heldIntS.told, m6, bind_ok, m4, m7, hb, Bool.not_true, Bool.false_eq_true, decide_true, both_same]
end Go.Proofs.YtobfemcobakeoaaGreat.Pure
