/- The plain law of FnExactUplink. No conditions. -/
import Derived.Test.YtobfemcobakeoaaGreatEvLFnExactUplink
import Derived.Test.YtobfemcobakeoaaGreatLibP
namespace Go.Proofs.YtobfemcobakeoaaGreat.Pure
open Go.RowKit Go.Proofs.YtobfemcobakeoaaGreatEv Go.Proofs.YtobfemcobakeoaaGreat.Ev
set_option linter.unusedVariables false
set_option linter.unusedSimpArgs false
set_option maxRecDepth 20000
/-- A number between two. -/
def inB (x a b : Int) : Bool := decide (x ≥ a) && decide (x ≤ b)
theorem spec_l01In_f (x a b : Int) : spec_l01In.f x a b = some (inB x a b) := by
  simp only [spec_l01In.f, spec_l01In.begin, Tr.do_ite, Tr.do_ret, inB]
  cases decide (x ≥ a) <;> simp
theorem impl_within_f (x a b : Int) : impl_within.f x a b = some (inB x a b) := by
  simp only [impl_within.f, impl_within.begin, Tr.do_ite, Tr.do_ret, inB]
  cases decide (x ≥ a) <;> simp
/-- How many statements and tasks there are. -/
def tot (l : List S172) : Nat := l.length + (l.map fun t => t.f0.length).sum
def small : Nat := 1048576
theorem laws_szStmtS_f (l : List S239) (n : Int) (hl : l.length ≤ 9223372036854775807) (h0 : 0 ≤ n) (h1 : n ≤ 1048576) : laws_szStmtS.f l n = some (if n - l.length < 0 then -1 else n - l.length) := by
  have w : wr (n - l.length) = n - l.length := wr_in (by omega)
  simp only [laws_szStmtS.f, laws_szStmtS.begin, Tr.do_ite, Tr.do_ret, w, decide_eq_true_eq]
  split <;> rfl
theorem laws_szTask_f (l : List S239) (a b c n : Int) (hl : l.length ≤ 9223372036854775807) (h0 : 0 ≤ n) (h1 : n ≤ 1048576) : laws_szTask.f l a b c n = some (if n - l.length < 0 then -1 else n - l.length) := by
  simp only [laws_szTask.f, laws_szTask.begin, Tr.do_call, Tr.do_ite, Tr.do_ret, laws_szStmtS.told, laws_szStmtS_f l n hl h0 h1, bind_ok, decide_eq_true_eq]
  by_cases h : n - (l.length : Int) < 0
  · simp [h]
  · simp [h]
theorem laws_szTaskS_f (l : List S172) (n : Int) (hl : l.length ≤ 9223372036854775807) (hs : ∀ t ∈ l, t.f0.length ≤ 9223372036854775807) (h0 : 0 ≤ n) (h1 : n ≤ 1048576) :
    laws_szTaskS.f l n = some (if (tot l : Int) ≤ n then n - tot l else -1) := by
  have w : wr (n - l.length) = n - l.length := wr_in (by omega)
  simp only [laws_szTaskS.f, laws_szTaskS.begin, Tr.do_ite, Tr.do_ret, Tr.do_jump, w, decide_eq_true_eq]
  split
  · rename_i h
    rw [if_neg (by unfold tot; omega)]
  · rename_i h
    have key := scan_loop l (fun (s : Int) t => if s - t.f0.length < 0 then .inr (-1) else .inl (s - t.f0.length)) (fun s => s) (fun _ s => 0 ≤ s ∧ s ≤ 1048576) (fun i s => lp laws_szTaskS.tree (.c5 l s (i : Int))) (n - l.length) ⟨by omega, by omega⟩
      (fun i h s hi => by
        have e := laws_szTask_f l[i].f0 l[i].f1.f0 l[i].f1.f1 l[i].f1.f2 s (hs _ (List.getElem_mem h)) hi.1 hi.2
        have step : lp laws_szTaskS.tree (.c5 l s (i : Int)) = if s - l[i].f0.length < 0 then some (-1) else lp laws_szTaskS.tree (.c5 l (s - l[i].f0.length) ((i + 1 : Nat) : Int)) := by
          rw [lp_eq]
          simp only [laws_szTaskS.tree, Tr.do_ite, Tr.do_need, Tr.do_call, Tr.do_ret, Tr.do_jump, laws_szTask.told, getD_lt h, lt_dec h, in_lt h, e, bind_ok, wr_next (show i < 4611686018427387904 by omega), ↓reduceIte, and_self, decide_eq_true_eq]
          by_cases q : s - (l[i].f0.length : Int) < 0
          · simp [q]
          · simp [q]
        refine ⟨fun s' hs' => ?_, fun r hr => ?_⟩
        · split at hs'
          · cases hs'
          · rename_i q
            cases hs'
            exact ⟨by rw [step, if_neg q], by omega, by omega⟩
        · split at hr
          · rename_i q
            cases hr
            rw [step, if_pos q]
          · cases hr)
      (fun s hi => by rw [lp_eq]; simp only [laws_szTaskS.tree, Tr.do_ite, Tr.do_ret, ge_dec, Bool.false_eq_true, ↓reduceIte])
    rw [show ((0 : Nat) : Int) = 0 from rfl] at key
    rw [key]
    congr 1
    have gen : ∀ (l : List S172) (s : Int), 0 ≤ s → scan (fun (s : Int) (t : S172) => if s - t.f0.length < 0 then .inr (-1) else .inl (s - t.f0.length)) (fun s => s) l s = if (((l.map fun t => t.f0.length).sum : Nat) : Int) ≤ s then s - ((l.map fun t => t.f0.length).sum : Nat) else -1 := by
      intro l
      induction l with
      | nil => intro s hs; simp [scan, hs]
      | cons t l ih =>
        intro s hs
        unfold scan
        by_cases q : s - (t.f0.length : Int) < 0
        · rw [if_pos q]
          dsimp only
          rw [List.map_cons, List.sum_cons, if_neg (by omega)]
        · rw [if_neg q]
          dsimp only
          rw [ih _ (by omega), List.map_cons, List.sum_cons]
          by_cases q' : (((l.map fun t => t.f0.length).sum : Nat) : Int) ≤ s - (t.f0.length : Int)
          · rw [if_pos q', if_pos (by omega)]; omega
          · rw [if_neg q', if_neg (by omega)]
    rw [gen _ _ (by omega)]
    unfold tot
    by_cases q : (((l.map fun t => t.f0.length).sum : Nat) : Int) ≤ n - (l.length : Int)
    · rw [if_pos q, if_pos (by omega)]; omega
    · rw [if_neg q, if_neg (by omega)]
theorem laws_szProgram_f (l : List S172) (n : Int) (hl : l.length ≤ 9223372036854775807) (hs : ∀ t ∈ l, t.f0.length ≤ 9223372036854775807) (h0 : 0 ≤ n) (h1 : n ≤ 1048576) :
    laws_szProgram.f l n = some (if (tot l : Int) ≤ n then n - tot l else -1) := by
  simp only [laws_szProgram.f, laws_szProgram.begin, Tr.do_call, Tr.do_ite, Tr.do_ret, laws_szTaskS.told, laws_szTaskS_f l n hl hs h0 h1, bind_ok, decide_eq_true_eq]
  by_cases h : (tot l : Int) ≤ n
  · rw [if_pos h]
    have q : ¬ (n - (tot l : Int) < 0) := by omega
    simp only [q, ↓reduceIte]
  · rw [if_neg h]
    rfl
/-- A law's statement as a program's. -/
def toSt (x : S239) : S210 := ⟨x.f0, x.f1, x.f2, (⟨x.f3.f0, x.f3.f1, x.f3.f2⟩ : S153)⟩
/-- A law's task as a program's. -/
def toTk (x : S172) : S166 := ⟨x.f0.map toSt, (⟨x.f1.f0, x.f1.f1, x.f1.f2⟩ : S153)⟩
theorem laws_toExpr_f (a b c : Int) : laws_toExpr.f a b c = some (a, b, c) := rfl
theorem laws_toStmt_f (a b c d e f : Int) : laws_toStmt.f a b c d e f = some (a, b, c, d, e, f) := rfl
theorem laws_toStmtS_f (l : List S239) (hl : l.length ≤ 1048576) : laws_toStmtS.f l = some (l.map toSt) := by
  have h1 : (0 : Int) ≤ (List.length l : Int) ∧ (List.length l : Int) ≤ (List.length l : Int) ∧ (List.length l : Int) * (48 : Nat) ≤ room := ⟨by omega, by omega, by unfold room; omega⟩
  simp only [laws_toStmtS.f, laws_toStmtS.begin, Tr.do_need, Tr.do_jump, h1, and_self, decide_true, ↓reduceIte, Int.toNat_natCast]
  refine map_loop l toSt z210 id (fun i s => lp laws_toStmtS.tree (.c3 l s (i : Int))) (fun i h s hs => ?_) (fun s => ?_)
  · rw [lp_eq]
    have h2 : i < s.length := by omega
    simp only [laws_toStmtS.tree, Tr.do_ite, Tr.do_need, Tr.do_call, Tr.do_val, Tr.do_jump, laws_toStmt.told, laws_toStmt_f, bind_ok, lt_dec h, in_lt h, in_lt h2, getD_lt h, and_self, decide_true, ↓reduceIte, wr_next (show i < 4611686018427387904 by omega), Int.toNat_natCast, toSt]
  · rw [lp_eq]
    simp only [laws_toStmtS.tree, Tr.do_ite, Tr.do_ret, ge_dec, Bool.false_eq_true, ↓reduceIte, id]
theorem laws_toTask_f (l : List S239) (a b c : Int) (hl : l.length ≤ 1048576) : laws_toTask.f l a b c = some (l.map toSt, a, b, c) := by
  simp only [laws_toTask.f, laws_toTask.begin, Tr.do_call, Tr.do_ret, laws_toStmtS.told, laws_toExpr.told, laws_toStmtS_f l hl, laws_toExpr_f, bind_ok]
theorem laws_toTaskS_f (l : List S172) (hl : l.length ≤ 1048576) (hs : ∀ t ∈ l, t.f0.length ≤ 1048576) : laws_toTaskS.f l = some (l.map toTk) := by
  have h1 : (0 : Int) ≤ (List.length l : Int) ∧ (List.length l : Int) ≤ (List.length l : Int) ∧ (List.length l : Int) * (48 : Nat) ≤ room := ⟨by omega, by omega, by unfold room; omega⟩
  simp only [laws_toTaskS.f, laws_toTaskS.begin, Tr.do_need, Tr.do_jump, h1, and_self, decide_true, ↓reduceIte, Int.toNat_natCast]
  refine map_loop l toTk z166 id (fun i s => lp laws_toTaskS.tree (.c3 l s (i : Int))) (fun i h s hs' => ?_) (fun s => ?_)
  · rw [lp_eq]
    have h2 : i < s.length := by omega
    simp only [laws_toTaskS.tree, Tr.do_ite, Tr.do_need, Tr.do_call, Tr.do_val, Tr.do_jump, laws_toTask.told, laws_toTask_f _ _ _ _ (hs _ (List.getElem_mem h)), bind_ok, lt_dec h, in_lt h, in_lt h2, getD_lt h, and_self, decide_true, ↓reduceIte, wr_next (show i < 4611686018427387904 by omega), Int.toNat_natCast, toTk]
  · rw [lp_eq]
    simp only [laws_toTaskS.tree, Tr.do_ite, Tr.do_ret, ge_dec, Bool.false_eq_true, ↓reduceIte, id]
theorem laws_toProgram_f (l : List S172) (hl : l.length ≤ 1048576) (hs : ∀ t ∈ l, t.f0.length ≤ 1048576) : laws_toProgram.f l = some (l.map toTk) := by
  simp only [laws_toProgram.f, laws_toProgram.begin, Tr.do_call, Tr.do_ret, laws_toTaskS.told, laws_toTaskS_f l hl hs, bind_ok]
theorem laws_toIntS_f (l : List Int) (hl : l.length ≤ 1048576) : laws_toIntS.f l = some l := by
  have h1 : (0 : Int) ≤ (List.length l : Int) ∧ (List.length l : Int) ≤ (List.length l : Int) ∧ (List.length l : Int) * (8 : Nat) ≤ room := ⟨by omega, by omega, by unfold room; omega⟩
  simp only [laws_toIntS.f, laws_toIntS.begin, Tr.do_need, Tr.do_jump, h1, and_self, decide_true, ↓reduceIte, Int.toNat_natCast]
  have e := map_loop l (fun x : Int => x) 0 id (fun i s => lp laws_toIntS.tree (.c3 l s (i : Int))) (fun i h s hs => by
    rw [lp_eq]
    have h2 : i < s.length := by omega
    simp only [laws_toIntS.tree, Tr.do_ite, Tr.do_need, Tr.do_call, Tr.do_val, Tr.do_jump, bind_ok, lt_dec h, in_lt h, in_lt h2, getD_lt h, and_self, decide_true, ↓reduceIte, wr_next (show i < 4611686018427387904 by omega), Int.toNat_natCast]) (fun s => by
    rw [lp_eq]
    simp only [laws_toIntS.tree, Tr.do_ite, Tr.do_ret, ge_dec, Bool.false_eq_true, ↓reduceIte, id])
  rw [List.map_id''] at e
  · exact e
  · exact fun _ => rfl
theorem laws_toStore_f (a b c d : Int) : laws_toStore.f a b c d = some (a, b, c, d) := rfl
/-! Everything is equal to itself. -/
theorem laws_eqExpr_f (a b c : Int) : laws_eqExpr.f a b c a b c = some true := by
  simp [laws_eqExpr.f, laws_eqExpr.begin]
theorem laws_eqStmt_f (a b c d e f : Int) : laws_eqStmt.f a b c d e f a b c d e f = some true := by
  simp [laws_eqStmt.f, laws_eqStmt.begin, laws_eqExpr.told, laws_eqExpr_f]
theorem laws_eqStmtS_f (l : List S210) (hl : l.length ≤ 1048576) : laws_eqStmtS.f l l = some true := by
  simp only [laws_eqStmtS.f, laws_eqStmtS.begin, Tr.do_ite, Tr.do_jump, decide_true, Bool.not_true, Bool.false_eq_true, ↓reduceIte]
  refine same_loop l.length true (fun i => lp laws_eqStmtS.tree (.c4 l l (i : Int))) (fun i h => by
    rw [lp_eq]
    simp only [laws_eqStmtS.tree, Tr.do_ite, Tr.do_need, Tr.do_last, Tr.do_call, Tr.do_jump, laws_eqStmt.told, laws_eqStmt_f, bind_ok, lt_dec h, in_lt h, getD_lt h, and_self, decide_true, ↓reduceIte, Bool.not_true, Bool.false_eq_true, wr_next (show i < 4611686018427387904 by omega)]) (by
    rw [lp_eq]
    simp only [laws_eqStmtS.tree, Tr.do_ite, Tr.do_ret, ge_dec, Bool.false_eq_true, ↓reduceIte])
theorem laws_eqTask_f (l : List S210) (a b c : Int) (hl : l.length ≤ 1048576) : laws_eqTask.f l a b c l a b c = some true := by
  simp [laws_eqTask.f, laws_eqTask.begin, laws_eqStmtS.told, laws_eqStmtS_f l hl, laws_eqExpr.told, laws_eqExpr_f]
theorem laws_eqTaskS_f (l : List S166) (hl : l.length ≤ 1048576) (hs : ∀ t ∈ l, t.f0.length ≤ 1048576) : laws_eqTaskS.f l l = some true := by
  simp only [laws_eqTaskS.f, laws_eqTaskS.begin, Tr.do_ite, Tr.do_jump, decide_true, Bool.not_true, Bool.false_eq_true, ↓reduceIte]
  refine same_loop l.length true (fun i => lp laws_eqTaskS.tree (.c4 l l (i : Int))) (fun i h => by
    rw [lp_eq]
    simp only [laws_eqTaskS.tree, Tr.do_ite, Tr.do_need, Tr.do_last, Tr.do_call, Tr.do_jump, laws_eqTask.told, laws_eqTask_f _ _ _ _ (hs _ (List.getElem_mem h)), bind_ok, lt_dec h, in_lt h, getD_lt h, and_self, decide_true, ↓reduceIte, Bool.not_true, Bool.false_eq_true, wr_next (show i < 4611686018427387904 by omega)]) (by
    rw [lp_eq]
    simp only [laws_eqTaskS.tree, Tr.do_ite, Tr.do_ret, ge_dec, Bool.false_eq_true, ↓reduceIte])
theorem laws_eqProgram_f (l : List S166) (hl : l.length ≤ 1048576) (hs : ∀ t ∈ l, t.f0.length ≤ 1048576) : laws_eqProgram.f l l = some true := by
  simp [laws_eqProgram.f, laws_eqProgram.begin, laws_eqTaskS.told, laws_eqTaskS_f l hl hs]
theorem laws_eqIntS_f (l : List Int) (hl : l.length ≤ 1048576) : laws_eqIntS.f l l = some true := by
  simp only [laws_eqIntS.f, laws_eqIntS.begin, Tr.do_ite, Tr.do_jump, decide_true, Bool.not_true, Bool.false_eq_true, ↓reduceIte]
  refine same_loop l.length true (fun i => lp laws_eqIntS.tree (.c4 l l (i : Int))) (fun i h => by
    rw [lp_eq]
    simp only [laws_eqIntS.tree, Tr.do_ite, Tr.do_need, Tr.do_last, Tr.do_call, Tr.do_jump, bind_ok, lt_dec h, in_lt h, getD_lt h, and_self, decide_true, ↓reduceIte, decide_true, Bool.not_true, Bool.false_eq_true, wr_next (show i < 4611686018427387904 by omega)]) (by
    rw [lp_eq]
    simp only [laws_eqIntS.tree, Tr.do_ite, Tr.do_ret, ge_dec, Bool.false_eq_true, ↓reduceIte])
theorem laws_eqStore_f (a b c d : Int) : laws_eqStore.f a b c d a b c d = some true := by simp [laws_eqStore.f, laws_eqStore.begin]
theorem laws_eqSpan_f (a b : Int) : laws_eqSpan.f a b a b = some true := by simp [laws_eqSpan.f, laws_eqSpan.begin]
theorem laws_eqGateway_f (l : List Int) (hl : l.length ≤ 1048576) : laws_eqGateway.f l l = some true := by simp [laws_eqGateway.f, laws_eqGateway.begin, laws_eqIntS.told, laws_eqIntS_f l hl]
theorem laws_eqLink_f (a : Int) (l : List Int) (hl : l.length ≤ 1048576) : laws_eqLink.f a l a l = some true := by simp [laws_eqLink.f, laws_eqLink.begin, laws_eqGateway.told, laws_eqGateway_f l hl]
theorem laws_eqNode_f (p : List S166) (m r : List Int) (a3 a4 a5 a6 a7 a8 a9 a10 : Int) (h : List Int) (a12 : Int) (hp : p.length ≤ 1048576) (hs : ∀ t ∈ p, t.f0.length ≤ 1048576) (hm : m.length ≤ 1048576) (hr : r.length ≤ 1048576) (hh : h.length ≤ 1048576) :
    laws_eqNode.f p m r a3 a4 a5 a6 a7 a8 a9 a10 h a12 p m r a3 a4 a5 a6 a7 a8 a9 a10 h a12 = some true := by
  simp [laws_eqNode.f, laws_eqNode.begin, laws_eqProgram.told, laws_eqProgram_f p hp hs, laws_eqIntS.told, laws_eqIntS_f m hm, laws_eqIntS_f r hr, laws_eqStore.told, laws_eqStore_f, laws_eqSpan.told, laws_eqSpan_f, laws_eqLink.told, laws_eqLink_f _ h hh]
theorem getD_set {A : Type} {m : List A} {i : Nat} {v z : A} (h : i < m.length) : (m.set i v).getD ((i : Int)).toNat z = v := by
  rw [List.getD, Int.toNat_natCast, List.getElem?_set_self h]
  rfl
/-- A statement with numbers of its own. -/
def mkSt (k : Int) : S210 := ⟨k, k + 1, k + 1 + 1, (⟨k + 1 + 1 + 1, k + 1 + 1 + 1 + 1, k + 1 + 1 + 1 + 1 + 1⟩ : S153)⟩
def nextSt (k : Int) (_ : S210) : Int := k + 1 + 1 + 1 + 1 + 1 + 1
/-- Statements with numbers of their own. -/
def mkSts (k : Int) (l : List S210) : List S210 := mapS nextSt (fun k _ => mkSt k) k l
theorem fold_nextSt (l : List S210) (k : Int) : l.foldl nextSt k = k + 6 * l.length :=
  foldl_inv l nextSt (fun i s => s = k + 6 * i) k (by simp) (fun i h s hs => by unfold nextSt; omega)
theorem laws_markStmtS_f (k : Int) (l : List S210) (h0 : 0 ≤ k) (h1 : k + 6 * l.length ≤ 1099511627776) : laws_markStmtS.f k l = some (k + 6 * l.length, mkSts k l) := by
  simp only [laws_markStmtS.f, laws_markStmtS.begin, Tr.do_jump]
  have e := put_loop l nextSt (fun k _ => mkSt k) z210 (fun i s => s = k + 6 * i) (fun s m => (s, m)) (fun i s m => lp laws_markStmtS.tree (.c2 s (i : Int) m)) k (by simp) (fun i h s m hs hm hg => by
    refine ⟨?_, by unfold nextSt; omega⟩
    rw [lp_eq]
    have h2 : i < m.length := by omega
    have w1 : wr (s + 1) = s + 1 := wr_in (by omega)
    have w2 : wr (s + 1 + 1) = s + 1 + 1 := wr_in (by omega)
    have w3 : wr (s + 1 + 1 + 1) = s + 1 + 1 + 1 := wr_in (by omega)
    have w4 : wr (s + 1 + 1 + 1 + 1) = s + 1 + 1 + 1 + 1 := wr_in (by omega)
    have w5 : wr (s + 1 + 1 + 1 + 1 + 1) = s + 1 + 1 + 1 + 1 + 1 := wr_in (by omega)
    have w6 : wr (s + 1 + 1 + 1 + 1 + 1 + 1) = s + 1 + 1 + 1 + 1 + 1 + 1 := wr_in (by omega)
    have w7 : wr ((i : Int) + 1) = ((i + 1 : Nat) : Int) := wr_next (by omega)
    clear hs h0 h1
    simp only [laws_markStmtS.tree, Tr.do_ite, Tr.do_need, Tr.do_val, Tr.do_jump, List.length_set, lt_dec h2, in_lt h2, and_self, decide_true, ↓reduceIte, Int.toNat_natCast, List.set_set, hg, w1, w2, w3, w4, w5, w6, w7, List.getD, List.getElem?_set_self h2, List.getElem?_set_self, Option.getD_some, h2]
    rfl) (fun s m hs hm => by
    rw [lp_eq]
    simp only [laws_markStmtS.tree, Tr.do_ite, Tr.do_ret, hm, ge_dec, Bool.false_eq_true, ↓reduceIte])
  rw [fold_nextSt] at e
  exact e
theorem laws_heldStmtS_f (k : Int) (l : List S210) (h0 : 0 ≤ k) (h1 : k + 6 * l.length ≤ 1099511627776) : laws_heldStmtS.f (mkSts k l) k = some (k + 6 * l.length) := by
  simp only [laws_heldStmtS.f, laws_heldStmtS.begin, Tr.do_jump]
  have hlen : (mkSts k l).length = l.length := mapS_length _ _ _ _
  have e := held_loop l nextSt (fun k _ => mkSt k) z210 (fun i s => s = k + 6 * i) (fun s => s) k (fun i s => lp laws_heldStmtS.tree (.c2 (mkSts k l) s (i : Int))) (by simp) (fun i h s hs hg => by
    refine ⟨?_, by unfold nextSt; omega⟩
    rw [lp_eq]
    have h2 : i < (mkSts k l).length := by omega
    have w1 : wr (s + 1) = s + 1 := wr_in (by omega)
    have w2 : wr (s + 1 + 1) = s + 1 + 1 := wr_in (by omega)
    have w3 : wr (s + 1 + 1 + 1) = s + 1 + 1 + 1 := wr_in (by omega)
    have w4 : wr (s + 1 + 1 + 1 + 1) = s + 1 + 1 + 1 + 1 := wr_in (by omega)
    have w5 : wr (s + 1 + 1 + 1 + 1 + 1) = s + 1 + 1 + 1 + 1 + 1 := wr_in (by omega)
    have w6 : wr (s + 1 + 1 + 1 + 1 + 1 + 1) = s + 1 + 1 + 1 + 1 + 1 + 1 := wr_in (by omega)
    have w7 : wr ((i : Int) + 1) = ((i + 1 : Nat) : Int) := wr_next (by omega)
    clear hs h0 h1
    have hg' : rdS210 (mkSts k l) (i : Int) = mkSt s := hg
    simp only [laws_heldStmtS.tree, Tr.do_ite, Tr.do_need, Tr.do_val, Tr.do_jump, lt_dec h2, in_lt h2, and_self, decide_true, ↓reduceIte, hg', mkSt, w1, w2, w3, w4, w5, w6, w7, Bool.not_true, Bool.false_eq_true]
    rfl) (fun s hs => by
    rw [lp_eq]
    simp only [laws_heldStmtS.tree, Tr.do_ite, Tr.do_ret, hlen, ge_dec, Bool.false_eq_true, ↓reduceIte])
  rw [fold_nextSt] at e
  exact e
/-- The numbers that tasks take. -/
def wt (l : List S166) : Nat := (l.map fun t => 6 * t.f0.length + 3).sum
def nextTk (k : Int) (t : S166) : Int := k + 6 * t.f0.length + 1 + 1 + 1
def mkTk (k : Int) (t : S166) : S166 := ⟨mkSts k t.f0, (⟨k + 6 * t.f0.length, k + 6 * t.f0.length + 1, k + 6 * t.f0.length + 1 + 1⟩ : S153)⟩
/-- Tasks with numbers of their own. -/
def mkTks (k : Int) (l : List S166) : List S166 := mapS nextTk mkTk k l
theorem fold_nextTk : ∀ (l : List S166) (k : Int), l.foldl nextTk k = k + wt l
  | [], k => by simp [wt]
  | t :: l, k => by
    rw [List.foldl_cons, fold_nextTk l, nextTk, wt, wt, List.map_cons, List.sum_cons]
    omega
theorem wt_drop (l : List S166) (i : Nat) (h : i < l.length) : wt (l.drop i) = 6 * l[i].f0.length + 3 + wt (l.drop (i + 1)) := by
  rw [wt, wt, List.drop_eq_getElem_cons h, List.map_cons, List.sum_cons]
theorem laws_markTaskS_f (k : Int) (l : List S166) (hl : l.length ≤ 1048576) (h0 : 0 ≤ k) (h1 : k + wt l ≤ 1099511627776) : laws_markTaskS.f k l = some (k + wt l, mkTks k l) := by
  simp only [laws_markTaskS.f, laws_markTaskS.begin, Tr.do_jump]
  have e := put_loop l nextTk mkTk z166 (fun i s => 0 ≤ s ∧ s + wt (l.drop i) ≤ 1099511627776) (fun s m => (s, m)) (fun i s m => lp laws_markTaskS.tree (.c2 s (i : Int) m)) k ⟨h0, by simpa using h1⟩ (fun i h s m hs hm hg => by
    have hw := wt_drop l i h
    refine ⟨?_, by unfold nextTk; omega, by unfold nextTk; omega⟩
    rw [lp_eq]
    have h2 : i < m.length := by omega
    have hc := laws_markStmtS_f s l[i].f0 hs.1 (by omega)
    have w1 : wr (s + 6 * (l[i].f0.length : Int) + 1) = s + 6 * (l[i].f0.length : Int) + 1 := wr_in (by omega)
    have w2 : wr (s + 6 * (l[i].f0.length : Int) + 1 + 1) = s + 6 * (l[i].f0.length : Int) + 1 + 1 := wr_in (by omega)
    have w3 : wr (s + 6 * (l[i].f0.length : Int) + 1 + 1 + 1) = s + 6 * (l[i].f0.length : Int) + 1 + 1 + 1 := wr_in (by omega)
    have w7 : wr ((i : Int) + 1) = ((i + 1 : Nat) : Int) := wr_next (by omega)
    have hg' : rdS166 m (i : Int) = l[i] := hg
    clear hs h0 h1 hw hl
    simp only [laws_markTaskS.tree, Tr.do_ite, Tr.do_need, Tr.do_call, Tr.do_val, Tr.do_jump, laws_markStmtS.told, List.length_set, lt_dec h2, in_lt h2, and_self, decide_true, ↓reduceIte, Int.toNat_natCast, List.set_set, hg', hc, bind_ok, w1, w2, w3, w7, List.getD, List.getElem?_set_self h2, List.getElem?_set_self, Option.getD_some, h2]
    rfl) (fun s m hs hm => by
    rw [lp_eq]
    simp only [laws_markTaskS.tree, Tr.do_ite, Tr.do_ret, hm, ge_dec, Bool.false_eq_true, ↓reduceIte])
  rw [fold_nextTk] at e
  exact e
theorem laws_heldTaskS_f (k : Int) (l : List S166) (hl : l.length ≤ 1048576) (h0 : 0 ≤ k) (h1 : k + wt l ≤ 1099511627776) : laws_heldTaskS.f (mkTks k l) k = some (k + wt l) := by
  simp only [laws_heldTaskS.f, laws_heldTaskS.begin, Tr.do_jump]
  have hlen : (mkTks k l).length = l.length := mapS_length _ _ _ _
  have e := held_loop l nextTk mkTk z166 (fun i s => 0 ≤ s ∧ s + wt (l.drop i) ≤ 1099511627776) (fun s => s) k (fun i s => lp laws_heldTaskS.tree (.c2 (mkTks k l) s (i : Int))) ⟨h0, by simpa using h1⟩ (fun i h s hs hg => by
    have hw := wt_drop l i h
    refine ⟨?_, by unfold nextTk; omega, by unfold nextTk; omega⟩
    rw [lp_eq]
    have h2 : i < (mkTks k l).length := by omega
    have hc := laws_heldStmtS_f s l[i].f0 hs.1 (by omega)
    have hn : decide (s + 6 * (l[i].f0.length : Int) < 0) = false := decide_eq_false (by omega)
    have w1 : wr (s + 6 * (l[i].f0.length : Int) + 1) = s + 6 * (l[i].f0.length : Int) + 1 := wr_in (by omega)
    have w2 : wr (s + 6 * (l[i].f0.length : Int) + 1 + 1) = s + 6 * (l[i].f0.length : Int) + 1 + 1 := wr_in (by omega)
    have w3 : wr (s + 6 * (l[i].f0.length : Int) + 1 + 1 + 1) = s + 6 * (l[i].f0.length : Int) + 1 + 1 + 1 := wr_in (by omega)
    have w7 : wr ((i : Int) + 1) = ((i + 1 : Nat) : Int) := wr_next (by omega)
    have hg' : rdS166 (mkTks k l) (i : Int) = mkTk s l[i] := hg
    clear hs h0 h1 hw hl
    simp only [laws_heldTaskS.tree, Tr.do_ite, Tr.do_need, Tr.do_call, Tr.do_val, Tr.do_jump, laws_heldStmtS.told, lt_dec h2, in_lt h2, and_self, decide_true, ↓reduceIte, hg', mkTk, hc, hn, bind_ok, w1, w2, w3, w7, Bool.not_true, Bool.false_eq_true]
    rfl) (fun s hs => by
    rw [lp_eq]
    simp only [laws_heldTaskS.tree, Tr.do_ite, Tr.do_ret, hlen, ge_dec, Bool.false_eq_true, ↓reduceIte])
  rw [fold_nextTk] at e
  exact e
def nextI (k : Int) (_ : Int) : Int := k + 1
/-- A row of numbers. -/
def mkIs (k : Int) (l : List Int) : List Int := mapS nextI (fun k _ => k) k l
theorem fold_nextI (l : List Int) (k : Int) : l.foldl nextI k = k + l.length :=
  foldl_inv l nextI (fun i s => s = k + i) k (by simp) (fun i h s hs => by unfold nextI; omega)
theorem laws_markIntS_f (k : Int) (l : List Int) (h0 : 0 ≤ k) (h1 : k + l.length ≤ 1099511627776) : laws_markIntS.f k l = some (k + l.length, mkIs k l) := by
  simp only [laws_markIntS.f, laws_markIntS.begin, Tr.do_jump]
  have e := put_loop l nextI (fun k _ => k) 0 (fun i s => s = k + i) (fun s m => (s, m)) (fun i s m => lp laws_markIntS.tree (.c2 s (i : Int) m)) k (by simp) (fun i h s m hs hm hg => by
    refine ⟨?_, by unfold nextI; omega⟩
    rw [lp_eq]
    have h2 : i < m.length := by omega
    have w1 : wr (s + 1) = s + 1 := wr_in (by omega)
    have w7 : wr ((i : Int) + 1) = ((i + 1 : Nat) : Int) := wr_next (by omega)
    simp only [laws_markIntS.tree, Tr.do_ite, Tr.do_need, Tr.do_jump, lt_dec h2, in_lt h2, and_self, decide_true, ↓reduceIte, Int.toNat_natCast, w1, w7, nextI]) (fun s m hs hm => by
    rw [lp_eq]
    simp only [laws_markIntS.tree, Tr.do_ite, Tr.do_ret, hm, ge_dec, Bool.false_eq_true, ↓reduceIte])
  rw [fold_nextI] at e
  exact e
theorem laws_heldIntS_f (k : Int) (l : List Int) (h0 : 0 ≤ k) (h1 : k + l.length ≤ 1099511627776) : laws_heldIntS.f (mkIs k l) k = some (k + l.length) := by
  simp only [laws_heldIntS.f, laws_heldIntS.begin, Tr.do_jump]
  have hlen : (mkIs k l).length = l.length := mapS_length _ _ _ _
  have e := held_loop l nextI (fun k _ => k) 0 (fun i s => s = k + i) (fun s => s) k (fun i s => lp laws_heldIntS.tree (.c2 (mkIs k l) s (i : Int))) (by simp) (fun i h s hs hg => by
    refine ⟨?_, by unfold nextI; omega⟩
    rw [lp_eq]
    have h2 : i < (mkIs k l).length := by omega
    have w1 : wr (s + 1) = s + 1 := wr_in (by omega)
    have w7 : wr ((i : Int) + 1) = ((i + 1 : Nat) : Int) := wr_next (by omega)
    have hg' : rdI (mkIs k l) (i : Int) = s := hg
    simp only [laws_heldIntS.tree, Tr.do_ite, Tr.do_need, Tr.do_jump, lt_dec h2, in_lt h2, and_self, decide_true, ↓reduceIte, hg', w1, w7, Bool.not_true, Bool.false_eq_true, nextI]) (fun s hs => by
    rw [lp_eq]
    simp only [laws_heldIntS.tree, Tr.do_ite, Tr.do_ret, hlen, ge_dec, Bool.false_eq_true, ↓reduceIte])
  rw [fold_nextI] at e
  exact e
theorem laws_markNode_f (a0 a1 a2 a3 a4 a5 a6 a7 a8 : Int) (p : List S166) (m r h : List Int) (hp : p.length ≤ 1048576) (hw : wt p ≤ 100000000) (hm : m.length ≤ 1048576) (hr : r.length ≤ 1048576) (hh : h.length ≤ 1048576) :
    laws_markNode.f a0 a1 a2 a3 a4 a5 a6 a7 a8 1 p m r h = some (1 + (wt p : Int) + m.length + r.length + h.length, mkTks 1 p, mkIs (1 + wt p) m, mkIs (1 + wt p + m.length) r, mkIs (1 + wt p + m.length + r.length) h) := by
  simp [laws_markNode.f, laws_markNode.begin, laws_markProgram.told, laws_markProgram.f, laws_markProgram.begin, laws_markTaskS.told, laws_markTaskS_f 1 p hp (by omega) (by omega), laws_markIntS.told, laws_markIntS_f (1 + wt p) m (by omega) (by omega), laws_markIntS_f (1 + wt p + m.length) r (by omega) (by omega), laws_markLink.told, laws_markLink.f, laws_markLink.begin, laws_markGateway.told, laws_markGateway.f, laws_markGateway.begin, laws_markIntS_f (1 + wt p + m.length + r.length) h (by omega) (by omega)]
theorem laws_heldNode_f (a3 a4 a5 a6 a7 a8 a9 a10 a12 : Int) (p : List S166) (m r h : List Int) (hp : p.length ≤ 1048576) (hw : wt p ≤ 100000000) (hm : m.length ≤ 1048576) (hr : r.length ≤ 1048576) (hh : h.length ≤ 1048576) :
    laws_heldNode.f (mkTks 1 p) (mkIs (1 + wt p) m) (mkIs (1 + wt p + m.length) r) a3 a4 a5 a6 a7 a8 a9 a10 (mkIs (1 + wt p + m.length + r.length) h) a12 1 = some (1 + (wt p : Int) + m.length + r.length + h.length) := by
  have n1 : ¬ (1 + (wt p : Int) < 0) := by omega
  have n2 : ¬ (1 + (wt p : Int) + m.length < 0) := by omega
  have n3 : ¬ (1 + (wt p : Int) + m.length + r.length < 0) := by omega
  have n4 : ¬ (1 + (wt p : Int) + m.length + r.length + h.length < 0) := by omega
  simp only [laws_heldNode.f, laws_heldNode.begin, Tr.do_call, Tr.do_ite, Tr.do_ret, laws_heldProgram.told, laws_heldProgram.f, laws_heldProgram.begin, laws_heldTaskS.told, laws_heldTaskS_f 1 p hp (by omega) (by omega), laws_heldIntS.told, laws_heldIntS_f (1 + wt p) m (by omega) (by omega), laws_heldIntS_f (1 + wt p + m.length) r (by omega) (by omega), laws_heldLink.told, laws_heldLink.f, laws_heldLink.begin, laws_heldGateway.told, laws_heldGateway.f, laws_heldGateway.begin, laws_heldIntS_f (1 + wt p + m.length + r.length) h (by omega) (by omega), bind_ok, decide_eq_true_eq, n1, n2, n3, n4, ↓reduceIte]
def okX (a b c : Int) : Bool := inB a 1 7 && (inB b (-8) 999 && inB c (-8) 999)
theorem spec_ExprOk_f (a b c : Int) : spec_ExprOk.f a b c = some (okX a b c) := by
  simp only [spec_ExprOk.f, spec_ExprOk.begin, Tr.do_call, Tr.do_ite, Tr.do_ret, spec_l01In.told, spec_l01In_f, spec_OperandOk.told, spec_OperandOk.f, spec_OperandOk.begin, bind_ok, okX]
  cases inB a 1 7 <;> cases inB b (-8) 999 <;> rfl
theorem impl_ExprOk_f (a b c : Int) : impl_ExprOk.f a b c = some (okX a b c) := by
  simp only [impl_ExprOk.f, impl_ExprOk.begin, Tr.do_call, Tr.do_ite, Tr.do_ret, impl_within.told, impl_within_f, impl_OperandOk.told, impl_OperandOk.f, impl_OperandOk.begin, bind_ok, okX]
  cases inB a 1 7 <;> cases inB b (-8) 999 <;> rfl
/-- A valid statement. -/
def okSt (x0 x1 x2 x3 x4 x5 : Int) : Bool :=
  if x0 = 1 then decide (x2 = 0) && (inB x1 0 7 && okX x3 x4 x5)
  else if x0 = 2 then (decide (x3 = 0) && (decide (x4 = 0) && decide (x5 = 0))) && (inB x1 0 7 && inB x2 0 3)
  else if x0 = 3 ∨ x0 = 4 then decide (x1 = 0) && (decide (x2 = 0) && okX x3 x4 x5)
  else if x0 = 5 then decide (x1 = 0) && ((decide (x3 = 0) && (decide (x4 = 0) && decide (x5 = 0))) && inB x2 1 5)
  else if x0 = 6 then decide (x1 = 0) && (decide (x2 = 0) && (decide (x3 = 0) && (decide (x4 = 0) && decide (x5 = 0))))
  else false
theorem plain_c (a b c d e f g h i j k l : Int) : lp spec_l04Plain.tree (.c14 a b c d e f g h i j k l) = some (g, h, i, j, k, l) := by
  rw [lp_eq]
  rfl
theorem spec_StmtOk_f (x0 x1 x2 x3 x4 x5 : Int) : spec_StmtOk.f x0 x1 x2 x3 x4 x5 = some (okSt x0 x1 x2 x3 x4 x5) := by
  unfold okSt
  simp only [spec_StmtOk.f, spec_StmtOk.begin, spec_l04Plain.told, spec_l04Plain.f, spec_l04Plain.begin, Tr.do_call, Tr.do_ite, Tr.do_ret, Tr.do_last, Tr.do_val, Tr.do_jump, plain_c, spec_l01In.told, spec_l01In_f, spec_ExprOk.told, spec_ExprOk_f, bind_ok, decide_eq_true_eq]
  by_cases h1 : x0 = 1
  · simp only [h1, ↓reduceIte, bind_ok]
    by_cases h2 : x2 = 0 <;> cases inB x1 0 7 <;> simp [h2]
  by_cases h2 : x0 = 2
  · simp only [h2, ↓reduceIte, bind_ok]
    by_cases g3 : x3 = 0 <;> by_cases g4 : x4 = 0 <;> by_cases g5 : x5 = 0 <;> cases inB x1 0 7 <;> simp [g3, g4, g5]
  by_cases h3 : x0 = 3
  · simp only [h3, ↓reduceIte, bind_ok]
    by_cases g1 : x1 = 0 <;> by_cases g2 : x2 = 0 <;> simp [g1, g2]
  by_cases h4 : x0 = 4
  · simp only [h4, ↓reduceIte, bind_ok]
    by_cases g1 : x1 = 0 <;> by_cases g2 : x2 = 0 <;> simp [g1, g2]
  by_cases h5 : x0 = 5
  · simp only [h5, ↓reduceIte, bind_ok]
    by_cases g1 : x1 = 0 <;> by_cases g3 : x3 = 0 <;> by_cases g4 : x4 = 0 <;> by_cases g5 : x5 = 0 <;> simp [g1, g3, g4, g5]
  simp only [h1, h2, h3, h4, h5, ↓reduceIte, bind_ok, or_self]
  by_cases g1 : x1 = 0 <;> by_cases g2 : x2 = 0 <;> by_cases g3 : x3 = 0 <;> by_cases g4 : x4 = 0 <;> by_cases g5 : x5 = 0 <;> by_cases h6 : x0 = 6 <;> simp [g1, g2, g3, g4, g5, h6]
theorem impl_StmtOk_c5 (x0 x1 x2 x3 x4 x5 : Int) : lp impl_StmtOk.tree (.c5 x0 x1 x2 x3 x4 x5) = some (if x0 = 2 then inB x2 0 3 else if x0 = 5 then inB x2 1 5 else decide (x2 = 0)) := by
  rw [lp_eq]
  simp only [impl_StmtOk.tree, Tr.do_call, Tr.do_ite, Tr.do_ret, impl_isSensor.told, impl_isSensor.f, impl_isSensor.begin, impl_within.told, impl_within_f, bind_ok, decide_eq_true_eq]
  split
  · rfl
  · split <;> rfl
theorem impl_StmtOk_c3 (x0 x1 x2 x3 x4 x5 : Int) : lp impl_StmtOk.tree (.c3 x0 x1 x2 x3 x4 x5) = some (if x0 = 1 ∨ x0 = 3 ∨ x0 = 4 then okX x3 x4 x5 && decide (x2 = 0) else (decide (x3 = 0) && (decide (x4 = 0) && decide (x5 = 0))) && (if x0 = 2 then inB x2 0 3 else if x0 = 5 then inB x2 1 5 else decide (x2 = 0))) := by
  rw [lp_eq]
  simp only [impl_StmtOk.tree, Tr.do_call, Tr.do_ite, Tr.do_ret, Tr.do_val, Tr.do_jump, impl_hasExpr.told, impl_hasExpr.f, impl_hasExpr.begin, impl_ExprOk.told, impl_ExprOk_f, impl_StmtOk_c5, bind_ok, decide_eq_true_eq]
  by_cases h1 : x0 = 1
  · cases hx : okX x3 x4 x5 <;> simp [h1]
  by_cases h3 : x0 = 3
  · cases hx : okX x3 x4 x5 <;> simp [h3]
  by_cases h4 : x0 = 4
  · cases hx : okX x3 x4 x5 <;> simp [h4]
  by_cases g3 : x3 = 0 <;> by_cases g4 : x4 = 0 <;> by_cases g5 : x5 = 0 <;> simp [h1, h3, h4, g3, g4, g5]
theorem impl_StmtOk_f (x0 x1 x2 x3 x4 x5 : Int) : impl_StmtOk.f x0 x1 x2 x3 x4 x5 = some (okSt x0 x1 x2 x3 x4 x5) := by
  unfold okSt
  simp only [impl_StmtOk.f, impl_StmtOk.begin, Tr.do_call, Tr.do_ite, Tr.do_ret, Tr.do_val, Tr.do_jump, impl_hasVar.told, impl_hasVar.f, impl_hasVar.begin, impl_isVar.told, impl_isVar.f, impl_isVar.begin, impl_within.told, impl_within_f, impl_StmtOk_c3, bind_ok, decide_eq_true_eq]
  by_cases h1 : x0 = 1
  · subst h1
    rw [show inB 1 1 6 = true from rfl]
    cases inB x1 0 7 <;> cases okX x3 x4 x5 <;> simp
  by_cases h2 : x0 = 2
  · subst h2
    rw [show inB 2 1 6 = true from rfl]
    cases inB x1 0 7 <;> simp
  by_cases h3 : x0 = 3
  · subst h3
    rw [show inB 3 1 6 = true from rfl]
    by_cases g1 : x1 = 0 <;> cases okX x3 x4 x5 <;> simp [g1]
  by_cases h4 : x0 = 4
  · subst h4
    rw [show inB 4 1 6 = true from rfl]
    by_cases g1 : x1 = 0 <;> cases okX x3 x4 x5 <;> simp [g1]
  by_cases h5 : x0 = 5
  · subst h5
    rw [show inB 5 1 6 = true from rfl]
    by_cases g1 : x1 = 0 <;> simp [g1]
  by_cases h6 : x0 = 6
  · subst h6
    rw [show inB 6 1 6 = true from rfl]
    by_cases g1 : x1 = 0 <;> by_cases g2 : x2 = 0 <;> simp [g1, g2]
  · have hb : inB x0 1 6 = false := by
      unfold inB
      by_cases q : x0 ≥ 1
      · rw [decide_eq_true q, decide_eq_false (by omega)]
        rfl
      · rw [decide_eq_false q, Bool.false_and]
    simp [hb, h1, h2, h3, h4, h5, h6]
/-- The depth behind a statement. -/
def dep (x0 d : Int) : Int := if x0 = 4 ∨ x0 = 5 then d + 1 else if x0 = 6 then d - 1 else d
/-- Is a block valid from here on, at depth d? -/
def okB (n : Nat) : List S210 → Int → Bool
  | [], d => decide (d = 0) && decide ((n : Int) ≤ 24)
  | s :: l, d => okSt s.f0 s.f1 s.f2 s.f3.f0 s.f3.f1 s.f3.f2 && (inB (dep s.f0 d) 0 3 && okB n l (dep s.f0 d))
def stepB (d : Int) (s : S210) : Int ⊕ Bool := if okSt s.f0 s.f1 s.f2 s.f3.f0 s.f3.f1 s.f3.f2 = true then (if inB (dep s.f0 d) 0 3 = true then .inl (dep s.f0 d) else .inr false) else .inr false
theorem scan_okB (n : Nat) : ∀ (l : List S210) (d : Int), scan stepB (fun d => decide (d = 0) && decide ((n : Int) ≤ 24)) l d = okB n l d
  | [], d => rfl
  | s :: l, d => by
    unfold scan stepB okB
    cases okSt s.f0 s.f1 s.f2 s.f3.f0 s.f3.f1 s.f3.f2
    · rfl
    · cases inB (dep s.f0 d) 0 3
      · rfl
      · exact scan_okB n l _
theorem dep_wr {x d : Int} (h0 : 0 ≤ d) (h1 : d ≤ 3) : wr (d + 1) = d + 1 ∧ wr (d - 1) = d - 1 ∧ wr (d + 1 - 1) = d + 1 - 1 := ⟨wr_in (by omega), wr_in (by omega), wr_in (by omega)⟩
theorem inB_iff {x a b : Int} : inB x a b = true ↔ a ≤ x ∧ x ≤ b := by simp [inB]
theorem spec_BlockOk_f (l : List S210) (hl : l.length ≤ 1048576) : spec_BlockOk.f l = some (okB l.length l 0) := by
  simp only [spec_BlockOk.f, spec_BlockOk.begin, Tr.do_jump]
  rw [← scan_okB]
  refine scan_loop l stepB _ (fun _ d => 0 ≤ d ∧ d ≤ 3) (fun i d => lp spec_BlockOk.tree (.c3 l d (i : Int))) 0 ⟨by omega, by omega⟩ (fun i h d hd => ?_) (fun d hd => ?_)
  · obtain ⟨w1, w2, w3⟩ := dep_wr (x := d) hd.1 hd.2
    have w7 : wr ((i : Int) + 1) = ((i + 1 : Nat) : Int) := wr_next (by omega)
    have step : lp spec_BlockOk.tree (.c3 l d (i : Int)) = if okSt l[i].f0 l[i].f1 l[i].f2 l[i].f3.f0 l[i].f3.f1 l[i].f3.f2 = true then (if inB (dep l[i].f0 d) 0 3 = true then lp spec_BlockOk.tree (.c3 l (dep l[i].f0 d) ((i + 1 : Nat) : Int)) else some false) else some false := by
      rw [lp_eq]
      simp only [spec_BlockOk.tree, Tr.do_ite, Tr.do_need, Tr.do_call, Tr.do_ret, Tr.do_jump, spec_StmtOk.told, spec_StmtOk_f, spec_l01In.told, spec_l01In_f, getD_lt h, lt_dec h, in_lt h, and_self, decide_true, ↓reduceIte, bind_ok, w1, w2, w7]
      cases okSt l[i].f0 l[i].f1 l[i].f2 l[i].f3.f0 l[i].f3.f1 l[i].f3.f2
      · rfl
      · unfold dep
        by_cases h4 : l[i].f0 = 4
        · cases hb : inB (d + 1) 0 3 <;> simp [h4, hb]
        · by_cases h5 : l[i].f0 = 5
          · cases hb : inB (d + 1) 0 3 <;> simp [h4, h5, hb]
          · by_cases h6 : l[i].f0 = 6
            · cases hb : inB (d - 1) 0 3 <;> simp [h4, h5, h6, hb]
            · cases hb : inB d 0 3 <;> simp [h4, h5, h6, hb]
    rw [step]
    unfold stepB
    cases okSt l[i].f0 l[i].f1 l[i].f2 l[i].f3.f0 l[i].f3.f1 l[i].f3.f2
    · exact ⟨fun s' hs' => (by cases hs'), fun r hr => (by cases hr; rfl)⟩
    · cases hb : inB (dep l[i].f0 d) 0 3
      · exact ⟨fun s' hs' => (by cases hs'), fun r hr => (by cases hr; rfl)⟩
      · exact ⟨fun s' hs' => (by cases hs'; exact ⟨rfl, inB_iff.mp hb⟩), fun r hr => (by cases hr)⟩
  · rw [lp_eq]
    simp only [spec_BlockOk.tree, Tr.do_ite, Tr.do_ret, ge_dec, Bool.false_eq_true, ↓reduceIte]
    cases decide (d = 0) <;> rfl
theorem impl_BlockOk_f (l : List S210) (hl : l.length ≤ 1048576) : impl_BlockOk.f l = some (okB l.length l 0) := by
  simp only [impl_BlockOk.f, impl_BlockOk.begin, Tr.do_jump]
  rw [← scan_okB]
  refine scan_loop l stepB _ (fun _ d => 0 ≤ d ∧ d ≤ 3) (fun i d => lp impl_BlockOk.tree (.c3 l d l (List.length l : Int) (i : Int))) 0 ⟨by omega, by omega⟩ (fun i h d hd => ?_) (fun d hd => ?_)
  · obtain ⟨w1, w2, w3⟩ := dep_wr (x := d) hd.1 hd.2
    have w7 : wr ((i : Int) + 1) = ((i + 1 : Nat) : Int) := wr_next (by omega)
    have c12 : lp impl_BlockOk.tree .c12 = some false := by rw [lp_eq]; rfl
    have tst : ∀ (x : Int) (A : Option Bool), (if x < 0 then some false else if x > 3 then some false else A) = if inB x 0 3 = true then A else some false := fun x A => by
      by_cases q : x < 0
      · rw [if_pos q, if_neg (by rw [inB_iff]; omega)]
      · rw [if_neg q]
        by_cases q' : x > 3
        · rw [if_pos q', if_neg (by rw [inB_iff]; omega)]
        · rw [if_neg q', if_pos (by rw [inB_iff]; omega)]
    have step : lp impl_BlockOk.tree (.c3 l d l (List.length l : Int) (i : Int)) = if okSt l[i].f0 l[i].f1 l[i].f2 l[i].f3.f0 l[i].f3.f1 l[i].f3.f2 = true then (if inB (dep l[i].f0 d) 0 3 = true then lp impl_BlockOk.tree (.c3 l (dep l[i].f0 d) l (List.length l : Int) ((i + 1 : Nat) : Int)) else some false) else some false := by
      rw [lp_eq]
      simp only [impl_BlockOk.tree, Tr.do_ite, Tr.do_need, Tr.do_call, Tr.do_ret, Tr.do_jump, impl_StmtOk.told, impl_StmtOk_f, impl_isOpening.told, impl_isOpening.f, impl_isOpening.begin, c12, getD_lt h, lt_dec h, in_lt h, and_self, decide_true, ↓reduceIte, bind_ok, w1, w2, w3, w7, decide_eq_true_eq, tst]
      cases okSt l[i].f0 l[i].f1 l[i].f2 l[i].f3.f0 l[i].f3.f1 l[i].f3.f2
      · rfl
      · unfold dep
        by_cases h4 : l[i].f0 = 4
        · simp [h4]
        · by_cases h5 : l[i].f0 = 5
          · simp [h4, h5]
          · by_cases h6 : l[i].f0 = 6
            · simp [h4, h5, h6]
            · simp [h4, h5, h6]
    rw [step]
    unfold stepB
    cases okSt l[i].f0 l[i].f1 l[i].f2 l[i].f3.f0 l[i].f3.f1 l[i].f3.f2
    · exact ⟨fun s' hs' => (by cases hs'), fun r hr => (by cases hr; rfl)⟩
    · cases hb : inB (dep l[i].f0 d) 0 3
      · exact ⟨fun s' hs' => (by cases hs'), fun r hr => (by cases hr; rfl)⟩
      · exact ⟨fun s' hs' => (by cases hs'; exact ⟨rfl, inB_iff.mp hb⟩), fun r hr => (by cases hr)⟩
  · rw [lp_eq]
    simp only [impl_BlockOk.tree, Tr.do_ite, Tr.do_ret, ge_dec, Bool.false_eq_true, ↓reduceIte]
    cases decide (d = 0) <;> rfl
def isVal (x : Int) : Bool := inB x (-1000000) 1000000
theorem spec_IsValue_f (x : Int) : spec_IsValue.f x = some (isVal x) := by
  simp only [spec_IsValue.f, spec_IsValue.begin, Tr.do_call, Tr.do_ret, spec_l01In.told, spec_l01In_f, bind_ok, isVal]
theorem impl_IsValue_f (x : Int) : impl_IsValue.f x = some (isVal x) := by
  simp only [impl_IsValue.f, impl_IsValue.begin, Tr.do_call, Tr.do_ret, impl_within.told, impl_within_f, bind_ok, isVal]
theorem spec_l09Values_f (l : List Int) (hl : l.length ≤ 1048576) : spec_l09Values.f l = some (l.all isVal) := by
  simp only [spec_l09Values.f, spec_l09Values.begin, Tr.do_jump]
  have e := all_loop l isVal true (fun i => lp spec_l09Values.tree (.c2 l (i : Int))) (fun i h => by
    rw [lp_eq]
    simp only [spec_l09Values.tree, Tr.do_ite, Tr.do_need, Tr.do_call, Tr.do_ret, Tr.do_jump, spec_IsValue.told, spec_IsValue_f, bind_ok, getD_lt h, lt_dec h, in_lt h, and_self, decide_true, ↓reduceIte, wr_next (show i < 4611686018427387904 by omega)]
    cases isVal l[i] <;> rfl) (by
    rw [lp_eq]
    simp only [spec_l09Values.tree, Tr.do_ite, Tr.do_ret, ge_dec, Bool.false_eq_true, ↓reduceIte])
  rw [Bool.and_true] at e
  exact e
theorem any_not {A : Type} (l : List A) (p : A → Bool) : (!(l.any fun x => !p x)) = l.all p := by
  induction l with
  | nil => rfl
  | cons a l ih => rw [List.any_cons, List.all_cons, ← ih]; cases p a <;> simp
theorem impl_areValues_f (l : List Int) (hl : l.length ≤ 1048576) : impl_areValues.f l = some (l.all isVal) := by
  obtain ⟨r, hr, hd⟩ := find_loop l (fun x => !isVal x) (fun i => lp slices_IndexFunc_int_areValues_1.tree (.c2 l (List.length l : Int) (i : Int))) (fun i h => by
    rw [lp_eq]
    simp only [slices_IndexFunc_int_areValues_1.tree, Tr.do_ite, Tr.do_need, Tr.do_call, Tr.do_ret, Tr.do_jump, impl_areValues_1.told, impl_areValues_1.f, impl_areValues_1.begin, impl_IsValue.told, impl_IsValue_f, bind_ok, getD_lt h, lt_dec h, in_lt h, and_self, decide_true, ↓reduceIte, wr_next (show i < 4611686018427387904 by omega)]) (by
    rw [lp_eq]
    simp only [slices_IndexFunc_int_areValues_1.tree, Tr.do_ite, Tr.do_ret, ge_dec, Bool.false_eq_true, ↓reduceIte])
  have hr' : lp slices_IndexFunc_int_areValues_1.tree (.c2 l (List.length l : Int) 0) = some r := hr
  simp only [impl_areValues.f, impl_areValues.begin, Tr.do_call, Tr.do_ret, slices_ContainsFunc_int_areValues_1.told, slices_ContainsFunc_int_areValues_1.f, slices_ContainsFunc_int_areValues_1.begin, slices_IndexFunc_int_areValues_1.told, slices_IndexFunc_int_areValues_1.f, slices_IndexFunc_int_areValues_1.begin, Tr.do_jump, hr', bind_ok, hd, any_not]
theorem fits {A B : Type} (l : List A) (m : List B) (hl : l.length ≤ 1048576) (hm : m.length ≤ 1048576) (k : Nat) (hk : k ≤ 1000) : ((l.length : Int) + (m.length : Int)) * (k : Nat) ≤ room := by
  unfold room
  have h1 : ((l.length : Int) + (m.length : Int)) * (k : Int) ≤ 2097152 * (k : Int) := Int.mul_le_mul_of_nonneg_right (by omega) (by omega)
  omega
theorem slices_Clone_int_f (l : List Int) (hl : l.length ≤ 1048576) : slices_Clone_int.f l = some l := by
  simp only [slices_Clone_int.f, slices_Clone_int.begin, Tr.do_nilq, Tr.do_ret, Tr.do_need, fits ([] : List Int) l (by simp) hl 8 (by omega), ↓reduceIte, List.nil_append]
  cases l <;> simp
theorem slices_Clone_impl_Stmt_f (l : List S210) (hl : l.length ≤ 1048576) : slices_Clone_impl_Stmt.f l = some l := by
  simp only [slices_Clone_impl_Stmt.f, slices_Clone_impl_Stmt.begin, Tr.do_nilq, Tr.do_ret, Tr.do_need, fits ([] : List S210) l (by simp) hl 48 (by omega), ↓reduceIte, List.nil_append]
  cases l <;> simp
def memNew (l : List Int) : List Int × Bool := if (l.all isVal && decide ((l.length : Int) = 8)) = true then (l ++ List.replicate 41 0, true) else ([], false)
def okT (t : S166) : Bool := okB t.f0.length t.f0 0 && okX t.f1.f0 t.f1.f1 t.f1.f2
def okP (l : List S166) : Bool := l.all okT && inB (l.length : Int) 1 6
theorem spec_ProgramOk_f (l : List S166) (hl : l.length ≤ 1048576) (hs : ∀ t ∈ l, t.f0.length ≤ 1048576) : spec_ProgramOk.f l = some (okP l) := by
  simp only [spec_ProgramOk.f, spec_ProgramOk.begin, Tr.do_jump]
  refine all_loop l okT _ (fun i => lp spec_ProgramOk.tree (.c2 l (i : Int))) (fun i h => ?_) ?_
  · rw [lp_eq]
    simp only [spec_ProgramOk.tree, Tr.do_ite, Tr.do_need, Tr.do_call, Tr.do_ret, Tr.do_jump, spec_BlockOk.told, spec_BlockOk_f _ (hs _ (List.getElem_mem h)), spec_ExprOk.told, spec_ExprOk_f, bind_ok, getD_lt h, lt_dec h, in_lt h, and_self, decide_true, ↓reduceIte, wr_next (show i < 4611686018427387904 by omega), okT]
    rcases Bool.eq_false_or_eq_true (okB l[i].f0.length l[i].f0 0) with q | q <;> rcases Bool.eq_false_or_eq_true (okX l[i].f1.f0 l[i].f1.f1 l[i].f1.f2) with q' | q' <;> simp [q, q']
  · rw [lp_eq]
    simp only [spec_ProgramOk.tree, Tr.do_ite, Tr.do_call, Tr.do_ret, spec_l01In.told, spec_l01In_f, bind_ok, ge_dec, Bool.false_eq_true, ↓reduceIte]
theorem impl_ProgramOk_f (l : List S166) (hl : l.length ≤ 1048576) (hs : ∀ t ∈ l, t.f0.length ≤ 1048576) : impl_ProgramOk.f l = some (okP l) := by
  obtain ⟨r, hr, hd⟩ := find_loop l (fun x => !okT x) (fun i => lp slices_IndexFunc_impl_Task_ProgramOk_1.tree (.c2 l (List.length l : Int) (i : Int))) (fun i h => by
    rw [lp_eq]
    simp only [slices_IndexFunc_impl_Task_ProgramOk_1.tree, Tr.do_ite, Tr.do_need, Tr.do_call, Tr.do_ret, Tr.do_jump, impl_ProgramOk_1.told, impl_ProgramOk_1.f, impl_ProgramOk_1.begin, impl_taskOk.told, impl_taskOk.f, impl_taskOk.begin, impl_BlockOk.told, impl_BlockOk_f _ (hs _ (List.getElem_mem h)), impl_ExprOk.told, impl_ExprOk_f, bind_ok, getD_lt h, lt_dec h, in_lt h, and_self, decide_true, ↓reduceIte, wr_next (show i < 4611686018427387904 by omega), okT]
    rcases Bool.eq_false_or_eq_true (okB l[i].f0.length l[i].f0 0) with q | q <;> rcases Bool.eq_false_or_eq_true (okX l[i].f1.f0 l[i].f1.f1 l[i].f1.f2) with q' | q' <;> simp [q, q']) (by
    rw [lp_eq]
    simp only [slices_IndexFunc_impl_Task_ProgramOk_1.tree, Tr.do_ite, Tr.do_ret, ge_dec, Bool.false_eq_true, ↓reduceIte])
  have hr' : lp slices_IndexFunc_impl_Task_ProgramOk_1.tree (.c2 l (List.length l : Int) 0) = some r := hr
  simp only [impl_ProgramOk.f, impl_ProgramOk.begin, Tr.do_call, Tr.do_ite, Tr.do_ret, impl_within.told, impl_within_f, slices_ContainsFunc_impl_Task_ProgramOk_1.told, slices_ContainsFunc_impl_Task_ProgramOk_1.f, slices_ContainsFunc_impl_Task_ProgramOk_1.begin, slices_IndexFunc_impl_Task_ProgramOk_1.told, slices_IndexFunc_impl_Task_ProgramOk_1.f, slices_IndexFunc_impl_Task_ProgramOk_1.begin, Tr.do_jump, hr', bind_ok, hd, any_not, okP]
  cases inB (l.length : Int) 1 6 <;> simp
def okStore (a b c d : Int) : Bool := inB b 1 5000 && (inB a 0 b && (inB c 1 b && inB d 0 100))
theorem spec_StoreOk_f (a b c d : Int) : spec_StoreOk.f a b c d = some (okStore a b c d) := by
  simp only [spec_StoreOk.f, spec_StoreOk.begin, Tr.do_call, Tr.do_ite, Tr.do_ret, spec_l01In.told, spec_l01In_f, bind_ok, okStore]
  cases inB b 1 5000 <;> cases inB a 0 b <;> cases inB c 1 b <;> rfl
theorem impl_StoreOk_f (a b c d : Int) : impl_StoreOk.f a b c d = some (okStore a b c d) := by
  simp only [impl_StoreOk.f, impl_StoreOk.begin, Tr.do_call, Tr.do_ite, Tr.do_ret, impl_within.told, impl_within_f, bind_ok, okStore]
  cases inB b 1 5000 <;> cases inB a 0 b <;> cases inB c 1 b <;> rfl
theorem spec_l06Copy_f (l : List S166) (hl : l.length ≤ 1048576) (hs : ∀ t ∈ l, t.f0.length ≤ 1048576) : spec_l06Copy.f l = some l := by
  simp only [spec_l06Copy.f, spec_l06Copy.begin, Tr.do_jump]
  have e := app_loop l (fun t : S166 => t) id (fun i s => lp spec_l06Copy.tree (.c3 l [] s (i : Int))) [] (fun i h => by
    rw [lp_eq]
    have hr : rdS166 l (i : Int) = l[i] := getD_lt h
    have hin := in_lt h
    have hlt := lt_dec h
    have h1 : (([] : List S210).length + (l[i].f0.length : Int)) * (48 : Nat) ≤ room := fits [] l[i].f0 (by simp) (hs _ (List.getElem_mem h)) 48 (by omega)
    have h2 : ∀ t : S166, ((([] ++ (l.take i).map (fun t : S166 => t)).length : Int) + (([t] : List S166).length : Int)) * (48 : Nat) ≤ room := fun t => fits _ [t] (by simp; omega) (by simp) 48 (by omega)
    generalize ([] ++ (l.take i).map (fun t : S166 => t)) = acc at h2 ⊢
    have c4 : ∀ s, lp spec_l06Copy.tree (.c4 l [] s (i : Int)) = lp spec_l06Copy.tree (.c3 l [] s ((i + 1 : Nat) : Int)) := fun s => by
      rw [lp_eq]
      simp only [spec_l06Copy.tree, Tr.do_jump, wr_next (show i < 4611686018427387904 by omega)]
    simp only [spec_l06Copy.tree, Tr.do_ite, Tr.do_need, Tr.do_both, Tr.do_last, Tr.do_val, Tr.do_jump, hr, hin, hlt, and_self, decide_true, ↓reduceIte, h1, h2, c4, List.nil_append, both_same]) (fun s => by
    rw [lp_eq]
    simp only [spec_l06Copy.tree, Tr.do_ite, Tr.do_ret, ge_dec, Bool.false_eq_true, ↓reduceIte, id])
  rw [List.map_id''] at e
  · exact e
  · exact fun _ => rfl
theorem impl_copyProgram_f (l : List S166) (hl : l.length ≤ 1048576) (hs : ∀ t ∈ l, t.f0.length ≤ 1048576) : impl_copyProgram.f l = some l := by
  simp only [impl_copyProgram.f, impl_copyProgram.begin, Tr.do_jump]
  have e := app_loop l (fun t : S166 => t) id (fun i s => lp impl_copyProgram.tree (.c3 [] s l (List.length l : Int) (i : Int))) [] (fun i h => by
    rw [lp_eq]
    have hr : rdS166 l (i : Int) = l[i] := getD_lt h
    have hin := in_lt h
    have hlt := lt_dec h
    have h2 : ∀ t : S166, ((([] ++ (l.take i).map (fun t : S166 => t)).length : Int) + (([t] : List S166).length : Int)) * (48 : Nat) ≤ room := fun t => fits _ [t] (by simp; omega) (by simp) 48 (by omega)
    generalize ([] ++ (l.take i).map (fun t : S166 => t)) = acc at h2 ⊢
    simp only [impl_copyProgram.tree, Tr.do_ite, Tr.do_need, Tr.do_both, Tr.do_last, Tr.do_call, Tr.do_ret, Tr.do_jump, impl_copyTask.told, impl_copyTask.f, impl_copyTask.begin, slices_Clone_impl_Stmt.told, slices_Clone_impl_Stmt_f _ (hs _ (List.getElem_mem h)), bind_ok, hr, hin, hlt, and_self, decide_true, ↓reduceIte, h2, both_same, wr_next (show i < 4611686018427387904 by omega)]) (fun s => by
    rw [lp_eq]
    simp only [impl_copyProgram.tree, Tr.do_ite, Tr.do_ret, ge_dec, Bool.false_eq_true, ↓reduceIte, id])
  rw [List.map_id''] at e
  · exact e
  · exact fun _ => rfl
/-- A new node, and whether there is one. -/
def nodeNew (p : List S166) (m r : List Int) (a b c d : Int) : List S166 × List Int × List Int × Int × Int × Int × Int × Int × Int × Int × Int × List Int × Int × Bool :=
  if (memNew m).2 = true then (if okP p = true then (if okStore a b c d = true then (if r.all isVal = true then (p, (memNew m).1, r, 0, a, b, c, d, 0, 0, 0, [], 0, true)
  else ([], [], [], 0, 0, 0, 0, 0, 0, 0, 0, [], 0, false)) else ([], [], [], 0, 0, 0, 0, 0, 0, 0, 0, [], 0, false)) else ([], [], [], 0, 0, 0, 0, 0, 0, 0, 0, [], 0, false)) else ([], [], [], 0, 0, 0, 0, 0, 0, 0, 0, [], 0, false)
theorem nodeNew_sizes (p : List S166) (m r : List Int) (a b c d : Int) (hp : p.length ≤ 1048576) (hs : ∀ t ∈ p, t.f0.length ≤ 1048576) (hw : wt p ≤ 100000000) (hr : r.length ≤ 1048576) :
    (nodeNew p m r a b c d).1.length ≤ 1048576 ∧ (∀ t ∈ (nodeNew p m r a b c d).1, t.f0.length ≤ 1048576) ∧ wt (nodeNew p m r a b c d).1 ≤ 100000000 ∧ (nodeNew p m r a b c d).2.1.length ≤ 1048576 ∧ (nodeNew p m r a b c d).2.2.1.length ≤ 1048576 ∧ (nodeNew p m r a b c d).2.2.2.2.2.2.2.2.2.2.2.1.length ≤ 1048576 := by
  have hz : wt ([] : List S166) ≤ 100000000 := by simp [wt]
  have hn : (memNew m).1.length ≤ 1048576 := by
    unfold memNew
    split
    · rename_i h
      rw [Bool.and_eq_true] at h
      have := of_decide_eq_true h.2
      rw [List.length_append, List.length_replicate]
      omega
    · simp
  unfold nodeNew
  split
  · split
    · split
      · split
        · exact ⟨hp, hs, hw, hn, hr, by simp⟩
        · exact ⟨by simp, by simp, hz, by simp, by simp, by simp⟩
      · exact ⟨by simp, by simp, hz, by simp, by simp, by simp⟩
    · exact ⟨by simp, by simp, hz, by simp, by simp, by simp⟩
  · exact ⟨by simp, by simp, hz, by simp, by simp, by simp⟩
/-- What the sizes say. -/
theorem tot_le (l : List S172) (n : Nat) (h : tot l ≤ n) : l.length ≤ n ∧ (∀ t ∈ l, t.f0.length ≤ n) ∧ wt (l.map toTk) ≤ 6 * n := by
  have key : ∀ l : List S172, (∀ t ∈ l, t.f0.length ≤ (l.map fun t => t.f0.length).sum) ∧ wt (l.map toTk) = 6 * (l.map fun t => t.f0.length).sum + 3 * l.length := by
    intro l
    induction l with
    | nil => exact ⟨by simp, rfl⟩
    | cons t l ih =>
      refine ⟨fun u hu => ?_, ?_⟩
      · rw [List.map_cons, List.sum_cons]
        rcases List.mem_cons.mp hu with rfl | hu
        · omega
        · have := ih.1 u hu
          omega
      · have h2 := ih.2
        unfold wt at h2 ⊢
        rw [List.map_cons, List.map_cons, List.sum_cons, h2, List.map_cons, List.sum_cons, List.length_cons]
        show 6 * (t.f0.map toSt).length + 3 + _ = _
        rw [List.length_map]
        omega
  obtain ⟨h1, h2⟩ := key l
  unfold tot at h
  exact ⟨by omega, fun t ht => by have := h1 t ht; omega, by omega⟩
/-- The control word of three numbers. -/
def pack (a b c : Int) : Int := if (inB a 0 5 && (inB b 0 8 && inB c 0 24)) = true then a + 8 * (b + 16 * c) else -1
theorem pack_wr (a b c : Int) (h : (inB a 0 5 && (inB b 0 8 && inB c 0 24)) = true) : wr (a + wr (8 * wr (b + wr (16 * c)))) = a + 8 * (b + 16 * c) := by
  rw [Bool.and_eq_true, Bool.and_eq_true, inB_iff, inB_iff, inB_iff] at h
  have w1 : wr (16 * c) = 16 * c := wr_in (by omega)
  have w2 : wr (b + 16 * c) = b + 16 * c := wr_in (by omega)
  have w3 : wr (8 * (b + 16 * c)) = 8 * (b + 16 * c) := wr_in (by omega)
  have w4 : wr (a + 8 * (b + 16 * c)) = a + 8 * (b + 16 * c) := wr_in (by omega)
  rw [w1, w2, w3, w4]
theorem pack_le (a b c : Int) : pack a b c ≤ 3141 := by
  unfold pack
  split
  · rename_i h
    rw [Bool.and_eq_true, Bool.and_eq_true, inB_iff, inB_iff, inB_iff] at h
    omega
  · omega
theorem spec_PackControl_f (a b c : Int) : spec_PackControl.f a b c = some (pack a b c) := by
  simp only [spec_PackControl.f, spec_PackControl.begin, Tr.do_call, Tr.do_ite, Tr.do_ret, spec_l01In.told, spec_l01In_f, bind_ok]
  have h := pack_wr a b c
  unfold pack
  by_cases q : (inB a 0 5 && (inB b 0 8 && inB c 0 24)) = true
  · rw [h q]
    rw [Bool.and_eq_true, Bool.and_eq_true] at q
    simp [q.1, q.2.1, q.2.2]
  · clear h
    cases qa : inB a 0 5 <;> cases qb : inB b 0 8 <;> cases qc : inB c 0 24 <;> simp_all
theorem impl_PackControl_f (a b c : Int) : impl_PackControl.f a b c = some (pack a b c) := by
  simp only [impl_PackControl.f, impl_PackControl.begin, Tr.do_call, Tr.do_ite, Tr.do_ret, impl_within.told, impl_within_f, bind_ok]
  have h := pack_wr a b c
  unfold pack
  by_cases q : (inB a 0 5 && (inB b 0 8 && inB c 0 24)) = true
  · rw [h q]
    rw [Bool.and_eq_true, Bool.and_eq_true] at q
    simp [q.1, q.2.1, q.2.2]
  · clear h
    cases qa : inB a 0 5 <;> cases qb : inB b 0 8 <;> cases qc : inB c 0 24 <;> simp_all
/-- The three numbers of a control word. -/
def unpack (c : Int) : Int × Int × Int :=
  if c < 0 then (-1, -1, -1) else if pack (Int.tmod c 8) (Int.tmod (wr (Int.tdiv c 8)) 16) (wr (Int.tdiv c 128)) = c then (Int.tmod c 8, Int.tmod (wr (Int.tdiv c 8)) 16, wr (Int.tdiv c 128)) else (-1, -1, -1)
theorem spec_UnpackControl_f (c : Int) : spec_UnpackControl.f c = some (unpack c) := by
  simp only [spec_UnpackControl.f, spec_UnpackControl.begin, Tr.do_call, Tr.do_ite, Tr.do_need, Tr.do_ret, spec_PackControl.told, spec_PackControl_f, bind_ok, unpack, decide_eq_true_eq]
  by_cases h : c < 0
  · rw [if_pos h, if_pos h]
  rw [if_neg h, if_neg h]
  by_cases h2 : c > 100000
  · have := pack_le (Int.tmod c 8) (Int.tmod (wr (Int.tdiv c 8)) 16) (wr (Int.tdiv c 128))
    rw [if_pos h2, if_neg (by omega)]
  rw [if_neg h2]
  by_cases q : pack (Int.tmod c 8) (Int.tmod (wr (Int.tdiv c 8)) 16) (wr (Int.tdiv c 128)) = c <;> simp [q]
theorem impl_UnpackControl_f (c : Int) : impl_UnpackControl.f c = some (unpack c) := by
  simp only [impl_UnpackControl.f, impl_UnpackControl.begin, Tr.do_call, Tr.do_ite, Tr.do_need, Tr.do_ret, impl_PackControl.told, impl_PackControl_f, bind_ok, unpack, decide_eq_true_eq]
  by_cases h : c < 0
  · simp [h]
  by_cases q : pack (Int.tmod c 8) (Int.tmod (wr (Int.tdiv c 8)) 16) (wr (Int.tdiv c 128)) = c <;> simp [q, h]
theorem unpack_in (c : Int) : unpack c = (-1, -1, -1) ∨ (0 ≤ (unpack c).1 ∧ (unpack c).1 ≤ 5 ∧ 0 ≤ (unpack c).2.1 ∧ (unpack c).2.1 ≤ 8 ∧ 0 ≤ (unpack c).2.2 ∧ (unpack c).2.2 ≤ 24) := by
  unfold unpack
  split
  · exact .inl rfl
  split
  · rename_i h q
    right
    unfold pack at q
    split at q
    · rename_i p
      rw [Bool.and_eq_true, Bool.and_eq_true, inB_iff, inB_iff, inB_iff] at p
      exact ⟨p.1.1, p.1.2, p.2.1.1, p.2.1.2, p.2.2.1, p.2.2.2⟩
    · omega
  · exact .inl rfl
def okPair (m : List Int) (i : Nat) : Bool := inB (rdI m (9 + 2 * (i : Int))) 0 7 && isVal (rdI m (9 + 2 * (i : Int) + 1))
theorem pair_facts (m : List Int) (hm : m.length = 49) (i n : Nat) (h : i < n) (hn : n ≤ 8) :
    wr (2 * (i : Int)) = 2 * (i : Int) ∧ wr (9 + 2 * (i : Int)) = 9 + 2 * (i : Int) ∧ wr (9 + 2 * (i : Int) + 1) = 9 + 2 * (i : Int) + 1 ∧ ((0 : Int) ≤ 9 + 2 * (i : Int) ∧ 9 + 2 * (i : Int) < (m.length : Int)) ∧ ((0 : Int) ≤ 9 + 2 * (i : Int) + 1 ∧ 9 + 2 * (i : Int) + 1 < (m.length : Int)) ∧ wr ((i : Int) + 1) = ((i + 1 : Nat) : Int) :=
  ⟨wr_in (by omega), wr_in (by omega), wr_in (by omega), by omega, by omega, wr_next (by omega)⟩
theorem spec_MemOk_c7 (m : List Int) (hm : m.length = 49) (n : Nat) (hn : n ≤ 8) : lp spec_MemOk.tree (.c7 m (n : Int) 0) = some ((List.range n).all (okPair m)) := by
  have e := all_loop (List.range n) (okPair m) true (fun i => lp spec_MemOk.tree (.c7 m (n : Int) (i : Int))) (fun i h => by
    rw [List.length_range] at h
    obtain ⟨w1, w2, w3, n1, n2, w4⟩ := pair_facts m hm i n h hn
    rw [lp_eq, List.getElem_range]
    simp only [spec_MemOk.tree, Tr.do_ite, Tr.do_need, Tr.do_call, Tr.do_ret, Tr.do_jump, w1, w2, w3, w4, n1, n2, lt_dec h, and_self, ↓reduceIte, spec_l01In.told, spec_l01In_f, spec_IsValue.told, spec_IsValue_f, bind_ok, okPair]
    rcases Bool.eq_false_or_eq_true (inB (rdI m (9 + 2 * (i : Int))) 0 7) with q | q <;> rcases Bool.eq_false_or_eq_true (isVal (rdI m (9 + 2 * (i : Int) + 1))) with q' | q' <;> simp only [q, q', Bool.not_true, Bool.not_false, Bool.and_self, Bool.and_true, Bool.and_false, Bool.false_eq_true, ↓reduceIte]) (by
    rw [lp_eq, List.length_range]
    simp only [spec_MemOk.tree, Tr.do_ite, Tr.do_ret, ge_dec, Bool.false_eq_true, ↓reduceIte])
  rw [Bool.and_true] at e
  exact e
theorem impl_MemOk_c7 (m : List Int) (hm : m.length = 49) (n : Nat) (hn : n ≤ 8) : lp impl_MemOk.tree (.c7 m (n : Int) 0) = some ((List.range n).all (okPair m)) := by
  have e := all_loop (List.range n) (okPair m) true (fun i => lp impl_MemOk.tree (.c7 m (n : Int) (i : Int))) (fun i h => by
    rw [List.length_range] at h
    obtain ⟨w1, w2, w3, n1, n2, w4⟩ := pair_facts m hm i n h hn
    rw [lp_eq, List.getElem_range]
    simp only [impl_MemOk.tree, Tr.do_ite, Tr.do_need, Tr.do_call, Tr.do_ret, Tr.do_jump, w1, w2, w3, w4, n1, n2, lt_dec h, and_self, ↓reduceIte, impl_isVar.told, impl_isVar.f, impl_isVar.begin, impl_within.told, impl_within_f, impl_IsValue.told, impl_IsValue_f, bind_ok, okPair]
    rcases Bool.eq_false_or_eq_true (inB (rdI m (9 + 2 * (i : Int))) 0 7) with q | q <;> rcases Bool.eq_false_or_eq_true (isVal (rdI m (9 + 2 * (i : Int) + 1))) with q' | q' <;> simp only [q, q', Bool.not_true, Bool.not_false, Bool.and_self, Bool.and_true, Bool.and_false, Bool.false_eq_true, ↓reduceIte]) (by
    rw [lp_eq, List.length_range]
    simp only [impl_MemOk.tree, Tr.do_ite, Tr.do_ret, ge_dec, Bool.false_eq_true, ↓reduceIte])
  rw [Bool.and_true] at e
  exact e
/-- What has been sent. -/
def sent (m : List Int) : List Int := (m.take (Int.toNat (25 + (unpack (rdI m 8)).2.2))).drop 25
/-- A valid memory of a program with n tasks. -/
def okMem (n : Nat) (m : List Int) : Bool :=
  decide (m.length = 49) && (!decide ((unpack (rdI m 8)).1 < 0) && (!decide ((unpack (rdI m 8)).1 ≥ (n : Int)) && ((m.take 8).all isVal && ((sent m).all isVal && (List.range (Int.toNat (unpack (rdI m 8)).2.1)).all (okPair m)))))
theorem sent_len (m : List Int) : (sent m).length ≤ m.length := by
  unfold sent
  rw [List.length_drop, List.length_take]
  omega
theorem unpack_bad {c : Int} (h : (unpack c).1 < 0) : unpack c = (-1, -1, -1) := by
  rcases unpack_in c with e | e
  · exact e
  · omega
theorem unpack_good {c : Int} (h : ¬ (unpack c).1 < 0) : 0 ≤ (unpack c).1 ∧ (unpack c).1 ≤ 5 ∧ 0 ≤ (unpack c).2.1 ∧ (unpack c).2.1 ≤ 8 ∧ 0 ≤ (unpack c).2.2 ∧ (unpack c).2.2 ≤ 24 := by
  rcases unpack_in c with e | e
  · rw [e] at h
    exact absurd (by decide) h
  · exact e
theorem memok_facts (m : List Int) (hm : m.length = 49) (h : ¬ (unpack (rdI m 8)).1 < 0) :
    wr (25 + (unpack (rdI m 8)).2.2) = 25 + (unpack (rdI m 8)).2.2 ∧ ((0 : Int) ≤ 25 ∧ (25 : Int) ≤ 25 + (unpack (rdI m 8)).2.2 ∧ 25 + (unpack (rdI m 8)).2.2 ≤ (m.length : Int)) ∧ ∃ n : Nat, (unpack (rdI m 8)).2.1 = (n : Int) ∧ n ≤ 8 := by
  obtain ⟨a, b, c, d, e, f⟩ := unpack_good h
  exact ⟨wr_in (by omega), ⟨by omega, by omega, by omega⟩, (unpack (rdI m 8)).2.1.toNat, by omega, by omega⟩
theorem spec_MemOk_f (p : List S166) (m : List Int) (hp : p.length ≤ 1048576) (hs : ∀ t ∈ p, t.f0.length ≤ 1048576) : spec_MemOk.f p m = some (okP p && okMem p.length m) := by
  simp only [spec_MemOk.f, spec_MemOk.begin, Tr.do_call, Tr.do_ite, Tr.do_ret, spec_ProgramOk.told, spec_ProgramOk_f p hp hs, bind_ok]
  unfold okMem
  cases okP p
  · rfl
  by_cases hm : ¬ m.length = 49
  · have hm' : ¬ (m.length : Int) = 49 := by omega
    simp only [hm, hm', decide_false, Bool.not_false, Bool.not_true, Bool.false_eq_true, ↓reduceIte, Bool.false_and, Bool.and_false]
  have hm : m.length = 49 := by omega
  have hm' : decide ((m.length : Int) = 49) = true := decide_eq_true (by omega)
  have n1 : (0 : Int) ≤ 8 ∧ (8 : Int) < (m.length : Int) := by omega
  have n2 : (0 : Int) ≤ 0 ∧ (0 : Int) ≤ 8 ∧ (8 : Int) ≤ (m.length : Int) := by omega
  have v1 := spec_l09Values_f (m.take 8) (by rw [List.length_take]; omega)
  have v2 := spec_l09Values_f (sent m) (Nat.le_trans (sent_len m) (by omega))
  rw [show decide (m.length = 49) = true from decide_eq_true hm]
  simp only [hm', Tr.do_need, Tr.do_ite, Tr.do_call, Tr.do_ret, Tr.do_jump, spec_UnpackControl.told, spec_UnpackControl_f, spec_l09Values.told, bind_ok, n1, n2, and_self, ↓reduceIte, decide_eq_true_eq, Bool.not_true, Bool.false_eq_true, Bool.true_and, show Int.toNat 8 = 8 from rfl, v1]
  by_cases h1 : (unpack (rdI m 8)).1 < 0
  · simp only [h1, ↓reduceIte, decide_true, decide_false, Bool.not_true, Bool.not_false, Bool.false_and, Bool.and_false, Bool.true_and, Bool.false_eq_true]
  by_cases h2 : (unpack (rdI m 8)).1 ≥ (p.length : Int)
  · simp only [h1, h2, ↓reduceIte, decide_true, decide_false, Bool.not_true, Bool.not_false, Bool.false_and, Bool.and_false, Bool.true_and, Bool.false_eq_true]
  obtain ⟨w, n3, n, hn, hn8⟩ := memok_facts m hm h1
  have c7 := spec_MemOk_c7 m hm n hn8
  unfold sent at v2
  simp only [h1, h2, w, n3, hn, and_self, ↓reduceIte, decide_false, Bool.not_false, Bool.true_and, show Int.toNat 25 = 25 from rfl, v2, bind_ok, c7, Int.toNat_natCast, sent]
  rcases Bool.eq_false_or_eq_true ((m.take 8).all isVal) with q | q <;> simp only [q, Bool.not_true, Bool.not_false, Bool.false_eq_true, ↓reduceIte, Bool.true_and, Bool.false_and]
  rcases Bool.eq_false_or_eq_true (((m.take (Int.toNat (25 + (unpack (rdI m 8)).2.2))).drop 25).all isVal) with q | q <;> simp only [q, Bool.not_true, Bool.not_false, Bool.false_eq_true, ↓reduceIte, Bool.true_and, Bool.false_and]
theorem impl_MemOk_f (p : List S166) (m : List Int) (hp : p.length ≤ 1048576) (hs : ∀ t ∈ p, t.f0.length ≤ 1048576) : impl_MemOk.f p m = some (okP p && okMem p.length m) := by
  simp only [impl_MemOk.f, impl_MemOk.begin, Tr.do_call, Tr.do_ite, Tr.do_ret, impl_ProgramOk.told, impl_ProgramOk_f p hp hs, bind_ok]
  unfold okMem
  cases okP p
  · rfl
  by_cases hm : ¬ m.length = 49
  · have hm' : ¬ (m.length : Int) = 49 := by omega
    simp only [hm, hm', decide_false, Bool.not_false, Bool.not_true, Bool.false_eq_true, ↓reduceIte, Bool.false_and, Bool.and_false]
  have hm : m.length = 49 := by omega
  have hm' : decide ((m.length : Int) = 49) = true := decide_eq_true (by omega)
  have n1 : (0 : Int) ≤ 8 ∧ (8 : Int) < (m.length : Int) := by omega
  have n2 : (0 : Int) ≤ 0 ∧ (0 : Int) ≤ 8 ∧ (8 : Int) ≤ (m.length : Int) := by omega
  have v1 := impl_areValues_f (m.take 8) (by rw [List.length_take]; omega)
  have v2 := impl_areValues_f (sent m) (Nat.le_trans (sent_len m) (by omega))
  rw [show decide (m.length = 49) = true from decide_eq_true hm]
  simp only [hm', Tr.do_need, Tr.do_ite, Tr.do_call, Tr.do_ret, Tr.do_jump, impl_UnpackControl.told, impl_UnpackControl_f, impl_areValues.told, bind_ok, n1, n2, and_self, ↓reduceIte, decide_eq_true_eq, Bool.not_true, Bool.false_eq_true, Bool.true_and, show Int.toNat 8 = 8 from rfl, v1]
  by_cases h1 : (unpack (rdI m 8)).1 < 0
  · cases (m.take 8).all isVal <;> simp only [h1, ↓reduceIte, decide_true, decide_false, Bool.not_true, Bool.not_false, Bool.false_and, Bool.and_false, Bool.true_and, Bool.false_eq_true]
  by_cases h2 : (unpack (rdI m 8)).1 ≥ (p.length : Int)
  · cases (m.take 8).all isVal <;> simp only [h1, h2, ↓reduceIte, decide_true, decide_false, Bool.not_true, Bool.not_false, Bool.false_and, Bool.and_false, Bool.true_and, Bool.false_eq_true]
  obtain ⟨w, n3, n, hn, hn8⟩ := memok_facts m hm h1
  have c7 := impl_MemOk_c7 m hm n hn8
  unfold sent at v2
  simp only [h1, h2, w, n3, hn, and_self, ↓reduceIte, decide_false, Bool.not_false, Bool.true_and, show Int.toNat 25 = 25 from rfl, v2, bind_ok, c7, Int.toNat_natCast, sent]
  rcases Bool.eq_false_or_eq_true ((m.take 8).all isVal) with q | q <;> simp only [q, Bool.not_true, Bool.not_false, Bool.false_eq_true, ↓reduceIte, Bool.true_and, Bool.false_and]
  rcases Bool.eq_false_or_eq_true (((m.take (Int.toNat (25 + (unpack (rdI m 8)).2.2))).drop 25).all isVal) with q | q <;> simp only [q, Bool.not_true, Bool.not_false, Bool.false_eq_true, ↓reduceIte, Bool.true_and, Bool.false_and]
theorem memSent_facts (m : List Int) (hm : m.length = 49) : ((0 : Int) ≤ 8 ∧ (8 : Int) < (m.length : Int)) := by omega
def memSent (m : List Int) : List Int := if m.length = 49 then (if (unpack (rdI m 8)).2.2 < 0 then [] else sent m) else []
theorem unpack_good' {c : Int} (h : ¬ (unpack c).2.2 < 0) : ¬ (unpack c).1 < 0 := by
  rcases unpack_in c with e | e
  · rw [e] at h
    exact absurd (by decide) h
  · omega
theorem memSent_le (m : List Int) (n : Nat) (h : m.length ≤ n) : (memSent m).length ≤ n := by
  unfold memSent
  split
  · split
    · simp
    · exact Nat.le_trans (sent_len m) h
  · simp
theorem spec_MemSent_f (m : List Int) : spec_MemSent.f m = some (memSent m) := by
  simp only [spec_MemSent.f, spec_MemSent.begin, Tr.do_ite, Tr.do_need, Tr.do_call, Tr.do_ret, Tr.do_val, spec_UnpackControl.told, spec_UnpackControl_f, bind_ok, List.nil_append]
  unfold memSent
  by_cases hm : m.length = 49
  · have hm' : decide ((m.length : Int) = 49) = true := decide_eq_true (by omega)
    rw [if_pos hm]
    simp only [hm', memSent_facts m hm, and_self, Bool.not_true, Bool.false_eq_true, ↓reduceIte, decide_eq_true_eq]
    by_cases h : (unpack (rdI m 8)).2.2 < 0
    · simp only [h, ↓reduceIte]
    · obtain ⟨w, n1, -⟩ := memok_facts m hm (unpack_good' h)
      have hl := sent_len m
      have n2 : ((([] : List Int).length : Int) + ((sent m).length : Int)) * (8 : Nat) ≤ room := fits [] (sent m) (by simp) (by omega) 8 (by omega)
      simp only [h, w, n1, and_self, ↓reduceIte]
      exact if_pos n2
  · have hm' : ¬ (m.length : Int) = 49 := by omega
    simp only [hm, hm', decide_false, Bool.not_false, ↓reduceIte]
theorem impl_MemSent_f (m : List Int) : impl_MemSent.f m = some (memSent m) := by
  simp only [impl_MemSent.f, impl_MemSent.begin, Tr.do_ite, Tr.do_need, Tr.do_call, Tr.do_ret, Tr.do_val, impl_UnpackControl.told, impl_UnpackControl_f, bind_ok]
  unfold memSent
  by_cases hm : m.length = 49
  · have hm' : decide ((m.length : Int) = 49) = true := decide_eq_true (by omega)
    rw [if_pos hm]
    simp only [hm', memSent_facts m hm, and_self, Bool.not_true, Bool.false_eq_true, ↓reduceIte, decide_eq_true_eq]
    by_cases h : (unpack (rdI m 8)).2.2 < 0
    · simp only [h, ↓reduceIte]
    · obtain ⟨w, n1, -⟩ := memok_facts m hm (unpack_good' h)
      have hl := sent_len m
      have n2 := slices_Clone_int_f (sent m) (by omega)
      unfold sent at n2
      simp only [h, w, n1, and_self, ↓reduceIte, slices_Clone_int.told, show Int.toNat 25 = 25 from rfl, n2, bind_ok]
      rfl
  · have hm' : ¬ (m.length : Int) = 49 := by omega
    simp only [hm, hm', decide_false, Bool.not_false, ↓reduceIte]
/-- Is a list the beginning of another? -/
def isPre (a b : List Int) : Bool := decide (a.length ≤ b.length) && decide (a = b.take a.length)
theorem spec_IsPrefixOf_f (a b : List Int) (ha : a.length ≤ 1048576) (hb : b.length ≤ 1048576) : spec_IsPrefixOf.f a b = some (isPre a b) := by
  simp only [spec_IsPrefixOf.f, spec_IsPrefixOf.begin, Tr.do_jump]
  unfold isPre
  have hend : ∀ i : Nat, decide ((i : Int) ≥ (i : Int)) = true := fun i => decide_eq_true (by omega)
  by_cases h : a.length ≤ b.length
  · rw [decide_eq_true h, Bool.true_and]
    refine eq_loop a (b.take a.length) (by rw [List.length_take]; omega) (fun i => lp spec_IsPrefixOf.tree (.c2 a b (i : Int))) (fun i hi => ?_) ?_
    · rw [lp_eq]
      have h2 : i < b.length := by omega
      have hn : decide ((i : Int) ≥ (b.length : Int)) = false := decide_eq_false (by omega)
      simp only [spec_IsPrefixOf.tree, Tr.do_ite, Tr.do_need, Tr.do_ret, Tr.do_jump, lt_dec hi, hn, in_lt hi, in_lt h2, getD_lt hi, getD_lt h2, and_self, decide_true, Bool.false_eq_true, ↓reduceIte, wr_next (show i < 4611686018427387904 by omega), List.getElem_take]
      by_cases q : a[i] = b[i] <;> simp [q]
    · rw [lp_eq]
      simp only [spec_IsPrefixOf.tree, Tr.do_ite, Tr.do_ret, ge_dec, Bool.false_eq_true, ↓reduceIte]
  · rw [decide_eq_false h, Bool.false_and]
    refine stop_loop b.length false (fun i => lp spec_IsPrefixOf.tree (.c2 a b (i : Int))) (fun i hi => ?_) ?_
    · have h2 : i < a.length := by omega
      have hn : decide ((i : Int) ≥ (b.length : Int)) = false := decide_eq_false (by omega)
      rw [lp_eq]
      simp only [spec_IsPrefixOf.tree, Tr.do_ite, Tr.do_need, Tr.do_ret, Tr.do_jump, lt_dec h2, hn, in_lt hi, in_lt h2, getD_lt hi, getD_lt h2, and_self, decide_true, Bool.false_eq_true, ↓reduceIte, wr_next (show i < 4611686018427387904 by omega)]
      by_cases q : a[i] = b[i] <;> simp [q]
    · have h2 : b.length < a.length := by omega
      rw [lp_eq]
      simp only [spec_IsPrefixOf.tree, Tr.do_ite, Tr.do_ret, lt_dec h2, hend, ↓reduceIte]
theorem slices_Equal_int_f (a b : List Int) (ha : a.length ≤ 1048576) (hab : a.length = b.length) : slices_Equal_int.f a b = some (decide (a = b)) := by
  have hn : decide ((a.length : Int) = (b.length : Int)) = true := decide_eq_true (by omega)
  simp only [slices_Equal_int.f, slices_Equal_int.begin, Tr.do_ite, Tr.do_jump, hn, Bool.not_true, Bool.false_eq_true, ↓reduceIte]
  refine eq_loop a b hab (fun i => lp slices_Equal_int.tree (.c4 a b (a.length : Int) (i : Int))) (fun i hi => ?_) ?_
  · rw [lp_eq]
    have h2 : i < b.length := by omega
    simp only [slices_Equal_int.tree, Tr.do_ite, Tr.do_need, Tr.do_ret, Tr.do_jump, lt_dec hi, in_lt hi, in_lt h2, getD_lt hi, getD_lt h2, and_self, decide_true, ↓reduceIte, wr_next (show i < 4611686018427387904 by omega)]
    by_cases q : a[i] = b[i] <;> simp [q]
  · rw [lp_eq]
    simp only [slices_Equal_int.tree, Tr.do_ite, Tr.do_ret, ge_dec, Bool.false_eq_true, ↓reduceIte]
theorem impl_IsPrefixOf_f (a b : List Int) (ha : a.length ≤ 1048576) (hb : b.length ≤ 1048576) : impl_IsPrefixOf.f a b = some (isPre a b) := by
  simp only [impl_IsPrefixOf.f, impl_IsPrefixOf.begin, Tr.do_call, Tr.do_ite, Tr.do_need, Tr.do_ret]
  unfold isPre
  by_cases h : a.length ≤ b.length
  · have h' : (a.length : Int) ≤ (b.length : Int) := by omega
    have n1 : (0 : Int) ≤ 0 ∧ (0 : Int) ≤ (a.length : Int) ∧ (a.length : Int) ≤ (b.length : Int) := by omega
    simp only [h, h', n1, and_self, decide_true, ↓reduceIte, Int.toNat_natCast, slices_Equal_int.told, slices_Equal_int_f a (b.take a.length) ha (by rw [List.length_take]; omega), bind_ok, Bool.true_and]
  · have h' : ¬ (a.length : Int) ≤ (b.length : Int) := by omega
    simp only [h, h', decide_false, Bool.false_eq_true, ↓reduceIte, Bool.false_and]
def okLink (m : List Int) (at_ : Int) (h : List Int) : Bool := inB at_ 0 h.length && isPre h (memSent m)
theorem spec_LinkOk_f (m : List Int) (x : Int) (h : List Int) (hm : m.length ≤ 1048576) (hh : h.length ≤ 1048576) : spec_LinkOk.f m x h = some (okLink m x h) := by
  simp only [spec_LinkOk.f, spec_LinkOk.begin, Tr.do_last, Tr.do_call, Tr.do_ite, Tr.do_ret, spec_l01In.told, spec_l01In_f, spec_MemSent.told, spec_MemSent_f, spec_IsPrefixOf.told, spec_IsPrefixOf_f h (memSent m) hh (memSent_le m _ hm), bind_ok, okLink]
  cases inB x 0 (h.length : Int) <;> rfl
theorem impl_LinkOk_f (m : List Int) (x : Int) (h : List Int) (hm : m.length ≤ 1048576) (hh : h.length ≤ 1048576) : impl_LinkOk.f m x h = some (okLink m x h) := by
  simp only [impl_LinkOk.f, impl_LinkOk.begin, Tr.do_last, Tr.do_call, Tr.do_ite, Tr.do_ret, impl_within.told, impl_within_f, impl_MemSent.told, impl_MemSent_f, impl_IsPrefixOf.told, impl_IsPrefixOf_f h (memSent m) hh (memSent_le m _ hm), bind_ok, okLink]
  cases inB x 0 (h.length : Int) <;> rfl
def okSpan (a b : Int) : Bool := decide (a ≥ 0) && (decide (a ≤ b) && decide (b ≤ 1000000))
theorem spec_SpanOk_f (a b : Int) : spec_SpanOk.f a b = some (okSpan a b) := by
  simp only [spec_SpanOk.f, spec_SpanOk.begin, Tr.do_ite, Tr.do_ret, okSpan]
  cases decide (a ≥ 0) <;> cases decide (a ≤ b) <;> rfl
theorem impl_SpanOk_f (a b : Int) : impl_SpanOk.f a b = some (okSpan a b) := by
  simp only [impl_SpanOk.f, impl_SpanOk.begin, Tr.do_ite, Tr.do_ret, okSpan]
  cases decide (a ≥ 0) <;> cases decide (a ≤ b) <;> rfl
/-- A valid node. -/
def okNode (p : List S166) (m r : List Int) (a3 a4 a5 a6 a7 a8 a9 a10 : Int) (h : List Int) (a12 : Int) : Bool :=
  (okP p && okMem p.length m) && (okStore a4 a5 a6 a7 && (r.all isVal && (inB a3 0 400000 && (okSpan a8 a9 && (okLink m a10 h && inB a12 0 100000)))))
theorem spec_NodeOk_f (p : List S166) (m r : List Int) (a3 a4 a5 a6 a7 a8 a9 a10 : Int) (h : List Int) (a12 : Int) (hp : p.length ≤ 1048576) (hs : ∀ t ∈ p, t.f0.length ≤ 1048576) (hm : m.length ≤ 1048576) (hr : r.length ≤ 1048576) (hh : h.length ≤ 1048576) :
    spec_NodeOk.f p m r a3 a4 a5 a6 a7 a8 a9 a10 h a12 = some (okNode p m r a3 a4 a5 a6 a7 a8 a9 a10 h a12) := by
  simp only [spec_NodeOk.f, spec_NodeOk.begin, Tr.do_call, Tr.do_ite, Tr.do_ret, spec_MemOk.told, spec_MemOk_f p m hp hs, spec_StoreOk.told, spec_StoreOk_f, spec_l09Values.told, spec_l09Values_f r hr, spec_l01In.told, spec_l01In_f, spec_SpanOk.told, spec_SpanOk_f, spec_LinkOk.told, spec_LinkOk_f m a10 h hm hh, bind_ok, okNode]
  cases (okP p && okMem p.length m) <;> cases okStore a4 a5 a6 a7 <;> cases r.all isVal <;> cases inB a3 0 400000 <;> cases okSpan a8 a9 <;> cases okLink m a10 h <;> rfl
theorem impl_NodeOk_f (p : List S166) (m r : List Int) (a3 a4 a5 a6 a7 a8 a9 a10 : Int) (h : List Int) (a12 : Int) (hp : p.length ≤ 1048576) (hs : ∀ t ∈ p, t.f0.length ≤ 1048576) (hm : m.length ≤ 1048576) (hr : r.length ≤ 1048576) (hh : h.length ≤ 1048576) :
    impl_NodeOk.f p m r a3 a4 a5 a6 a7 a8 a9 a10 h a12 = some (okNode p m r a3 a4 a5 a6 a7 a8 a9 a10 h a12) := by
  simp only [impl_NodeOk.f, impl_NodeOk.begin, Tr.do_call, Tr.do_ite, Tr.do_ret, impl_MemOk.told, impl_MemOk_f p m hp hs, impl_StoreOk.told, impl_StoreOk_f, impl_areValues.told, impl_areValues_f r hr, impl_within.told, impl_within_f, impl_SpanOk.told, impl_SpanOk_f, impl_LinkOk.told, impl_LinkOk_f m a10 h hm hh, bind_ok, okNode]
  cases (okP p && okMem p.length m) <;> cases okStore a4 a5 a6 a7 <;> cases r.all isVal <;> cases inB a3 0 400000 <;> cases okSpan a8 a9 <;> cases okLink m a10 h <;> rfl
def sentBy (p : List S166) (m r : List Int) (a3 a4 a5 a6 a7 a8 a9 a10 : Int) (h : List Int) (a12 : Int) : List Int := if okNode p m r a3 a4 a5 a6 a7 a8 a9 a10 h a12 = true then memSent m else []
theorem laws_szIntS_f (l : List Int) (n : Int) (hl : l.length ≤ 9223372036854775807) (h0 : 0 ≤ n) (h1 : n ≤ 1048576) : laws_szIntS.f l n = some (if n - l.length < 0 then -1 else n - l.length) := by
  have w : wr (n - l.length) = n - l.length := wr_in (by omega)
  simp only [laws_szIntS.f, laws_szIntS.begin, Tr.do_ite, Tr.do_ret, w, decide_eq_true_eq]
  split <;> rfl
theorem laws_szLink_f (a : Int) (l : List Int) (n : Int) (hl : l.length ≤ 9223372036854775807) (h0 : 0 ≤ n) (h1 : n ≤ 1048576) : laws_szLink.f a l n = some (if n - l.length < 0 then -1 else n - l.length) := by
  simp only [laws_szLink.f, laws_szLink.begin, laws_szGateway.told, laws_szGateway.f, laws_szGateway.begin, Tr.do_ite, Tr.do_call, Tr.do_ret, laws_szIntS.told, laws_szIntS_f l n hl h0 h1, bind_ok, decide_eq_true_eq]
  by_cases h : n - (l.length : Int) < 0
  · simp [h]
  · simp [h]
/-- How large a node is. -/
def totNode (p : List S172) (m r h : List Int) : Nat := tot p + m.length + r.length + h.length
theorem laws_szNode_f (p : List S172) (m r : List Int) (a3 a4 a5 a6 a7 a8 a9 a10 : Int) (h : List Int) (a12 : Int) (n : Int) (hp : p.length ≤ 9223372036854775807) (hs : ∀ t ∈ p, t.f0.length ≤ 9223372036854775807) (hm : m.length ≤ 9223372036854775807) (hr : r.length ≤ 9223372036854775807) (hh : h.length ≤ 9223372036854775807) (h0 : 0 ≤ n) (h1 : n ≤ 1048576) :
    laws_szNode.f p m r a3 a4 a5 a6 a7 a8 a9 a10 h a12 n = some (if (totNode p m r h : Int) ≤ n then n - totNode p m r h else -1) := by
  simp only [laws_szNode.f, laws_szNode.begin, Tr.do_call, Tr.do_ite, Tr.do_ret, laws_szProgram.told, laws_szProgram_f p n hp hs h0 h1, bind_ok, decide_eq_true_eq]
  by_cases q : (tot p : Int) ≤ n
  · have q' : ¬ (n - (tot p : Int) < 0) := by omega
    simp only [q, q', ↓reduceIte, laws_szIntS.told, laws_szIntS_f m (n - tot p) hm (by omega) (by omega), bind_ok]
    by_cases q1 : n - (tot p : Int) - m.length < 0
    · simp only [q1, ↓reduceIte]
      rw [if_pos (by decide), if_neg (by unfold totNode; omega)]
    · simp only [q1, ↓reduceIte, laws_szIntS_f r (n - tot p - m.length) hr (by omega) (by omega), bind_ok]
      by_cases q2 : n - (tot p : Int) - m.length - r.length < 0
      · simp only [q2, ↓reduceIte]
        rw [if_pos (by decide), if_neg (by unfold totNode; omega)]
      · simp only [q2, ↓reduceIte, laws_szLink.told, laws_szLink_f a10 h (n - tot p - m.length - r.length) hh (by omega) (by omega), bind_ok]
        by_cases q3 : n - (tot p : Int) - m.length - r.length - h.length < 0
        · simp only [q3, ↓reduceIte]
          rw [if_pos (by decide), if_neg (by unfold totNode; omega)]
        · simp only [q3, ↓reduceIte]
          rw [if_pos (by unfold totNode; omega)]
          unfold totNode
          refine congrArg some (show (_ : Int) = _ from ?_)
          omega
  · simp only [q, ↓reduceIte]
    rw [if_pos (by decide), if_neg (by unfold totNode; omega)]
theorem laws_toNode_f (p : List S172) (m r : List Int) (a3 a4 a5 a6 a7 a8 a9 a10 : Int) (h : List Int) (a12 : Int) (hp : p.length ≤ 1048576) (hs : ∀ t ∈ p, t.f0.length ≤ 1048576) (hm : m.length ≤ 1048576) (hr : r.length ≤ 1048576) (hh : h.length ≤ 1048576) :
    laws_toNode.f p m r a3 a4 a5 a6 a7 a8 a9 a10 h a12 = some (p.map toTk, m, r, a3, a4, a5, a6, a7, a8, a9, a10, h, a12) := by
  simp only [laws_toNode.f, laws_toNode.begin, Tr.do_call, Tr.do_ret, laws_toProgram.told, laws_toProgram_f p hp hs, laws_toIntS.told, laws_toIntS_f m hm, laws_toIntS_f r hr, laws_toStore.told, laws_toStore_f, laws_toSpan.told, laws_toSpan.f, laws_toSpan.begin, laws_toLink.told, laws_toLink.f, laws_toLink.begin, laws_toGateway.told, laws_toGateway.f, laws_toGateway.begin, laws_toIntS_f h hh, bind_ok]
/-- What a node's size says of its parts. -/
theorem totNode_le (p : List S172) (m r h : List Int) (hn : totNode p m r h ≤ 1048576) :
    p.length ≤ 1048576 ∧ (∀ t ∈ p, t.f0.length ≤ 1048576) ∧ m.length ≤ 1048576 ∧ r.length ≤ 1048576 ∧ h.length ≤ 1048576 ∧ (p.map toTk).length ≤ 1048576 ∧ (∀ t ∈ p.map toTk, t.f0.length ≤ 1048576) ∧ wt (p.map toTk) ≤ 100000000 := by
  unfold totNode at hn
  obtain ⟨b1, b2, b3⟩ := tot_le p 1048576 (by omega)
  refine ⟨b1, b2, by omega, by omega, by omega, by rw [List.length_map]; exact b1, fun t ht => ?_, by omega⟩
  obtain ⟨u, hu, rfl⟩ := List.mem_map.mp ht
  show (u.f0.map toSt).length ≤ 1048576
  rw [List.length_map]
  exact b2 u hu
theorem fold_loop {A S R : Type} (l : List A) (f : S → A → S) (g : S → R) (Inv : Nat → S → Prop) (L : Nat → S → Option R) (s : S) (h0 : Inv 0 s)
    (hstep : ∀ i (h : i < l.length) s, Inv i s → L i s = L (i + 1) (f s l[i]) ∧ Inv (i + 1) (f s l[i])) (hend : ∀ s, Inv l.length s → L l.length s = some (g s)) : L 0 s = some (g (l.foldl f s)) := by
  have key : ∀ (n i : Nat) s, i + n = l.length → Inv i s → L i s = some (g ((l.drop i).foldl f s)) := by
    intro n
    induction n with
    | zero => intro i s hi hI; obtain rfl : i = l.length := (by omega); rw [List.drop_length]; exact hend s hI
    | succ n ih =>
      intro i s hi hI
      have h : i < l.length := by omega
      obtain ⟨e, hI'⟩ := hstep i h s hI
      rw [e, ih (i + 1) _ (by omega) hI', List.drop_eq_getElem_cons h, List.foldl_cons]
  exact key l.length 0 s (by omega) h0
theorem count_loop {B R : Type} (n : Nat) (f : Nat → B) (g : List B → R) (L : Nat → List B → Option R) (k : Nat) (hk : k ≤ n)
    (hstep : ∀ i, i < n → ∀ s : List B, s.length ≤ i → L i s = L (i + 1) (s ++ [f i])) (hend : ∀ s, L n s = some (g s)) : L k [] = some (g ((List.range' k (n - k)).map f)) := by
  have key : ∀ (m i : Nat) (s : List B), i + m = n → s.length ≤ i → L i s = some (g (s ++ (List.range' i m).map f)) := by
    intro m
    induction m with
    | zero => intro i s hi hs; obtain rfl : i = n := (by omega); rw [hend]; simp
    | succ m ih =>
      intro i s hi hs
      rw [hstep i (by omega) s hs, ih (i + 1) _ (by omega) (by rw [List.length_append, List.length_singleton]; omega), List.range'_succ, List.map_cons, List.append_assoc]
      rfl
  have := key (n - k) k [] (by omega) (by simp)
  simpa using this
/-! ### Packets -/
def packs (l : List Int) (k : Int) : List S217 := if inB k 0 l.length = true then (List.range' k.toNat (l.length - k.toNat)).map fun (i : Nat) => (⟨(i : Int), rdI l (i : Int)⟩ : S217) else []
theorem packs_le (l : List Int) (k : Int) : (packs l k).length ≤ l.length := by
  unfold packs
  split
  · rw [List.length_map, List.length_range']; omega
  · simp
theorem one_fits {B : Type} (s : List B) (x : B) (n : Nat) (hs : s.length ≤ n) (hn : n ≤ 1048576) (k : Nat) (hk : k ≤ 1000) : ((s.length : Int) + (([x] : List B).length : Int)) * (k : Nat) ≤ room := fits s [x] (by omega) (by simp) k hk
theorem spec_PacketsOf_f (m : List Int) (k : Int) (hm : m.length ≤ 1048576) : spec_PacketsOf.f m k = some (packs (memSent m) k) := by
  have hl := memSent_le m 1048576 hm
  simp only [spec_PacketsOf.f, spec_PacketsOf.begin, Tr.do_call, Tr.do_ite, Tr.do_ret, Tr.do_jump, spec_MemSent.told, spec_MemSent_f, spec_l01In.told, spec_l01In_f, bind_ok]
  unfold packs
  cases hb : inB k 0 ((memSent m).length : Int) with
  | false => rfl
  | true =>
    rw [inB_iff] at hb
    obtain ⟨j, rfl⟩ : ∃ j : Nat, k = j := ⟨k.toNat, by omega⟩
    simp only [Bool.not_true, Bool.false_eq_true, ↓reduceIte, Int.toNat_natCast]
    refine count_loop (memSent m).length (fun i => (⟨(i : Int), rdI (memSent m) (i : Int)⟩ : S217)) id (fun i s => lp spec_PacketsOf.tree (.c6 s (memSent m) (i : Int))) j (by omega) (fun i h s hs => ?_) (fun s => ?_)
    · rw [lp_eq]
      have h1 : ∀ x : S217, ((s.length : Int) + (([x] : List S217).length : Int)) * (16 : Nat) ≤ room := fun x => one_fits s x 1048576 (by omega) (by omega) 16 (by omega)
      simp only [spec_PacketsOf.tree, Tr.do_ite, Tr.do_need, Tr.do_jump, lt_dec h, in_lt h, and_self, h1, decide_true, ↓reduceIte, wr_next (show i < 4611686018427387904 by omega)]
    · rw [lp_eq]
      simp only [spec_PacketsOf.tree, Tr.do_ite, Tr.do_ret, ge_dec, Bool.false_eq_true, ↓reduceIte, id]
theorem impl_PacketsOf_f (m : List Int) (k : Int) (hm : m.length ≤ 1048576) : impl_PacketsOf.f m k = some (packs (memSent m) k) := by
  have hl := memSent_le m 1048576 hm
  simp only [impl_PacketsOf.f, impl_PacketsOf.begin, Tr.do_call, Tr.do_ite, Tr.do_ret, Tr.do_jump, impl_MemSent.told, impl_MemSent_f m, impl_within.told, impl_within_f, bind_ok]
  unfold packs
  cases hb : inB k 0 ((memSent m).length : Int) with
  | false => rfl
  | true =>
    rw [inB_iff] at hb
    obtain ⟨j, rfl⟩ : ∃ j : Nat, k = j := ⟨k.toNat, by omega⟩
    simp only [Bool.not_true, Bool.false_eq_true, ↓reduceIte, Int.toNat_natCast]
    refine count_loop (memSent m).length (fun i => (⟨(i : Int), rdI (memSent m) (i : Int)⟩ : S217)) id (fun i s => lp impl_PacketsOf.tree (.c6 (memSent m) s (i : Int))) j (by omega) (fun i h s hs => ?_) (fun s => ?_)
    · rw [lp_eq]
      have h1 : ∀ x : S217, ((s.length : Int) + (([x] : List S217).length : Int)) * (16 : Nat) ≤ room := fun x => one_fits s x 1048576 (by omega) (by omega) 16 (by omega)
      simp only [impl_PacketsOf.tree, Tr.do_ite, Tr.do_need, Tr.do_jump, lt_dec h, in_lt h, and_self, h1, decide_true, ↓reduceIte, wr_next (show i < 4611686018427387904 by omega)]
    · rw [lp_eq]
      simp only [impl_PacketsOf.tree, Tr.do_ite, Tr.do_ret, ge_dec, Bool.false_eq_true, ↓reduceIte, id]
def take1 (g : List Int) (a b : Int) : List Int := if a = (g.length : Int) then (if (g.length : Int) < 255 then g ++ [b] else g) else g
theorem take1_le (g : List Int) (a b : Int) (h : g.length ≤ 1048576) : (take1 g a b).length ≤ 1048576 := by
  unfold take1
  split
  · split
    · rw [List.length_append, List.length_singleton]; omega
    · exact h
  · exact h
theorem spec_l31Take_f (g : List Int) (a b : Int) (hg : g.length ≤ 1048576) : spec_l31Take.f g a b = some (take1 g a b) := by
  simp only [spec_l31Take.f, spec_l31Take.begin, Tr.do_ite, Tr.do_need, Tr.do_ret, one_fits g b 1048576 hg (by omega) 8 (by omega), ↓reduceIte, decide_eq_true_eq, take1]
  split
  · split <;> rfl
  · rfl
theorem impl_Receive_f (g : List Int) (a b : Int) (hg : g.length ≤ 1048576) : impl_Receive.f g a b = some (take1 g a b, ((take1 g a b).length : Int)) := by
  simp only [impl_Receive.f, impl_Receive.begin, Tr.do_ite, Tr.do_need, Tr.do_ret, Tr.do_call, Tr.do_both, Tr.do_last, slices_Clone_int.told, slices_Clone_int_f g hg, bind_ok, one_fits g b 1048576 hg (by omega) 8 (by omega), ↓reduceIte, decide_eq_true_eq, both_same, take1]
  split
  · split <;> rfl
  · rfl
def recvStep (g : List Int) (p : S217 × Bool) : List Int := if p.2 = true then take1 g p.1.f0 p.1.f1 else g
/-- What the gateway has behind a round. -/
def recvAll (g : List Int) (l : List S217) (k : List Bool) : List Int := (l.zip k).foldl recvStep g
theorem recvStep_le (g : List Int) (p : S217 × Bool) (h : g.length ≤ 1048576) : (recvStep g p).length ≤ 1048576 := by
  unfold recvStep
  split
  · exact take1_le _ _ _ h
  · exact h
theorem recvAll_le (g : List Int) (l : List S217) (k : List Bool) (h : g.length ≤ 1048576) : (recvAll g l k).length ≤ 1048576 :=
  foldl_inv (l.zip k) recvStep (fun _ s => s.length ≤ 1048576) g h (fun i hi s hs => recvStep_le _ _ hs)
theorem spec_ReceiveAll_f (g : List Int) (l : List S217) (k : List Bool) (hg : g.length ≤ 1048576) (hl : l.length ≤ 1048576) (hk : k.length ≤ 1048576) : spec_ReceiveAll.f g l k = some (recvAll g l k, ((recvAll g l k).length : Int)) := by
  simp only [spec_ReceiveAll.f, spec_ReceiveAll.begin, Tr.do_need, Tr.do_jump, fits ([] : List Int) g (by simp) hg 8 (by omega), ↓reduceIte, List.nil_append]
  refine fold_loop (l.zip k) recvStep (fun s => (s, (s.length : Int))) (fun _ s => s.length ≤ 1048576) (fun i s => lp spec_ReceiveAll.tree (.c3 l k [] s (i : Int))) g hg (fun i h s hs => ?_) (fun s hs => ?_)
  · have h' := h
    rw [List.length_zip] at h'
    have h1 : i < l.length := by omega
    have h2 : i < k.length := by omega
    refine ⟨?_, recvStep_le _ _ hs⟩
    rw [lp_eq, List.getElem_zip]
    simp only [spec_ReceiveAll.tree, Tr.do_ite, Tr.do_need, Tr.do_jump, Tr.do_call, spec_l31Take.told, lt_dec h1, lt_dec h2, in_lt h1, in_lt h2, getD_lt h1, getD_lt h2, and_self, ↓reduceIte, spec_l31Take_f s _ _ hs, bind_ok, wr_next (show i < 4611686018427387904 by omega), recvStep]
    cases k[i] <;> rfl
  · rw [lp_eq, List.length_zip]
    by_cases h : l.length ≤ k.length
    · simp only [spec_ReceiveAll.tree, Tr.do_ite, Tr.do_ret, Nat.min_eq_left h, ge_dec, Bool.false_eq_true, ↓reduceIte]
    · simp only [spec_ReceiveAll.tree, Tr.do_ite, Tr.do_ret, Nat.min_eq_right (by omega : k.length ≤ l.length), ge_dec, Bool.false_eq_true, ↓reduceIte]
      split <;> rfl
theorem impl_ReceiveAll_f (g : List Int) (l : List S217) (k : List Bool) (hg : g.length ≤ 1048576) (hl : l.length ≤ 1048576) (hk : k.length ≤ 1048576) : impl_ReceiveAll.f g l k = some (recvAll g l k, ((recvAll g l k).length : Int)) := by
  simp only [impl_ReceiveAll.f, impl_ReceiveAll.begin, Tr.do_call, Tr.do_jump, slices_Clone_int.told, slices_Clone_int_f g hg, bind_ok]
  refine fold_loop (l.zip k) recvStep (fun s => (s, (s.length : Int))) (fun _ s => s.length ≤ 1048576) (fun i s => lp impl_ReceiveAll.tree (.c3 k [] s l (List.length l : Int) (i : Int))) g hg (fun i h s hs => ?_) (fun s hs => ?_)
  · have h' := h
    rw [List.length_zip] at h'
    have h1 : i < l.length := by omega
    have h2 : i < k.length := by omega
    refine ⟨?_, recvStep_le _ _ hs⟩
    rw [lp_eq, List.getElem_zip]
    simp only [impl_ReceiveAll.tree, Tr.do_ite, Tr.do_need, Tr.do_jump, Tr.do_call, impl_Receive.told, lt_dec h1, lt_dec h2, in_lt h1, in_lt h2, getD_lt h1, getD_lt h2, and_self, ↓reduceIte, impl_Receive_f s _ _ hs, bind_ok, wr_next (show i < 4611686018427387904 by omega), recvStep]
    cases k[i] <;> rfl
  · have key : ∀ (n i : Nat), i + n = l.length → min l.length k.length ≤ i → lp impl_ReceiveAll.tree (.c3 k [] s l (List.length l : Int) (i : Int)) = some (s, (s.length : Int)) := by
      intro n
      induction n with
      | zero =>
        intro i hi _
        obtain rfl : i = l.length := by omega
        rw [lp_eq]
        simp only [impl_ReceiveAll.tree, Tr.do_ite, Tr.do_both, Tr.do_last, Tr.do_ret, ge_dec, Bool.false_eq_true, ↓reduceIte, both_same]
      | succ n ih =>
        intro i hi hm
        have h1 : i < l.length := by omega
        have h2 : decide ((i : Int) < (k.length : Int)) = false := decide_eq_false (by omega)
        rw [lp_eq]
        simp only [impl_ReceiveAll.tree, Tr.do_ite, Tr.do_need, Tr.do_jump, lt_dec h1, h2, in_lt h1, and_self, ↓reduceIte, Bool.false_eq_true, wr_next (show i < 4611686018427387904 by omega)]
        exact ih (i + 1) (by omega) (by omega)
    rw [List.length_zip]
    exact key (l.length - min l.length k.length) (min l.length k.length) (by omega) (Nat.le_refl _)
theorem spec_l32Copy_f (x : Int) (h : List Int) (hh : h.length ≤ 1048576) : spec_l32Copy.f x h = some (x, h) := by
  simp only [spec_l32Copy.f, spec_l32Copy.begin, Tr.do_both, Tr.do_last, Tr.do_need, Tr.do_ret, fits ([] : List Int) h (by simp) hh 8 (by omega), ↓reduceIte, List.nil_append, both_same]
theorem impl_copyLink_f (x : Int) (h : List Int) (hh : h.length ≤ 1048576) : impl_copyLink.f x h = some (x, h) := by
  simp only [impl_copyLink.f, impl_copyLink.begin, Tr.do_both, Tr.do_last, Tr.do_call, Tr.do_ret, slices_Clone_int.told, slices_Clone_int_f h hh, bind_ok, both_same]
def sendRound (m : List Int) (x : Int) (h : List Int) (k : List Bool) (b : Bool) : Int × List Int × Bool :=
  if okLink m x h = true then (if b = true then ((recvAll h (packs (memSent m) x) k).length : Int) else x, recvAll h (packs (memSent m) x) k, true) else (x, h, false)
theorem spec_SendRound_f (m : List Int) (x : Int) (h : List Int) (k : List Bool) (b : Bool) (hm : m.length ≤ 1048576) (hh : h.length ≤ 1048576) (hk : k.length ≤ 1048576) : spec_SendRound.f m x h k b = some (sendRound m x h k b) := by
  have hp := Nat.le_trans (packs_le (memSent m) x) (memSent_le m _ hm)
  simp only [spec_SendRound.f, spec_SendRound.begin, Tr.do_call, Tr.do_ite, Tr.do_both, Tr.do_last, Tr.do_ret, spec_l32Copy.told, spec_l32Copy_f x h hh, spec_LinkOk.told, spec_LinkOk_f m x h hm hh, spec_PacketsOf.told, spec_PacketsOf_f m x hm, spec_ReceiveAll.told, spec_ReceiveAll_f h _ k hh hp hk, bind_ok, both_same, sendRound]
  cases okLink m x h <;> cases b <;> rfl
theorem impl_SendRound_f (m : List Int) (x : Int) (h : List Int) (k : List Bool) (b : Bool) (hm : m.length ≤ 1048576) (hh : h.length ≤ 1048576) (hk : k.length ≤ 1048576) : impl_SendRound.f m x h k b = some (sendRound m x h k b) := by
  have hp := Nat.le_trans (packs_le (memSent m) x) (memSent_le m _ hm)
  simp only [impl_SendRound.f, impl_SendRound.begin, Tr.do_call, Tr.do_ite, Tr.do_both, Tr.do_last, Tr.do_ret, impl_copyLink.told, impl_copyLink_f x h hh, impl_LinkOk.told, impl_LinkOk_f m x h hm hh, impl_PacketsOf.told, impl_PacketsOf_f m x hm, impl_ReceiveAll.told, impl_ReceiveAll_f h _ k hh hp hk, bind_ok, both_same, sendRound]
  cases okLink m x h <;> cases b <;> rfl
theorem spec_l37Copy_f (p : List S166) (m r : List Int) (a3 a4 a5 a6 a7 a8 a9 a10 : Int) (h : List Int) (a12 : Int) (hp : p.length ≤ 1048576) (hs : ∀ t ∈ p, t.f0.length ≤ 1048576) (hm : m.length ≤ 1048576) (hr : r.length ≤ 1048576) (hh : h.length ≤ 1048576) :
    spec_l37Copy.f p m r a3 a4 a5 a6 a7 a8 a9 a10 h a12 = some (p, m, r, a3, a4, a5, a6, a7, a8, a9, a10, h, a12) := by
  simp only [spec_l37Copy.f, spec_l37Copy.begin, Tr.do_call, Tr.do_need, Tr.do_ret, spec_l06Copy.told, spec_l06Copy_f p hp hs, spec_l32Copy.told, spec_l32Copy_f _ h hh, fits ([] : List Int) m (by simp) hm 8 (by omega), fits ([] : List Int) r (by simp) hr 8 (by omega), bind_ok, ↓reduceIte, List.nil_append]
theorem impl_copyNode_f (p : List S166) (m r : List Int) (a3 a4 a5 a6 a7 a8 a9 a10 : Int) (h : List Int) (a12 : Int) (hp : p.length ≤ 1048576) (hs : ∀ t ∈ p, t.f0.length ≤ 1048576) (hm : m.length ≤ 1048576) (hr : r.length ≤ 1048576) (hh : h.length ≤ 1048576) :
    impl_copyNode.f p m r a3 a4 a5 a6 a7 a8 a9 a10 h a12 = some (p, m, r, a3, a4, a5, a6, a7, a8, a9, a10, h, a12) := by
  simp only [impl_copyNode.f, impl_copyNode.begin, Tr.do_call, Tr.do_last, Tr.do_ret, impl_copyProgram.told, impl_copyProgram_f p hp hs, slices_Clone_int.told, slices_Clone_int_f m hm, slices_Clone_int_f r hr, impl_copyLink.told, impl_copyLink_f _ h hh, bind_ok]
def uplink (p : List S166) (m r : List Int) (a3 a4 a5 a6 a7 a8 a9 a10 : Int) (h : List Int) (a12 : Int) (k : List Bool) (b : Bool) : List S166 × List Int × List Int × Int × Int × Int × Int × Int × Int × Int × Int × List Int × Int × Bool :=
  if okNode p m r a3 a4 a5 a6 a7 a8 a9 a10 h a12 = true then (p, m, r, a3, a4, a5, a6, a7, a8, a9, (sendRound m a10 h k b).1, (sendRound m a10 h k b).2.1, a12, true) else (p, m, r, a3, a4, a5, a6, a7, a8, a9, a10, h, a12, false)
theorem spec_Uplink_f (p : List S166) (m r : List Int) (a3 a4 a5 a6 a7 a8 a9 a10 : Int) (h : List Int) (a12 : Int) (k : List Bool) (b : Bool) (hp : p.length ≤ 1048576) (hs : ∀ t ∈ p, t.f0.length ≤ 1048576) (hm : m.length ≤ 1048576) (hr : r.length ≤ 1048576) (hh : h.length ≤ 1048576) (hk : k.length ≤ 1048576) :
    spec_Uplink.f p m r a3 a4 a5 a6 a7 a8 a9 a10 h a12 k b = some (uplink p m r a3 a4 a5 a6 a7 a8 a9 a10 h a12 k b) := by
  simp only [spec_Uplink.f, spec_Uplink.begin, Tr.do_call, Tr.do_ite, Tr.do_ret, spec_l37Copy.told, spec_l37Copy_f p m r a3 a4 a5 a6 a7 a8 a9 a10 h a12 hp hs hm hr hh, spec_NodeOk.told, spec_NodeOk_f p m r a3 a4 a5 a6 a7 a8 a9 a10 h a12 hp hs hm hr hh, spec_SendRound.told, spec_SendRound_f m a10 h k b hm hh hk, bind_ok, uplink]
  cases okNode p m r a3 a4 a5 a6 a7 a8 a9 a10 h a12 <;> rfl
theorem impl_Uplink_f (p : List S166) (m r : List Int) (a3 a4 a5 a6 a7 a8 a9 a10 : Int) (h : List Int) (a12 : Int) (k : List Bool) (b : Bool) (hp : p.length ≤ 1048576) (hs : ∀ t ∈ p, t.f0.length ≤ 1048576) (hm : m.length ≤ 1048576) (hr : r.length ≤ 1048576) (hh : h.length ≤ 1048576) (hk : k.length ≤ 1048576) :
    impl_Uplink.f p m r a3 a4 a5 a6 a7 a8 a9 a10 h a12 k b = some (uplink p m r a3 a4 a5 a6 a7 a8 a9 a10 h a12 k b) := by
  simp only [impl_Uplink.f, impl_Uplink.begin, Tr.do_call, Tr.do_ite, Tr.do_ret, impl_copyNode.told, impl_copyNode_f p m r a3 a4 a5 a6 a7 a8 a9 a10 h a12 hp hs hm hr hh, impl_NodeOk.told, impl_NodeOk_f p m r a3 a4 a5 a6 a7 a8 a9 a10 h a12 hp hs hm hr hh, impl_SendRound.told, impl_SendRound_f m a10 h k b hm hh hk, bind_ok, uplink]
  cases okNode p m r a3 a4 a5 a6 a7 a8 a9 a10 h a12 <;> rfl
theorem sendRound_le (m : List Int) (x : Int) (h : List Int) (k : List Bool) (b : Bool) (hh : h.length ≤ 1048576) : (sendRound m x h k b).2.1.length ≤ 1048576 := by
  unfold sendRound
  split
  · exact recvAll_le _ _ _ hh
  · exact hh
theorem laws_toBoolS_f (l : List Bool) (hl : l.length ≤ 1048576) : laws_toBoolS.f l = some l := by
  have h1 : (0 : Int) ≤ (List.length l : Int) ∧ (List.length l : Int) ≤ (List.length l : Int) ∧ (List.length l : Int) * (1 : Nat) ≤ room := ⟨by omega, by omega, by unfold room; omega⟩
  simp only [laws_toBoolS.f, laws_toBoolS.begin, Tr.do_need, Tr.do_jump, h1, and_self, decide_true, ↓reduceIte, Int.toNat_natCast]
  have e := map_loop l (fun x : Bool => x) false id (fun i s => lp laws_toBoolS.tree (.c3 l s (i : Int))) (fun i h s hs => by
    rw [lp_eq]
    have h2 : i < s.length := by omega
    simp only [laws_toBoolS.tree, Tr.do_ite, Tr.do_need, Tr.do_call, Tr.do_val, Tr.do_jump, bind_ok, lt_dec h, in_lt h, in_lt h2, getD_lt h, and_self, decide_true, ↓reduceIte, wr_next (show i < 4611686018427387904 by omega), Int.toNat_natCast]) (fun s => by
    rw [lp_eq]
    simp only [laws_toBoolS.tree, Tr.do_ite, Tr.do_ret, ge_dec, Bool.false_eq_true, ↓reduceIte, id])
  rw [List.map_id''] at e
  · exact e
  · exact fun _ => rfl
theorem laws_eqBoolS_f (l : List Bool) (hl : l.length ≤ 1048576) : laws_eqBoolS.f l l = some true := by
  simp only [laws_eqBoolS.f, laws_eqBoolS.begin, Tr.do_ite, Tr.do_jump, decide_true, Bool.not_true, Bool.false_eq_true, ↓reduceIte]
  refine same_loop l.length true (fun i => lp laws_eqBoolS.tree (.c4 l l (i : Int))) (fun i h => by
    rw [lp_eq]
    have hb : ∀ b : Bool, (b != b) = false := fun b => by cases b <;> rfl
    simp only [laws_eqBoolS.tree, Tr.do_ite, Tr.do_need, Tr.do_last, Tr.do_call, Tr.do_jump, bind_ok, lt_dec h, in_lt h, getD_lt h, hb, and_self, decide_true, ↓reduceIte, Bool.not_true, Bool.false_eq_true, wr_next (show i < 4611686018427387904 by omega)]) (by
    rw [lp_eq]
    simp only [laws_eqBoolS.tree, Tr.do_ite, Tr.do_ret, ge_dec, Bool.false_eq_true, ↓reduceIte])
theorem laws_markBoolS_f (k : Int) (l : List Bool) (h0 : 0 ≤ k) (h1 : k + l.length ≤ 1099511627776) : ∃ l', laws_markBoolS.f k l = some (k + l.length, l') := by
  simp only [laws_markBoolS.f, laws_markBoolS.begin, Tr.do_jump]
  have e := put_loop l (fun (k : Int) (_ : Bool) => k + 1) (fun k _ => decide (Int.tmod k 3 = 0)) false (fun i s => s = k + i) (fun s m => (s, m)) (fun i s m => lp laws_markBoolS.tree (.c2 s (i : Int) m)) k (by simp) (fun i h s m hs hm hg => by
    refine ⟨?_, by omega⟩
    rw [lp_eq]
    have h2 : i < m.length := by omega
    have w1 : wr (s + 1) = s + 1 := wr_in (by omega)
    have w7 : wr ((i : Int) + 1) = ((i + 1 : Nat) : Int) := wr_next (by omega)
    have h3 : (3 : Int) ≠ 0 := by omega
    simp only [laws_markBoolS.tree, Tr.do_ite, Tr.do_need, Tr.do_jump, lt_dec h2, in_lt h2, and_self, decide_true, ↓reduceIte, Int.toNat_natCast, w1, w7, h3, ne_eq, not_false_eq_true]) (fun s m hs hm => by
    rw [lp_eq]
    simp only [laws_markBoolS.tree, Tr.do_ite, Tr.do_ret, hm, ge_dec, Bool.false_eq_true, ↓reduceIte])
  have e2 : l.foldl (fun (k : Int) (_ : Bool) => k + 1) k = k + l.length := foldl_inv l _ (fun i s => s = k + i) k (by simp) (fun i h s hs => by omega)
  rw [e2] at e
  exact ⟨_, e⟩
theorem FnExactUplink : laws_FnExactUplink.Pure := by
  intro p m r a3 a4 a5 a6 a7 a8 a9 a10 h a12 k b hg hgk _
  have hp0 : p.length ≤ 9223372036854775807 := hg.1.1
  have hs0 : ∀ t ∈ p, t.f0.length ≤ 9223372036854775807 := fun t ht => (hg.1.2 t ht).1.1
  have hm0 : m.length ≤ 9223372036854775807 := hg.2.1.1
  have hr0 : r.length ≤ 9223372036854775807 := hg.2.2.1.1
  have hh0 : h.length ≤ 9223372036854775807 := hg.2.2.2.2.2.2.1.2.1
  simp only [laws_FnExactUplink.f, laws_FnExactUplink.begin, Tr.do_ite, Tr.do_call, Tr.do_ret, Tr.do_last, laws_szNode.told, laws_szNode_f p m r a3 a4 a5 a6 a7 a8 a9 a10 h a12 1048576 hp0 hs0 hm0 hr0 hh0 (by omega) (by omega), bind_ok, decide_eq_true_eq]
  by_cases q0 : (k.length : Int) > 1048576
  · rw [if_pos q0]
  rw [if_neg q0]
  have hk : k.length ≤ 1048576 := by omega
  by_cases q4 : ¬ (totNode p m r h : Int) ≤ 1048576
  · simp only [q4, ↓reduceIte]
    rfl
  have q3 : (totNode p m r h : Int) ≤ 1048576 := by omega
  have q3' : ¬ ((1048576 : Int) - (totNode p m r h : Int) < 0) := by omega
  obtain ⟨b1, b2, b3, b4, b5, p1, p2, p3⟩ := totNode_le p m r h (by omega)
  have e1 := laws_toNode_f p m r a3 a4 a5 a6 a7 a8 a9 a10 h a12 b1 b2 b3 b4 b5
  have e1b := laws_toBoolS_f k hk
  have e2 := spec_Uplink_f (p.map toTk) m r a3 a4 a5 a6 a7 a8 a9 a10 h a12 k b p1 p2 b3 b4 b5 hk
  have e3 := impl_Uplink_f (p.map toTk) m r a3 a4 a5 a6 a7 a8 a9 a10 h a12 k b p1 p2 b3 b4 b5 hk
  have e4 := laws_eqNode_f (p.map toTk) m r a3 a4 a5 a6 a7 a8 a9 a10 h a12 p1 p2 b3 b4 b5
  have e5 := laws_markNode_f a3 a4 a5 a6 a7 a8 a9 a10 a12 (p.map toTk) m r h p1 p3 b3 b4 b5
  have e6 := laws_eqBoolS_f k hk
  obtain ⟨l', e7⟩ := laws_markBoolS_f (1 + (wt (p.map toTk) : Int) + m.length + r.length + h.length) k (by omega) (by omega)
  have m7 : ¬ (1 + (wt (p.map toTk) : Int) + m.length + r.length + h.length + k.length < 0) := by omega
  obtain ⟨w0, w1, w2, w3, w4, w5, w6, w7, w8, w9, w10, w11, w12, w13, hw, s1, s2, s3, s4, s5, s6⟩ : ∃ w0 w1 w2 w3 w4 w5 w6 w7 w8 w9 w10 w11 w12 w13, uplink (p.map toTk) m r a3 a4 a5 a6 a7 a8 a9 a10 h a12 k b = (w0, w1, w2, w3, w4, w5, w6, w7, w8, w9, w10, w11, w12, w13) ∧
      w0.length ≤ 1048576 ∧ (∀ t ∈ w0, t.f0.length ≤ 1048576) ∧ wt w0 ≤ 100000000 ∧ w1.length ≤ 1048576 ∧ w2.length ≤ 1048576 ∧ w11.length ≤ 1048576 := by
    unfold uplink
    split
    · exact ⟨_, _, _, _, _, _, _, _, _, _, _, _, _, _, rfl, p1, p2, p3, b3, b4, sendRound_le _ _ _ _ _ b5⟩
    · exact ⟨_, _, _, _, _, _, _, _, _, _, _, _, _, _, rfl, p1, p2, p3, b3, b4, b5⟩
  rw [hw] at e2 e3
  clear hw
  have e9 := laws_eqNode_f w0 w1 w2 w3 w4 w5 w6 w7 w8 w9 w10 w11 w12 s1 s2 s4 s5 s6
  have m5 := laws_markNode_f w3 w4 w5 w6 w7 w8 w9 w10 w12 w0 w1 w2 w11 s1 s3 s4 s5 s6
  have m6 := laws_heldNode_f w3 w4 w5 w6 w7 w8 w9 w10 w12 w0 w1 w2 w11 s1 s3 s4 s5 s6
  have m8 : ¬ (1 + (wt w0 : Int) + w1.length + w2.length + w11.length < 0) := by omega
  have hb : (w13 != w13) = false := by cases w13 <;> rfl
  simp only [q3, q3', ↓reduceIte, laws_toNode.told, e1, laws_toBoolS.told, e1b, spec_Uplink.told, e2, impl_Uplink.told, e3, laws_eqNode.told, e9, e4, laws_eqBoolS.told, e6, laws_markNode.told, e5, m5, laws_markBoolS.told, e7, laws_heldNode.told, m6, bind_ok, m7, m8, hb, Bool.not_true, Bool.false_eq_true, decide_true]
end Go.Proofs.YtobfemcobakeoaaGreat.Pure
