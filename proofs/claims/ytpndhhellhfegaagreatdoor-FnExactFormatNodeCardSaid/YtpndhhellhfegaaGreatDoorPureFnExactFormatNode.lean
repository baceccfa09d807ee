/- The plain law of FnExactFormatNode. No conditions. -/
import Derived.Test.YtpndhhellhfegaaGreatDoorEvLFnExactFormatNode
import Derived.Test.YtpndhhellhfegaaGreatDoorLibP
import Derived.Lib.ItoaLen
namespace Go.Proofs.YtpndhhellhfegaaGreatDoor.Pure
open Go.RowKit Go.Proofs.YtpndhhellhfegaaGreatDoorEv Go.Proofs.YtpndhhellhfegaaGreatDoor.Ev
set_option linter.unusedVariables false
set_option linter.unusedSimpArgs false
set_option maxRecDepth 20000
/-- A number between two. -/
def inB (x a b : Int) : Bool := decide (x ≥ a) && decide (x ≤ b)
theorem spec_l01In_f (x a b : Int) : spec_l01In.f x a b = some (inB x a b) := by
  simp only [spec_l01In.f, spec_l01In.begin, Tr.do_ite, Tr.do_ret, inB]
  cases decide (x ≥ a) <;> simp
theorem impl_within_f (x a b : Int) : impl_within.f x a b = some (inB x a b) := by
  simp only [impl_within.f, impl_within.begin, Tr.do_ite, Tr.do_ret, inB]
  cases decide (x ≥ a) <;> simp
/-- How many statements and tasks there are. -/
def tot (l : List S126) : Nat := l.length + (l.map fun t => t.f0.length).sum
theorem laws_szStmtS_f (l : List S174) (n : Int) (hl : l.length ≤ 9223372036854775807) (h0 : 0 ≤ n) (h1 : n ≤ 1048576) : laws_szStmtS.f l n = some (if n - l.length < 0 then -1 else n - l.length) := by
  have w : wr (n - l.length) = n - l.length := wr_in (by omega)
  simp only [laws_szStmtS.f, laws_szStmtS.begin, Tr.do_ite, Tr.do_ret, w, decide_eq_true_eq]
  split <;> rfl
theorem laws_szTask_f (l : List S174) (a b c n : Int) (hl : l.length ≤ 9223372036854775807) (h0 : 0 ≤ n) (h1 : n ≤ 1048576) : laws_szTask.f l a b c n = some (if n - l.length < 0 then -1 else n - l.length) := by
  simp only [laws_szTask.f, laws_szTask.begin, Tr.do_call, Tr.do_ite, Tr.do_ret, laws_szStmtS.told, laws_szStmtS_f l n hl h0 h1, bind_ok, decide_eq_true_eq]
  by_cases h : n - (l.length : Int) < 0
  · simp [h]
  · simp [h]
theorem laws_szTaskS_f (l : List S126) (n : Int) (hl : l.length ≤ 9223372036854775807) (hs : ∀ t ∈ l, t.f0.length ≤ 9223372036854775807) (h0 : 0 ≤ n) (h1 : n ≤ 1048576) :
    laws_szTaskS.f l n = some (if (tot l : Int) ≤ n then n - tot l else -1) := by
  have w : wr (n - l.length) = n - l.length := wr_in (by omega)
  simp only [laws_szTaskS.f, laws_szTaskS.begin, Tr.do_ite, Tr.do_ret, Tr.do_jump, w, decide_eq_true_eq]
  split
  · rename_i h
    rw [if_neg (by unfold tot; omega)]
  · rename_i h
    have key := scan_loop l (fun (s : Int) t => if s - t.f0.length < 0 then .inr (-1) else .inl (s - t.f0.length)) (fun s => s) (fun _ s => 0 ≤ s ∧ s ≤ 1048576) (fun i s => lp laws_szTaskS.tree (.c5 l s (i : Int))) (n - l.length) ⟨by omega, by omega⟩
      (fun i h s hi => by
        have e := laws_szTask_f l[i].f0 l[i].f1.f0 l[i].f1.f1 l[i].f1.f2 s (hs _ (List.getElem_mem h)) hi.1 hi.2
        have step : lp laws_szTaskS.tree (.c5 l s (i : Int)) = if s - l[i].f0.length < 0 then some (-1) else lp laws_szTaskS.tree (.c5 l (s - l[i].f0.length) ((i + 1 : Nat) : Int)) := by
          rw [lp_eq]
          simp only [laws_szTaskS.tree, Tr.do_ite, Tr.do_need, Tr.do_call, Tr.do_ret, Tr.do_jump, laws_szTask.told, getD_lt h, lt_dec h, in_lt h, e, bind_ok, wr_next (show i < 4611686018427387904 by omega), ↓reduceIte, and_self, decide_eq_true_eq]
          by_cases q : s - (l[i].f0.length : Int) < 0
          · simp [q]
          · simp [q]
        refine ⟨fun s' hs' => ?_, fun r hr => ?_⟩
        · split at hs'
          · cases hs'
          · rename_i q
            cases hs'
            exact ⟨by rw [step, if_neg q], by omega, by omega⟩
        · split at hr
          · rename_i q
            cases hr
            rw [step, if_pos q]
          · cases hr)
      (fun s hi => by rw [lp_eq]; simp only [laws_szTaskS.tree, Tr.do_ite, Tr.do_ret, ge_dec, Bool.false_eq_true, ↓reduceIte])
    rw [show ((0 : Nat) : Int) = 0 from rfl] at key
    rw [key]
    congr 1
    have gen : ∀ (l : List S126) (s : Int), 0 ≤ s → scan (fun (s : Int) (t : S126) => if s - t.f0.length < 0 then .inr (-1) else .inl (s - t.f0.length)) (fun s => s) l s = if (((l.map fun t => t.f0.length).sum : Nat) : Int) ≤ s then s - ((l.map fun t => t.f0.length).sum : Nat) else -1 := by
      intro l
      induction l with
      | nil => intro s hs; simp [scan, hs]
      | cons t l ih =>
        intro s hs
        unfold scan
        by_cases q : s - (t.f0.length : Int) < 0
        · rw [if_pos q]
          dsimp only
          rw [List.map_cons, List.sum_cons, if_neg (by omega)]
        · rw [if_neg q]
          dsimp only
          rw [ih _ (by omega), List.map_cons, List.sum_cons]
          by_cases q' : (((l.map fun t => t.f0.length).sum : Nat) : Int) ≤ s - (t.f0.length : Int)
          · rw [if_pos q', if_pos (by omega)]; omega
          · rw [if_neg q', if_neg (by omega)]
    rw [gen _ _ (by omega)]
    unfold tot
    by_cases q : (((l.map fun t => t.f0.length).sum : Nat) : Int) ≤ n - (l.length : Int)
    · rw [if_pos q, if_pos (by omega)]; omega
    · rw [if_neg q, if_neg (by omega)]
theorem laws_szProgram_f (l : List S126) (n : Int) (hl : l.length ≤ 9223372036854775807) (hs : ∀ t ∈ l, t.f0.length ≤ 9223372036854775807) (h0 : 0 ≤ n) (h1 : n ≤ 1048576) :
    laws_szProgram.f l n = some (if (tot l : Int) ≤ n then n - tot l else -1) := by
  simp only [laws_szProgram.f, laws_szProgram.begin, Tr.do_call, Tr.do_ite, Tr.do_ret, laws_szTaskS.told, laws_szTaskS_f l n hl hs h0 h1, bind_ok, decide_eq_true_eq]
  by_cases h : (tot l : Int) ≤ n
  · rw [if_pos h]
    have q : ¬ (n - (tot l : Int) < 0) := by omega
    simp only [q, ↓reduceIte]
  · rw [if_neg h]
    rfl
/-- A law's statement as a program's. -/
def toSt (x : S174) : S121 := ⟨x.f0, x.f1, x.f2, (⟨x.f3.f0, x.f3.f1, x.f3.f2⟩ : S85)⟩
/-- A law's task as a program's. -/
def toTk (x : S126) : S87 := ⟨x.f0.map toSt, (⟨x.f1.f0, x.f1.f1, x.f1.f2⟩ : S85)⟩
theorem laws_toExpr_f (a b c : Int) : laws_toExpr.f a b c = some (a, b, c) := rfl
theorem laws_toStmt_f (a b c d e f : Int) : laws_toStmt.f a b c d e f = some (a, b, c, d, e, f) := rfl
theorem laws_toStmtS_f (l : List S174) (hl : l.length ≤ 1048576) : laws_toStmtS.f l = some (l.map toSt) := by
  have h1 : (0 : Int) ≤ (List.length l : Int) ∧ (List.length l : Int) ≤ (List.length l : Int) ∧ (List.length l : Int) * (48 : Nat) ≤ room := ⟨by omega, by omega, by unfold room; omega⟩
  simp only [laws_toStmtS.f, laws_toStmtS.begin, Tr.do_need, Tr.do_jump, h1, and_self, decide_true, ↓reduceIte, Int.toNat_natCast]
  refine map_loop l toSt z121 id (fun i s => lp laws_toStmtS.tree (.c3 l s (i : Int))) (fun i h s hs => ?_) (fun s => ?_)
  · rw [lp_eq]
    have h2 : i < s.length := by omega
    simp only [laws_toStmtS.tree, Tr.do_ite, Tr.do_need, Tr.do_call, Tr.do_val, Tr.do_jump, laws_toStmt.told, laws_toStmt_f, bind_ok, lt_dec h, in_lt h, in_lt h2, getD_lt h, and_self, decide_true, ↓reduceIte, wr_next (show i < 4611686018427387904 by omega), Int.toNat_natCast, toSt]
  · rw [lp_eq]
    simp only [laws_toStmtS.tree, Tr.do_ite, Tr.do_ret, ge_dec, Bool.false_eq_true, ↓reduceIte, id]
theorem laws_toTask_f (l : List S174) (a b c : Int) (hl : l.length ≤ 1048576) : laws_toTask.f l a b c = some (l.map toSt, a, b, c) := by
  simp only [laws_toTask.f, laws_toTask.begin, Tr.do_call, Tr.do_ret, laws_toStmtS.told, laws_toExpr.told, laws_toStmtS_f l hl, laws_toExpr_f, bind_ok]
theorem laws_toTaskS_f (l : List S126) (hl : l.length ≤ 1048576) (hs : ∀ t ∈ l, t.f0.length ≤ 1048576) : laws_toTaskS.f l = some (l.map toTk) := by
  have h1 : (0 : Int) ≤ (List.length l : Int) ∧ (List.length l : Int) ≤ (List.length l : Int) ∧ (List.length l : Int) * (48 : Nat) ≤ room := ⟨by omega, by omega, by unfold room; omega⟩
  simp only [laws_toTaskS.f, laws_toTaskS.begin, Tr.do_need, Tr.do_jump, h1, and_self, decide_true, ↓reduceIte, Int.toNat_natCast]
  refine map_loop l toTk z87 id (fun i s => lp laws_toTaskS.tree (.c3 l s (i : Int))) (fun i h s hs' => ?_) (fun s => ?_)
  · rw [lp_eq]
    have h2 : i < s.length := by omega
    simp only [laws_toTaskS.tree, Tr.do_ite, Tr.do_need, Tr.do_call, Tr.do_val, Tr.do_jump, laws_toTask.told, laws_toTask_f _ _ _ _ (hs _ (List.getElem_mem h)), bind_ok, lt_dec h, in_lt h, in_lt h2, getD_lt h, and_self, decide_true, ↓reduceIte, wr_next (show i < 4611686018427387904 by omega), Int.toNat_natCast, toTk]
  · rw [lp_eq]
    simp only [laws_toTaskS.tree, Tr.do_ite, Tr.do_ret, ge_dec, Bool.false_eq_true, ↓reduceIte, id]
theorem laws_toProgram_f (l : List S126) (hl : l.length ≤ 1048576) (hs : ∀ t ∈ l, t.f0.length ≤ 1048576) : laws_toProgram.f l = some (l.map toTk) := by
  simp only [laws_toProgram.f, laws_toProgram.begin, Tr.do_call, Tr.do_ret, laws_toTaskS.told, laws_toTaskS_f l hl hs, bind_ok]
theorem laws_toIntS_f (l : List Int) (hl : l.length ≤ 1048576) : laws_toIntS.f l = some l := by
  have h1 : (0 : Int) ≤ (List.length l : Int) ∧ (List.length l : Int) ≤ (List.length l : Int) ∧ (List.length l : Int) * (8 : Nat) ≤ room := ⟨by omega, by omega, by unfold room; omega⟩
  simp only [laws_toIntS.f, laws_toIntS.begin, Tr.do_need, Tr.do_jump, h1, and_self, decide_true, ↓reduceIte, Int.toNat_natCast]
  have e := map_loop l (fun x : Int => x) 0 id (fun i s => lp laws_toIntS.tree (.c3 l s (i : Int))) (fun i h s hs => by
    rw [lp_eq]
    have h2 : i < s.length := by omega
    simp only [laws_toIntS.tree, Tr.do_ite, Tr.do_need, Tr.do_call, Tr.do_val, Tr.do_jump, bind_ok, lt_dec h, in_lt h, in_lt h2, getD_lt h, and_self, decide_true, ↓reduceIte, wr_next (show i < 4611686018427387904 by omega), Int.toNat_natCast]) (fun s => by
    rw [lp_eq]
    simp only [laws_toIntS.tree, Tr.do_ite, Tr.do_ret, ge_dec, Bool.false_eq_true, ↓reduceIte, id])
  rw [List.map_id''] at e
  · exact e
  · exact fun _ => rfl
theorem laws_toStore_f (a b c d : Int) : laws_toStore.f a b c d = some (a, b, c, d) := rfl
/-! Everything is equal to itself. -/
theorem laws_eqExpr_f (a b c : Int) : laws_eqExpr.f a b c a b c = some true := by
  simp [laws_eqExpr.f, laws_eqExpr.begin]
theorem laws_eqStmt_f (a b c d e f : Int) : laws_eqStmt.f a b c d e f a b c d e f = some true := by
  simp [laws_eqStmt.f, laws_eqStmt.begin, laws_eqExpr.told, laws_eqExpr_f]
theorem laws_eqStmtS_f (l : List S121) (hl : l.length ≤ 1048576) : laws_eqStmtS.f l l = some true := by
  simp only [laws_eqStmtS.f, laws_eqStmtS.begin, Tr.do_ite, Tr.do_jump, decide_true, Bool.not_true, Bool.false_eq_true, ↓reduceIte]
  refine same_loop l.length true (fun i => lp laws_eqStmtS.tree (.c4 l l (i : Int))) (fun i h => by
    rw [lp_eq]
    simp only [laws_eqStmtS.tree, Tr.do_ite, Tr.do_need, Tr.do_last, Tr.do_call, Tr.do_jump, laws_eqStmt.told, laws_eqStmt_f, bind_ok, lt_dec h, in_lt h, getD_lt h, and_self, decide_true, ↓reduceIte, Bool.not_true, Bool.false_eq_true, wr_next (show i < 4611686018427387904 by omega)]) (by
    rw [lp_eq]
    simp only [laws_eqStmtS.tree, Tr.do_ite, Tr.do_ret, ge_dec, Bool.false_eq_true, ↓reduceIte])
theorem laws_eqTask_f (l : List S121) (a b c : Int) (hl : l.length ≤ 1048576) : laws_eqTask.f l a b c l a b c = some true := by
  simp [laws_eqTask.f, laws_eqTask.begin, laws_eqStmtS.told, laws_eqStmtS_f l hl, laws_eqExpr.told, laws_eqExpr_f]
theorem laws_eqTaskS_f (l : List S87) (hl : l.length ≤ 1048576) (hs : ∀ t ∈ l, t.f0.length ≤ 1048576) : laws_eqTaskS.f l l = some true := by
  simp only [laws_eqTaskS.f, laws_eqTaskS.begin, Tr.do_ite, Tr.do_jump, decide_true, Bool.not_true, Bool.false_eq_true, ↓reduceIte]
  refine same_loop l.length true (fun i => lp laws_eqTaskS.tree (.c4 l l (i : Int))) (fun i h => by
    rw [lp_eq]
    simp only [laws_eqTaskS.tree, Tr.do_ite, Tr.do_need, Tr.do_last, Tr.do_call, Tr.do_jump, laws_eqTask.told, laws_eqTask_f _ _ _ _ (hs _ (List.getElem_mem h)), bind_ok, lt_dec h, in_lt h, getD_lt h, and_self, decide_true, ↓reduceIte, Bool.not_true, Bool.false_eq_true, wr_next (show i < 4611686018427387904 by omega)]) (by
    rw [lp_eq]
    simp only [laws_eqTaskS.tree, Tr.do_ite, Tr.do_ret, ge_dec, Bool.false_eq_true, ↓reduceIte])
theorem laws_eqProgram_f (l : List S87) (hl : l.length ≤ 1048576) (hs : ∀ t ∈ l, t.f0.length ≤ 1048576) : laws_eqProgram.f l l = some true := by
  simp [laws_eqProgram.f, laws_eqProgram.begin, laws_eqTaskS.told, laws_eqTaskS_f l hl hs]
theorem laws_eqIntS_f (l : List Int) (hl : l.length ≤ 1048576) : laws_eqIntS.f l l = some true := by
  simp only [laws_eqIntS.f, laws_eqIntS.begin, Tr.do_ite, Tr.do_jump, decide_true, Bool.not_true, Bool.false_eq_true, ↓reduceIte]
  refine same_loop l.length true (fun i => lp laws_eqIntS.tree (.c4 l l (i : Int))) (fun i h => by
    rw [lp_eq]
    simp only [laws_eqIntS.tree, Tr.do_ite, Tr.do_need, Tr.do_last, Tr.do_call, Tr.do_jump, bind_ok, lt_dec h, in_lt h, getD_lt h, and_self, decide_true, ↓reduceIte, decide_true, Bool.not_true, Bool.false_eq_true, wr_next (show i < 4611686018427387904 by omega)]) (by
    rw [lp_eq]
    simp only [laws_eqIntS.tree, Tr.do_ite, Tr.do_ret, ge_dec, Bool.false_eq_true, ↓reduceIte])
theorem laws_eqStore_f (a b c d : Int) : laws_eqStore.f a b c d a b c d = some true := by simp [laws_eqStore.f, laws_eqStore.begin]
theorem laws_eqSpan_f (a b : Int) : laws_eqSpan.f a b a b = some true := by simp [laws_eqSpan.f, laws_eqSpan.begin]
theorem laws_eqGateway_f (l : List Int) (hl : l.length ≤ 1048576) : laws_eqGateway.f l l = some true := by simp [laws_eqGateway.f, laws_eqGateway.begin, laws_eqIntS.told, laws_eqIntS_f l hl]
theorem laws_eqLink_f (a : Int) (l : List Int) (hl : l.length ≤ 1048576) : laws_eqLink.f a l a l = some true := by simp [laws_eqLink.f, laws_eqLink.begin, laws_eqGateway.told, laws_eqGateway_f l hl]
theorem laws_eqNode_f (p : List S87) (m r : List Int) (a3 a4 a5 a6 a7 a8 a9 a10 : Int) (h : List Int) (a12 : Int) (hp : p.length ≤ 1048576) (hs : ∀ t ∈ p, t.f0.length ≤ 1048576) (hm : m.length ≤ 1048576) (hr : r.length ≤ 1048576) (hh : h.length ≤ 1048576) :
    laws_eqNode.f p m r a3 a4 a5 a6 a7 a8 a9 a10 h a12 p m r a3 a4 a5 a6 a7 a8 a9 a10 h a12 = some true := by
  simp [laws_eqNode.f, laws_eqNode.begin, laws_eqProgram.told, laws_eqProgram_f p hp hs, laws_eqIntS.told, laws_eqIntS_f m hm, laws_eqIntS_f r hr, laws_eqStore.told, laws_eqStore_f, laws_eqSpan.told, laws_eqSpan_f, laws_eqLink.told, laws_eqLink_f _ h hh]
/-- A statement with numbers of its own. -/
def mkSt (k : Int) : S121 := ⟨k, k + 1, k + 1 + 1, (⟨k + 1 + 1 + 1, k + 1 + 1 + 1 + 1, k + 1 + 1 + 1 + 1 + 1⟩ : S85)⟩
def nextSt (k : Int) (_ : S121) : Int := k + 1 + 1 + 1 + 1 + 1 + 1
/-- Statements with numbers of their own. -/
def mkSts (k : Int) (l : List S121) : List S121 := mapS nextSt (fun k _ => mkSt k) k l
theorem fold_nextSt (l : List S121) (k : Int) : l.foldl nextSt k = k + 6 * l.length :=
  foldl_inv l nextSt (fun i s => s = k + 6 * i) k (by simp) (fun i h s hs => by unfold nextSt; omega)
theorem laws_markStmtS_f (k : Int) (l : List S121) (h0 : 0 ≤ k) (h1 : k + 6 * l.length ≤ 1099511627776) : laws_markStmtS.f k l = some (k + 6 * l.length, mkSts k l) := by
  simp only [laws_markStmtS.f, laws_markStmtS.begin, Tr.do_jump]
  have e := put_loop l nextSt (fun k _ => mkSt k) z121 (fun i s => s = k + 6 * i) (fun s m => (s, m)) (fun i s m => lp laws_markStmtS.tree (.c2 s (i : Int) m)) k (by simp) (fun i h s m hs hm hg => by
    refine ⟨?_, by unfold nextSt; omega⟩
    rw [lp_eq]
    have h2 : i < m.length := by omega
    have w1 : wr (s + 1) = s + 1 := wr_in (by omega)
    have w2 : wr (s + 1 + 1) = s + 1 + 1 := wr_in (by omega)
    have w3 : wr (s + 1 + 1 + 1) = s + 1 + 1 + 1 := wr_in (by omega)
    have w4 : wr (s + 1 + 1 + 1 + 1) = s + 1 + 1 + 1 + 1 := wr_in (by omega)
    have w5 : wr (s + 1 + 1 + 1 + 1 + 1) = s + 1 + 1 + 1 + 1 + 1 := wr_in (by omega)
    have w6 : wr (s + 1 + 1 + 1 + 1 + 1 + 1) = s + 1 + 1 + 1 + 1 + 1 + 1 := wr_in (by omega)
    have w7 : wr ((i : Int) + 1) = ((i + 1 : Nat) : Int) := wr_next (by omega)
    clear hs h0 h1
    simp only [laws_markStmtS.tree, Tr.do_ite, Tr.do_need, Tr.do_val, Tr.do_jump, List.length_set, lt_dec h2, in_lt h2, and_self, decide_true, ↓reduceIte, Int.toNat_natCast, List.set_set, hg, w1, w2, w3, w4, w5, w6, w7, List.getD, List.getElem?_set_self h2, List.getElem?_set_self, Option.getD_some, h2]
    rfl) (fun s m hs hm => by
    rw [lp_eq]
    simp only [laws_markStmtS.tree, Tr.do_ite, Tr.do_ret, hm, ge_dec, Bool.false_eq_true, ↓reduceIte])
  rw [fold_nextSt] at e
  exact e
/-- The numbers that tasks take. -/
def wt (l : List S87) : Nat := (l.map fun t => 6 * t.f0.length + 3).sum
def nextTk (k : Int) (t : S87) : Int := k + 6 * t.f0.length + 1 + 1 + 1
def mkTk (k : Int) (t : S87) : S87 := ⟨mkSts k t.f0, (⟨k + 6 * t.f0.length, k + 6 * t.f0.length + 1, k + 6 * t.f0.length + 1 + 1⟩ : S85)⟩
/-- Tasks with numbers of their own. -/
def mkTks (k : Int) (l : List S87) : List S87 := mapS nextTk mkTk k l
theorem fold_nextTk : ∀ (l : List S87) (k : Int), l.foldl nextTk k = k + wt l
  | [], k => by simp [wt]
  | t :: l, k => by
    rw [List.foldl_cons, fold_nextTk l, nextTk, wt, wt, List.map_cons, List.sum_cons]
    omega
theorem wt_drop (l : List S87) (i : Nat) (h : i < l.length) : wt (l.drop i) = 6 * l[i].f0.length + 3 + wt (l.drop (i + 1)) := by
  rw [wt, wt, List.drop_eq_getElem_cons h, List.map_cons, List.sum_cons]
theorem laws_markTaskS_f (k : Int) (l : List S87) (hl : l.length ≤ 1048576) (h0 : 0 ≤ k) (h1 : k + wt l ≤ 1099511627776) : laws_markTaskS.f k l = some (k + wt l, mkTks k l) := by
  simp only [laws_markTaskS.f, laws_markTaskS.begin, Tr.do_jump]
  have e := put_loop l nextTk mkTk z87 (fun i s => 0 ≤ s ∧ s + wt (l.drop i) ≤ 1099511627776) (fun s m => (s, m)) (fun i s m => lp laws_markTaskS.tree (.c2 s (i : Int) m)) k ⟨h0, by simpa using h1⟩ (fun i h s m hs hm hg => by
    have hw := wt_drop l i h
    refine ⟨?_, by unfold nextTk; omega, by unfold nextTk; omega⟩
    rw [lp_eq]
    have h2 : i < m.length := by omega
    have hc := laws_markStmtS_f s l[i].f0 hs.1 (by omega)
    have w1 : wr (s + 6 * (l[i].f0.length : Int) + 1) = s + 6 * (l[i].f0.length : Int) + 1 := wr_in (by omega)
    have w2 : wr (s + 6 * (l[i].f0.length : Int) + 1 + 1) = s + 6 * (l[i].f0.length : Int) + 1 + 1 := wr_in (by omega)
    have w3 : wr (s + 6 * (l[i].f0.length : Int) + 1 + 1 + 1) = s + 6 * (l[i].f0.length : Int) + 1 + 1 + 1 := wr_in (by omega)
    have w7 : wr ((i : Int) + 1) = ((i + 1 : Nat) : Int) := wr_next (by omega)
    have hg' : rdS87 m (i : Int) = l[i] := hg
    clear hs h0 h1 hw hl
    simp only [laws_markTaskS.tree, Tr.do_ite, Tr.do_need, Tr.do_call, Tr.do_val, Tr.do_jump, laws_markStmtS.told, List.length_set, lt_dec h2, in_lt h2, and_self, decide_true, ↓reduceIte, Int.toNat_natCast, List.set_set, hg', hc, bind_ok, w1, w2, w3, w7, List.getD, List.getElem?_set_self h2, List.getElem?_set_self, Option.getD_some, h2]
    rfl) (fun s m hs hm => by
    rw [lp_eq]
    simp only [laws_markTaskS.tree, Tr.do_ite, Tr.do_ret, hm, ge_dec, Bool.false_eq_true, ↓reduceIte])
  rw [fold_nextTk] at e
  exact e
def nextI (k : Int) (_ : Int) : Int := k + 1
/-- A row of numbers. -/
def mkIs (k : Int) (l : List Int) : List Int := mapS nextI (fun k _ => k) k l
theorem fold_nextI (l : List Int) (k : Int) : l.foldl nextI k = k + l.length :=
  foldl_inv l nextI (fun i s => s = k + i) k (by simp) (fun i h s hs => by unfold nextI; omega)
theorem laws_markIntS_f (k : Int) (l : List Int) (h0 : 0 ≤ k) (h1 : k + l.length ≤ 1099511627776) : laws_markIntS.f k l = some (k + l.length, mkIs k l) := by
  simp only [laws_markIntS.f, laws_markIntS.begin, Tr.do_jump]
  have e := put_loop l nextI (fun k _ => k) 0 (fun i s => s = k + i) (fun s m => (s, m)) (fun i s m => lp laws_markIntS.tree (.c2 s (i : Int) m)) k (by simp) (fun i h s m hs hm hg => by
    refine ⟨?_, by unfold nextI; omega⟩
    rw [lp_eq]
    have h2 : i < m.length := by omega
    have w1 : wr (s + 1) = s + 1 := wr_in (by omega)
    have w7 : wr ((i : Int) + 1) = ((i + 1 : Nat) : Int) := wr_next (by omega)
    simp only [laws_markIntS.tree, Tr.do_ite, Tr.do_need, Tr.do_jump, lt_dec h2, in_lt h2, and_self, decide_true, ↓reduceIte, Int.toNat_natCast, w1, w7, nextI]) (fun s m hs hm => by
    rw [lp_eq]
    simp only [laws_markIntS.tree, Tr.do_ite, Tr.do_ret, hm, ge_dec, Bool.false_eq_true, ↓reduceIte])
  rw [fold_nextI] at e
  exact e
theorem laws_markNode_f (a0 a1 a2 a3 a4 a5 a6 a7 a8 : Int) (p : List S87) (m r h : List Int) (hp : p.length ≤ 1048576) (hw : wt p ≤ 100000000) (hm : m.length ≤ 1048576) (hr : r.length ≤ 1048576) (hh : h.length ≤ 1048576) :
    laws_markNode.f a0 a1 a2 a3 a4 a5 a6 a7 a8 1 p m r h = some (1 + (wt p : Int) + m.length + r.length + h.length, mkTks 1 p, mkIs (1 + wt p) m, mkIs (1 + wt p + m.length) r, mkIs (1 + wt p + m.length + r.length) h) := by
  simp [laws_markNode.f, laws_markNode.begin, laws_markProgram.told, laws_markProgram.f, laws_markProgram.begin, laws_markTaskS.told, laws_markTaskS_f 1 p hp (by omega) (by omega), laws_markIntS.told, laws_markIntS_f (1 + wt p) m (by omega) (by omega), laws_markIntS_f (1 + wt p + m.length) r (by omega) (by omega), laws_markLink.told, laws_markLink.f, laws_markLink.begin, laws_markGateway.told, laws_markGateway.f, laws_markGateway.begin, laws_markIntS_f (1 + wt p + m.length + r.length) h (by omega) (by omega)]
def okX (a b c : Int) : Bool := inB a 1 7 && (inB b (-8) 999 && inB c (-8) 999)
theorem spec_ExprOk_f (a b c : Int) : spec_ExprOk.f a b c = some (okX a b c) := by
  simp only [spec_ExprOk.f, spec_ExprOk.begin, Tr.do_call, Tr.do_ite, Tr.do_ret, spec_l01In.told, spec_l01In_f, spec_OperandOk.told, spec_OperandOk.f, spec_OperandOk.begin, bind_ok, okX]
  cases inB a 1 7 <;> cases inB b (-8) 999 <;> rfl
theorem impl_ExprOk_f (a b c : Int) : impl_ExprOk.f a b c = some (okX a b c) := by
  simp only [impl_ExprOk.f, impl_ExprOk.begin, Tr.do_call, Tr.do_ite, Tr.do_ret, impl_within.told, impl_within_f, impl_OperandOk.told, impl_OperandOk.f, impl_OperandOk.begin, bind_ok, okX]
  cases inB a 1 7 <;> cases inB b (-8) 999 <;> rfl
/-- A valid statement. -/
def okSt (x0 x1 x2 x3 x4 x5 : Int) : Bool :=
  if x0 = 1 then decide (x2 = 0) && (inB x1 0 7 && okX x3 x4 x5)
  else if x0 = 2 then (decide (x3 = 0) && (decide (x4 = 0) && decide (x5 = 0))) && (inB x1 0 7 && inB x2 0 3)
  else if x0 = 3 ∨ x0 = 4 then decide (x1 = 0) && (decide (x2 = 0) && okX x3 x4 x5)
  else if x0 = 5 then decide (x1 = 0) && ((decide (x3 = 0) && (decide (x4 = 0) && decide (x5 = 0))) && inB x2 1 5)
  else if x0 = 6 then decide (x1 = 0) && (decide (x2 = 0) && (decide (x3 = 0) && (decide (x4 = 0) && decide (x5 = 0))))
  else false
theorem plain_c (a b c d e f g h i j k l : Int) : lp spec_l04Plain.tree (.c14 a b c d e f g h i j k l) = some (g, h, i, j, k, l) := by
  rw [lp_eq]
  rfl
theorem spec_StmtOk_f (x0 x1 x2 x3 x4 x5 : Int) : spec_StmtOk.f x0 x1 x2 x3 x4 x5 = some (okSt x0 x1 x2 x3 x4 x5) := by
  unfold okSt
  simp only [spec_StmtOk.f, spec_StmtOk.begin, spec_l04Plain.told, spec_l04Plain.f, spec_l04Plain.begin, Tr.do_call, Tr.do_ite, Tr.do_ret, Tr.do_last, Tr.do_val, Tr.do_jump, plain_c, spec_l01In.told, spec_l01In_f, spec_ExprOk.told, spec_ExprOk_f, bind_ok, decide_eq_true_eq]
  by_cases h1 : x0 = 1
  · simp only [h1, ↓reduceIte, bind_ok]
    by_cases h2 : x2 = 0 <;> cases inB x1 0 7 <;> simp [h2]
  by_cases h2 : x0 = 2
  · simp only [h2, ↓reduceIte, bind_ok]
    by_cases g3 : x3 = 0 <;> by_cases g4 : x4 = 0 <;> by_cases g5 : x5 = 0 <;> cases inB x1 0 7 <;> simp [g3, g4, g5]
  by_cases h3 : x0 = 3
  · simp only [h3, ↓reduceIte, bind_ok]
    by_cases g1 : x1 = 0 <;> by_cases g2 : x2 = 0 <;> simp [g1, g2]
  by_cases h4 : x0 = 4
  · simp only [h4, ↓reduceIte, bind_ok]
    by_cases g1 : x1 = 0 <;> by_cases g2 : x2 = 0 <;> simp [g1, g2]
  by_cases h5 : x0 = 5
  · simp only [h5, ↓reduceIte, bind_ok]
    by_cases g1 : x1 = 0 <;> by_cases g3 : x3 = 0 <;> by_cases g4 : x4 = 0 <;> by_cases g5 : x5 = 0 <;> simp [g1, g3, g4, g5]
  simp only [h1, h2, h3, h4, h5, ↓reduceIte, bind_ok, or_self]
  by_cases g1 : x1 = 0 <;> by_cases g2 : x2 = 0 <;> by_cases g3 : x3 = 0 <;> by_cases g4 : x4 = 0 <;> by_cases g5 : x5 = 0 <;> by_cases h6 : x0 = 6 <;> simp [g1, g2, g3, g4, g5, h6]
theorem impl_StmtOk_c5 (x0 x1 x2 x3 x4 x5 : Int) : lp impl_StmtOk.tree (.c5 x0 x1 x2 x3 x4 x5) = some (if x0 = 2 then inB x2 0 3 else if x0 = 5 then inB x2 1 5 else decide (x2 = 0)) := by
  rw [lp_eq]
  simp only [impl_StmtOk.tree, Tr.do_call, Tr.do_ite, Tr.do_ret, impl_isSensor.told, impl_isSensor.f, impl_isSensor.begin, impl_within.told, impl_within_f, bind_ok, decide_eq_true_eq]
  split
  · rfl
  · split <;> rfl
theorem impl_StmtOk_c3 (x0 x1 x2 x3 x4 x5 : Int) : lp impl_StmtOk.tree (.c3 x0 x1 x2 x3 x4 x5) = some (if x0 = 1 ∨ x0 = 3 ∨ x0 = 4 then okX x3 x4 x5 && decide (x2 = 0) else (decide (x3 = 0) && (decide (x4 = 0) && decide (x5 = 0))) && (if x0 = 2 then inB x2 0 3 else if x0 = 5 then inB x2 1 5 else decide (x2 = 0))) := by
  rw [lp_eq]
  simp only [impl_StmtOk.tree, Tr.do_call, Tr.do_ite, Tr.do_ret, Tr.do_val, Tr.do_jump, impl_hasExpr.told, impl_hasExpr.f, impl_hasExpr.begin, impl_ExprOk.told, impl_ExprOk_f, impl_StmtOk_c5, bind_ok, decide_eq_true_eq]
  by_cases h1 : x0 = 1
  · cases hx : okX x3 x4 x5 <;> simp [h1]
  by_cases h3 : x0 = 3
  · cases hx : okX x3 x4 x5 <;> simp [h3]
  by_cases h4 : x0 = 4
  · cases hx : okX x3 x4 x5 <;> simp [h4]
  by_cases g3 : x3 = 0 <;> by_cases g4 : x4 = 0 <;> by_cases g5 : x5 = 0 <;> simp [h1, h3, h4, g3, g4, g5]
theorem impl_StmtOk_f (x0 x1 x2 x3 x4 x5 : Int) : impl_StmtOk.f x0 x1 x2 x3 x4 x5 = some (okSt x0 x1 x2 x3 x4 x5) := by
  unfold okSt
  simp only [impl_StmtOk.f, impl_StmtOk.begin, Tr.do_call, Tr.do_ite, Tr.do_ret, Tr.do_val, Tr.do_jump, impl_hasVar.told, impl_hasVar.f, impl_hasVar.begin, impl_isVar.told, impl_isVar.f, impl_isVar.begin, impl_within.told, impl_within_f, impl_StmtOk_c3, bind_ok, decide_eq_true_eq]
  by_cases h1 : x0 = 1
  · subst h1
    rw [show inB 1 1 6 = true from rfl]
    cases inB x1 0 7 <;> cases okX x3 x4 x5 <;> simp
  by_cases h2 : x0 = 2
  · subst h2
    rw [show inB 2 1 6 = true from rfl]
    cases inB x1 0 7 <;> simp
  by_cases h3 : x0 = 3
  · subst h3
    rw [show inB 3 1 6 = true from rfl]
    by_cases g1 : x1 = 0 <;> cases okX x3 x4 x5 <;> simp [g1]
  by_cases h4 : x0 = 4
  · subst h4
    rw [show inB 4 1 6 = true from rfl]
    by_cases g1 : x1 = 0 <;> cases okX x3 x4 x5 <;> simp [g1]
  by_cases h5 : x0 = 5
  · subst h5
    rw [show inB 5 1 6 = true from rfl]
    by_cases g1 : x1 = 0 <;> simp [g1]
  by_cases h6 : x0 = 6
  · subst h6
    rw [show inB 6 1 6 = true from rfl]
    by_cases g1 : x1 = 0 <;> by_cases g2 : x2 = 0 <;> simp [g1, g2]
  · have hb : inB x0 1 6 = false := by
      unfold inB
      by_cases q : x0 ≥ 1
      · rw [decide_eq_true q, decide_eq_false (by omega)]
        rfl
      · rw [decide_eq_false q, Bool.false_and]
    simp [hb, h1, h2, h3, h4, h5, h6]
/-- The depth behind a statement. -/
def dep (x0 d : Int) : Int := if x0 = 4 ∨ x0 = 5 then d + 1 else if x0 = 6 then d - 1 else d
/-- Is a block valid from here on, at depth d? -/
def okB (n : Nat) : List S121 → Int → Bool
  | [], d => decide (d = 0) && decide ((n : Int) ≤ 24)
  | s :: l, d => okSt s.f0 s.f1 s.f2 s.f3.f0 s.f3.f1 s.f3.f2 && (inB (dep s.f0 d) 0 3 && okB n l (dep s.f0 d))
def stepB (d : Int) (s : S121) : Int ⊕ Bool := if okSt s.f0 s.f1 s.f2 s.f3.f0 s.f3.f1 s.f3.f2 = true then (if inB (dep s.f0 d) 0 3 = true then .inl (dep s.f0 d) else .inr false) else .inr false
theorem scan_okB (n : Nat) : ∀ (l : List S121) (d : Int), scan stepB (fun d => decide (d = 0) && decide ((n : Int) ≤ 24)) l d = okB n l d
  | [], d => rfl
  | s :: l, d => by
    unfold scan stepB okB
    cases okSt s.f0 s.f1 s.f2 s.f3.f0 s.f3.f1 s.f3.f2
    · rfl
    · cases inB (dep s.f0 d) 0 3
      · rfl
      · exact scan_okB n l _
theorem dep_wr {x d : Int} (h0 : 0 ≤ d) (h1 : d ≤ 3) : wr (d + 1) = d + 1 ∧ wr (d - 1) = d - 1 ∧ wr (d + 1 - 1) = d + 1 - 1 := ⟨wr_in (by omega), wr_in (by omega), wr_in (by omega)⟩
theorem inB_iff {x a b : Int} : inB x a b = true ↔ a ≤ x ∧ x ≤ b := by simp [inB]
theorem spec_BlockOk_f (l : List S121) (hl : l.length ≤ 1048576) : spec_BlockOk.f l = some (okB l.length l 0) := by
  simp only [spec_BlockOk.f, spec_BlockOk.begin, Tr.do_jump]
  rw [← scan_okB]
  refine scan_loop l stepB _ (fun _ d => 0 ≤ d ∧ d ≤ 3) (fun i d => lp spec_BlockOk.tree (.c3 l d (i : Int))) 0 ⟨by omega, by omega⟩ (fun i h d hd => ?_) (fun d hd => ?_)
  · obtain ⟨w1, w2, w3⟩ := dep_wr (x := d) hd.1 hd.2
    have w7 : wr ((i : Int) + 1) = ((i + 1 : Nat) : Int) := wr_next (by omega)
    have step : lp spec_BlockOk.tree (.c3 l d (i : Int)) = if okSt l[i].f0 l[i].f1 l[i].f2 l[i].f3.f0 l[i].f3.f1 l[i].f3.f2 = true then (if inB (dep l[i].f0 d) 0 3 = true then lp spec_BlockOk.tree (.c3 l (dep l[i].f0 d) ((i + 1 : Nat) : Int)) else some false) else some false := by
      rw [lp_eq]
      simp only [spec_BlockOk.tree, Tr.do_ite, Tr.do_need, Tr.do_call, Tr.do_ret, Tr.do_jump, spec_StmtOk.told, spec_StmtOk_f, spec_l01In.told, spec_l01In_f, getD_lt h, lt_dec h, in_lt h, and_self, decide_true, ↓reduceIte, bind_ok, w1, w2, w7]
      cases okSt l[i].f0 l[i].f1 l[i].f2 l[i].f3.f0 l[i].f3.f1 l[i].f3.f2
      · rfl
      · unfold dep
        by_cases h4 : l[i].f0 = 4
        · cases hb : inB (d + 1) 0 3 <;> simp [h4, hb]
        · by_cases h5 : l[i].f0 = 5
          · cases hb : inB (d + 1) 0 3 <;> simp [h4, h5, hb]
          · by_cases h6 : l[i].f0 = 6
            · cases hb : inB (d - 1) 0 3 <;> simp [h4, h5, h6, hb]
            · cases hb : inB d 0 3 <;> simp [h4, h5, h6, hb]
    rw [step]
    unfold stepB
    cases okSt l[i].f0 l[i].f1 l[i].f2 l[i].f3.f0 l[i].f3.f1 l[i].f3.f2
    · exact ⟨fun s' hs' => (by cases hs'), fun r hr => (by cases hr; rfl)⟩
    · cases hb : inB (dep l[i].f0 d) 0 3
      · exact ⟨fun s' hs' => (by cases hs'), fun r hr => (by cases hr; rfl)⟩
      · exact ⟨fun s' hs' => (by cases hs'; exact ⟨rfl, inB_iff.mp hb⟩), fun r hr => (by cases hr)⟩
  · rw [lp_eq]
    simp only [spec_BlockOk.tree, Tr.do_ite, Tr.do_ret, ge_dec, Bool.false_eq_true, ↓reduceIte]
    cases decide (d = 0) <;> rfl
theorem impl_BlockOk_f (l : List S121) (hl : l.length ≤ 1048576) : impl_BlockOk.f l = some (okB l.length l 0) := by
  simp only [impl_BlockOk.f, impl_BlockOk.begin, Tr.do_jump]
  rw [← scan_okB]
  refine scan_loop l stepB _ (fun _ d => 0 ≤ d ∧ d ≤ 3) (fun i d => lp impl_BlockOk.tree (.c3 l d l (List.length l : Int) (i : Int))) 0 ⟨by omega, by omega⟩ (fun i h d hd => ?_) (fun d hd => ?_)
  · obtain ⟨w1, w2, w3⟩ := dep_wr (x := d) hd.1 hd.2
    have w7 : wr ((i : Int) + 1) = ((i + 1 : Nat) : Int) := wr_next (by omega)
    have c12 : lp impl_BlockOk.tree .c12 = some false := by rw [lp_eq]; rfl
    have tst : ∀ (x : Int) (A : Option Bool), (if x < 0 then some false else if x > 3 then some false else A) = if inB x 0 3 = true then A else some false := fun x A => by
      by_cases q : x < 0
      · rw [if_pos q, if_neg (by rw [inB_iff]; omega)]
      · rw [if_neg q]
        by_cases q' : x > 3
        · rw [if_pos q', if_neg (by rw [inB_iff]; omega)]
        · rw [if_neg q', if_pos (by rw [inB_iff]; omega)]
    have step : lp impl_BlockOk.tree (.c3 l d l (List.length l : Int) (i : Int)) = if okSt l[i].f0 l[i].f1 l[i].f2 l[i].f3.f0 l[i].f3.f1 l[i].f3.f2 = true then (if inB (dep l[i].f0 d) 0 3 = true then lp impl_BlockOk.tree (.c3 l (dep l[i].f0 d) l (List.length l : Int) ((i + 1 : Nat) : Int)) else some false) else some false := by
      rw [lp_eq]
      simp only [impl_BlockOk.tree, Tr.do_ite, Tr.do_need, Tr.do_call, Tr.do_ret, Tr.do_jump, impl_StmtOk.told, impl_StmtOk_f, impl_isOpening.told, impl_isOpening.f, impl_isOpening.begin, c12, getD_lt h, lt_dec h, in_lt h, and_self, decide_true, ↓reduceIte, bind_ok, w1, w2, w3, w7, decide_eq_true_eq, tst]
      cases okSt l[i].f0 l[i].f1 l[i].f2 l[i].f3.f0 l[i].f3.f1 l[i].f3.f2
      · rfl
      · unfold dep
        by_cases h4 : l[i].f0 = 4
        · simp [h4]
        · by_cases h5 : l[i].f0 = 5
          · simp [h4, h5]
          · by_cases h6 : l[i].f0 = 6
            · simp [h4, h5, h6]
            · simp [h4, h5, h6]
    rw [step]
    unfold stepB
    cases okSt l[i].f0 l[i].f1 l[i].f2 l[i].f3.f0 l[i].f3.f1 l[i].f3.f2
    · exact ⟨fun s' hs' => (by cases hs'), fun r hr => (by cases hr; rfl)⟩
    · cases hb : inB (dep l[i].f0 d) 0 3
      · exact ⟨fun s' hs' => (by cases hs'), fun r hr => (by cases hr; rfl)⟩
      · exact ⟨fun s' hs' => (by cases hs'; exact ⟨rfl, inB_iff.mp hb⟩), fun r hr => (by cases hr)⟩
  · rw [lp_eq]
    simp only [impl_BlockOk.tree, Tr.do_ite, Tr.do_ret, ge_dec, Bool.false_eq_true, ↓reduceIte]
    cases decide (d = 0) <;> rfl
def isVal (x : Int) : Bool := inB x (-1000000) 1000000
theorem spec_IsValue_f (x : Int) : spec_IsValue.f x = some (isVal x) := by
  simp only [spec_IsValue.f, spec_IsValue.begin, Tr.do_call, Tr.do_ret, spec_l01In.told, spec_l01In_f, bind_ok, isVal]
theorem impl_IsValue_f (x : Int) : impl_IsValue.f x = some (isVal x) := by
  simp only [impl_IsValue.f, impl_IsValue.begin, Tr.do_call, Tr.do_ret, impl_within.told, impl_within_f, bind_ok, isVal]
theorem spec_l09Values_f (l : List Int) (hl : l.length ≤ 1048576) : spec_l09Values.f l = some (l.all isVal) := by
  simp only [spec_l09Values.f, spec_l09Values.begin, Tr.do_jump]
  have e := all_loop l isVal true (fun i => lp spec_l09Values.tree (.c2 l (i : Int))) (fun i h => by
    rw [lp_eq]
    simp only [spec_l09Values.tree, Tr.do_ite, Tr.do_need, Tr.do_call, Tr.do_ret, Tr.do_jump, spec_IsValue.told, spec_IsValue_f, bind_ok, getD_lt h, lt_dec h, in_lt h, and_self, decide_true, ↓reduceIte, wr_next (show i < 4611686018427387904 by omega)]
    cases isVal l[i] <;> rfl) (by
    rw [lp_eq]
    simp only [spec_l09Values.tree, Tr.do_ite, Tr.do_ret, ge_dec, Bool.false_eq_true, ↓reduceIte])
  rw [Bool.and_true] at e
  exact e
theorem any_not {A : Type} (l : List A) (p : A → Bool) : (!(l.any fun x => !p x)) = l.all p := by
  induction l with
  | nil => rfl
  | cons a l ih => rw [List.any_cons, List.all_cons, ← ih]; cases p a <;> simp
theorem impl_areValues_f (l : List Int) (hl : l.length ≤ 1048576) : impl_areValues.f l = some (l.all isVal) := by
  obtain ⟨r, hr, hd⟩ := find_loop l (fun x => !isVal x) (fun i => lp slices_IndexFunc_int_areValues_1.tree (.c2 l (List.length l : Int) (i : Int))) (fun i h => by
    rw [lp_eq]
    simp only [slices_IndexFunc_int_areValues_1.tree, Tr.do_ite, Tr.do_need, Tr.do_call, Tr.do_ret, Tr.do_jump, impl_areValues_1.told, impl_areValues_1.f, impl_areValues_1.begin, impl_IsValue.told, impl_IsValue_f, bind_ok, getD_lt h, lt_dec h, in_lt h, and_self, decide_true, ↓reduceIte, wr_next (show i < 4611686018427387904 by omega)]) (by
    rw [lp_eq]
    simp only [slices_IndexFunc_int_areValues_1.tree, Tr.do_ite, Tr.do_ret, ge_dec, Bool.false_eq_true, ↓reduceIte])
  have hr' : lp slices_IndexFunc_int_areValues_1.tree (.c2 l (List.length l : Int) 0) = some r := hr
  simp only [impl_areValues.f, impl_areValues.begin, Tr.do_call, Tr.do_ret, slices_ContainsFunc_int_areValues_1.told, slices_ContainsFunc_int_areValues_1.f, slices_ContainsFunc_int_areValues_1.begin, slices_IndexFunc_int_areValues_1.told, slices_IndexFunc_int_areValues_1.f, slices_IndexFunc_int_areValues_1.begin, Tr.do_jump, hr', bind_ok, hd, any_not]
theorem fits {A B : Type} (l : List A) (m : List B) (hl : l.length ≤ 1048576) (hm : m.length ≤ 1048576) (k : Nat) (hk : k ≤ 1000) : ((l.length : Int) + (m.length : Int)) * (k : Nat) ≤ room := by
  unfold room
  have h1 : ((l.length : Int) + (m.length : Int)) * (k : Int) ≤ 2097152 * (k : Int) := Int.mul_le_mul_of_nonneg_right (by omega) (by omega)
  omega
theorem slices_Clone_int_f (l : List Int) (hl : l.length ≤ 1048576) : slices_Clone_int.f l = some l := by
  simp only [slices_Clone_int.f, slices_Clone_int.begin, Tr.do_nilq, Tr.do_ret, Tr.do_need, fits ([] : List Int) l (by simp) hl 8 (by omega), ↓reduceIte, List.nil_append]
  cases l <;> simp
def okT (t : S87) : Bool := okB t.f0.length t.f0 0 && okX t.f1.f0 t.f1.f1 t.f1.f2
def okP (l : List S87) : Bool := l.all okT && inB (l.length : Int) 1 6
theorem spec_ProgramOk_f (l : List S87) (hl : l.length ≤ 1048576) (hs : ∀ t ∈ l, t.f0.length ≤ 1048576) : spec_ProgramOk.f l = some (okP l) := by
  simp only [spec_ProgramOk.f, spec_ProgramOk.begin, Tr.do_jump]
  refine all_loop l okT _ (fun i => lp spec_ProgramOk.tree (.c2 l (i : Int))) (fun i h => ?_) ?_
  · rw [lp_eq]
    simp only [spec_ProgramOk.tree, Tr.do_ite, Tr.do_need, Tr.do_call, Tr.do_ret, Tr.do_jump, spec_BlockOk.told, spec_BlockOk_f _ (hs _ (List.getElem_mem h)), spec_ExprOk.told, spec_ExprOk_f, bind_ok, getD_lt h, lt_dec h, in_lt h, and_self, decide_true, ↓reduceIte, wr_next (show i < 4611686018427387904 by omega), okT]
    rcases Bool.eq_false_or_eq_true (okB l[i].f0.length l[i].f0 0) with q | q <;> rcases Bool.eq_false_or_eq_true (okX l[i].f1.f0 l[i].f1.f1 l[i].f1.f2) with q' | q' <;> simp [q, q']
  · rw [lp_eq]
    simp only [spec_ProgramOk.tree, Tr.do_ite, Tr.do_call, Tr.do_ret, spec_l01In.told, spec_l01In_f, bind_ok, ge_dec, Bool.false_eq_true, ↓reduceIte]
theorem impl_ProgramOk_f (l : List S87) (hl : l.length ≤ 1048576) (hs : ∀ t ∈ l, t.f0.length ≤ 1048576) : impl_ProgramOk.f l = some (okP l) := by
  obtain ⟨r, hr, hd⟩ := find_loop l (fun x => !okT x) (fun i => lp slices_IndexFunc_impl_Task_ProgramOk_1.tree (.c2 l (List.length l : Int) (i : Int))) (fun i h => by
    rw [lp_eq]
    simp only [slices_IndexFunc_impl_Task_ProgramOk_1.tree, Tr.do_ite, Tr.do_need, Tr.do_call, Tr.do_ret, Tr.do_jump, impl_ProgramOk_1.told, impl_ProgramOk_1.f, impl_ProgramOk_1.begin, impl_taskOk.told, impl_taskOk.f, impl_taskOk.begin, impl_BlockOk.told, impl_BlockOk_f _ (hs _ (List.getElem_mem h)), impl_ExprOk.told, impl_ExprOk_f, bind_ok, getD_lt h, lt_dec h, in_lt h, and_self, decide_true, ↓reduceIte, wr_next (show i < 4611686018427387904 by omega), okT]
    rcases Bool.eq_false_or_eq_true (okB l[i].f0.length l[i].f0 0) with q | q <;> rcases Bool.eq_false_or_eq_true (okX l[i].f1.f0 l[i].f1.f1 l[i].f1.f2) with q' | q' <;> simp [q, q']) (by
    rw [lp_eq]
    simp only [slices_IndexFunc_impl_Task_ProgramOk_1.tree, Tr.do_ite, Tr.do_ret, ge_dec, Bool.false_eq_true, ↓reduceIte])
  have hr' : lp slices_IndexFunc_impl_Task_ProgramOk_1.tree (.c2 l (List.length l : Int) 0) = some r := hr
  simp only [impl_ProgramOk.f, impl_ProgramOk.begin, Tr.do_call, Tr.do_ite, Tr.do_ret, impl_within.told, impl_within_f, slices_ContainsFunc_impl_Task_ProgramOk_1.told, slices_ContainsFunc_impl_Task_ProgramOk_1.f, slices_ContainsFunc_impl_Task_ProgramOk_1.begin, slices_IndexFunc_impl_Task_ProgramOk_1.told, slices_IndexFunc_impl_Task_ProgramOk_1.f, slices_IndexFunc_impl_Task_ProgramOk_1.begin, Tr.do_jump, hr', bind_ok, hd, any_not, okP]
  cases inB (l.length : Int) 1 6 <;> simp
def okStore (a b c d : Int) : Bool := inB b 1 5000 && (inB a 0 b && (inB c 1 b && inB d 0 100))
theorem spec_StoreOk_f (a b c d : Int) : spec_StoreOk.f a b c d = some (okStore a b c d) := by
  simp only [spec_StoreOk.f, spec_StoreOk.begin, Tr.do_call, Tr.do_ite, Tr.do_ret, spec_l01In.told, spec_l01In_f, bind_ok, okStore]
  cases inB b 1 5000 <;> cases inB a 0 b <;> cases inB c 1 b <;> rfl
theorem impl_StoreOk_f (a b c d : Int) : impl_StoreOk.f a b c d = some (okStore a b c d) := by
  simp only [impl_StoreOk.f, impl_StoreOk.begin, Tr.do_call, Tr.do_ite, Tr.do_ret, impl_within.told, impl_within_f, bind_ok, okStore]
  cases inB b 1 5000 <;> cases inB a 0 b <;> cases inB c 1 b <;> rfl
theorem tot_le (l : List S126) (n : Nat) (h : tot l ≤ n) : l.length ≤ n ∧ (∀ t ∈ l, t.f0.length ≤ n) ∧ wt (l.map toTk) ≤ 6 * n := by
  have key : ∀ l : List S126, (∀ t ∈ l, t.f0.length ≤ (l.map fun t => t.f0.length).sum) ∧ wt (l.map toTk) = 6 * (l.map fun t => t.f0.length).sum + 3 * l.length := by
    intro l
    induction l with
    | nil => exact ⟨by simp, rfl⟩
    | cons t l ih =>
      refine ⟨fun u hu => ?_, ?_⟩
      · rw [List.map_cons, List.sum_cons]
        rcases List.mem_cons.mp hu with rfl | hu
        · omega
        · have := ih.1 u hu
          omega
      · have h2 := ih.2
        unfold wt at h2 ⊢
        rw [List.map_cons, List.map_cons, List.sum_cons, h2, List.map_cons, List.sum_cons, List.length_cons]
        show 6 * (t.f0.map toSt).length + 3 + _ = _
        rw [List.length_map]
        omega
  obtain ⟨h1, h2⟩ := key l
  unfold tot at h
  exact ⟨by omega, fun t ht => by have := h1 t ht; omega, by omega⟩
/-- The control word of three numbers. -/
def pack (a b c : Int) : Int := if (inB a 0 5 && (inB b 0 8 && inB c 0 24)) = true then a + 8 * (b + 16 * c) else -1
theorem pack_wr (a b c : Int) (h : (inB a 0 5 && (inB b 0 8 && inB c 0 24)) = true) : wr (a + wr (8 * wr (b + wr (16 * c)))) = a + 8 * (b + 16 * c) := by
  rw [Bool.and_eq_true, Bool.and_eq_true, inB_iff, inB_iff, inB_iff] at h
  have w1 : wr (16 * c) = 16 * c := wr_in (by omega)
  have w2 : wr (b + 16 * c) = b + 16 * c := wr_in (by omega)
  have w3 : wr (8 * (b + 16 * c)) = 8 * (b + 16 * c) := wr_in (by omega)
  have w4 : wr (a + 8 * (b + 16 * c)) = a + 8 * (b + 16 * c) := wr_in (by omega)
  rw [w1, w2, w3, w4]
theorem pack_le (a b c : Int) : pack a b c ≤ 3141 := by
  unfold pack
  split
  · rename_i h
    rw [Bool.and_eq_true, Bool.and_eq_true, inB_iff, inB_iff, inB_iff] at h
    omega
  · omega
theorem spec_PackControl_f (a b c : Int) : spec_PackControl.f a b c = some (pack a b c) := by
  simp only [spec_PackControl.f, spec_PackControl.begin, Tr.do_call, Tr.do_ite, Tr.do_ret, spec_l01In.told, spec_l01In_f, bind_ok]
  have h := pack_wr a b c
  unfold pack
  by_cases q : (inB a 0 5 && (inB b 0 8 && inB c 0 24)) = true
  · rw [h q]
    rw [Bool.and_eq_true, Bool.and_eq_true] at q
    simp [q.1, q.2.1, q.2.2]
  · clear h
    cases qa : inB a 0 5 <;> cases qb : inB b 0 8 <;> cases qc : inB c 0 24 <;> simp_all
theorem impl_PackControl_f (a b c : Int) : impl_PackControl.f a b c = some (pack a b c) := by
  simp only [impl_PackControl.f, impl_PackControl.begin, Tr.do_call, Tr.do_ite, Tr.do_ret, impl_within.told, impl_within_f, bind_ok]
  have h := pack_wr a b c
  unfold pack
  by_cases q : (inB a 0 5 && (inB b 0 8 && inB c 0 24)) = true
  · rw [h q]
    rw [Bool.and_eq_true, Bool.and_eq_true] at q
    simp [q.1, q.2.1, q.2.2]
  · clear h
    cases qa : inB a 0 5 <;> cases qb : inB b 0 8 <;> cases qc : inB c 0 24 <;> simp_all
/-- The three numbers of a control word. -/
def unpack (c : Int) : Int × Int × Int :=
  if c < 0 then (-1, -1, -1) else if pack (Int.tmod c 8) (Int.tmod (wr (Int.tdiv c 8)) 16) (wr (Int.tdiv c 128)) = c then (Int.tmod c 8, Int.tmod (wr (Int.tdiv c 8)) 16, wr (Int.tdiv c 128)) else (-1, -1, -1)
theorem spec_UnpackControl_f (c : Int) : spec_UnpackControl.f c = some (unpack c) := by
  simp only [spec_UnpackControl.f, spec_UnpackControl.begin, Tr.do_call, Tr.do_ite, Tr.do_need, Tr.do_ret, spec_PackControl.told, spec_PackControl_f, bind_ok, unpack, decide_eq_true_eq]
  by_cases h : c < 0
  · rw [if_pos h, if_pos h]
  rw [if_neg h, if_neg h]
  by_cases h2 : c > 100000
  · have := pack_le (Int.tmod c 8) (Int.tmod (wr (Int.tdiv c 8)) 16) (wr (Int.tdiv c 128))
    rw [if_pos h2, if_neg (by omega)]
  rw [if_neg h2]
  by_cases q : pack (Int.tmod c 8) (Int.tmod (wr (Int.tdiv c 8)) 16) (wr (Int.tdiv c 128)) = c <;> simp [q]
theorem impl_UnpackControl_f (c : Int) : impl_UnpackControl.f c = some (unpack c) := by
  simp only [impl_UnpackControl.f, impl_UnpackControl.begin, Tr.do_call, Tr.do_ite, Tr.do_need, Tr.do_ret, impl_PackControl.told, impl_PackControl_f, bind_ok, unpack, decide_eq_true_eq]
  by_cases h : c < 0
  · simp [h]
  by_cases q : pack (Int.tmod c 8) (Int.tmod (wr (Int.tdiv c 8)) 16) (wr (Int.tdiv c 128)) = c <;> simp [q, h]
theorem unpack_in (c : Int) : unpack c = (-1, -1, -1) ∨ (0 ≤ (unpack c).1 ∧ (unpack c).1 ≤ 5 ∧ 0 ≤ (unpack c).2.1 ∧ (unpack c).2.1 ≤ 8 ∧ 0 ≤ (unpack c).2.2 ∧ (unpack c).2.2 ≤ 24) := by
  unfold unpack
  split
  · exact .inl rfl
  split
  · rename_i h q
    right
    unfold pack at q
    split at q
    · rename_i p
      rw [Bool.and_eq_true, Bool.and_eq_true, inB_iff, inB_iff, inB_iff] at p
      exact ⟨p.1.1, p.1.2, p.2.1.1, p.2.1.2, p.2.2.1, p.2.2.2⟩
    · omega
  · exact .inl rfl
def okPair (m : List Int) (i : Nat) : Bool := inB (rdI m (9 + 2 * (i : Int))) 0 7 && isVal (rdI m (9 + 2 * (i : Int) + 1))
theorem pair_facts (m : List Int) (hm : m.length = 49) (i n : Nat) (h : i < n) (hn : n ≤ 8) :
    wr (2 * (i : Int)) = 2 * (i : Int) ∧ wr (9 + 2 * (i : Int)) = 9 + 2 * (i : Int) ∧ wr (9 + 2 * (i : Int) + 1) = 9 + 2 * (i : Int) + 1 ∧ ((0 : Int) ≤ 9 + 2 * (i : Int) ∧ 9 + 2 * (i : Int) < (m.length : Int)) ∧ ((0 : Int) ≤ 9 + 2 * (i : Int) + 1 ∧ 9 + 2 * (i : Int) + 1 < (m.length : Int)) ∧ wr ((i : Int) + 1) = ((i + 1 : Nat) : Int) :=
  ⟨wr_in (by omega), wr_in (by omega), wr_in (by omega), by omega, by omega, wr_next (by omega)⟩
theorem spec_MemOk_c7 (m : List Int) (hm : m.length = 49) (n : Nat) (hn : n ≤ 8) : lp spec_MemOk.tree (.c7 m (n : Int) 0) = some ((List.range n).all (okPair m)) := by
  have e := all_loop (List.range n) (okPair m) true (fun i => lp spec_MemOk.tree (.c7 m (n : Int) (i : Int))) (fun i h => by
    rw [List.length_range] at h
    obtain ⟨w1, w2, w3, n1, n2, w4⟩ := pair_facts m hm i n h hn
    rw [lp_eq, List.getElem_range]
    simp only [spec_MemOk.tree, Tr.do_ite, Tr.do_need, Tr.do_call, Tr.do_ret, Tr.do_jump, w1, w2, w3, w4, n1, n2, lt_dec h, and_self, ↓reduceIte, spec_l01In.told, spec_l01In_f, spec_IsValue.told, spec_IsValue_f, bind_ok, okPair]
    rcases Bool.eq_false_or_eq_true (inB (rdI m (9 + 2 * (i : Int))) 0 7) with q | q <;> rcases Bool.eq_false_or_eq_true (isVal (rdI m (9 + 2 * (i : Int) + 1))) with q' | q' <;> simp only [q, q', Bool.not_true, Bool.not_false, Bool.and_self, Bool.and_true, Bool.and_false, Bool.false_eq_true, ↓reduceIte]) (by
    rw [lp_eq, List.length_range]
    simp only [spec_MemOk.tree, Tr.do_ite, Tr.do_ret, ge_dec, Bool.false_eq_true, ↓reduceIte])
  rw [Bool.and_true] at e
  exact e
theorem impl_MemOk_c7 (m : List Int) (hm : m.length = 49) (n : Nat) (hn : n ≤ 8) : lp impl_MemOk.tree (.c7 m (n : Int) 0) = some ((List.range n).all (okPair m)) := by
  have e := all_loop (List.range n) (okPair m) true (fun i => lp impl_MemOk.tree (.c7 m (n : Int) (i : Int))) (fun i h => by
    rw [List.length_range] at h
    obtain ⟨w1, w2, w3, n1, n2, w4⟩ := pair_facts m hm i n h hn
    rw [lp_eq, List.getElem_range]
    simp only [impl_MemOk.tree, Tr.do_ite, Tr.do_need, Tr.do_call, Tr.do_ret, Tr.do_jump, w1, w2, w3, w4, n1, n2, lt_dec h, and_self, ↓reduceIte, impl_isVar.told, impl_isVar.f, impl_isVar.begin, impl_within.told, impl_within_f, impl_IsValue.told, impl_IsValue_f, bind_ok, okPair]
    rcases Bool.eq_false_or_eq_true (inB (rdI m (9 + 2 * (i : Int))) 0 7) with q | q <;> rcases Bool.eq_false_or_eq_true (isVal (rdI m (9 + 2 * (i : Int) + 1))) with q' | q' <;> simp only [q, q', Bool.not_true, Bool.not_false, Bool.and_self, Bool.and_true, Bool.and_false, Bool.false_eq_true, ↓reduceIte]) (by
    rw [lp_eq, List.length_range]
    simp only [impl_MemOk.tree, Tr.do_ite, Tr.do_ret, ge_dec, Bool.false_eq_true, ↓reduceIte])
  rw [Bool.and_true] at e
  exact e
/-- What has been sent. -/
def sent (m : List Int) : List Int := (m.take (Int.toNat (25 + (unpack (rdI m 8)).2.2))).drop 25
/-- A valid memory of a program with n tasks. -/
def okMem (n : Nat) (m : List Int) : Bool :=
  decide (m.length = 49) && (!decide ((unpack (rdI m 8)).1 < 0) && (!decide ((unpack (rdI m 8)).1 ≥ (n : Int)) && ((m.take 8).all isVal && ((sent m).all isVal && (List.range (Int.toNat (unpack (rdI m 8)).2.1)).all (okPair m)))))
theorem sent_len (m : List Int) : (sent m).length ≤ m.length := by
  unfold sent
  rw [List.length_drop, List.length_take]
  omega
theorem unpack_good {c : Int} (h : ¬ (unpack c).1 < 0) : 0 ≤ (unpack c).1 ∧ (unpack c).1 ≤ 5 ∧ 0 ≤ (unpack c).2.1 ∧ (unpack c).2.1 ≤ 8 ∧ 0 ≤ (unpack c).2.2 ∧ (unpack c).2.2 ≤ 24 := by
  rcases unpack_in c with e | e
  · rw [e] at h
    exact absurd (by decide) h
  · exact e
theorem memok_facts (m : List Int) (hm : m.length = 49) (h : ¬ (unpack (rdI m 8)).1 < 0) :
    wr (25 + (unpack (rdI m 8)).2.2) = 25 + (unpack (rdI m 8)).2.2 ∧ ((0 : Int) ≤ 25 ∧ (25 : Int) ≤ 25 + (unpack (rdI m 8)).2.2 ∧ 25 + (unpack (rdI m 8)).2.2 ≤ (m.length : Int)) ∧ ∃ n : Nat, (unpack (rdI m 8)).2.1 = (n : Int) ∧ n ≤ 8 := by
  obtain ⟨a, b, c, d, e, f⟩ := unpack_good h
  exact ⟨wr_in (by omega), ⟨by omega, by omega, by omega⟩, (unpack (rdI m 8)).2.1.toNat, by omega, by omega⟩
theorem spec_MemOk_f (p : List S87) (m : List Int) (hp : p.length ≤ 1048576) (hs : ∀ t ∈ p, t.f0.length ≤ 1048576) : spec_MemOk.f p m = some (okP p && okMem p.length m) := by
  simp only [spec_MemOk.f, spec_MemOk.begin, Tr.do_call, Tr.do_ite, Tr.do_ret, spec_ProgramOk.told, spec_ProgramOk_f p hp hs, bind_ok]
  unfold okMem
  cases okP p
  · rfl
  by_cases hm : ¬ m.length = 49
  · have hm' : ¬ (m.length : Int) = 49 := by omega
    simp only [hm, hm', decide_false, Bool.not_false, Bool.not_true, Bool.false_eq_true, ↓reduceIte, Bool.false_and, Bool.and_false]
  have hm : m.length = 49 := by omega
  have hm' : decide ((m.length : Int) = 49) = true := decide_eq_true (by omega)
  have n1 : (0 : Int) ≤ 8 ∧ (8 : Int) < (m.length : Int) := by omega
  have n2 : (0 : Int) ≤ 0 ∧ (0 : Int) ≤ 8 ∧ (8 : Int) ≤ (m.length : Int) := by omega
  have v1 := spec_l09Values_f (m.take 8) (by rw [List.length_take]; omega)
  have v2 := spec_l09Values_f (sent m) (Nat.le_trans (sent_len m) (by omega))
  rw [show decide (m.length = 49) = true from decide_eq_true hm]
  simp only [hm', Tr.do_need, Tr.do_ite, Tr.do_call, Tr.do_ret, Tr.do_jump, spec_UnpackControl.told, spec_UnpackControl_f, spec_l09Values.told, bind_ok, n1, n2, and_self, ↓reduceIte, decide_eq_true_eq, Bool.not_true, Bool.false_eq_true, Bool.true_and, show Int.toNat 8 = 8 from rfl, v1]
  by_cases h1 : (unpack (rdI m 8)).1 < 0
  · simp only [h1, ↓reduceIte, decide_true, decide_false, Bool.not_true, Bool.not_false, Bool.false_and, Bool.and_false, Bool.true_and, Bool.false_eq_true]
  by_cases h2 : (unpack (rdI m 8)).1 ≥ (p.length : Int)
  · simp only [h1, h2, ↓reduceIte, decide_true, decide_false, Bool.not_true, Bool.not_false, Bool.false_and, Bool.and_false, Bool.true_and, Bool.false_eq_true]
  obtain ⟨w, n3, n, hn, hn8⟩ := memok_facts m hm h1
  have c7 := spec_MemOk_c7 m hm n hn8
  unfold sent at v2
  simp only [h1, h2, w, n3, hn, and_self, ↓reduceIte, decide_false, Bool.not_false, Bool.true_and, show Int.toNat 25 = 25 from rfl, v2, bind_ok, c7, Int.toNat_natCast, sent]
  rcases Bool.eq_false_or_eq_true ((m.take 8).all isVal) with q | q <;> simp only [q, Bool.not_true, Bool.not_false, Bool.false_eq_true, ↓reduceIte, Bool.true_and, Bool.false_and]
  rcases Bool.eq_false_or_eq_true (((m.take (Int.toNat (25 + (unpack (rdI m 8)).2.2))).drop 25).all isVal) with q | q <;> simp only [q, Bool.not_true, Bool.not_false, Bool.false_eq_true, ↓reduceIte, Bool.true_and, Bool.false_and]
theorem impl_MemOk_f (p : List S87) (m : List Int) (hp : p.length ≤ 1048576) (hs : ∀ t ∈ p, t.f0.length ≤ 1048576) : impl_MemOk.f p m = some (okP p && okMem p.length m) := by
  simp only [impl_MemOk.f, impl_MemOk.begin, Tr.do_call, Tr.do_ite, Tr.do_ret, impl_ProgramOk.told, impl_ProgramOk_f p hp hs, bind_ok]
  unfold okMem
  cases okP p
  · rfl
  by_cases hm : ¬ m.length = 49
  · have hm' : ¬ (m.length : Int) = 49 := by omega
    simp only [hm, hm', decide_false, Bool.not_false, Bool.not_true, Bool.false_eq_true, ↓reduceIte, Bool.false_and, Bool.and_false]
  have hm : m.length = 49 := by omega
  have hm' : decide ((m.length : Int) = 49) = true := decide_eq_true (by omega)
  have n1 : (0 : Int) ≤ 8 ∧ (8 : Int) < (m.length : Int) := by omega
  have n2 : (0 : Int) ≤ 0 ∧ (0 : Int) ≤ 8 ∧ (8 : Int) ≤ (m.length : Int) := by omega
  have v1 := impl_areValues_f (m.take 8) (by rw [List.length_take]; omega)
  have v2 := impl_areValues_f (sent m) (Nat.le_trans (sent_len m) (by omega))
  rw [show decide (m.length = 49) = true from decide_eq_true hm]
  simp only [hm', Tr.do_need, Tr.do_ite, Tr.do_call, Tr.do_ret, Tr.do_jump, impl_UnpackControl.told, impl_UnpackControl_f, impl_areValues.told, bind_ok, n1, n2, and_self, ↓reduceIte, decide_eq_true_eq, Bool.not_true, Bool.false_eq_true, Bool.true_and, show Int.toNat 8 = 8 from rfl, v1]
  by_cases h1 : (unpack (rdI m 8)).1 < 0
  · cases (m.take 8).all isVal <;> simp only [h1, ↓reduceIte, decide_true, decide_false, Bool.not_true, Bool.not_false, Bool.false_and, Bool.and_false, Bool.true_and, Bool.false_eq_true]
  by_cases h2 : (unpack (rdI m 8)).1 ≥ (p.length : Int)
  · cases (m.take 8).all isVal <;> simp only [h1, h2, ↓reduceIte, decide_true, decide_false, Bool.not_true, Bool.not_false, Bool.false_and, Bool.and_false, Bool.true_and, Bool.false_eq_true]
  obtain ⟨w, n3, n, hn, hn8⟩ := memok_facts m hm h1
  have c7 := impl_MemOk_c7 m hm n hn8
  unfold sent at v2
  simp only [h1, h2, w, n3, hn, and_self, ↓reduceIte, decide_false, Bool.not_false, Bool.true_and, show Int.toNat 25 = 25 from rfl, v2, bind_ok, c7, Int.toNat_natCast, sent]
  rcases Bool.eq_false_or_eq_true ((m.take 8).all isVal) with q | q <;> simp only [q, Bool.not_true, Bool.not_false, Bool.false_eq_true, ↓reduceIte, Bool.true_and, Bool.false_and]
  rcases Bool.eq_false_or_eq_true (((m.take (Int.toNat (25 + (unpack (rdI m 8)).2.2))).drop 25).all isVal) with q | q <;> simp only [q, Bool.not_true, Bool.not_false, Bool.false_eq_true, ↓reduceIte, Bool.true_and, Bool.false_and]
theorem memSent_facts (m : List Int) (hm : m.length = 49) : ((0 : Int) ≤ 8 ∧ (8 : Int) < (m.length : Int)) := by omega
def memSent (m : List Int) : List Int := if m.length = 49 then (if (unpack (rdI m 8)).2.2 < 0 then [] else sent m) else []
theorem unpack_good' {c : Int} (h : ¬ (unpack c).2.2 < 0) : ¬ (unpack c).1 < 0 := by
  rcases unpack_in c with e | e
  · rw [e] at h
    exact absurd (by decide) h
  · omega
theorem memSent_le (m : List Int) (n : Nat) (h : m.length ≤ n) : (memSent m).length ≤ n := by
  unfold memSent
  split
  · split
    · simp
    · exact Nat.le_trans (sent_len m) h
  · simp
theorem spec_MemSent_f (m : List Int) : spec_MemSent.f m = some (memSent m) := by
  simp only [spec_MemSent.f, spec_MemSent.begin, Tr.do_ite, Tr.do_need, Tr.do_call, Tr.do_ret, Tr.do_val, spec_UnpackControl.told, spec_UnpackControl_f, bind_ok, List.nil_append]
  unfold memSent
  by_cases hm : m.length = 49
  · have hm' : decide ((m.length : Int) = 49) = true := decide_eq_true (by omega)
    rw [if_pos hm]
    simp only [hm', memSent_facts m hm, and_self, Bool.not_true, Bool.false_eq_true, ↓reduceIte, decide_eq_true_eq]
    by_cases h : (unpack (rdI m 8)).2.2 < 0
    · simp only [h, ↓reduceIte]
    · obtain ⟨w, n1, -⟩ := memok_facts m hm (unpack_good' h)
      have hl := sent_len m
      have n2 : ((([] : List Int).length : Int) + ((sent m).length : Int)) * (8 : Nat) ≤ room := fits [] (sent m) (by simp) (by omega) 8 (by omega)
      simp only [h, w, n1, and_self, ↓reduceIte]
      exact if_pos n2
  · have hm' : ¬ (m.length : Int) = 49 := by omega
    simp only [hm, hm', decide_false, Bool.not_false, ↓reduceIte]
theorem impl_MemSent_f (m : List Int) : impl_MemSent.f m = some (memSent m) := by
  simp only [impl_MemSent.f, impl_MemSent.begin, Tr.do_ite, Tr.do_need, Tr.do_call, Tr.do_ret, Tr.do_val, impl_UnpackControl.told, impl_UnpackControl_f, bind_ok]
  unfold memSent
  by_cases hm : m.length = 49
  · have hm' : decide ((m.length : Int) = 49) = true := decide_eq_true (by omega)
    rw [if_pos hm]
    simp only [hm', memSent_facts m hm, and_self, Bool.not_true, Bool.false_eq_true, ↓reduceIte, decide_eq_true_eq]
    by_cases h : (unpack (rdI m 8)).2.2 < 0
    · simp only [h, ↓reduceIte]
    · obtain ⟨w, n1, -⟩ := memok_facts m hm (unpack_good' h)
      have hl := sent_len m
      have n2 := slices_Clone_int_f (sent m) (by omega)
      unfold sent at n2
      simp only [h, w, n1, and_self, ↓reduceIte, slices_Clone_int.told, show Int.toNat 25 = 25 from rfl, n2, bind_ok]
      rfl
  · have hm' : ¬ (m.length : Int) = 49 := by omega
    simp only [hm, hm', decide_false, Bool.not_false, ↓reduceIte]
/-- Is a list the beginning of another? -/
def isPre (a b : List Int) : Bool := decide (a.length ≤ b.length) && decide (a = b.take a.length)
theorem spec_IsPrefixOf_f (a b : List Int) (ha : a.length ≤ 1048576) (hb : b.length ≤ 1048576) : spec_IsPrefixOf.f a b = some (isPre a b) := by
  simp only [spec_IsPrefixOf.f, spec_IsPrefixOf.begin, Tr.do_jump]
  unfold isPre
  have hend : ∀ i : Nat, decide ((i : Int) ≥ (i : Int)) = true := fun i => decide_eq_true (by omega)
  by_cases h : a.length ≤ b.length
  · rw [decide_eq_true h, Bool.true_and]
    refine eq_loop a (b.take a.length) (by rw [List.length_take]; omega) (fun i => lp spec_IsPrefixOf.tree (.c2 a b (i : Int))) (fun i hi => ?_) ?_
    · rw [lp_eq]
      have h2 : i < b.length := by omega
      have hn : decide ((i : Int) ≥ (b.length : Int)) = false := decide_eq_false (by omega)
      simp only [spec_IsPrefixOf.tree, Tr.do_ite, Tr.do_need, Tr.do_ret, Tr.do_jump, lt_dec hi, hn, in_lt hi, in_lt h2, getD_lt hi, getD_lt h2, and_self, decide_true, Bool.false_eq_true, ↓reduceIte, wr_next (show i < 4611686018427387904 by omega), List.getElem_take]
      by_cases q : a[i] = b[i] <;> simp [q]
    · rw [lp_eq]
      simp only [spec_IsPrefixOf.tree, Tr.do_ite, Tr.do_ret, ge_dec, Bool.false_eq_true, ↓reduceIte]
  · rw [decide_eq_false h, Bool.false_and]
    refine stop_loop b.length false (fun i => lp spec_IsPrefixOf.tree (.c2 a b (i : Int))) (fun i hi => ?_) ?_
    · have h2 : i < a.length := by omega
      have hn : decide ((i : Int) ≥ (b.length : Int)) = false := decide_eq_false (by omega)
      rw [lp_eq]
      simp only [spec_IsPrefixOf.tree, Tr.do_ite, Tr.do_need, Tr.do_ret, Tr.do_jump, lt_dec h2, hn, in_lt hi, in_lt h2, getD_lt hi, getD_lt h2, and_self, decide_true, Bool.false_eq_true, ↓reduceIte, wr_next (show i < 4611686018427387904 by omega)]
      by_cases q : a[i] = b[i] <;> simp [q]
    · have h2 : b.length < a.length := by omega
      rw [lp_eq]
      simp only [spec_IsPrefixOf.tree, Tr.do_ite, Tr.do_ret, lt_dec h2, hend, ↓reduceIte]
theorem slices_Equal_int_f (a b : List Int) (ha : a.length ≤ 1048576) (hab : a.length = b.length) : slices_Equal_int.f a b = some (decide (a = b)) := by
  have hn : decide ((a.length : Int) = (b.length : Int)) = true := decide_eq_true (by omega)
  simp only [slices_Equal_int.f, slices_Equal_int.begin, Tr.do_ite, Tr.do_jump, hn, Bool.not_true, Bool.false_eq_true, ↓reduceIte]
  refine eq_loop a b hab (fun i => lp slices_Equal_int.tree (.c4 a b (a.length : Int) (i : Int))) (fun i hi => ?_) ?_
  · rw [lp_eq]
    have h2 : i < b.length := by omega
    simp only [slices_Equal_int.tree, Tr.do_ite, Tr.do_need, Tr.do_ret, Tr.do_jump, lt_dec hi, in_lt hi, in_lt h2, getD_lt hi, getD_lt h2, and_self, decide_true, ↓reduceIte, wr_next (show i < 4611686018427387904 by omega)]
    by_cases q : a[i] = b[i] <;> simp [q]
  · rw [lp_eq]
    simp only [slices_Equal_int.tree, Tr.do_ite, Tr.do_ret, ge_dec, Bool.false_eq_true, ↓reduceIte]
theorem impl_IsPrefixOf_f (a b : List Int) (ha : a.length ≤ 1048576) (hb : b.length ≤ 1048576) : impl_IsPrefixOf.f a b = some (isPre a b) := by
  simp only [impl_IsPrefixOf.f, impl_IsPrefixOf.begin, Tr.do_call, Tr.do_ite, Tr.do_need, Tr.do_ret]
  unfold isPre
  by_cases h : a.length ≤ b.length
  · have h' : (a.length : Int) ≤ (b.length : Int) := by omega
    have n1 : (0 : Int) ≤ 0 ∧ (0 : Int) ≤ (a.length : Int) ∧ (a.length : Int) ≤ (b.length : Int) := by omega
    simp only [h, h', n1, and_self, decide_true, ↓reduceIte, Int.toNat_natCast, slices_Equal_int.told, slices_Equal_int_f a (b.take a.length) ha (by rw [List.length_take]; omega), bind_ok, Bool.true_and]
  · have h' : ¬ (a.length : Int) ≤ (b.length : Int) := by omega
    simp only [h, h', decide_false, Bool.false_eq_true, ↓reduceIte, Bool.false_and]
def okLink (m : List Int) (at_ : Int) (h : List Int) : Bool := inB at_ 0 h.length && isPre h (memSent m)
theorem spec_LinkOk_f (m : List Int) (x : Int) (h : List Int) (hm : m.length ≤ 1048576) (hh : h.length ≤ 1048576) : spec_LinkOk.f m x h = some (okLink m x h) := by
  simp only [spec_LinkOk.f, spec_LinkOk.begin, Tr.do_last, Tr.do_call, Tr.do_ite, Tr.do_ret, spec_l01In.told, spec_l01In_f, spec_MemSent.told, spec_MemSent_f, spec_IsPrefixOf.told, spec_IsPrefixOf_f h (memSent m) hh (memSent_le m _ hm), bind_ok, okLink]
  cases inB x 0 (h.length : Int) <;> rfl
theorem impl_LinkOk_f (m : List Int) (x : Int) (h : List Int) (hm : m.length ≤ 1048576) (hh : h.length ≤ 1048576) : impl_LinkOk.f m x h = some (okLink m x h) := by
  simp only [impl_LinkOk.f, impl_LinkOk.begin, Tr.do_last, Tr.do_call, Tr.do_ite, Tr.do_ret, impl_within.told, impl_within_f, impl_MemSent.told, impl_MemSent_f, impl_IsPrefixOf.told, impl_IsPrefixOf_f h (memSent m) hh (memSent_le m _ hm), bind_ok, okLink]
  cases inB x 0 (h.length : Int) <;> rfl
def okSpan (a b : Int) : Bool := decide (a ≥ 0) && (decide (a ≤ b) && decide (b ≤ 1000000))
theorem spec_SpanOk_f (a b : Int) : spec_SpanOk.f a b = some (okSpan a b) := by
  simp only [spec_SpanOk.f, spec_SpanOk.begin, Tr.do_ite, Tr.do_ret, okSpan]
  cases decide (a ≥ 0) <;> cases decide (a ≤ b) <;> rfl
theorem impl_SpanOk_f (a b : Int) : impl_SpanOk.f a b = some (okSpan a b) := by
  simp only [impl_SpanOk.f, impl_SpanOk.begin, Tr.do_ite, Tr.do_ret, okSpan]
  cases decide (a ≥ 0) <;> cases decide (a ≤ b) <;> rfl
/-- A valid node. -/
def okNode (p : List S87) (m r : List Int) (a3 a4 a5 a6 a7 a8 a9 a10 : Int) (h : List Int) (a12 : Int) : Bool :=
  (okP p && okMem p.length m) && (okStore a4 a5 a6 a7 && (r.all isVal && (inB a3 0 400000 && (okSpan a8 a9 && (okLink m a10 h && inB a12 0 100000)))))
theorem spec_NodeOk_f (p : List S87) (m r : List Int) (a3 a4 a5 a6 a7 a8 a9 a10 : Int) (h : List Int) (a12 : Int) (hp : p.length ≤ 1048576) (hs : ∀ t ∈ p, t.f0.length ≤ 1048576) (hm : m.length ≤ 1048576) (hr : r.length ≤ 1048576) (hh : h.length ≤ 1048576) :
    spec_NodeOk.f p m r a3 a4 a5 a6 a7 a8 a9 a10 h a12 = some (okNode p m r a3 a4 a5 a6 a7 a8 a9 a10 h a12) := by
  simp only [spec_NodeOk.f, spec_NodeOk.begin, Tr.do_call, Tr.do_ite, Tr.do_ret, spec_MemOk.told, spec_MemOk_f p m hp hs, spec_StoreOk.told, spec_StoreOk_f, spec_l09Values.told, spec_l09Values_f r hr, spec_l01In.told, spec_l01In_f, spec_SpanOk.told, spec_SpanOk_f, spec_LinkOk.told, spec_LinkOk_f m a10 h hm hh, bind_ok, okNode]
  cases (okP p && okMem p.length m) <;> cases okStore a4 a5 a6 a7 <;> cases r.all isVal <;> cases inB a3 0 400000 <;> cases okSpan a8 a9 <;> cases okLink m a10 h <;> rfl
theorem impl_NodeOk_f (p : List S87) (m r : List Int) (a3 a4 a5 a6 a7 a8 a9 a10 : Int) (h : List Int) (a12 : Int) (hp : p.length ≤ 1048576) (hs : ∀ t ∈ p, t.f0.length ≤ 1048576) (hm : m.length ≤ 1048576) (hr : r.length ≤ 1048576) (hh : h.length ≤ 1048576) :
    impl_NodeOk.f p m r a3 a4 a5 a6 a7 a8 a9 a10 h a12 = some (okNode p m r a3 a4 a5 a6 a7 a8 a9 a10 h a12) := by
  simp only [impl_NodeOk.f, impl_NodeOk.begin, Tr.do_call, Tr.do_ite, Tr.do_ret, impl_MemOk.told, impl_MemOk_f p m hp hs, impl_StoreOk.told, impl_StoreOk_f, impl_areValues.told, impl_areValues_f r hr, impl_within.told, impl_within_f, impl_SpanOk.told, impl_SpanOk_f, impl_LinkOk.told, impl_LinkOk_f m a10 h hm hh, bind_ok, okNode]
  cases (okP p && okMem p.length m) <;> cases okStore a4 a5 a6 a7 <;> cases r.all isVal <;> cases inB a3 0 400000 <;> cases okSpan a8 a9 <;> cases okLink m a10 h <;> rfl
def sentBy (p : List S87) (m r : List Int) (a3 a4 a5 a6 a7 a8 a9 a10 : Int) (h : List Int) (a12 : Int) : List Int := if okNode p m r a3 a4 a5 a6 a7 a8 a9 a10 h a12 = true then memSent m else []
theorem impl_SentBy_f (p : List S87) (m r : List Int) (a3 a4 a5 a6 a7 a8 a9 a10 : Int) (h : List Int) (a12 : Int) (hp : p.length ≤ 1048576) (hs : ∀ t ∈ p, t.f0.length ≤ 1048576) (hm : m.length ≤ 1048576) (hr : r.length ≤ 1048576) (hh : h.length ≤ 1048576) :
    impl_SentBy.f p m r a3 a4 a5 a6 a7 a8 a9 a10 h a12 = some (sentBy p m r a3 a4 a5 a6 a7 a8 a9 a10 h a12) := by
  simp only [impl_SentBy.f, impl_SentBy.begin, Tr.do_call, Tr.do_ite, Tr.do_ret, impl_NodeOk.told, impl_NodeOk_f p m r a3 a4 a5 a6 a7 a8 a9 a10 h a12 hp hs hm hr hh, impl_MemSent.told, impl_MemSent_f, bind_ok, sentBy]
  cases okNode p m r a3 a4 a5 a6 a7 a8 a9 a10 h a12 <;> rfl
theorem laws_szIntS_f (l : List Int) (n : Int) (hl : l.length ≤ 9223372036854775807) (h0 : 0 ≤ n) (h1 : n ≤ 1048576) : laws_szIntS.f l n = some (if n - l.length < 0 then -1 else n - l.length) := by
  have w : wr (n - l.length) = n - l.length := wr_in (by omega)
  simp only [laws_szIntS.f, laws_szIntS.begin, Tr.do_ite, Tr.do_ret, w, decide_eq_true_eq]
  split <;> rfl
theorem laws_szLink_f (a : Int) (l : List Int) (n : Int) (hl : l.length ≤ 9223372036854775807) (h0 : 0 ≤ n) (h1 : n ≤ 1048576) : laws_szLink.f a l n = some (if n - l.length < 0 then -1 else n - l.length) := by
  simp only [laws_szLink.f, laws_szLink.begin, laws_szGateway.told, laws_szGateway.f, laws_szGateway.begin, Tr.do_ite, Tr.do_call, Tr.do_ret, laws_szIntS.told, laws_szIntS_f l n hl h0 h1, bind_ok, decide_eq_true_eq]
  by_cases h : n - (l.length : Int) < 0
  · simp [h]
  · simp [h]
/-- How large a node is. -/
def totNode (p : List S126) (m r h : List Int) : Nat := tot p + m.length + r.length + h.length
theorem laws_szNode_f (p : List S126) (m r : List Int) (a3 a4 a5 a6 a7 a8 a9 a10 : Int) (h : List Int) (a12 : Int) (n : Int) (hp : p.length ≤ 9223372036854775807) (hs : ∀ t ∈ p, t.f0.length ≤ 9223372036854775807) (hm : m.length ≤ 9223372036854775807) (hr : r.length ≤ 9223372036854775807) (hh : h.length ≤ 9223372036854775807) (h0 : 0 ≤ n) (h1 : n ≤ 1048576) :
    laws_szNode.f p m r a3 a4 a5 a6 a7 a8 a9 a10 h a12 n = some (if (totNode p m r h : Int) ≤ n then n - totNode p m r h else -1) := by
  simp only [laws_szNode.f, laws_szNode.begin, Tr.do_call, Tr.do_ite, Tr.do_ret, laws_szProgram.told, laws_szProgram_f p n hp hs h0 h1, bind_ok, decide_eq_true_eq]
  by_cases q : (tot p : Int) ≤ n
  · have q' : ¬ (n - (tot p : Int) < 0) := by omega
    simp only [q, q', ↓reduceIte, laws_szIntS.told, laws_szIntS_f m (n - tot p) hm (by omega) (by omega), bind_ok]
    by_cases q1 : n - (tot p : Int) - m.length < 0
    · simp only [q1, ↓reduceIte]
      rw [if_pos (by decide), if_neg (by unfold totNode; omega)]
    · simp only [q1, ↓reduceIte, laws_szIntS_f r (n - tot p - m.length) hr (by omega) (by omega), bind_ok]
      by_cases q2 : n - (tot p : Int) - m.length - r.length < 0
      · simp only [q2, ↓reduceIte]
        rw [if_pos (by decide), if_neg (by unfold totNode; omega)]
      · simp only [q2, ↓reduceIte, laws_szLink.told, laws_szLink_f a10 h (n - tot p - m.length - r.length) hh (by omega) (by omega), bind_ok]
        by_cases q3 : n - (tot p : Int) - m.length - r.length - h.length < 0
        · simp only [q3, ↓reduceIte]
          rw [if_pos (by decide), if_neg (by unfold totNode; omega)]
        · simp only [q3, ↓reduceIte]
          rw [if_pos (by unfold totNode; omega)]
          unfold totNode
          refine congrArg some (show (_ : Int) = _ from ?_)
          omega
  · simp only [q, ↓reduceIte]
    rw [if_pos (by decide), if_neg (by unfold totNode; omega)]
theorem laws_toNode_f (p : List S126) (m r : List Int) (a3 a4 a5 a6 a7 a8 a9 a10 : Int) (h : List Int) (a12 : Int) (hp : p.length ≤ 1048576) (hs : ∀ t ∈ p, t.f0.length ≤ 1048576) (hm : m.length ≤ 1048576) (hr : r.length ≤ 1048576) (hh : h.length ≤ 1048576) :
    laws_toNode.f p m r a3 a4 a5 a6 a7 a8 a9 a10 h a12 = some (p.map toTk, m, r, a3, a4, a5, a6, a7, a8, a9, a10, h, a12) := by
  simp only [laws_toNode.f, laws_toNode.begin, Tr.do_call, Tr.do_ret, laws_toProgram.told, laws_toProgram_f p hp hs, laws_toIntS.told, laws_toIntS_f m hm, laws_toIntS_f r hr, laws_toStore.told, laws_toStore_f, laws_toSpan.told, laws_toSpan.f, laws_toSpan.begin, laws_toLink.told, laws_toLink.f, laws_toLink.begin, laws_toGateway.told, laws_toGateway.f, laws_toGateway.begin, laws_toIntS_f h hh, bind_ok]
/-- What a node's size says of its parts. -/
theorem totNode_le (p : List S126) (m r h : List Int) (hn : totNode p m r h ≤ 1048576) :
    p.length ≤ 1048576 ∧ (∀ t ∈ p, t.f0.length ≤ 1048576) ∧ m.length ≤ 1048576 ∧ r.length ≤ 1048576 ∧ h.length ≤ 1048576 ∧ (p.map toTk).length ≤ 1048576 ∧ (∀ t ∈ p.map toTk, t.f0.length ≤ 1048576) ∧ wt (p.map toTk) ≤ 100000000 := by
  unfold totNode at hn
  obtain ⟨b1, b2, b3⟩ := tot_le p 1048576 (by omega)
  refine ⟨b1, b2, by omega, by omega, by omega, by rw [List.length_map]; exact b1, fun t ht => ?_, by omega⟩
  obtain ⟨u, hu, rfl⟩ := List.mem_map.mp ht
  show (u.f0.map toSt).length ≤ 1048576
  rw [List.length_map]
  exact b2 u hu
/-! ### Expressions -/
/-! ### Recovery -/
theorem okMem_parts {n : Nat} {m : List Int} (h : okMem n m = true) : m.length = 49 ∧ ¬ (unpack (rdI m 8)).1 < 0 ∧ (unpack (rdI m 8)).1 < n ∧ (m.take 8).all isVal = true ∧ (sent m).all isVal = true ∧ (List.range (Int.toNat (unpack (rdI m 8)).2.1)).all (okPair m) = true := by
  unfold okMem at h
  simp only [Bool.and_eq_true, decide_eq_true_eq, Bool.not_eq_true', decide_eq_false_iff_not] at h
  exact ⟨h.1, h.2.1, by omega, h.2.2.2.1, h.2.2.2.2.1, h.2.2.2.2.2⟩
theorem isPre_of {a b : List Int} (h : a <+: b) : isPre a b = true := by
  unfold isPre
  rw [decide_eq_true h.length_le, decide_eq_true (List.prefix_iff_eq_take.mp h)]
  rfl
theorem isPre_iff {a b : List Int} : isPre a b = true ↔ a <+: b := by
  refine ⟨fun h => ?_, isPre_of⟩
  unfold isPre at h
  rw [Bool.and_eq_true, decide_eq_true_eq, decide_eq_true_eq] at h
  rw [List.prefix_iff_eq_take]
  exact h.2
/-- What a valid node is. -/
theorem okNode_view {p : List S87} {m r : List Int} {a3 a4 a5 a6 a7 a8 a9 a10 : Int} {h : List Int} {a12 : Int} : okNode p m r a3 a4 a5 a6 a7 a8 a9 a10 h a12 = true ↔
    okP p = true ∧ okMem p.length m = true ∧ okStore a4 a5 a6 a7 = true ∧ r.all isVal = true ∧ (0 ≤ a3 ∧ a3 ≤ 400000) ∧ okSpan a8 a9 = true ∧ ((0 ≤ a10 ∧ a10 ≤ (h.length : Int)) ∧ h <+: memSent m) ∧ (0 ≤ a12 ∧ a12 ≤ 100000) := by
  unfold okNode okLink
  simp only [Bool.and_eq_true, inB_iff, isPre_iff]
  exact ⟨fun ⟨⟨q1, q2⟩, q3, q4, q5, q6, q7, q8⟩ => ⟨q1, q2, q3, q4, q5, q6, q7, q8⟩, fun ⟨q1, q2, q3, q4, q5, q6, q7, q8⟩ => ⟨⟨q1, q2⟩, q3, q4, q5, q6, q7, q8⟩⟩
theorem okStore_view {a b c d : Int} : okStore a b c d = true ↔ (1 ≤ b ∧ b ≤ 5000) ∧ (0 ≤ a ∧ a ≤ b) ∧ (1 ≤ c ∧ c ≤ b) ∧ (0 ≤ d ∧ d ≤ 100) := by
  unfold okStore; simp only [Bool.and_eq_true, inB_iff]
theorem okSpan_view {a b : Int} : okSpan a b = true ↔ 0 ≤ a ∧ a ≤ b ∧ b ≤ 1000000 := by
  unfold okSpan; simp only [Bool.and_eq_true, decide_eq_true_eq, ge_iff_le]
/-! ### Texts: bytes, digits, words -/
theorem bs_append (a b : List UInt8) : bs a ++ bs b = bs (a ++ b) := by
  apply ByteArray.ext
  simp [bs]
theorem bs_size (a : List UInt8) : (bs a).size = a.length := by simp [bs, ByteArray.size]
/-- The digits of a number, none of zero. -/
def dig (u : Nat) : List UInt8 := if u = 0 then [] else Lib.decDigits u
theorem dig_step (u : Nat) (h : u ≠ 0) : dig u = dig (u / 10) ++ [UInt8.ofNat (48 + u % 10)] := by
  unfold dig
  rw [if_neg h]
  by_cases hu : u < 10
  · rw [Lib.decDigits_one hu, if_pos (by omega), Nat.mod_eq_of_lt hu]
    rfl
  · rw [if_neg (by omega), Lib.decDigits, dif_neg hu]
theorem tmod_cases (x : Int) : (x = ((x.natAbs : Nat) : Int) ∧ Int.tmod x 10 = ((x.natAbs % 10 : Nat) : Int) ∧ Int.tdiv x 10 = ((x.natAbs / 10 : Nat) : Int)) ∨ (x = -((x.natAbs : Nat) : Int) ∧ Int.tmod x 10 = -((x.natAbs % 10 : Nat) : Int) ∧ Int.tdiv x 10 = -((x.natAbs / 10 : Nat) : Int)) := by
  rcases Int.natAbs_eq x with h | h
  · refine Or.inl ⟨h, ?_, ?_⟩
    · conv => lhs; rw [h]
      exact (Int.ofNat_tmod _ 10).symm
    · conv => lhs; rw [h]
      exact (Int.ofNat_tdiv _ 10).symm
  · refine Or.inr ⟨h, ?_, ?_⟩
    · conv => lhs; rw [h]
      rw [Int.neg_tmod]
      exact congrArg _ (Int.ofNat_tmod _ 10).symm
    · conv => lhs; rw [h]
      rw [Int.neg_tdiv]
      exact congrArg _ (Int.ofNat_tdiv _ 10).symm
/-- A space and a number, i times. -/
def sp (l : List Int) : Nat → List UInt8
  | 0 => []
  | i + 1 => sp l i ++ ([32] ++ Lib.itoa (l.getD i 0))
theorem sp_length {l : List Int} (h : ∀ i, -9223372036854775808 ≤ l.getD i 0 ∧ l.getD i 0 ≤ 9223372036854775807) : ∀ i, (sp l i).length ≤ 22 * i := by
  intro i
  induction i with
  | zero => exact Nat.le_refl 0
  | succ i ih =>
    have := Lib.itoa_length_le (l.getD i 0) (h i).1 (h i).2
    unfold sp
    rw [List.length_append, List.length_append, List.length_singleton]
    omega
theorem ba_beq (a b : ByteArray) : (a == b) = decide (a = b) := by
  have h : (a == b) = (a.data == b.data) := rfl
  rw [h, Bool.eq_iff_iff, beq_iff_eq, decide_eq_true_eq]
  exact ⟨fun h => ByteArray.ext h, fun h => by rw [h]⟩
theorem ba_bne (a b : ByteArray) : (a != b) = !decide (a = b) := by
  show (!(a == b)) = _
  rw [ba_beq]
theorem ba_same (a : ByteArray) : (a != a) = false := by
  rw [ba_bne, decide_eq_true rfl]
  rfl
/-! ### Numbers as texts -/
theorem spec_l01Figure_f (d : Nat) (h : d < 10) : spec_l01Figure.f (d : Int) = some ((48 + d : Nat) : Int) := by
  rcases (by omega : d = 0 ∨ d = 1 ∨ d = 2 ∨ d = 3 ∨ d = 4 ∨ d = 5 ∨ d = 6 ∨ d = 7 ∨ d = 8 ∨ d = 9) with rfl | rfl | rfl | rfl | rfl | rfl | rfl | rfl | rfl | rfl <;> rfl
theorem one_digit (d : Nat) : strOfNums [((48 + d : Nat) : Int)] = bs [UInt8.ofNat (48 + d)] := rfl
theorem isByte_int (n : Int) : isByte (PV.int .u8 n : PV U) := ⟨n, rfl⟩
theorem fits_room {a b : ByteArray} (h : a.size + b.size ≤ 100000000) : (a.size : Int) + (b.size : Int) ≤ room := by
  unfold room
  omega
theorem fi_step (x : Int) (b : Bool) (acc : List UInt8) (hx : x ≠ 0) (h0 : -9223372036854775808 ≤ x) (h1 : x ≤ 9223372036854775807) (ha : acc.length ≤ 1000) :
    lp spec_FormatInt.tree (.c5 x b (bs acc)) = lp spec_FormatInt.tree (.c5 (Int.tdiv x 10) b (bs (UInt8.ofNat (48 + x.natAbs % 10) :: acc))) := by
  have hd : wr (Int.tdiv x 10) = Int.tdiv x 10 := by
    rcases tmod_cases x with ⟨_, _, h⟩ | ⟨_, _, h⟩
    · rw [h]; exact wr_in (by omega)
    · rw [h]; exact wr_in (by omega)
  have e := spec_l01Figure_f (x.natAbs % 10) (by omega)
  have s := fits_room (a := bs [UInt8.ofNat (48 + x.natAbs % 10)]) (b := bs acc) (by rw [bs_size, bs_size, List.length_singleton]; omega)
  have n10 : (10 : Int) ≠ 0 := by omega
  have c : bs [UInt8.ofNat (48 + x.natAbs % 10)] ++ bs acc = bs (UInt8.ofNat (48 + x.natAbs % 10) :: acc) := bs_append _ _
  rw [lp_eq]
  by_cases hn : Int.tmod x 10 < 0
  · have e2 : wr (-(Int.tmod x 10)) = ((x.natAbs % 10 : Nat) : Int) := by
      rcases tmod_cases x with ⟨_, h, _⟩ | ⟨_, h, _⟩
      · omega
      · rw [h, Int.neg_neg]; exact wr_in (by omega)
    simp only [spec_FormatInt.tree, Tr.do_ite, Tr.do_need, Tr.do_call, Tr.do_jump, decide_eq_false hx, Bool.not_false, decide_eq_true hn, e2, spec_l01Figure.told, e, bind_ok, one_digit, isByte_int, implies_true, s, c, hd, n10, ne_eq, not_false_eq_true, ↓reduceIte]
  · have e2 : Int.tmod x 10 = ((x.natAbs % 10 : Nat) : Int) := by
      rcases tmod_cases x with ⟨_, h, _⟩ | ⟨_, h, _⟩
      · exact h
      · omega
    simp only [spec_FormatInt.tree, Tr.do_ite, Tr.do_need, Tr.do_call, Tr.do_jump, decide_eq_false hx, Bool.not_false, decide_eq_false (show ¬ ((x.natAbs % 10 : Nat) : Int) < 0 by omega), Bool.false_eq_true, e2, spec_l01Figure.told, e, bind_ok, one_digit, isByte_int, implies_true, s, c, hd, n10, ne_eq, not_false_eq_true, ↓reduceIte]
theorem fi_zero (b : Bool) (acc : List UInt8) (ha : acc.length ≤ 1000) : lp spec_FormatInt.tree (.c5 0 b (bs acc)) = some (bs ((if b then [45] else []) ++ acc)) := by
  have s := fits_room (a := (⟨#[45]⟩ : ByteArray)) (b := bs acc) (by rw [bs_size]; show 1 + acc.length ≤ _; omega)
  have c : (⟨#[45]⟩ : ByteArray) ++ bs acc = bs (45 :: acc) := bs_append [45] acc
  rw [lp_eq]
  cases b with
  | true =>
    simp only [spec_FormatInt.tree, Tr.do_ite, Tr.do_need, Tr.do_ret, decide_true, Bool.not_true, Bool.false_eq_true, ↓reduceIte, s, c, List.singleton_append]
  | false =>
    simp only [spec_FormatInt.tree, Tr.do_ite, Tr.do_need, Tr.do_ret, decide_true, Bool.not_true, Bool.false_eq_true, ↓reduceIte, List.nil_append]
theorem fi_loop (b : Bool) : ∀ (d : Nat) (x : Int) (acc : List UInt8), x.natAbs < 10 ^ d → -9223372036854775808 ≤ x → x ≤ 9223372036854775807 → acc.length + d ≤ 1000 →
    lp spec_FormatInt.tree (.c5 x b (bs acc)) = some (bs ((if b then [45] else []) ++ (dig x.natAbs ++ acc))) := by
  intro d
  induction d with
  | zero =>
    intro x acc hu h0 h1 ha
    obtain rfl : x = 0 := by simp at hu; omega
    exact fi_zero b acc (by omega)
  | succ d ih =>
    intro x acc hu h0 h1 ha
    by_cases hx : x = 0
    · subst hx
      exact fi_zero b acc (by omega)
    · have hq : (Int.tdiv x 10).natAbs = x.natAbs / 10 := by
        rcases tmod_cases x with ⟨_, _, h⟩ | ⟨_, _, h⟩
        · rw [h]; omega
        · rw [h]; omega
      have hb : -9223372036854775808 ≤ Int.tdiv x 10 ∧ Int.tdiv x 10 ≤ 9223372036854775807 := by
        rcases tmod_cases x with ⟨_, _, h⟩ | ⟨_, _, h⟩
        · rw [h]; omega
        · rw [h]; omega
      rw [fi_step x b acc hx h0 h1 (by omega), ih (Int.tdiv x 10) (UInt8.ofNat (48 + x.natAbs % 10) :: acc) (by rw [hq]; rw [Nat.pow_succ] at hu; omega) hb.1 hb.2 (by rw [List.length_cons]; omega), hq, dig_step x.natAbs (by omega), List.append_assoc]
      rfl
theorem spec_FormatInt_f (x : Int) (h0 : -9223372036854775808 ≤ x) (h1 : x ≤ 9223372036854775807) : spec_FormatInt.f x = some (bs (Lib.itoa x)) := by
  by_cases hx : x = 0
  · subst hx
    have : Lib.itoa 0 = [48] := (Lib.itoa_nonneg 0).trans (Lib.decDigits_one (by decide))
    rw [this]
    simp only [spec_FormatInt.f, spec_FormatInt.begin, Tr.do_ite, Tr.do_ret, decide_true, ↓reduceIte]
    rfl
  · simp only [spec_FormatInt.f, spec_FormatInt.begin, Tr.do_ite, Tr.do_jump, decide_eq_false hx, Bool.false_eq_true, ↓reduceIte]
    refine (fi_loop (decide (x < 0)) 19 x [] (show x.natAbs < 10000000000000000000 by omega) h0 h1 (by decide)).trans ?_
    rw [List.append_nil]
    unfold Lib.itoa dig
    rw [if_neg (show ¬ x.natAbs = 0 by omega)]
    by_cases hn : x < 0
    · rw [decide_eq_true hn, if_pos hn]
      rfl
    · rw [decide_eq_false hn, if_neg hn, show x.natAbs = x.toNat by omega]
      rfl
theorem impl_FormatInt_f (x : Int) (h0 : -9223372036854775808 ≤ x) (h1 : x ≤ 9223372036854775807) : impl_FormatInt.f x = some (bs (Lib.itoa x)) := by
  have e : strconv_Itoa.f x = some (bs (Lib.itoa x)) := if_pos ⟨h0, h1⟩
  simp only [impl_FormatInt.f, impl_FormatInt.begin, Tr.do_call, Tr.do_ret, strconv_Itoa.told, e, bind_ok]
/-! ### A word and numbers -/
theorem spaced_step (w : List UInt8) (l : List Int) (hw : w.length ≤ 1000000) (hl : l.length ≤ 100000) (h : ∀ i, -9223372036854775808 ≤ l.getD i 0 ∧ l.getD i 0 ≤ 9223372036854775807) (i : Nat) (hi : i < l.length) :
    lp impl_spaced.tree (.c3 (bs (w ++ sp l i)) l (l.length : Int) (i : Int)) = lp impl_spaced.tree (.c3 (bs (w ++ sp l (i + 1))) l (l.length : Int) ((i + 1 : Nat) : Int)) := by
  have e := impl_FormatInt_f (l.getD i 0) (h i).1 (h i).2
  have hp := sp_length h i
  have hn := Lib.itoa_length_le (l.getD i 0) (h i).1 (h i).2
  have s1 := fits_room (a := (⟨#[32]⟩ : ByteArray)) (b := bs (Lib.itoa (l.getD i 0))) (by rw [bs_size]; show 1 + _ ≤ _; omega)
  have c1 : (⟨#[32]⟩ : ByteArray) ++ bs (Lib.itoa (l.getD i 0)) = bs ([32] ++ Lib.itoa (l.getD i 0)) := bs_append [32] _
  have s2 := fits_room (a := bs (w ++ sp l i)) (b := bs ([32] ++ Lib.itoa (l.getD i 0))) (by rw [bs_size, bs_size, List.length_append, List.length_append, List.length_singleton]; omega)
  have c2 : bs (w ++ sp l i) ++ bs ([32] ++ Lib.itoa (l.getD i 0)) = bs (w ++ sp l (i + 1)) := by rw [bs_append, List.append_assoc]; rfl
  have hg : rdI l (i : Int) = l.getD i 0 := rfl
  rw [lp_eq]
  simp only [impl_spaced.tree, Tr.do_ite, Tr.do_need, Tr.do_call, Tr.do_jump, lt_dec hi, in_lt hi, and_self, decide_true, ↓reduceIte, hg, impl_FormatInt.told, e, bind_ok, c1, s1, s2, c2, wr_next (show i < 4611686018427387904 by omega)]
theorem impl_spaced_f (w : List UInt8) (l : List Int) (hw : w.length ≤ 1000000) (hl : l.length ≤ 100000) (h : ∀ i, -9223372036854775808 ≤ l.getD i 0 ∧ l.getD i 0 ≤ 9223372036854775807) : impl_spaced.f (bs w) l = some (bs (w ++ sp l l.length)) := by
  simp only [impl_spaced.f, impl_spaced.begin, Tr.do_jump]
  have h0 : bs w = bs (w ++ sp l 0) := by unfold sp; rw [List.append_nil]
  rw [h0]
  refine same_loop l.length _ (fun i => lp impl_spaced.tree (.c3 (bs (w ++ sp l i)) l (l.length : Int) (i : Int))) (fun i hi => spaced_step w l hw hl h i hi) ?_
  rw [lp_eq]
  simp only [impl_spaced.tree, Tr.do_ite, Tr.do_ret, ge_dec, Bool.false_eq_true, ↓reduceIte]
theorem range_one {x : Int} (h : -9223372036854775808 ≤ x ∧ x ≤ 9223372036854775807) : ∀ i, -9223372036854775808 ≤ ([x] : List Int).getD i 0 ∧ ([x] : List Int).getD i 0 ≤ 9223372036854775807
  | 0 => h
  | _ + 1 => ⟨show (-9223372036854775808 : Int) ≤ 0 by decide, show (0 : Int) ≤ 9223372036854775807 by decide⟩
theorem spaced_one (w : List UInt8) (x : Int) (hw : w.length ≤ 1000000) (h : -9223372036854775808 ≤ x ∧ x ≤ 9223372036854775807) : impl_spaced.f (bs w) [x] = some (bs (w ++ 32 :: Lib.itoa x)) :=
  impl_spaced_f w [x] hw (show 1 ≤ 100000 by decide) (range_one h)
/-! ### Texts of the law -/
theorem markText_loop : ∀ (d : Nat) (x : Nat) (acc : ByteArray), x < 10 ^ d → x ≤ 1099511627776 → acc.size + d ≤ 1000 → ∃ s, lp laws_markText.tree (.c4 (x : Int) acc) = some s := by
  intro d
  induction d with
  | zero =>
    intro x acc hx _ ha
    obtain rfl : x = 0 := by simp at hx; omega
    have s := fits_room (a := (⟨#[109]⟩ : ByteArray)) (b := acc) (by show 1 + acc.size ≤ _; omega)
    have c : ¬ (((0 : Nat) : Int) > 0) := by omega
    rw [lp_eq]
    simp only [laws_markText.tree, Tr.do_ite, Tr.do_need, Tr.do_ret, c, decide_false, Bool.false_eq_true, ↓reduceIte, s]
    exact ⟨_, rfl⟩
  | succ d ih =>
    intro x acc hx hb ha
    rw [lp_eq]
    by_cases hz : x = 0
    · subst hz
      have s := fits_room (a := (⟨#[109]⟩ : ByteArray)) (b := acc) (by show 1 + acc.size ≤ _; omega)
      have c : ¬ (((0 : Nat) : Int) > 0) := by omega
      simp only [laws_markText.tree, Tr.do_ite, Tr.do_need, Tr.do_ret, c, decide_false, Bool.false_eq_true, ↓reduceIte, s]
      exact ⟨_, rfl⟩
    · have c : ((x : Nat) : Int) > 0 := by omega
      have n10 : (10 : Int) ≠ 0 := by omega
      have hd : wr (Int.tdiv (x : Int) 10) = ((x / 10 : Nat) : Int) := by
        rw [Int.tdiv_eq_ediv_of_nonneg (by omega)]
        exact wr_in (by omega)
      have h1 : ∀ n : Int, (strOfNums [n]).size = 1 := fun n => rfl
      have s := fun n : Int => fits_room (a := strOfNums [n]) (b := acc) (by rw [h1]; omega)
      obtain ⟨r, e⟩ := ih (x / 10) (strOfNums [IntKind.wrap .u8 (wr (48 + Int.tmod (x : Int) 10))] ++ acc) (by rw [Nat.pow_succ] at hx; omega) (by omega) (by rw [ByteArray.size_append, h1]; omega)
      simp only [laws_markText.tree, Tr.do_ite, Tr.do_need, Tr.do_jump, c, decide_true, ↓reduceIte, n10, ne_eq, not_false_eq_true, isByte_int, List.mem_singleton, forall_eq, implies_true, s, hd]
      exact ⟨r, e⟩
/-- The text of a mark. -/
noncomputable def mt (k : Int) : ByteArray := (laws_markText.f k).getD ByteArray.empty
theorem laws_markText_f (k : Int) (h0 : 0 ≤ k) (h1 : k ≤ 1099511627776) : laws_markText.f k = some (mt k) := by
  have key : ∃ s, laws_markText.f k = some s := by
    simp only [laws_markText.f, laws_markText.begin, Tr.do_ite, Tr.do_ret, Tr.do_jump]
    by_cases h : k ≤ 0
    · simp only [h, decide_true, ↓reduceIte]
      exact ⟨_, rfl⟩
    · simp only [h, decide_false, Bool.false_eq_true, ↓reduceIte]
      obtain ⟨n, rfl⟩ : ∃ n : Nat, k = (n : Int) := ⟨k.toNat, by omega⟩
      exact markText_loop 13 n _ (show n < 10000000000000 by omega) (by omega) (by decide)
  obtain ⟨s, e⟩ := key
  unfold mt
  rw [e]
  rfl
/-- A row of texts. -/
noncomputable def mkTs (k : Int) (l : List ByteArray) : List ByteArray := mapS (fun k _ => k + 1) (fun k _ => mt k) k l
theorem fold_nextT (l : List ByteArray) (k : Int) : l.foldl (fun k _ => k + 1) k = k + l.length :=
  foldl_inv l (fun k _ => k + 1) (fun i s => s = k + i) k (by simp) (fun i h s hs => by omega)
theorem laws_markStringS_f (k : Int) (l : List ByteArray) (h0 : 0 ≤ k) (h1 : k + l.length ≤ 1000000000) : laws_markStringS.f k l = some (k + l.length, mkTs k l) := by
  simp only [laws_markStringS.f, laws_markStringS.begin, Tr.do_jump]
  have e := put_loop l (fun k _ => k + 1) (fun k _ => mt k) ByteArray.empty (fun i s => s = k + i) (fun s m => (s, m)) (fun i s m => lp laws_markStringS.tree (.c2 s (i : Int) m)) k (by simp) (fun i h s m hs hm hg => by
    refine ⟨?_, by omega⟩
    rw [lp_eq]
    have h2 : i < m.length := by omega
    have w1 : wr (s + 1) = s + 1 := wr_in (by omega)
    have w7 : wr ((i : Int) + 1) = ((i + 1 : Nat) : Int) := wr_next (by omega)
    simp only [laws_markStringS.tree, Tr.do_ite, Tr.do_need, Tr.do_call, Tr.do_jump, laws_markText.told, laws_markText_f s (by omega) (by omega), bind_ok, lt_dec h2, in_lt h2, and_self, decide_true, ↓reduceIte, Int.toNat_natCast, w1, w7]) (fun s m hs hm => by
    rw [lp_eq]
    simp only [laws_markStringS.tree, Tr.do_ite, Tr.do_ret, hm, ge_dec, Bool.false_eq_true, ↓reduceIte])
  rw [fold_nextT] at e
  exact e
theorem laws_heldStringS_f (k : Int) (l : List ByteArray) (h0 : 0 ≤ k) (h1 : k + l.length ≤ 1000000000) : laws_heldStringS.f (mkTs k l) k = some (k + l.length) := by
  simp only [laws_heldStringS.f, laws_heldStringS.begin, Tr.do_jump]
  have hlen : (mkTs k l).length = l.length := mapS_length _ _ _ _
  have e := held_loop l (fun k _ => k + 1) (fun k _ => mt k) ByteArray.empty (fun i s => s = k + i) (fun s => s) k (fun i s => lp laws_heldStringS.tree (.c2 (mkTs k l) s (i : Int))) (by simp) (fun i h s hs hg => by
    refine ⟨?_, by omega⟩
    rw [lp_eq]
    have h2 : i < (mkTs k l).length := by omega
    have w1 : wr (s + 1) = s + 1 := wr_in (by omega)
    have w7 : wr ((i : Int) + 1) = ((i + 1 : Nat) : Int) := wr_next (by omega)
    have hg' : rdY (mkTs k l) (i : Int) = mt s := hg
    have hb := ba_same (mt s)
    simp only [laws_heldStringS.tree, Tr.do_ite, Tr.do_need, Tr.do_call, Tr.do_both, Tr.do_last, Tr.do_jump, laws_markText.told, laws_markText_f s (by omega) (by omega), bind_ok, lt_dec h2, in_lt h2, and_self, decide_true, ↓reduceIte, hg', hb, w1, w7, Bool.false_eq_true, both_same]) (fun s hs => by
    rw [lp_eq]
    simp only [laws_heldStringS.tree, Tr.do_ite, Tr.do_ret, hlen, ge_dec, Bool.false_eq_true, ↓reduceIte])
  rw [fold_nextT] at e
  exact e
theorem laws_eqStringS_f (l : List ByteArray) (hl : l.length ≤ 1048576) : laws_eqStringS.f l l = some true := by
  have hn : decide ((l.length : Int) = (l.length : Int)) = true := decide_eq_true rfl
  simp only [laws_eqStringS.f, laws_eqStringS.begin, Tr.do_ite, Tr.do_jump, hn, Bool.not_true, Bool.false_eq_true, ↓reduceIte]
  refine same_loop l.length true (fun i => lp laws_eqStringS.tree (.c4 l l (i : Int))) (fun i hi => ?_) ?_
  · have hb := ba_same (rdY l (i : Int))
    rw [lp_eq]
    simp only [laws_eqStringS.tree, Tr.do_ite, Tr.do_need, Tr.do_ret, Tr.do_jump, lt_dec hi, in_lt hi, and_self, decide_true, ↓reduceIte, hb, Bool.false_eq_true, wr_next (show i < 4611686018427387904 by omega)]
  · rw [lp_eq]
    simp only [laws_eqStringS.tree, Tr.do_ite, Tr.do_ret, ge_dec, Bool.false_eq_true, ↓reduceIte]
/-! ### The lines of a node -/
def lineOf (w : List UInt8) (x : Int) : ByteArray := bs (w ++ 32 :: Lib.itoa x)
/-- The lines of a valid node. -/
def nodeLines (t d s g a c lo hi : Int) : List ByteArray :=
  [lineOf [116, 97, 115, 107] t, lineOf [100, 111, 110, 101] d, lineOf [115, 101, 110, 116] s, lineOf [103, 111, 116] g, lineOf [97, 99, 107, 101, 100] a, lineOf [99, 104, 97, 114, 103, 101] c, bs ([99, 108, 111, 99, 107, 32] ++ (Lib.itoa lo ++ ([46, 46] ++ Lib.itoa hi)))]
def small64 (x : Int) : Prop := -1000000000 ≤ x ∧ x ≤ 1000000000
theorem small64.wide {x : Int} (h : small64 x) : -9223372036854775808 ≤ x ∧ x ≤ 9223372036854775807 := by
  obtain ⟨h1, h2⟩ := h
  omega
theorem small64.len {x : Int} (h : small64 x) : (Lib.itoa x).length ≤ 21 := Lib.itoa_length_le x h.wide.1 h.wide.2
theorem clock_text (lo hi : Int) (h1 : small64 lo) (h2 : small64 hi) : (((⟨#[99, 108, 111, 99, 107, 32]⟩ : ByteArray) ++ bs (Lib.itoa lo)) ++ (⟨#[46, 46]⟩ : ByteArray)) ++ bs (Lib.itoa hi) = bs ([99, 108, 111, 99, 107, 32] ++ (Lib.itoa lo ++ ([46, 46] ++ Lib.itoa hi))) ∧
    ((⟨#[99, 108, 111, 99, 107, 32]⟩ : ByteArray).size : Int) + (bs (Lib.itoa lo)).size ≤ room ∧ (((⟨#[99, 108, 111, 99, 107, 32]⟩ : ByteArray) ++ bs (Lib.itoa lo)).size : Int) + (⟨#[46, 46]⟩ : ByteArray).size ≤ room ∧ ((((⟨#[99, 108, 111, 99, 107, 32]⟩ : ByteArray) ++ bs (Lib.itoa lo)) ++ (⟨#[46, 46]⟩ : ByteArray)).size : Int) + (bs (Lib.itoa hi)).size ≤ room := by
  have l1 := h1.len
  have l2 := h2.len
  have c1 : (⟨#[99, 108, 111, 99, 107, 32]⟩ : ByteArray) ++ bs (Lib.itoa lo) = bs ([99, 108, 111, 99, 107, 32] ++ Lib.itoa lo) := bs_append [99, 108, 111, 99, 107, 32] _
  have c2 : bs ([99, 108, 111, 99, 107, 32] ++ Lib.itoa lo) ++ (⟨#[46, 46]⟩ : ByteArray) = bs (([99, 108, 111, 99, 107, 32] ++ Lib.itoa lo) ++ [46, 46]) := bs_append _ [46, 46]
  rw [c1, c2, bs_append]
  refine ⟨?_, fits_room ?_, fits_room ?_, fits_room ?_⟩
  · rw [List.append_assoc, List.append_assoc]
  · rw [bs_size]; show 6 + _ ≤ _; omega
  · rw [bs_size, List.length_append]; show 6 + _ + 2 ≤ _; omega
  · rw [bs_size, bs_size, List.length_append, List.length_append]; show 6 + _ + 2 + _ ≤ _; omega
theorem line_text (w : List UInt8) (x : Int) (hw : w.length ≤ 1000) (h : small64 x) : bs (w ++ [32]) ++ bs (Lib.itoa x) = lineOf w x ∧ ((bs (w ++ [32])).size : Int) + (bs (Lib.itoa x)).size ≤ room := by
  have l1 := h.len
  refine ⟨?_, fits_room ?_⟩
  · rw [bs_append, List.append_assoc]; rfl
  · rw [bs_size, bs_size, List.length_append, List.length_singleton]; omega
theorem memSent_len {n : Nat} {m : List Int} (h : okMem n m = true) : ((memSent m).length : Int) = (unpack (rdI m 8)).2.2 := by
  obtain ⟨h1, h2, _⟩ := okMem_parts h
  obtain ⟨_, _, _, _, h5, h6⟩ := unpack_good h2
  unfold memSent
  rw [if_pos h1, if_neg (by omega)]
  unfold sent
  rw [List.length_drop, List.length_take]
  omega
theorem node_small {p : List S87} {m r : List Int} {a3 a4 a5 a6 a7 a8 a9 a10 : Int} {h : List Int} {a12 : Int} (hn : okNode p m r a3 a4 a5 a6 a7 a8 a9 a10 h a12 = true) :
    m.length = 49 ∧ h.length ≤ 49 ∧ small64 (unpack (rdI m 8)).1 ∧ small64 a12 ∧ small64 (unpack (rdI m 8)).2.2 ∧ small64 (h.length : Int) ∧ small64 a10 ∧ small64 a4 ∧ small64 a8 ∧ small64 a9 := by
  have v := okNode_view.mp hn
  obtain ⟨h1, h2, _⟩ := okMem_parts v.2.1
  obtain ⟨_, _, _, _, h5, h6⟩ := unpack_good h2
  have st := okStore_view.mp v.2.2.1
  have sp := okSpan_view.mp v.2.2.2.2.2.1
  have hl := Nat.le_trans v.2.2.2.2.2.2.1.2.length_le (memSent_le m 49 (by omega))
  unfold small64
  refine ⟨h1, hl, ?_, ?_, ?_, ?_, ?_, ?_, ?_, ?_⟩ <;> omega
def fmtNode (p : List S87) (m r : List Int) (a3 a4 a5 a6 a7 a8 a9 a10 : Int) (h : List Int) (a12 : Int) : List ByteArray := if okNode p m r a3 a4 a5 a6 a7 a8 a9 a10 h a12 = true then nodeLines (unpack (rdI m 8)).1 a12 (unpack (rdI m 8)).2.2 (h.length : Int) a10 a4 a8 a9 else []
theorem spec_FormatNode_f (p : List S87) (m r : List Int) (a3 a4 a5 a6 a7 a8 a9 a10 : Int) (h : List Int) (a12 : Int) (hp : p.length ≤ 1048576) (hs : ∀ t ∈ p, t.f0.length ≤ 1048576) (hm : m.length ≤ 1048576) (hr : r.length ≤ 1048576) (hh : h.length ≤ 1048576) : spec_FormatNode.f p m r a3 a4 a5 a6 a7 a8 a9 a10 h a12 = some (fmtNode p m r a3 a4 a5 a6 a7 a8 a9 a10 h a12) := by
  have e1 := spec_NodeOk_f p m r a3 a4 a5 a6 a7 a8 a9 a10 h a12 hp hs hm hr hh
  unfold fmtNode
  cases hn : okNode p m r a3 a4 a5 a6 a7 a8 a9 a10 h a12 with
  | false =>
    rw [hn] at e1
    simp only [spec_FormatNode.f, spec_FormatNode.begin, Tr.do_call, Tr.do_ite, Tr.do_ret, spec_NodeOk.told, e1, bind_ok, Bool.not_false, Bool.false_eq_true, ↓reduceIte]
  | true =>
    rw [hn] at e1
    obtain ⟨h49, hl, q1, q2, q3, q4, q5, q6, q7, q8⟩ := node_small hn
    have n8 : (0 : Int) ≤ 8 ∧ (8 : Int) < (m.length : Int) := by omega
    obtain ⟨k1, k2, k3, k4⟩ := clock_text a8 a9 q7 q8
    have f1 := spec_FormatInt_f (unpack (rdI m 8)).1 q1.wide.1 q1.wide.2
    obtain ⟨c1, s1⟩ := line_text [116, 97, 115, 107] (unpack (rdI m 8)).1 (by decide) q1
    have c1 : (⟨#[116, 97, 115, 107, 32]⟩ : ByteArray) ++ bs (Lib.itoa (unpack (rdI m 8)).1) = lineOf [116, 97, 115, 107] (unpack (rdI m 8)).1 := c1
    have s1 : ((⟨#[116, 97, 115, 107, 32]⟩ : ByteArray).size : Int) + (bs (Lib.itoa (unpack (rdI m 8)).1)).size ≤ room := s1
    have f2 := spec_FormatInt_f a12 q2.wide.1 q2.wide.2
    obtain ⟨c2, s2⟩ := line_text [100, 111, 110, 101] a12 (by decide) q2
    have c2 : (⟨#[100, 111, 110, 101, 32]⟩ : ByteArray) ++ bs (Lib.itoa a12) = lineOf [100, 111, 110, 101] a12 := c2
    have s2 : ((⟨#[100, 111, 110, 101, 32]⟩ : ByteArray).size : Int) + (bs (Lib.itoa a12)).size ≤ room := s2
    have f3 := spec_FormatInt_f (unpack (rdI m 8)).2.2 q3.wide.1 q3.wide.2
    obtain ⟨c3, s3⟩ := line_text [115, 101, 110, 116] (unpack (rdI m 8)).2.2 (by decide) q3
    have c3 : (⟨#[115, 101, 110, 116, 32]⟩ : ByteArray) ++ bs (Lib.itoa (unpack (rdI m 8)).2.2) = lineOf [115, 101, 110, 116] (unpack (rdI m 8)).2.2 := c3
    have s3 : ((⟨#[115, 101, 110, 116, 32]⟩ : ByteArray).size : Int) + (bs (Lib.itoa (unpack (rdI m 8)).2.2)).size ≤ room := s3
    have f4 := spec_FormatInt_f (h.length : Int) q4.wide.1 q4.wide.2
    obtain ⟨c4, s4⟩ := line_text [103, 111, 116] (h.length : Int) (by decide) q4
    have c4 : (⟨#[103, 111, 116, 32]⟩ : ByteArray) ++ bs (Lib.itoa (h.length : Int)) = lineOf [103, 111, 116] (h.length : Int) := c4
    have s4 : ((⟨#[103, 111, 116, 32]⟩ : ByteArray).size : Int) + (bs (Lib.itoa (h.length : Int))).size ≤ room := s4
    have f5 := spec_FormatInt_f a10 q5.wide.1 q5.wide.2
    obtain ⟨c5, s5⟩ := line_text [97, 99, 107, 101, 100] a10 (by decide) q5
    have c5 : (⟨#[97, 99, 107, 101, 100, 32]⟩ : ByteArray) ++ bs (Lib.itoa a10) = lineOf [97, 99, 107, 101, 100] a10 := c5
    have s5 : ((⟨#[97, 99, 107, 101, 100, 32]⟩ : ByteArray).size : Int) + (bs (Lib.itoa a10)).size ≤ room := s5
    have f6 := spec_FormatInt_f a4 q6.wide.1 q6.wide.2
    obtain ⟨c6, s6⟩ := line_text [99, 104, 97, 114, 103, 101] a4 (by decide) q6
    have c6 : (⟨#[99, 104, 97, 114, 103, 101, 32]⟩ : ByteArray) ++ bs (Lib.itoa a4) = lineOf [99, 104, 97, 114, 103, 101] a4 := c6
    have s6 : ((⟨#[99, 104, 97, 114, 103, 101, 32]⟩ : ByteArray).size : Int) + (bs (Lib.itoa a4)).size ≤ room := s6
    have f7 := spec_FormatInt_f a8 q7.wide.1 q7.wide.2
    have f8 := spec_FormatInt_f a9 q8.wide.1 q8.wide.2
    simp only [spec_FormatNode.f, spec_FormatNode.begin, Tr.do_call, Tr.do_ite, Tr.do_need, Tr.do_val, Tr.do_ret, spec_NodeOk.told, e1, spec_UnpackControl.told, spec_UnpackControl_f, bind_ok, Bool.not_true, Bool.false_eq_true, ↓reduceIte, n8, and_self, spec_FormatInt.told, f1, c1, s1, f2, c2, s2, f3, c3, s3, f4, c4, s4, f5, c5, s5, f6, c6, s6, f7, f8, k1, k2, k3, k4]
    rfl
theorem impl_FormatNode_f (p : List S87) (m r : List Int) (a3 a4 a5 a6 a7 a8 a9 a10 : Int) (h : List Int) (a12 : Int) (hp : p.length ≤ 1048576) (hs : ∀ t ∈ p, t.f0.length ≤ 1048576) (hm : m.length ≤ 1048576) (hr : r.length ≤ 1048576) (hh : h.length ≤ 1048576) : impl_FormatNode.f p m r a3 a4 a5 a6 a7 a8 a9 a10 h a12 = some (fmtNode p m r a3 a4 a5 a6 a7 a8 a9 a10 h a12) := by
  have e1 := impl_NodeOk_f p m r a3 a4 a5 a6 a7 a8 a9 a10 h a12 hp hs hm hr hh
  unfold fmtNode
  cases hn : okNode p m r a3 a4 a5 a6 a7 a8 a9 a10 h a12 with
  | false =>
    rw [hn] at e1
    simp only [impl_FormatNode.f, impl_FormatNode.begin, Tr.do_call, Tr.do_ite, Tr.do_ret, impl_NodeOk.told, e1, bind_ok, Bool.not_false, Bool.false_eq_true, ↓reduceIte]
  | true =>
    rw [hn] at e1
    obtain ⟨h49, hl, q1, q2, q3, q4, q5, q6, q7, q8⟩ := node_small hn
    have n8 : (0 : Int) ≤ 8 ∧ (8 : Int) < (m.length : Int) := by omega
    obtain ⟨k1, k2, k3, k4⟩ := clock_text a8 a9 q7 q8
    have f1 : impl_spaced.f (⟨#[116, 97, 115, 107]⟩ : ByteArray) [(unpack (rdI m 8)).1] = some (lineOf [116, 97, 115, 107] (unpack (rdI m 8)).1) := spaced_one [116, 97, 115, 107] (unpack (rdI m 8)).1 (by decide) q1.wide
    have f2 : impl_spaced.f (⟨#[100, 111, 110, 101]⟩ : ByteArray) [a12] = some (lineOf [100, 111, 110, 101] a12) := spaced_one [100, 111, 110, 101] a12 (by decide) q2.wide
    have es := impl_SentBy_f p m r a3 a4 a5 a6 a7 a8 a9 a10 h a12 hp hs hm hr hh
    rw [show sentBy p m r a3 a4 a5 a6 a7 a8 a9 a10 h a12 = memSent m by unfold sentBy; rw [if_pos hn]] at es
    have el := memSent_len (okNode_view.mp hn).2.1
    have f3 : impl_spaced.f (⟨#[115, 101, 110, 116]⟩ : ByteArray) [(unpack (rdI m 8)).2.2] = some (lineOf [115, 101, 110, 116] (unpack (rdI m 8)).2.2) := spaced_one [115, 101, 110, 116] (unpack (rdI m 8)).2.2 (by decide) q3.wide
    have f4 : impl_spaced.f (⟨#[103, 111, 116]⟩ : ByteArray) [(h.length : Int)] = some (lineOf [103, 111, 116] (h.length : Int)) := spaced_one [103, 111, 116] (h.length : Int) (by decide) q4.wide
    have f5 : impl_spaced.f (⟨#[97, 99, 107, 101, 100]⟩ : ByteArray) [a10] = some (lineOf [97, 99, 107, 101, 100] a10) := spaced_one [97, 99, 107, 101, 100] a10 (by decide) q5.wide
    have f6 : impl_spaced.f (⟨#[99, 104, 97, 114, 103, 101]⟩ : ByteArray) [a4] = some (lineOf [99, 104, 97, 114, 103, 101] a4) := spaced_one [99, 104, 97, 114, 103, 101] a4 (by decide) q6.wide
    have f7 := impl_FormatInt_f a8 q7.wide.1 q7.wide.2
    have f8 := impl_FormatInt_f a9 q8.wide.1 q8.wide.2
    simp only [impl_FormatNode.f, impl_FormatNode.begin, Tr.do_call, Tr.do_ite, Tr.do_need, Tr.do_val, Tr.do_ret, impl_NodeOk.told, e1, impl_UnpackControl.told, impl_UnpackControl_f, bind_ok, Bool.not_true, Bool.false_eq_true, ↓reduceIte, n8, and_self, impl_FormatInt.told, f1, f2, impl_SentBy.told, es, el, f3, f4, f5, f6, impl_spaced.told, f7, f8, k1, k2, k3, k4]
    rfl
theorem fmtNode_len (p : List S87) (m r : List Int) (a3 a4 a5 a6 a7 a8 a9 a10 : Int) (h : List Int) (a12 : Int) : (fmtNode p m r a3 a4 a5 a6 a7 a8 a9 a10 h a12).length ≤ 7 := by
  unfold fmtNode
  split
  · exact Nat.le_refl 7
  · exact Nat.zero_le 7
theorem FnExactFormatNode : laws_FnExactFormatNode.Pure := by
  intro p m r a3 a4 a5 a6 a7 a8 a9 a10 h a12 hg
  have hp0 : p.length ≤ 9223372036854775807 := hg.1.1
  have hs0 : ∀ t ∈ p, t.f0.length ≤ 9223372036854775807 := fun t ht => (hg.1.2 t ht).1.1
  have hm0 : m.length ≤ 9223372036854775807 := hg.2.1.1
  have hr0 : r.length ≤ 9223372036854775807 := hg.2.2.1.1
  have hh0 : h.length ≤ 9223372036854775807 := hg.2.2.2.2.2.2.1.2.1
  simp only [laws_FnExactFormatNode.f, laws_FnExactFormatNode.begin, Tr.do_ite, Tr.do_call, Tr.do_ret, Tr.do_last, laws_szNode.told, laws_szNode_f p m r a3 a4 a5 a6 a7 a8 a9 a10 h a12 1048576 hp0 hs0 hm0 hr0 hh0 (by omega) (by omega), bind_ok, decide_eq_true_eq]
  by_cases q4 : ¬ (totNode p m r h : Int) ≤ 1048576
  · simp only [q4, ↓reduceIte]
    rfl
  have q3 : (totNode p m r h : Int) ≤ 1048576 := by omega
  have q3' : ¬ ((1048576 : Int) - (totNode p m r h : Int) < 0) := by omega
  obtain ⟨b1, b2, b3, b4, b5, p1, p2, p3⟩ := totNode_le p m r h (by omega)
  have e1 := laws_toNode_f p m r a3 a4 a5 a6 a7 a8 a9 a10 h a12 b1 b2 b3 b4 b5
  have e2 := spec_FormatNode_f (p.map toTk) m r a3 a4 a5 a6 a7 a8 a9 a10 h a12 p1 p2 b3 b4 b5
  have e3 := impl_FormatNode_f (p.map toTk) m r a3 a4 a5 a6 a7 a8 a9 a10 h a12 p1 p2 b3 b4 b5
  have e4 := laws_eqNode_f (p.map toTk) m r a3 a4 a5 a6 a7 a8 a9 a10 h a12 p1 p2 b3 b4 b5
  have e5 := laws_markNode_f a3 a4 a5 a6 a7 a8 a9 a10 a12 (p.map toTk) m r h p1 p3 b3 b4 b5
  have m7 : ¬ (1 + (wt (p.map toTk) : Int) + m.length + r.length + h.length < 0) := by omega
  have hl := fmtNode_len (p.map toTk) m r a3 a4 a5 a6 a7 a8 a9 a10 h a12
  generalize fmtNode (p.map toTk) m r a3 a4 a5 a6 a7 a8 a9 a10 h a12 = s at e2 e3 hl
  have e6 := laws_eqStringS_f s (by omega)
  have e7 := laws_markStringS_f 1 s (by omega) (by omega)
  have e8 := laws_heldStringS_f 1 s (by omega) (by omega)
  have m8 : ¬ (1 + (s.length : Int) < 0) := by omega
  simp only [q3, q3', ↓reduceIte, laws_toNode.told, e1, spec_FormatNode.told, e2, impl_FormatNode.told, e3, laws_eqStringS.told, e6, laws_eqNode.told, e4, laws_markNode.told, e5, laws_markStringS.told, e7, laws_heldStringS.told, e8, bind_ok, m7, m8, Bool.not_true, Bool.false_eq_true, decide_true]
end Go.Proofs.YtpndhhellhfegaaGreatDoor.Pure
