/- The law FnExactSameNode in plain lists: the program and the reference hold the same nodes equal, and the arguments are left as they were. Conditions: none beside those of the row. -/
import Derived.Test.YtlcfebadojmnlaaHelpFnExactSameNode
namespace Go.Proofs.Ytlcfebadojmnlaa.Pure
open Go.RowKit Go.Proofs.Ytlcfebadojmnlaa.PFnExactSameNode Go.Proofs.Ytlcfebadojmnlaa.XPure Go.Proofs.Ytlcfebadojmnlaa.PureFnExactSameNode Go.Proofs.YtlcfebadojmnlaaW.PrintWords Go.Proofs.YtlcfebadojmnlaaW.PrintLast Go.Proofs.YtlcfebadojmnlaaW.PrintMore
set_option linter.unusedSimpArgs false
set_option linter.unusedVariables false

/-- With enough rounds, and with any more, it ends so. -/
def Ev {ρ : Type} (f : Nat → Option ρ) (r : ρ) : Prop := ∃ k0, ∀ k, k0 ≤ k → f k = some r
theorem Ev.step {ρ : Type} {f g : Nat → Option ρ} {r : ρ} (k0 : Nat) (c : ∀ k, k0 ≤ k → f (k + 1) = g k) (h : Ev g r) : Ev f r := by
  obtain ⟨k1, h⟩ := h
  refine ⟨k0 + k1 + 1, fun k hk => ?_⟩
  obtain ⟨q, rfl⟩ : ∃ q, k = q + 1 := ⟨k - 1, by omega⟩
  rw [c q (by omega)]
  exact h q (by omega)
theorem Ev.last {ρ : Type} {f : Nat → Option ρ} {r : ρ} (k0 : Nat) (c : ∀ k, k0 ≤ k → f (k + 1) = some r) : Ev f r := by
  refine ⟨k0 + 1, fun k hk => ?_⟩
  obtain ⟨q, rfl⟩ : ∃ q, k = q + 1 := ⟨k - 1, by omega⟩
  exact c q (by omega)
def cvS (x : S113) : S81 := ⟨x.f0, x.f1, x.f2, ⟨x.f3.f0, x.f3.f1, x.f3.f2⟩⟩
def cvT (x : S97) : S67 := ⟨x.f0.map cvS, ⟨x.f1.f0, x.f1.f1, x.f1.f2⟩⟩
theorem toStmtS_f (l : List S113) (hl : l.length ≤ 1048576) (k : Nat) (hk : l.length < k) : laws_toStmtS.f k l = some (l.map cvS) := by
  unfold laws_toStmtS.f
  rw [if_pos (by omega), if_pos (by omega), Int.toNat_natCast]
  have h := loop_up l.length (fun k (s : List S81 × Int) => laws_toStmtS.l0 k l s.1 s.2) (fun i => (filled z81 cvS l i, (i : Int))) (l.map cvS) (fun k i hi => by
    simp only [laws_toStmtS.l0, laws_toStmt.f, laws_toExpr.f, Option.bind_some]
    rw [if_pos (by omega), if_pos (by omega), if_pos (by rw [filled_length _ _ _ _ (by omega)]; omega), wrap_next hi (by omega), ← filled_set z81 _ l i hi]
    simp only [rd_T113, Int.toNat_natCast, getD_lt hi]
    rfl) (fun k => by
    simp only [laws_toStmtS.l0]
    rw [if_neg (by omega), filled_all]) k hk
  simpa [filled_zero] using h
theorem toTaskS_f (l : List S97) (hl : l.length ≤ 1048576) (M : Nat) (hM : ∀ x ∈ l, x.f0.length ≤ 1048576 ∧ x.f0.length < M) (k : Nat) (hk : l.length < k) : laws_toTaskS.f (k + M) l = some (l.map cvT) := by
  unfold laws_toTaskS.f
  rw [if_pos (by omega), if_pos (by omega), Int.toNat_natCast]
  have h := loop_up l.length (fun k (s : List S67 × Int) => laws_toTaskS.l0 (k + M) l s.1 s.2) (fun i => (filled z67 cvT l i, (i : Int))) (l.map cvT) (fun k i hi => by
    try dsimp only
    have hx := hM l[i] (List.getElem_mem hi)
    have hr : rd_T97 l (i : Int) = l[i] := by simp only [rd_T97, Int.toNat_natCast, getD_lt hi]
    rw [show k + 1 + M = k + M + 1 from by omega]
    generalize hq : k + M = q
    simp only [laws_toTaskS.l0, laws_toTask.f, laws_toExpr.f, hr, toStmtS_f l[i].f0 hx.1 q (by omega), Option.bind_some]
    rw [if_pos (by omega), if_pos (by omega), if_pos (by rw [filled_length _ _ _ _ (by omega)]; omega), wrap_next hi (by omega), ← filled_set z67 _ l i hi]
    rfl) (fun k => by
    try dsimp only
    rw [show k + 1 + M = k + M + 1 from by omega]
    generalize k + M = q
    simp only [laws_toTaskS.l0]
    rw [if_neg (by omega), filled_all]) k hk
  simpa [filled_zero] using h
theorem eqStmtS_f (l : List S81) (hl : l.length ≤ 1048576) (k : Nat) (hk : l.length < k) : laws_eqStmtS.f k l l = some true := by
  unfold laws_eqStmtS.f
  rw [if_pos rfl]
  exact loop_up l.length (fun k (s : Int) => laws_eqStmtS.l0 k l l s) (fun i => (i : Int)) true (fun k i hi => by
    simp only [laws_eqStmtS.l0, laws_eqStmt.f, laws_eqExpr.f, if_true, Option.bind_some]
    rw [if_pos (by omega), if_pos (by omega), if_pos (by omega), wrap_next hi (by omega)]) (fun k => by
    simp only [laws_eqStmtS.l0]
    rw [if_neg (by omega)]) k hk
theorem eqTaskS_f (l : List S67) (hl : l.length ≤ 1048576) (M : Nat) (hM : ∀ x ∈ l, x.f0.length ≤ 1048576 ∧ x.f0.length < M) (k : Nat) (hk : l.length < k) : laws_eqTaskS.f (k + M) l l = some true := by
  unfold laws_eqTaskS.f
  rw [if_pos rfl]
  exact loop_up l.length (fun k (s : Int) => laws_eqTaskS.l0 (k + M) l l s) (fun i => (i : Int)) true (fun k i hi => by
    try dsimp only
    have hx := hM l[i] (List.getElem_mem hi)
    have hr : rd_T67 l (i : Int) = l[i] := by simp only [rd_T67, Int.toNat_natCast, getD_lt hi]
    rw [show k + 1 + M = k + M + 1 from by omega]
    generalize hq : k + M = q
    simp only [laws_eqTaskS.l0, laws_eqTask.f, laws_eqExpr.f, hr, eqStmtS_f l[i].f0 hx.1 q (by omega), if_true, Option.bind_some]
    rw [if_pos (by omega), if_pos (by omega), if_pos (by omega), wrap_next hi (by omega)]) (fun k => by
    try dsimp only
    rw [show k + 1 + M = k + M + 1 from by omega]
    generalize k + M = q
    simp only [laws_eqTaskS.l0]
    rw [if_neg (by omega)]) k hk
/-- Do two statements differ? -/
def neS (a b : S81) : Bool := (!(a.f0 == b.f0) || (!(a.f1 == b.f1) || (!(a.f2 == b.f2) || ((!(a.f3.f0 == b.f3.f0) || (!(a.f3.f1 == b.f3.f1) || (!(a.f3.f2 == b.f3.f2))))))))
def bodyEq (x y : List S81) : Bool := decide (x.length = y.length) && endsAt (fun i => !neS (x.getD i z81) (y.getD i z81)) (fun _ => false) true x.length 0
def taskEq (a b : S67) : Bool := bodyEq a.f0 b.f0 && (a.f1.f0 == b.f1.f0 && (a.f1.f1 == b.f1.f1 && (a.f1.f2 == b.f1.f2)))
def progEq (P Q : List S67) : Bool := decide (P.length = Q.length) && endsAt (fun i => taskEq (P.getD i z67) (Q.getD i z67)) (fun _ => false) true P.length 0
theorem implBody_f (x y : List S81) (hx : x.length ≤ 1048576) (k : Nat) (hk : x.length < k) : impl_Stmt.f k x y = some (bodyEq x y) := by
  unfold impl_Stmt.f bodyEq
  by_cases h : x.length = y.length
  · rw [if_pos (by omega), decide_eq_true h, Bool.true_and]
    refine loop_ends x.length (fun k (s : Int) => impl_Stmt.l0 k x y (x.length : Int) s) (fun i => (i : Int)) _ _ _ (fun k i hi hc => ?_) (fun k i hi hc => ?_) (fun k => ?_) k hk
    · have hc2 : neS (x.getD i z81) (y.getD i z81) = false := by simpa using hc
      unfold neS at hc2
      simp only [impl_Stmt.l0, rd_T81, Int.toNat_natCast, hc2, Bool.false_eq_true, ↓reduceIte]
      rw [if_pos (by omega), if_pos (by omega), if_pos (by omega), if_pos (by omega), wrap_next hi (by omega)]
    · have hc2 : neS (x.getD i z81) (y.getD i z81) = true := by simpa using hc
      unfold neS at hc2
      simp only [impl_Stmt.l0, rd_T81, Int.toNat_natCast, hc2, ↓reduceIte]
      rw [if_pos (by omega), if_pos (by omega), if_pos (by omega), if_pos (by omega)]
    · simp only [impl_Stmt.l0]
      rw [if_neg (by omega)]
  · rw [if_neg (by omega), decide_eq_false h, Bool.false_and]
theorem implTask_f (a b : S67) (ha : a.f0.length ≤ 1048576) (k : Nat) (hk : a.f0.length < k) : impl_sameTask.f k a.f0 a.f1.f0 a.f1.f1 a.f1.f2 b.f0 b.f1.f0 b.f1.f1 b.f1.f2 = some (taskEq a b) := by
  simp only [impl_sameTask.f, implBody_f a.f0 b.f0 ha k hk, Option.bind_some, taskEq]
  cases bodyEq a.f0 b.f0 <;> simp
theorem implProg_f (P Q : List S67) (hP : P.length ≤ 1048576) (M : Nat) (hM : ∀ x ∈ P, x.f0.length ≤ 1048576 ∧ x.f0.length < M) (k : Nat) (hk : P.length < k) : impl_Task_at_impl_sameTask.f (k + M) P Q = some (progEq P Q) := by
  unfold impl_Task_at_impl_sameTask.f progEq
  by_cases h : P.length = Q.length
  · rw [if_pos (by omega), decide_eq_true h, Bool.true_and]
    refine loop_ends P.length (fun k (s : Int) => impl_Task_at_impl_sameTask.l0 (k + M) Q P (P.length : Int) s) (fun i => (i : Int)) _ _ _ (fun k i hi hc => ?_) (fun k i hi hc => ?_) (fun k => ?_) k hk
    · have hx := hM P[i] (List.getElem_mem hi)
      have hg : P.getD i z67 = P[i] := getD_lt hi
      rw [← hg] at hx
      try dsimp only
      rw [show k + 1 + M = k + M + 1 from by omega]
      generalize hq : k + M = q
      simp only [impl_Task_at_impl_sameTask.l0, rd_T67, Int.toNat_natCast, implTask_f _ _ hx.1 q (by omega), hc, Option.bind_some, ↓reduceIte]
      rw [if_pos (by omega), if_pos (by omega), if_pos (by omega), if_pos (by omega), wrap_next hi (by omega)]
    · have hx := hM P[i] (List.getElem_mem hi)
      have hg : P.getD i z67 = P[i] := getD_lt hi
      rw [← hg] at hx
      try dsimp only
      rw [show k + 1 + M = k + M + 1 from by omega]
      generalize hq : k + M = q
      simp only [impl_Task_at_impl_sameTask.l0, rd_T67, Int.toNat_natCast, implTask_f _ _ hx.1 q (by omega), hc, Option.bind_some, Bool.false_eq_true, ↓reduceIte]
      rw [if_pos (by omega), if_pos (by omega), if_pos (by omega), if_pos (by omega)]
    · try dsimp only
      rw [show k + 1 + M = k + M + 1 from by omega]
      generalize k + M = q
      simp only [impl_Task_at_impl_sameTask.l0]
      rw [if_neg (by omega)]
  · rw [if_neg (by omega), decide_eq_false h, Bool.false_and]
theorem specBody (P Q : List S67) (hP : P.length ≤ 1048576) (i : Nat) (hi : i < P.length) (hi2 : i < Q.length) (hb : (P.getD i z67).f0.length ≤ 1048576) (hb2 : (P.getD i z67).f0.length = (Q.getD i z67).f0.length) (r : Bool) (hr : Ev (fun k => spec_l39Program.l0 k ((i + 1 : Nat) : Int) P Q) r) :
    ∀ d j, j + d = (P.getD i z67).f0.length → Ev (fun k => spec_l39Program.l1 k (i : Int) (j : Int) P Q) (endsAt (fun j => !neS ((P.getD i z67).f0.getD j z81) ((Q.getD i z67).f0.getD j z81)) (fun _ => false) r d j) := by
  have r1 : rd_T67 P (i : Int) = P.getD i z67 := rfl
  have r2 : rd_T67 Q (i : Int) = Q.getD i z67 := rfl
  intro d
  induction d with
  | zero =>
    intro j hj
    refine Ev.step 0 (fun k _ => ?_) hr
    simp only [spec_l39Program.l1, r1, r2]
    rw [if_pos (by omega), if_pos (by omega), if_neg (by omega), wrap_next hi (by omega)]
  | succ d ih =>
    intro j hj
    have s1 : rd_T81 (P.getD i z67).f0 (j : Int) = (P.getD i z67).f0.getD j z81 := rfl
    have s2 : rd_T81 (Q.getD i z67).f0 (j : Int) = (Q.getD i z67).f0.getD j z81 := rfl
    unfold endsAt
    by_cases hc : neS ((P.getD i z67).f0.getD j z81) ((Q.getD i z67).f0.getD j z81) = true
    · rw [hc]
      refine Ev.last 0 (fun k _ => ?_)
      unfold neS at hc
      simp only [spec_l39Program.l1, r1, r2, s1, s2, hc, ↓reduceIte]
      rw [if_pos (by omega), if_pos (by omega), if_pos (by omega), if_pos (by omega), if_pos (by omega), if_pos (by omega)]
      rfl
    · rw [Bool.not_eq_true] at hc
      rw [hc]
      refine Ev.step 0 (fun k _ => ?_) (ih (j + 1) (by omega))
      unfold neS at hc
      simp only [spec_l39Program.l1, r1, r2, s1, s2, hc, Bool.false_eq_true, ↓reduceIte]
      rw [if_pos (by omega), if_pos (by omega), if_pos (by omega), if_pos (by omega), if_pos (by omega), if_pos (by omega), wrap_next (n := (P.getD i z67).f0.length) (by omega) (by omega)]
theorem specProg (P Q : List S67) (hP : P.length ≤ 1048576) (hPQ : P.length = Q.length) (hb : ∀ x ∈ P, x.f0.length ≤ 1048576) :
    ∀ d i, i + d = P.length → Ev (fun k => spec_l39Program.l0 k (i : Int) P Q) (endsAt (fun i => taskEq (P.getD i z67) (Q.getD i z67)) (fun _ => false) true d i) := by
  intro d
  induction d with
  | zero =>
    intro i hi
    refine Ev.last 0 (fun k _ => ?_)
    simp only [spec_l39Program.l0]
    rw [if_neg (by omega)]
    rfl
  | succ d ih =>
    intro i hi
    have r1 : rd_T67 P (i : Int) = P.getD i z67 := rfl
    have r2 : rd_T67 Q (i : Int) = Q.getD i z67 := rfl
    have hbi : (P.getD i z67).f0.length ≤ 1048576 := by rw [getD_lt (show i < P.length by omega)]; exact hb _ (List.getElem_mem _)
    have hrest := ih (i + 1) (by omega)
    have hbody := fun h2 => specBody P Q hP i (by omega) (by omega) hbi h2 _ hrest (P.getD i z67).f0.length 0 (by omega)
    unfold endsAt
    generalize hA : P.getD i z67 = a at r1 hbody hbi
    generalize hB : Q.getD i z67 = b at r2 hbody
    have key : Ev (fun k => spec_l39Program.j1 k (i : Int) ((!(a.f1.f0 == b.f1.f0) || (!(a.f1.f1 == b.f1.f1) || (!(a.f1.f2 == b.f1.f2)))) || ((a.f0.length : Int) != (b.f0.length : Int))) P Q) (if taskEq a b = true then endsAt (fun i => taskEq (P.getD i z67) (Q.getD i z67)) (fun _ => false) true d (i + 1) else false) := by
      by_cases hn : (!(a.f1.f0 == b.f1.f0) || (!(a.f1.f1 == b.f1.f1) || (!(a.f1.f2 == b.f1.f2)))) = true
      · have ht : taskEq a b = false := by
          unfold taskEq
          cases h0 : (a.f1.f0 == b.f1.f0) <;> cases h1 : (a.f1.f1 == b.f1.f1) <;> cases h2 : (a.f1.f2 == b.f1.f2) <;> simp [h0, h1, h2] at hn ⊢
        rw [hn, ht]
        refine Ev.last 0 (fun k _ => ?_)
        simp only [spec_l39Program.j1, Bool.true_or, ↓reduceIte]
        rfl
      · rw [Bool.not_eq_true] at hn
        rw [hn, Bool.false_or]
        have ht : taskEq a b = bodyEq a.f0 b.f0 := by
          unfold taskEq
          cases h0 : (a.f1.f0 == b.f1.f0) <;> cases h1 : (a.f1.f1 == b.f1.f1) <;> cases h2 : (a.f1.f2 == b.f1.f2) <;> simp [h0, h1, h2] at hn ⊢
        rw [ht]
        by_cases hl : a.f0.length = b.f0.length
        · have hne : ((a.f0.length : Int) != (b.f0.length : Int)) = false := by rw [hl]; simp
          rw [hne]
          refine Ev.step 0 (fun k _ => ?_) (?_ : Ev (fun k => spec_l39Program.l1 k (i : Int) 0 P Q) _)
          · simp only [spec_l39Program.j1, Bool.false_eq_true, ↓reduceIte]
          · have hbb := hbody hl
            unfold bodyEq
            rw [decide_eq_true hl, Bool.true_and]
            have e : endsAt (fun j => !neS (a.f0.getD j z81) (b.f0.getD j z81)) (fun _ => false) (endsAt (fun i => taskEq (P.getD i z67) (Q.getD i z67)) (fun _ => false) true d (i + 1)) a.f0.length 0 = (if endsAt (fun j => !neS (a.f0.getD j z81) (b.f0.getD j z81)) (fun _ => false) true a.f0.length 0 = true then endsAt (fun i => taskEq (P.getD i z67) (Q.getD i z67)) (fun _ => false) true d (i + 1) else false) := by
              rw [endsAt_last]
              cases endsAt (fun j => !neS (a.f0.getD j z81) (b.f0.getD j z81)) (fun _ => false) true a.f0.length 0 <;> simp
            rw [← e]
            exact hbb
        · have hne : ((a.f0.length : Int) != (b.f0.length : Int)) = true := by rw [bne_iff_ne]; omega
          have hbe : bodyEq a.f0 b.f0 = false := by
            unfold bodyEq
            rw [decide_eq_false hl, Bool.false_and]
          rw [hne, hbe]
          refine Ev.last 0 (fun k _ => ?_)
          simp only [spec_l39Program.j1, ↓reduceIte]
          rfl
    refine Ev.step 0 (fun k _ => ?_) key
    simp only [spec_l39Program.l0, r1, r2]
    rw [if_pos (by omega), if_pos (by omega), if_pos (by omega)]
    by_cases hn : (!(a.f1.f0 == b.f1.f0) || (!(a.f1.f1 == b.f1.f1) || (!(a.f1.f2 == b.f1.f2)))) = true
    · rw [if_pos hn, hn, Bool.true_or]
    · rw [if_neg hn]
      rw [Bool.not_eq_true] at hn
      rw [hn, Bool.false_or]
theorem specProg_f (P Q : List S67) (hP : P.length ≤ 1048576) (hb : ∀ x ∈ P, x.f0.length ≤ 1048576) : Ev (fun k => spec_l39Program.f k P Q) (progEq P Q) := by
  unfold progEq
  by_cases h : P.length = Q.length
  · obtain ⟨k0, hk⟩ := specProg P Q hP h hb P.length 0 (by omega)
    refine ⟨k0, fun k hk0 => ?_⟩
    show spec_l39Program.f k P Q = _
    unfold spec_l39Program.f
    rw [if_pos (by omega), decide_eq_true h, Bool.true_and]
    exact hk k hk0
  · refine ⟨0, fun k _ => ?_⟩
    show spec_l39Program.f k P Q = _
    unfold spec_l39Program.f
    rw [if_neg (by omega), decide_eq_false h, Bool.false_and]
theorem ends_neg {c : Nat → Bool} (last : Int) : ∀ d i, decide (endsAt c (fun j => (j : Int)) last d i < 0) = (endsAt c (fun _ => false) true d i && decide (last < 0)) := by
  intro d
  induction d with
  | zero => intro i; exact (Bool.true_and _).symm
  | succ d ih =>
    intro i
    unfold endsAt
    cases hc : c i with
    | true => simpa using ih (i + 1)
    | false =>
      simp only [Bool.false_eq_true, ↓reduceIte, Bool.false_and]
      exact decide_eq_false (by omega)
theorem same13_f (a b : List Int) (ha : a.length ≤ 1048576) (hb : b.length ≤ 1048576) (k : Nat) (hk : a.length < k) : spec_l13Same.f (2 * k) a b = some (decide (a = b)) := by
  have h : spec_FirstDiffering.f (2 * k) a b = some (endsAt (fun i => decide (a.getD i 0 = b.getD i 0)) (fun j => (j : Int)) (if a.length = b.length then -1 else ((min a.length b.length : Nat) : Int)) (min a.length b.length) 0) := by
    unfold spec_FirstDiffering.f
    refine loop_ends (min a.length b.length) (fun k (s : Int) => spec_FirstDiffering.l0 (2 * k) a b s) (fun i => (i : Int)) _ _ _ (fun k i hi hc => ?_) (fun k i hi hc => ?_) (fun k => ?_) k (by omega)
    · try dsimp only
      rw [show 2 * (k + 1) = 2 * k + 1 + 1 from by omega]
      have r1 : rd a (i : Int) = a.getD i 0 := rfl
      have r2 : rd b (i : Int) = b.getD i 0 := rfl
      simp only [spec_FirstDiffering.l0, spec_FirstDiffering.j1, r1, r2, ↓reduceIte]
      rw [if_pos (by omega), if_neg (by omega), if_neg (by omega), if_pos (by omega), if_pos (by omega), if_pos (by omega), if_pos (of_decide_eq_true hc), wrap_next (n := a.length) (by omega) (by omega)]
    · try dsimp only
      rw [show 2 * (k + 1) = 2 * k + 1 + 1 from by omega]
      have r1 : rd a (i : Int) = a.getD i 0 := rfl
      have r2 : rd b (i : Int) = b.getD i 0 := rfl
      simp only [spec_FirstDiffering.l0, spec_FirstDiffering.j1, r1, r2, ↓reduceIte]
      rw [if_pos (by omega), if_neg (by omega), if_neg (by omega), if_pos (by omega), if_pos (by omega), if_pos (by omega), if_neg (of_decide_eq_false hc)]
    · try dsimp only
      rw [show 2 * (k + 1) = 2 * k + 1 + 1 from by omega]
      simp only [spec_FirstDiffering.l0, spec_FirstDiffering.j1]
      by_cases h1 : a.length = b.length
      · rw [if_neg (by omega), decide_eq_false (by omega), if_neg (by decide), if_pos h1]
      · rw [if_neg h1]
        by_cases h2 : a.length < b.length
        · rw [if_neg (by omega), decide_eq_true (by omega), if_pos rfl, if_pos (by omega)]
        · rw [if_pos (by omega), if_pos trivial, if_neg (by omega), if_pos (by omega)]
  simp only [spec_l13Same.f, h, Option.bind_some]
  congr 1
  rw [ends_neg, Bool.eq_iff_iff, Bool.and_eq_true, endsAt_true, decide_eq_true_eq, decide_eq_true_eq]
  constructor
  · intro hh
    have hl : a.length = b.length := by
      by_cases h1 : a.length = b.length
      · exact h1
      · have := hh.2
        rw [if_neg h1] at this
        omega
    apply List.ext_getElem hl
    intro i h1 h2
    have := of_decide_eq_true (hh.1 i (Nat.zero_le _) (by omega))
    rw [getD_lt h1, getD_lt h2] at this
    exact this
  · intro hh
    subst hh
    exact ⟨fun j _ _ => decide_eq_true rfl, by rw [if_pos rfl]; decide⟩
theorem szInt_f (l : List Int) (a : Int) (ha : 0 ≤ a ∧ a ≤ 1048576) (hl : l.length ≤ 9223372036854775807) : laws_szIntS.f l a = some (if a - (l.length : Int) < 0 then -1 else a - (l.length : Int)) := by
  unfold laws_szIntS.f
  rw [wrap_in (x := a - (l.length : Int)) (by omega) (by omega)]
  split <;> rfl
theorem szTask_f (x : S97) (a : Int) (ha : 0 ≤ a ∧ a ≤ 1048576) (hl : x.f0.length ≤ 9223372036854775807) : laws_szTask.f x.f0 x.f1.f0 x.f1.f1 x.f1.f2 a = some (if a - (x.f0.length : Int) < 0 then -1 else a - (x.f0.length : Int)) := by
  simp only [laws_szTask.f, laws_szStmtS.f]
  rw [wrap_in (x := a - (x.f0.length : Int)) (by omega) (by omega)]
  by_cases h : a - (x.f0.length : Int) < 0
  · rw [if_pos h, if_pos h, Option.bind_some, if_pos (by decide)]
  · rw [if_neg h, if_neg h, Option.bind_some, if_neg h]
theorem szProg_f (l : List S97) (a : Int) (ha : 0 ≤ a ∧ a ≤ 1048576) (hl : l.length ≤ 9223372036854775807) (hb : ∀ x ∈ l, x.f0.length ≤ 9223372036854775807) (k : Nat) (hk : l.length < k) :
    ∃ r, laws_szProgram.f k l a = some r ∧ (r < 0 ∨ 0 ≤ r ∧ r ≤ a ∧ (l.length : Int) ≤ a ∧ ∀ x ∈ l, (x.f0.length : Int) ≤ a) := by
  have key : ∀ (d i k : Nat) (m : Int), i + d = l.length → d < k → 0 ≤ m → m ≤ a → ∃ r, laws_szTaskS.l0 k l m (i : Int) = some r ∧ (r < 0 ∨ 0 ≤ r ∧ r ≤ m ∧ ∀ j, i ≤ j → j < l.length → ((l.getD j z97).f0.length : Int) ≤ m) := by
    intro d
    induction d with
    | zero =>
      intro i k m h1 h2 h3 h4
      obtain ⟨q, rfl⟩ : ∃ q, k = q + 1 := ⟨k - 1, by omega⟩
      simp only [laws_szTaskS.l0]
      rw [if_neg (by omega)]
      exact ⟨m, rfl, Or.inr ⟨h3, Int.le_refl _, fun j a b => by omega⟩⟩
    | succ d ih =>
      intro i k m h1 h2 h3 h4
      obtain ⟨q, rfl⟩ : ∃ q, k = q + 1 := ⟨k - 1, by omega⟩
      have hi : i < l.length := by omega
      have r1 : rd_T97 l (i : Int) = l.getD i z97 := rfl
      have hx : (l.getD i z97).f0.length ≤ 9223372036854775807 := by rw [getD_lt hi]; exact hb _ (List.getElem_mem hi)
      have w : wrap64 ((i : Int) + 1) = ((i + 1 : Nat) : Int) := wrap_in (x := (i : Int) + 1) (by omega) (by omega)
      simp only [laws_szTaskS.l0, r1, szTask_f _ m ⟨h3, by omega⟩ hx, Option.bind_some, w]
      rw [if_pos (by omega), if_pos (by omega)]
      by_cases h : m - ((l.getD i z97).f0.length : Int) < 0
      · rw [if_pos h, if_pos (by decide)]
        exact ⟨-1, rfl, Or.inl (by decide)⟩
      · rw [if_neg h, if_neg h]
        obtain ⟨r, e, hr⟩ := ih (i + 1) q (m - ((l.getD i z97).f0.length : Int)) (by omega) (by omega) (by omega) (by omega)
        refine ⟨r, e, ?_⟩
        rcases hr with hr | ⟨q1, q2, q3⟩
        · exact Or.inl hr
        · refine Or.inr ⟨q1, by omega, fun j ha hb => ?_⟩
          by_cases hj : j = i
          · subst hj
            omega
          · have := q3 j (by omega) hb
            omega
  simp only [laws_szProgram.f, laws_szTaskS.f]
  rw [wrap_in (x := a - (l.length : Int)) (by omega) (by omega)]
  by_cases h : a - (l.length : Int) < 0
  · rw [if_pos h, Option.bind_some, if_pos (by decide)]
    exact ⟨-1, rfl, Or.inl (by decide)⟩
  · rw [if_neg h]
    obtain ⟨r, e, hr⟩ := key l.length 0 k (a - (l.length : Int)) (by omega) hk (by omega) (by omega)
    rw [show ((0 : Nat) : Int) = 0 from rfl] at e
    rw [e, Option.bind_some]
    rcases hr with hr | ⟨q1, q2, q3⟩
    · rw [if_pos hr]
      exact ⟨-1, rfl, Or.inl (by decide)⟩
    · rw [if_neg (by omega)]
      refine ⟨r, rfl, Or.inr ⟨q1, by omega, by omega, fun x hx => ?_⟩⟩
      obtain ⟨j, hj, rfl⟩ := List.getElem_of_mem hx
      have := q3 j (Nat.zero_le _) hj
      rw [getD_lt hj] at this
      omega
theorem szNode_f (l0 : List S97) (l1 l2 : List Int) (a3 a4 a5 a6 a7 a8 a9 a10 : Int) (l11 : List Int) (a12 a : Int) (ha : 0 ≤ a ∧ a ≤ 1048576) (h0 : l0.length ≤ 9223372036854775807) (hb : ∀ x ∈ l0, x.f0.length ≤ 9223372036854775807)
    (h1 : l1.length ≤ 9223372036854775807) (h2 : l2.length ≤ 9223372036854775807) (h11 : l11.length ≤ 9223372036854775807) (k : Nat) (hk : l0.length < k) :
    ∃ r, laws_szNode.f k l0 l1 l2 a3 a4 a5 a6 a7 a8 a9 a10 l11 a12 a = some r ∧ (r < 0 ∨ 0 ≤ r ∧ r ≤ a ∧ l0.length ≤ 1048576 ∧ (∀ x ∈ l0, x.f0.length ≤ 1048576) ∧ l1.length ≤ 1048576 ∧ l2.length ≤ 1048576 ∧ l11.length ≤ 1048576) := by
  obtain ⟨r, e, hr⟩ := szProg_f l0 a ha h0 hb k hk
  simp only [laws_szNode.f, e, Option.bind_some]
  rcases hr with hr | ⟨q1, q2, q3, q4⟩
  · rw [if_pos hr]
    exact ⟨-1, rfl, Or.inl (by decide)⟩
  rw [if_neg (by omega), szInt_f l1 r ⟨q1, by omega⟩ h1, Option.bind_some]
  by_cases c1 : r - (l1.length : Int) < 0
  · rw [if_pos c1, if_pos (by decide)]
    exact ⟨-1, rfl, Or.inl (by decide)⟩
  rw [if_neg c1, if_neg c1, szInt_f l2 _ ⟨by omega, by omega⟩ h2, Option.bind_some]
  by_cases c2 : r - (l1.length : Int) - (l2.length : Int) < 0
  · rw [if_pos c2, if_pos (by decide)]
    exact ⟨-1, rfl, Or.inl (by decide)⟩
  rw [if_neg c2, if_neg c2]
  simp only [laws_szLink.f, laws_szGateway.f]
  rw [szInt_f l11 _ ⟨by omega, by omega⟩ h11, Option.bind_some]
  by_cases c3 : r - (l1.length : Int) - (l2.length : Int) - (l11.length : Int) < 0
  · rw [if_pos c3, if_pos (by decide), Option.bind_some, if_pos (by decide), Option.bind_some, if_pos (by decide)]
    exact ⟨-1, rfl, Or.inl (by decide)⟩
  rw [if_neg c3, if_neg c3, Option.bind_some, if_neg c3, Option.bind_some, if_neg c3]
  refine ⟨_, rfl, Or.inr ⟨by omega, by omega, by omega, fun x hx => ?_, by omega, by omega, by omega⟩⟩
  have := q4 x hx
  omega
theorem toNode_f (l0 : List S97) (l1 l2 : List Int) (a3 a4 a5 a6 a7 a8 a9 a10 : Int) (l11 : List Int) (a12 : Int) (h0 : l0.length ≤ 1048576) (M : Nat) (hM : ∀ x ∈ l0, x.f0.length ≤ 1048576 ∧ x.f0.length < M)
    (h1 : l1.length ≤ 1048576) (h2 : l2.length ≤ 1048576) (h11 : l11.length ≤ 1048576) (k : Nat) (k0 : l0.length < k) (k1 : l1.length < k) (k2 : l2.length < k) (k11 : l11.length < k) :
    laws_toNode.f (k + M) l0 l1 l2 a3 a4 a5 a6 a7 a8 a9 a10 l11 a12 = some (l0.map cvT, l1, l2, a3, a4, a5, a6, a7, a8, a9, a10, l11, a12) := by
  simp only [laws_toNode.f, laws_toProgram.f, laws_toStore.f, laws_toSpan.f, laws_toLink.f, laws_toGateway.f, toTaskS_f l0 h0 M hM k k0, toIntS_f l1 (by omega) (k + M) (by omega), toIntS_f l2 (by omega) (k + M) (by omega), toIntS_f l11 (by omega) (k + M) (by omega), Option.bind_some]
theorem eqNode_f (P : List S67) (l1 l2 : List Int) (a3 a4 a5 a6 a7 a8 a9 a10 : Int) (l11 : List Int) (a12 : Int) (h0 : P.length ≤ 1048576) (M : Nat) (hM : ∀ x ∈ P, x.f0.length ≤ 1048576 ∧ x.f0.length < M)
    (h1 : l1.length ≤ 1048576) (h2 : l2.length ≤ 1048576) (h11 : l11.length ≤ 1048576) (k : Nat) (k0 : P.length < k) (k1 : l1.length < k) (k2 : l2.length < k) (k11 : l11.length < k) :
    laws_eqNode.f (k + M) P l1 l2 a3 a4 a5 a6 a7 a8 a9 a10 l11 a12 P l1 l2 a3 a4 a5 a6 a7 a8 a9 a10 l11 a12 = some true := by
  simp only [laws_eqNode.f, laws_eqProgram.f, laws_eqStore.f, laws_eqSpan.f, laws_eqLink.f, laws_eqGateway.f, eqTaskS_f P h0 M hM k k0, eqIntS_f l1 (by omega) (k + M) (by omega), eqIntS_f l2 (by omega) (k + M) (by omega), eqIntS_f l11 (by omega) (k + M) (by omega), Option.bind_some, ↓reduceIte]
theorem map_ok (l : List S97) (M : Nat) (hM : ∀ x ∈ l, x.f0.length ≤ 1048576 ∧ x.f0.length < M) : ∀ x ∈ l.map cvT, x.f0.length ≤ 1048576 ∧ x.f0.length < M := by
  intro x hx
  obtain ⟨y, hy, rfl⟩ := List.mem_map.1 hx
  have := hM y hy
  simpa [cvT] using this
theorem mono_more {ρ : Type} {f : Nat → Option ρ} (h : ∀ k, LeO (f k) (f (k + 1))) {k : Nat} {r : ρ} (e : f k = some r) : ∀ d, f (k + d) = some r
  | 0 => e
  | d + 1 => h (k + d) r (mono_more h e d)
section
variable (P Q : List S67) (l1 l2 : List Int) (a3 a4 a5 a6 a7 a8 a9 a10 : Int) (l11 : List Int) (a12 : Int) (m1 m2 : List Int) (b3 b4 b5 b6 b7 b8 b9 b10 : Int) (m11 : List Int) (b12 : Int)
def sameN : Bool := progEq P Q && (decide (l1 = m1) && (decide (l2 = m2) && (decide (l11 = m11) && (decide (a3 = b3) && ((a4 == b4 && (a5 == b5 && (a6 == b6 && (a7 == b7)))) && ((a8 == b8 && (a9 == b9)) && (decide (a10 = b10) && (a12 == b12))))))))
theorem sameBoth (hP : P.length ≤ 1048576) (M : Nat) (hM : ∀ x ∈ P, x.f0.length ≤ 1048576 ∧ x.f0.length < M) (h1 : l1.length ≤ 1048576) (h2 : l2.length ≤ 1048576) (h11 : l11.length ≤ 1048576) (n1 : m1.length ≤ 1048576) (n2 : m2.length ≤ 1048576) (n11 : m11.length ≤ 1048576) :
    ∃ k0 : Nat, ∀ q, k0 ≤ q → spec_SameNode.f (2 * q) P l1 l2 a3 a4 a5 a6 a7 a8 a9 a10 l11 a12 Q m1 m2 b3 b4 b5 b6 b7 b8 b9 b10 m11 b12 = some (sameN P Q l1 l2 a3 a4 a5 a6 a7 a8 a9 a10 l11 a12 m1 m2 b3 b4 b5 b6 b7 b8 b9 b10 m11 b12) ∧
      impl_SameNode.f (2 * q) P l1 l2 a3 a4 a5 a6 a7 a8 a9 a10 l11 a12 Q m1 m2 b3 b4 b5 b6 b7 b8 b9 b10 m11 b12 = some (sameN P Q l1 l2 a3 a4 a5 a6 a7 a8 a9 a10 l11 a12 m1 m2 b3 b4 b5 b6 b7 b8 b9 b10 m11 b12) := by
  obtain ⟨k1, hk1⟩ := specProg_f P Q hP (fun x hx => (hM x hx).1)
  refine ⟨k1 + M + P.length + l1.length + l2.length + l11.length + 5, fun q hq => ?_⟩
  have e1 := hk1 (2 * q) (by omega)
  have e2 := same13_f l1 m1 h1 n1 q (by omega)
  have e3 := same13_f l2 m2 h2 n2 q (by omega)
  have e4 := same13_f l11 m11 h11 n11 q (by omega)
  have i1 := implProg_f P Q hP M hM (2 * q - M) (by omega)
  rw [show 2 * q - M + M = 2 * q from by omega] at i1
  have i2 := equalInts_f l1 m1 (by omega) (2 * q) (by omega)
  have i3 := equalInts_f l2 m2 (by omega) (2 * q) (by omega)
  have i4 := equalInts_f l11 m11 (by omega) (2 * q) (by omega)
  simp only [spec_SameNode.f, impl_SameNode.f, e1, e2, e3, e4, i1, i2, i3, i4, Option.bind_some, sameN]
  generalize progEq P Q = c0
  generalize decide (l1 = m1) = c1
  generalize decide (l2 = m2) = c2
  generalize decide (l11 = m11) = c3
  generalize (a4 == b4 && (a5 == b5 && (a6 == b6 && (a7 == b7)))) = c4
  generalize (a8 == b8 && (a9 == b9)) = c5
  generalize (a12 == b12) = c6
  by_cases h3 : a3 = b3 <;> by_cases h10 : a10 = b10 <;> cases c0 <;> cases c1 <;> cases c2 <;> cases c3 <;> cases c4 <;> cases c5 <;> simp [h3, h10]
end
theorem FnExactSameNode : laws_FnExactSameNode.Pure := by
  intro l0 l1 l2 a3 a4 a5 a6 a7 a8 a9 a10 l11 a12 m0 m1 m2 b3 b4 b5 b6 b7 b8 b9 b10 m11 b12 hG hH
  have g0 : l0.length ≤ 9223372036854775807 := hG.1.1
  have gb : ∀ x ∈ l0, x.f0.length ≤ 9223372036854775807 := fun x hx => (hG.1.2 x hx).1.1
  have g1 : l1.length ≤ 9223372036854775807 := hG.2.1.1
  have g2 : l2.length ≤ 9223372036854775807 := hG.2.2.1.1
  have g11 : l11.length ≤ 9223372036854775807 := hG.2.2.2.2.2.2.1.2.1
  have f0 : m0.length ≤ 9223372036854775807 := hH.1.1
  have fb : ∀ x ∈ m0, x.f0.length ≤ 9223372036854775807 := fun x hx => (hH.1.2 x hx).1.1
  have f1 : m1.length ≤ 9223372036854775807 := hH.2.1.1
  have f2 : m2.length ≤ 9223372036854775807 := hH.2.2.1.1
  have f11 : m11.length ≤ 9223372036854775807 := hH.2.2.2.2.2.2.1.2.1
  obtain ⟨k1, hk1⟩ : ∃ k1, k1 = l0.length + m0.length + 1 := ⟨_, rfl⟩
  obtain ⟨r, e, hr⟩ := szNode_f l0 l1 l2 a3 a4 a5 a6 a7 a8 a9 a10 l11 a12 1048576 (by omega) g0 gb g1 g2 g11 k1 (by omega)
  rcases hr with hr | ⟨q1, q2, t0, tb, t1, t2, t11⟩
  · refine ⟨k1, ?_⟩
    simp only [laws_FnExactSameNode.f, e, Option.bind_some]
    rw [if_pos hr]
  obtain ⟨s, e', hs⟩ := szNode_f m0 m1 m2 b3 b4 b5 b6 b7 b8 b9 b10 m11 b12 r ⟨q1, q2⟩ f0 fb f1 f2 f11 k1 (by omega)
  rcases hs with hs | ⟨p1, p2, u0, ub, u1, u2, u11⟩
  · refine ⟨k1, ?_⟩
    simp only [laws_FnExactSameNode.f, e, e', Option.bind_some]
    rw [if_neg (by omega), if_pos hs]
  obtain ⟨M, hMM⟩ : ∃ M : Nat, M = 1048577 := ⟨_, rfl⟩
  have hM : ∀ x ∈ l0, x.f0.length ≤ 1048576 ∧ x.f0.length < M := fun x hx => by
    have := tb x hx
    omega
  have hN : ∀ x ∈ m0, x.f0.length ≤ 1048576 ∧ x.f0.length < M := fun x hx => by
    have := ub x hx
    omega
  have hPM := map_ok l0 M hM
  have hQM := map_ok m0 M hN
  have hPl : (l0.map cvT).length = l0.length := by simp
  have hQl : (m0.map cvT).length = m0.length := by simp
  obtain ⟨k0, hk0⟩ := sameBoth (l0.map cvT) (m0.map cvT) l1 l2 a3 a4 a5 a6 a7 a8 a9 a10 l11 a12 m1 m2 b3 b4 b5 b6 b7 b8 b9 b10 m11 b12 (by omega) M hPM t1 t2 t11 u1 u2 u11
  obtain ⟨q, hq⟩ : ∃ q, q = k0 + k1 + M + l1.length + l2.length + l11.length + m1.length + m2.length + m11.length + 5 := ⟨_, rfl⟩
  obtain ⟨s1, s2⟩ := hk0 q (by omega)
  have z1 := mono_more (f := fun k => laws_szNode.f k l0 l1 l2 a3 a4 a5 a6 a7 a8 a9 a10 l11 a12 1048576) (fun k => laws_szNode.mono _ _ _ _ _ _ _ _ _ _ _ _ _ _ k) e (2 * q - k1)
  have z2 := mono_more (f := fun k => laws_szNode.f k m0 m1 m2 b3 b4 b5 b6 b7 b8 b9 b10 m11 b12 r) (fun k => laws_szNode.mono _ _ _ _ _ _ _ _ _ _ _ _ _ _ k) e' (2 * q - k1)
  rw [show k1 + (2 * q - k1) = 2 * q from by omega] at z1 z2
  have n1 := toNode_f l0 l1 l2 a3 a4 a5 a6 a7 a8 a9 a10 l11 a12 t0 M hM t1 t2 t11 (2 * q - M) (by omega) (by omega) (by omega) (by omega)
  have n2 := toNode_f m0 m1 m2 b3 b4 b5 b6 b7 b8 b9 b10 m11 b12 u0 M hN u1 u2 u11 (2 * q - M) (by omega) (by omega) (by omega) (by omega)
  have v1 := eqNode_f (l0.map cvT) l1 l2 a3 a4 a5 a6 a7 a8 a9 a10 l11 a12 (by omega) M hPM t1 t2 t11 (2 * q - M) (by omega) (by omega) (by omega) (by omega)
  have v2 := eqNode_f (m0.map cvT) m1 m2 b3 b4 b5 b6 b7 b8 b9 b10 m11 b12 (by omega) M hQM u1 u2 u11 (2 * q - M) (by omega) (by omega) (by omega) (by omega)
  rw [show 2 * q - M + M = 2 * q from by omega] at n1 n2 v1 v2
  have c1 : ¬ r < 0 := by omega
  have c2 : ¬ s < 0 := by omega
  generalize sameN (l0.map cvT) (m0.map cvT) l1 l2 a3 a4 a5 a6 a7 a8 a9 a10 l11 a12 m1 m2 b3 b4 b5 b6 b7 b8 b9 b10 m11 b12 = ans at s1 s2
  have c3 : (ans != ans) = false := by simp
  refine ⟨2 * q, ?_⟩
  simp only [laws_FnExactSameNode.f, z1, z2, n1, n2, s1, s2, v1, v2, c1, c2, c3, Option.bind_some, ↓reduceIte, Bool.false_eq_true]

end Go.Proofs.Ytlcfebadojmnlaa.Pure
