/- The law FnExactNodeOk in plain lists: the program and the reference accept the same nodes, and the argument is left as it was. Conditions: none beside those of the row. -/
import Derived.Test.YtdmmogcpamgdnaaHelpFnExactNodeOk
namespace Go.Proofs.Ytdmmogcpamgdnaa.Pure
open Go.RowKit Go.Proofs.Ytdmmogcpamgdnaa.PFnExactNodeOk Go.Proofs.Ytdmmogcpamgdnaa.XPure Go.Proofs.Ytdmmogcpamgdnaa.PureFnExactNodeOk Go.Proofs.YtdmmogcpamgdnaaW.PrintWords Go.Proofs.YtdmmogcpamgdnaaW.PrintLast Go.Proofs.YtdmmogcpamgdnaaW.PrintMore
set_option linter.unusedSimpArgs false
set_option linter.unusedVariables false

def cvS (x : S150) : S139 := ⟨x.f0, x.f1, x.f2, ⟨x.f3.f0, x.f3.f1, x.f3.f2⟩⟩
def cvT (x : S126) : S117 := ⟨x.f0.map cvS, ⟨x.f1.f0, x.f1.f1, x.f1.f2⟩⟩
theorem toStmtS_f (l : List S150) (hl : l.length ≤ 1048576) (k : Nat) (hk : l.length < k) : laws_toStmtS.f k l = some (l.map cvS) := by
  unfold laws_toStmtS.f
  rw [if_pos (by omega), if_pos (by omega), Int.toNat_natCast]
  have h := loop_up l.length (fun k (s : List S139 × Int) => laws_toStmtS.l0 k l s.1 s.2) (fun i => (filled z139 cvS l i, (i : Int))) (l.map cvS) (fun k i hi => by
    simp only [laws_toStmtS.l0, laws_toStmt.f, laws_toExpr.f, Option.bind_some]
    rw [if_pos (by omega), if_pos (by omega), if_pos (by rw [filled_length _ _ _ _ (by omega)]; omega), wrap_next hi (by omega), ← filled_set z139 _ l i hi]
    simp only [rd_T150, Int.toNat_natCast, getD_lt hi]
    rfl) (fun k => by
    simp only [laws_toStmtS.l0]
    rw [if_neg (by omega), filled_all]) k hk
  simpa [filled_zero] using h
theorem toTaskS_f (l : List S126) (hl : l.length ≤ 1048576) (M : Nat) (hM : ∀ x ∈ l, x.f0.length ≤ 1048576 ∧ x.f0.length < M) (k : Nat) (hk : l.length < k) : laws_toTaskS.f (k + M) l = some (l.map cvT) := by
  unfold laws_toTaskS.f
  rw [if_pos (by omega), if_pos (by omega), Int.toNat_natCast]
  have h := loop_up l.length (fun k (s : List S117 × Int) => laws_toTaskS.l0 (k + M) l s.1 s.2) (fun i => (filled z117 cvT l i, (i : Int))) (l.map cvT) (fun k i hi => by
    try dsimp only
    have hx := hM l[i] (List.getElem_mem hi)
    have hr : rd_T126 l (i : Int) = l[i] := by simp only [rd_T126, Int.toNat_natCast, getD_lt hi]
    rw [show k + 1 + M = k + M + 1 from by omega]
    generalize hq : k + M = q
    simp only [laws_toTaskS.l0, laws_toTask.f, laws_toExpr.f, hr, toStmtS_f l[i].f0 hx.1 q (by omega), Option.bind_some]
    rw [if_pos (by omega), if_pos (by omega), if_pos (by rw [filled_length _ _ _ _ (by omega)]; omega), wrap_next hi (by omega), ← filled_set z117 _ l i hi]
    rfl) (fun k => by
    try dsimp only
    rw [show k + 1 + M = k + M + 1 from by omega]
    generalize k + M = q
    simp only [laws_toTaskS.l0]
    rw [if_neg (by omega), filled_all]) k hk
  simpa [filled_zero] using h
theorem eqStmtS_f (l : List S139) (hl : l.length ≤ 1048576) (k : Nat) (hk : l.length < k) : laws_eqStmtS.f k l l = some true := by
  unfold laws_eqStmtS.f
  rw [if_pos rfl]
  exact loop_up l.length (fun k (s : Int) => laws_eqStmtS.l0 k l l s) (fun i => (i : Int)) true (fun k i hi => by
    simp only [laws_eqStmtS.l0, laws_eqStmt.f, laws_eqExpr.f, if_true, Option.bind_some]
    rw [if_pos (by omega), if_pos (by omega), if_pos (by omega), wrap_next hi (by omega)]) (fun k => by
    simp only [laws_eqStmtS.l0]
    rw [if_neg (by omega)]) k hk
theorem eqTaskS_f (l : List S117) (hl : l.length ≤ 1048576) (M : Nat) (hM : ∀ x ∈ l, x.f0.length ≤ 1048576 ∧ x.f0.length < M) (k : Nat) (hk : l.length < k) : laws_eqTaskS.f (k + M) l l = some true := by
  unfold laws_eqTaskS.f
  rw [if_pos rfl]
  exact loop_up l.length (fun k (s : Int) => laws_eqTaskS.l0 (k + M) l l s) (fun i => (i : Int)) true (fun k i hi => by
    try dsimp only
    have hx := hM l[i] (List.getElem_mem hi)
    have hr : rd_T117 l (i : Int) = l[i] := by simp only [rd_T117, Int.toNat_natCast, getD_lt hi]
    rw [show k + 1 + M = k + M + 1 from by omega]
    generalize hq : k + M = q
    simp only [laws_eqTaskS.l0, laws_eqTask.f, laws_eqExpr.f, hr, eqStmtS_f l[i].f0 hx.1 q (by omega), if_true, Option.bind_some]
    rw [if_pos (by omega), if_pos (by omega), if_pos (by omega), wrap_next hi (by omega)]) (fun k => by
    try dsimp only
    rw [show k + 1 + M = k + M + 1 from by omega]
    generalize k + M = q
    simp only [laws_eqTaskS.l0]
    rw [if_neg (by omega)]) k hk
theorem szInt_f (l : List Int) (a : Int) (ha : 0 ≤ a ∧ a ≤ 1048576) (hl : l.length ≤ 9223372036854775807) : laws_szIntS.f l a = some (if a - (l.length : Int) < 0 then -1 else a - (l.length : Int)) := by
  unfold laws_szIntS.f
  rw [wrap_in (x := a - (l.length : Int)) (by omega) (by omega)]
  split <;> rfl
theorem szTask_f (x : S126) (a : Int) (ha : 0 ≤ a ∧ a ≤ 1048576) (hl : x.f0.length ≤ 9223372036854775807) : laws_szTask.f x.f0 x.f1.f0 x.f1.f1 x.f1.f2 a = some (if a - (x.f0.length : Int) < 0 then -1 else a - (x.f0.length : Int)) := by
  simp only [laws_szTask.f, laws_szStmtS.f]
  rw [wrap_in (x := a - (x.f0.length : Int)) (by omega) (by omega)]
  by_cases h : a - (x.f0.length : Int) < 0
  · rw [if_pos h, if_pos h, Option.bind_some, if_pos (by decide)]
  · rw [if_neg h, if_neg h, Option.bind_some, if_neg h]
theorem szProg_f (l : List S126) (a : Int) (ha : 0 ≤ a ∧ a ≤ 1048576) (hl : l.length ≤ 9223372036854775807) (hb : ∀ x ∈ l, x.f0.length ≤ 9223372036854775807) (k : Nat) (hk : l.length < k) :
    ∃ r, laws_szProgram.f k l a = some r ∧ (r < 0 ∨ 0 ≤ r ∧ r ≤ a ∧ (l.length : Int) ≤ a ∧ ∀ x ∈ l, (x.f0.length : Int) ≤ a) := by
  have key : ∀ (d i k : Nat) (m : Int), i + d = l.length → d < k → 0 ≤ m → m ≤ a → ∃ r, laws_szTaskS.l0 k l m (i : Int) = some r ∧ (r < 0 ∨ 0 ≤ r ∧ r ≤ m ∧ ∀ j, i ≤ j → j < l.length → ((l.getD j z126).f0.length : Int) ≤ m) := by
    intro d
    induction d with
    | zero =>
      intro i k m h1 h2 h3 h4
      obtain ⟨q, rfl⟩ : ∃ q, k = q + 1 := ⟨k - 1, by omega⟩
      simp only [laws_szTaskS.l0]
      rw [if_neg (by omega)]
      exact ⟨m, rfl, Or.inr ⟨h3, Int.le_refl _, fun j a b => by omega⟩⟩
    | succ d ih =>
      intro i k m h1 h2 h3 h4
      obtain ⟨q, rfl⟩ : ∃ q, k = q + 1 := ⟨k - 1, by omega⟩
      have hi : i < l.length := by omega
      have r1 : rd_T126 l (i : Int) = l.getD i z126 := rfl
      have hx : (l.getD i z126).f0.length ≤ 9223372036854775807 := by rw [getD_lt hi]; exact hb _ (List.getElem_mem hi)
      have w : wrap64 ((i : Int) + 1) = ((i + 1 : Nat) : Int) := wrap_in (x := (i : Int) + 1) (by omega) (by omega)
      simp only [laws_szTaskS.l0, r1, szTask_f _ m ⟨h3, by omega⟩ hx, Option.bind_some, w]
      rw [if_pos (by omega), if_pos (by omega)]
      by_cases h : m - ((l.getD i z126).f0.length : Int) < 0
      · rw [if_pos h, if_pos (by decide)]
        exact ⟨-1, rfl, Or.inl (by decide)⟩
      · rw [if_neg h, if_neg h]
        obtain ⟨r, e, hr⟩ := ih (i + 1) q (m - ((l.getD i z126).f0.length : Int)) (by omega) (by omega) (by omega) (by omega)
        refine ⟨r, e, ?_⟩
        rcases hr with hr | ⟨q1, q2, q3⟩
        · exact Or.inl hr
        · refine Or.inr ⟨q1, by omega, fun j ha hb => ?_⟩
          by_cases hj : j = i
          · subst hj
            omega
          · have := q3 j (by omega) hb
            omega
  simp only [laws_szProgram.f, laws_szTaskS.f]
  rw [wrap_in (x := a - (l.length : Int)) (by omega) (by omega)]
  by_cases h : a - (l.length : Int) < 0
  · rw [if_pos h, Option.bind_some, if_pos (by decide)]
    exact ⟨-1, rfl, Or.inl (by decide)⟩
  · rw [if_neg h]
    obtain ⟨r, e, hr⟩ := key l.length 0 k (a - (l.length : Int)) (by omega) hk (by omega) (by omega)
    rw [show ((0 : Nat) : Int) = 0 from rfl] at e
    rw [e, Option.bind_some]
    rcases hr with hr | ⟨q1, q2, q3⟩
    · rw [if_pos hr]
      exact ⟨-1, rfl, Or.inl (by decide)⟩
    · rw [if_neg (by omega)]
      refine ⟨r, rfl, Or.inr ⟨q1, by omega, by omega, fun x hx => ?_⟩⟩
      obtain ⟨j, hj, rfl⟩ := List.getElem_of_mem hx
      have := q3 j (Nat.zero_le _) hj
      rw [getD_lt hj] at this
      omega
theorem szNode_f (l0 : List S126) (l1 l2 : List Int) (a3 a4 a5 a6 a7 a8 a9 a10 : Int) (l11 : List Int) (a12 a : Int) (ha : 0 ≤ a ∧ a ≤ 1048576) (h0 : l0.length ≤ 9223372036854775807) (hb : ∀ x ∈ l0, x.f0.length ≤ 9223372036854775807)
    (h1 : l1.length ≤ 9223372036854775807) (h2 : l2.length ≤ 9223372036854775807) (h11 : l11.length ≤ 9223372036854775807) (k : Nat) (hk : l0.length < k) :
    ∃ r, laws_szNode.f k l0 l1 l2 a3 a4 a5 a6 a7 a8 a9 a10 l11 a12 a = some r ∧ (r < 0 ∨ 0 ≤ r ∧ r ≤ a ∧ l0.length ≤ 1048576 ∧ (∀ x ∈ l0, x.f0.length ≤ 1048576) ∧ l1.length ≤ 1048576 ∧ l2.length ≤ 1048576 ∧ l11.length ≤ 1048576) := by
  obtain ⟨r, e, hr⟩ := szProg_f l0 a ha h0 hb k hk
  simp only [laws_szNode.f, e, Option.bind_some]
  rcases hr with hr | ⟨q1, q2, q3, q4⟩
  · rw [if_pos hr]
    exact ⟨-1, rfl, Or.inl (by decide)⟩
  rw [if_neg (by omega), szInt_f l1 r ⟨q1, by omega⟩ h1, Option.bind_some]
  by_cases c1 : r - (l1.length : Int) < 0
  · rw [if_pos c1, if_pos (by decide)]
    exact ⟨-1, rfl, Or.inl (by decide)⟩
  rw [if_neg c1, if_neg c1, szInt_f l2 _ ⟨by omega, by omega⟩ h2, Option.bind_some]
  by_cases c2 : r - (l1.length : Int) - (l2.length : Int) < 0
  · rw [if_pos c2, if_pos (by decide)]
    exact ⟨-1, rfl, Or.inl (by decide)⟩
  rw [if_neg c2, if_neg c2]
  simp only [laws_szLink.f, laws_szGateway.f]
  rw [szInt_f l11 _ ⟨by omega, by omega⟩ h11, Option.bind_some]
  by_cases c3 : r - (l1.length : Int) - (l2.length : Int) - (l11.length : Int) < 0
  · rw [if_pos c3, if_pos (by decide), Option.bind_some, if_pos (by decide), Option.bind_some, if_pos (by decide)]
    exact ⟨-1, rfl, Or.inl (by decide)⟩
  rw [if_neg c3, if_neg c3, Option.bind_some, if_neg c3, Option.bind_some, if_neg c3]
  refine ⟨_, rfl, Or.inr ⟨by omega, by omega, by omega, fun x hx => ?_, by omega, by omega, by omega⟩⟩
  have := q4 x hx
  omega
theorem toNode_f (l0 : List S126) (l1 l2 : List Int) (a3 a4 a5 a6 a7 a8 a9 a10 : Int) (l11 : List Int) (a12 : Int) (h0 : l0.length ≤ 1048576) (M : Nat) (hM : ∀ x ∈ l0, x.f0.length ≤ 1048576 ∧ x.f0.length < M)
    (h1 : l1.length ≤ 1048576) (h2 : l2.length ≤ 1048576) (h11 : l11.length ≤ 1048576) (k : Nat) (k0 : l0.length < k) (k1 : l1.length < k) (k2 : l2.length < k) (k11 : l11.length < k) :
    laws_toNode.f (k + M) l0 l1 l2 a3 a4 a5 a6 a7 a8 a9 a10 l11 a12 = some (l0.map cvT, l1, l2, a3, a4, a5, a6, a7, a8, a9, a10, l11, a12) := by
  simp only [laws_toNode.f, laws_toProgram.f, laws_toStore.f, laws_toSpan.f, laws_toLink.f, laws_toGateway.f, toTaskS_f l0 h0 M hM k k0, toIntS_f l1 (by omega) (k + M) (by omega), toIntS_f l2 (by omega) (k + M) (by omega), toIntS_f l11 (by omega) (k + M) (by omega), Option.bind_some]
theorem eqNode_f (P : List S117) (l1 l2 : List Int) (a3 a4 a5 a6 a7 a8 a9 a10 : Int) (l11 : List Int) (a12 : Int) (h0 : P.length ≤ 1048576) (M : Nat) (hM : ∀ x ∈ P, x.f0.length ≤ 1048576 ∧ x.f0.length < M)
    (h1 : l1.length ≤ 1048576) (h2 : l2.length ≤ 1048576) (h11 : l11.length ≤ 1048576) (k : Nat) (k0 : P.length < k) (k1 : l1.length < k) (k2 : l2.length < k) (k11 : l11.length < k) :
    laws_eqNode.f (k + M) P l1 l2 a3 a4 a5 a6 a7 a8 a9 a10 l11 a12 P l1 l2 a3 a4 a5 a6 a7 a8 a9 a10 l11 a12 = some true := by
  simp only [laws_eqNode.f, laws_eqProgram.f, laws_eqStore.f, laws_eqSpan.f, laws_eqLink.f, laws_eqGateway.f, eqTaskS_f P h0 M hM k k0, eqIntS_f l1 (by omega) (k + M) (by omega), eqIntS_f l2 (by omega) (k + M) (by omega), eqIntS_f l11 (by omega) (k + M) (by omega), Option.bind_some, ↓reduceIte]
theorem map_ok (l : List S126) (M : Nat) (hM : ∀ x ∈ l, x.f0.length ≤ 1048576 ∧ x.f0.length < M) : ∀ x ∈ l.map cvT, x.f0.length ≤ 1048576 ∧ x.f0.length < M := by
  intro x hx
  obtain ⟨y, hy, rfl⟩ := List.mem_map.1 hx
  have := hM y hy
  simpa [cvT] using this
theorem mono_more {ρ : Type} {f : Nat → Option ρ} (h : ∀ k, LeO (f k) (f (k + 1))) {k : Nat} {r : ρ} (e : f k = some r) : ∀ d, f (k + d) = some r
  | 0 => e
  | d + 1 => h (k + d) r (mono_more h e d)
/-- A valid statement. -/
def okSt (x0 x1 x2 x3 x4 x5 : Int) : Bool :=
  if x0 = 1 then (x2 == 0) && (inB x1 0 7 && okX x3 x4 x5)
  else if x0 = 2 then ((x3 == 0) && ((x4 == 0) && (x5 == 0))) && (inB x1 0 7 && inB x2 0 3)
  else if x0 = 3 ∨ x0 = 4 then (x1 == 0) && ((x2 == 0) && okX x3 x4 x5)
  else if x0 = 5 then (x1 == 0) && (((x3 == 0) && ((x4 == 0) && (x5 == 0))) && inB x2 1 5)
  else if x0 = 6 then (x1 == 0) && ((x2 == 0) && ((x3 == 0) && ((x4 == 0) && (x5 == 0))))
  else false
theorem specStmt_f (x0 x1 x2 x3 x4 x5 : Int) (k : Nat) : spec_StmtOk.f (k + 1) x0 x1 x2 x3 x4 x5 = some (okSt x0 x1 x2 x3 x4 x5) := by
  unfold okSt
  by_cases h1 : x0 = 1
  · subst h1
    simp only [spec_StmtOk.f, spec_l04Plain.f, in_f, specExprOk_f, Option.bind_some, ↓reduceIte]
    cases h2 : (x2 == 0) <;> cases inB x1 0 7 <;> simp
  by_cases h2 : x0 = 2
  · subst h2
    simp only [spec_StmtOk.f, spec_l04Plain.f, in_f, specExprOk_f, Option.bind_some, ↓reduceIte]
    by_cases g3 : x3 = 0 <;> by_cases g4 : x4 = 0 <;> by_cases g5 : x5 = 0 <;> cases inB x1 0 7 <;> simp [g3, g4, g5]
  by_cases h3 : x0 = 3
  · subst h3
    simp only [spec_StmtOk.f, spec_StmtOk.j0, spec_l04Plain.f, spec_l04Plain.j0, in_f, specExprOk_f, Option.bind_some, ↓reduceIte]
    by_cases g1 : x1 = 0 <;> by_cases g2 : x2 = 0 <;> simp [g1, g2]
  by_cases h4 : x0 = 4
  · subst h4
    simp only [spec_StmtOk.f, spec_StmtOk.j0, spec_l04Plain.f, spec_l04Plain.j0, in_f, specExprOk_f, Option.bind_some, ↓reduceIte]
    by_cases g1 : x1 = 0 <;> by_cases g2 : x2 = 0 <;> simp [g1, g2]
  by_cases h5 : x0 = 5
  · subst h5
    simp only [spec_StmtOk.f, spec_StmtOk.j0, spec_l04Plain.f, spec_l04Plain.j0, in_f, specExprOk_f, Option.bind_some, ↓reduceIte]
    by_cases g1 : x1 = 0 <;> by_cases g3 : x3 = 0 <;> by_cases g4 : x4 = 0 <;> by_cases g5 : x5 = 0 <;> simp [g1, g3, g4, g5]
  · have e4 : (x0 == 4) = false := by simpa using h4
    simp only [spec_StmtOk.f, spec_StmtOk.j0, spec_l04Plain.f, spec_l04Plain.j0, in_f, specExprOk_f, Option.bind_some, h1, h2, h3, h4, h5, e4, ↓reduceIte, or_self, Bool.false_eq_true]
    by_cases h6 : x0 = 6
    · subst h6
      by_cases g1 : x1 = 0 <;> by_cases g2 : x2 = 0 <;> by_cases g3 : x3 = 0 <;> by_cases g4 : x4 = 0 <;> by_cases g5 : x5 = 0 <;> simp [g1, g2, g3, g4, g5]
    · by_cases g1 : x1 = 0 <;> by_cases g2 : x2 = 0 <;> by_cases g3 : x3 = 0 <;> by_cases g4 : x4 = 0 <;> by_cases g5 : x5 = 0 <;> simp [h6, g1, g2, g3, g4, g5]
theorem implStmt_f (x0 x1 x2 x3 x4 x5 : Int) (k : Nat) : impl_StmtOk.f (k + 1 + 1) x0 x1 x2 x3 x4 x5 = some (okSt x0 x1 x2 x3 x4 x5) := by
  unfold okSt
  have hn : (x1 != 0) = !(x1 == 0) := rfl
  by_cases h1 : x0 = 1
  · subst h1
    simp only [impl_StmtOk.f, impl_StmtOk.j0, impl_StmtOk.j1, impl_hasVar.f, impl_hasExpr.f, impl_isVar.f, impl_isSensor.f, within_f, implExprOk_f, Option.bind_some, ↓reduceIte]
    rw [show inB 1 1 6 = true from rfl]
    cases h2 : (x2 == 0) <;> cases inB x1 0 7 <;> cases okX x3 x4 x5 <;> simp
  by_cases h2 : x0 = 2
  · subst h2
    simp only [impl_StmtOk.f, impl_StmtOk.j0, impl_StmtOk.j1, impl_hasVar.f, impl_hasExpr.f, impl_isVar.f, impl_isSensor.f, within_f, implExprOk_f, Option.bind_some, ↓reduceIte]
    rw [show inB 2 1 6 = true from rfl]
    cases (x3 == 0) <;> cases (x4 == 0) <;> cases (x5 == 0) <;> cases inB x1 0 7 <;> simp
  by_cases h3 : x0 = 3
  · subst h3
    simp only [impl_StmtOk.f, impl_StmtOk.j0, impl_StmtOk.j1, impl_hasVar.f, impl_hasExpr.f, impl_isVar.f, impl_isSensor.f, within_f, implExprOk_f, Option.bind_some, ↓reduceIte, hn]
    rw [show inB 3 1 6 = true from rfl]
    cases (x1 == 0) <;> cases (x2 == 0) <;> cases okX x3 x4 x5 <;> simp
  by_cases h4 : x0 = 4
  · subst h4
    simp only [impl_StmtOk.f, impl_StmtOk.j0, impl_StmtOk.j1, impl_hasVar.f, impl_hasExpr.f, impl_isVar.f, impl_isSensor.f, within_f, implExprOk_f, Option.bind_some, ↓reduceIte, hn]
    rw [show inB 4 1 6 = true from rfl]
    cases (x1 == 0) <;> cases (x2 == 0) <;> cases okX x3 x4 x5 <;> simp
  by_cases h5 : x0 = 5
  · subst h5
    simp only [impl_StmtOk.f, impl_StmtOk.j0, impl_StmtOk.j1, impl_hasVar.f, impl_hasExpr.f, impl_isVar.f, impl_isSensor.f, within_f, implExprOk_f, Option.bind_some, ↓reduceIte, hn]
    rw [show inB 5 1 6 = true from rfl]
    cases (x1 == 0) <;> cases (x3 == 0) <;> cases (x4 == 0) <;> cases (x5 == 0) <;> simp
  · have e2 : (x0 == 2) = false := by simpa using h2
    have e4 : (x0 == 4) = false := by simpa using h4
    simp only [impl_StmtOk.f, impl_StmtOk.j0, impl_StmtOk.j1, impl_hasVar.f, impl_hasExpr.f, impl_isVar.f, impl_isSensor.f, within_f, implExprOk_f, Option.bind_some, ↓reduceIte, hn, h1, h2, h3, h4, h5, e2, e4, or_self, Bool.false_eq_true]
    by_cases h6 : x0 = 6
    · subst h6
      rw [show inB 6 1 6 = true from rfl]
      cases (x1 == 0) <;> cases (x2 == 0) <;> cases (x3 == 0) <;> cases (x4 == 0) <;> cases (x5 == 0) <;> simp
    · have hb : inB x0 1 6 = false := by
        unfold inB
        by_cases q : x0 ≥ 1
        · rw [decide_eq_true q, decide_eq_false (by omega)]
          rfl
        · rw [decide_eq_false q, Bool.false_and]
      rw [hb, if_neg h6]
      simp
/-- The depth behind a statement. -/
def dep (x0 d : Int) : Int := if x0 = 4 ∨ x0 = 5 then d + 1 else if x0 = 6 then d - 1 else d
/-- Is a block valid from statement i on, at depth d? -/
def okB (l : List S139) : Nat → Nat → Int → Bool
  | 0, _, d => decide (d = 0) && decide ((l.length : Int) ≤ 24)
  | n + 1, i, d => okSt (l.getD i z139).f0 (l.getD i z139).f1 (l.getD i z139).f2 (l.getD i z139).f3.f0 (l.getD i z139).f3.f1 (l.getD i z139).f3.f2 && (inB (dep (l.getD i z139).f0 d) 0 3 && okB l n (i + 1) (dep (l.getD i z139).f0 d))
theorem specBlock_l (l : List S139) (hl : l.length ≤ 1048576) : ∀ (n i : Nat) (d : Int) (k : Nat), i + n = l.length → 2 * n + 2 < k → 0 ≤ d → d ≤ 3 → spec_BlockOk.l0 k l d (i : Int) = some (okB l n i d) := by
  intro n
  induction n with
  | zero =>
    intro i d k h1 h2 h3 h4
    obtain ⟨q, rfl⟩ : ∃ q, k = q + 1 := ⟨k - 1, by omega⟩
    simp only [spec_BlockOk.l0, okB]
    rw [if_neg (by omega)]
    by_cases h : d = 0
    · rw [if_pos h, decide_eq_true h, Bool.true_and]
    · rw [if_neg h, decide_eq_false h, Bool.false_and]
  | succ n ih =>
    intro i d k h1 h2 h3 h4
    obtain ⟨q, rfl⟩ : ∃ q, k = q + 1 + 1 := ⟨k - 2, by omega⟩
    have r1 : rd_T139 l (i : Int) = l.getD i z139 := rfl
    have ihx := fun d a b => ih (i + 1) d q (by omega) (by omega) a b
    simp only [spec_BlockOk.l0, r1, specStmt_f, Option.bind_some, okB]
    generalize l.getD i z139 = a at *
    have w1 : wrap64 (d + 1) = d + 1 := wrap_in (by omega) (by omega)
    have w2 : wrap64 (d - 1) = d - 1 := wrap_in (by omega) (by omega)
    have w3 : wrap64 ((i : Int) + 1) = ((i + 1 : Nat) : Int) := wrap_next (n := l.length) (by omega) (by omega)
    rw [if_pos (by omega), if_pos (by omega)]
    cases okSt a.f0 a.f1 a.f2 a.f3.f0 a.f3.f1 a.f3.f2 with
    | false => rfl
    | true =>
      rw [if_pos rfl, Bool.true_and]
      have step : ∀ d', (inB d' 0 3 = true → spec_BlockOk.l0 q l d' ((i + 1 : Nat) : Int) = some (okB l n (i + 1) d')) := fun d' hd => by
        simp only [inB, Bool.and_eq_true, decide_eq_true_eq] at hd
        exact ihx d' (by omega) (by omega)
      have fin : ∀ d', ((some (inB d' 0 3)).bind fun t => if t = true then spec_BlockOk.l0 q l d' ((i + 1 : Nat) : Int) else some false) = some (inB d' 0 3 && okB l n (i + 1) d') := fun d' => by
        rw [Option.bind_some]
        cases hd : inB d' 0 3 with
        | false => rfl
        | true =>
          rw [if_pos rfl, step d' hd, Bool.true_and]
      unfold dep
      by_cases c4 : a.f0 = 4
      · rw [if_pos c4, if_pos (Or.inl c4)]
        simp only [spec_BlockOk.j1, in_f, w1, w3]
        rw [if_pos (by simp [c4])]
        exact fin (d + 1)
      · rw [if_neg c4]
        by_cases c5 : a.f0 = 5
        · rw [if_pos (Or.inr c5)]
          simp only [spec_BlockOk.j1, in_f, w1, w3]
          rw [if_pos (by simp [c5])]
          exact fin (d + 1)
        · rw [if_neg (by omega)]
          simp only [spec_BlockOk.j1, in_f, w2, w3]
          rw [if_neg (by simp [c5])]
          by_cases c6 : a.f0 = 6
          · rw [if_pos c6, if_pos c6]
            exact fin (d - 1)
          · rw [if_neg c6, if_neg c6]
            exact fin d
theorem implBlock_l (l : List S139) (hl : l.length ≤ 1048576) : ∀ (n i : Nat) (d : Int) (k : Nat), i + n = l.length → 2 * n + 3 < k → 0 ≤ d → d ≤ 3 → impl_BlockOk.l0 k l d l (l.length : Int) (i : Int) = some (okB l n i d) := by
  intro n
  induction n with
  | zero =>
    intro i d k h1 h2 h3 h4
    obtain ⟨q, rfl⟩ : ∃ q, k = q + 1 := ⟨k - 1, by omega⟩
    simp only [impl_BlockOk.l0, okB]
    rw [if_neg (by omega)]
    by_cases h : d = 0
    · rw [if_pos h, decide_eq_true h, Bool.true_and]
    · rw [if_neg h, decide_eq_false h, Bool.false_and]
  | succ n ih =>
    intro i d k h1 h2 h3 h4
    obtain ⟨q, rfl⟩ : ∃ q, k = q + 1 + 1 + 1 := ⟨k - 3, by omega⟩
    have r1 : rd_T139 l (i : Int) = l.getD i z139 := rfl
    have ihx := fun d a b => ih (i + 1) d (q + 1) (by omega) (by omega) a b
    simp only [impl_BlockOk.l0, r1, implStmt_f, Option.bind_some, okB]
    generalize l.getD i z139 = a at *
    have w1 : wrap64 (d + 1) = d + 1 := wrap_in (by omega) (by omega)
    have w2 : wrap64 (d - 1) = d - 1 := wrap_in (by omega) (by omega)
    have w3 : wrap64 ((i : Int) + 1) = ((i + 1 : Nat) : Int) := wrap_next (n := l.length) (by omega) (by omega)
    rw [if_pos (by omega), if_pos (by omega), if_pos (by omega)]
    cases okSt a.f0 a.f1 a.f2 a.f3.f0 a.f3.f1 a.f3.f2 with
    | false => rfl
    | true =>
      rw [if_pos rfl, Bool.true_and]
      have fin : ∀ d' : Int, (if d' < 0 then some false else if d' > 3 then some false else impl_BlockOk.l0 (q + 1) l d' l (l.length : Int) ((i + 1 : Nat) : Int)) = some (inB d' 0 3 && okB l n (i + 1) d') := fun d' => by
        by_cases g0 : d' < 0
        · rw [if_pos g0, show inB d' 0 3 = false from by unfold inB; rw [decide_eq_false (by omega), Bool.false_and]]
          rfl
        · rw [if_neg g0]
          by_cases g3 : d' > 3
          · rw [if_pos g3, show inB d' 0 3 = false from by unfold inB; rw [decide_eq_false (show ¬ d' ≤ 3 by omega), Bool.and_false]]
            rfl
          · rw [if_neg g3, ihx d' (by omega) (by omega), show inB d' 0 3 = true from by unfold inB; rw [decide_eq_true (by omega), decide_eq_true (by omega)]; rfl, Bool.true_and]
      unfold dep
      simp only [impl_isOpening.f]
      by_cases c4 : a.f0 = 4
      · rw [if_pos c4, Option.bind_some, if_pos rfl, if_pos (Or.inl c4)]
        simp only [impl_BlockOk.j1, w1, w3]
        rw [if_neg (by omega)]
        exact fin (d + 1)
      · rw [if_neg c4, Option.bind_some]
        by_cases c5 : a.f0 = 5
        · rw [if_pos (by simp [c5]), if_pos (Or.inr c5)]
          simp only [impl_BlockOk.j1, w1, w3]
          rw [if_neg (by omega)]
          exact fin (d + 1)
        · rw [if_neg (by simp [c5]), if_neg (by omega)]
          simp only [impl_BlockOk.j1, w2, w3]
          by_cases c6 : a.f0 = 6
          · rw [if_pos c6, if_pos c6]
            exact fin (d - 1)
          · rw [if_neg c6, if_neg c6]
            exact fin d
def okT (a : S117) : Bool := okB a.f0 a.f0.length 0 0 && okX a.f1.f0 a.f1.f1 a.f1.f2
def okP (P : List S117) : Bool := endsAt (fun i => okT (P.getD i z117)) (fun _ => false) (inB (P.length : Int) 1 6) P.length 0
theorem specBlock_f (l : List S139) (hl : l.length ≤ 1048576) (k : Nat) (hk : 2 * l.length + 3 < k) : spec_BlockOk.f k l = some (okB l l.length 0 0) := specBlock_l l hl l.length 0 0 k (by omega) (by omega) (by omega) (by omega)
theorem implBlock_f (l : List S139) (hl : l.length ≤ 1048576) (k : Nat) (hk : 2 * l.length + 3 < k) : impl_BlockOk.f k l = some (okB l l.length 0 0) := implBlock_l l hl l.length 0 0 k (by omega) (by omega) (by omega) (by omega)
theorem specProg_f (P : List S117) (hP : P.length ≤ 1048576) (M : Nat) (hM : ∀ x ∈ P, x.f0.length ≤ 1048576 ∧ 2 * x.f0.length + 5 < M) (k : Nat) (hk : P.length < k) : spec_ProgramOk.f (k + M) P = some (okP P) := by
  unfold spec_ProgramOk.f okP
  refine loop_ends P.length (fun k (s : Int) => spec_ProgramOk.l0 (k + M) s P) (fun i => (i : Int)) (fun i => okT (P.getD i z117)) (fun _ => false) (inB (P.length : Int) 1 6) (fun k i hi hc => ?_) (fun k i hi hc => ?_) (fun k => ?_) k hk
  · have hx := hM P[i] (List.getElem_mem hi)
    rw [← getD_lt (d := z117) hi] at hx
    have r1 : rd_T117 P (i : Int) = P.getD i z117 := rfl
    try dsimp only
    rw [show k + 1 + M = k + M + 1 from by omega]
    generalize hq : k + M = q
    simp only [spec_ProgramOk.l0, r1, specBlock_f _ hx.1 q (by omega), specExprOk_f, Option.bind_some]
    unfold okT at hc
    rw [Bool.and_eq_true] at hc
    rw [if_pos (by omega), if_pos (by omega), hc.1, hc.2, if_pos rfl, if_pos rfl, wrap_next hi (by omega)]
  · have hx := hM P[i] (List.getElem_mem hi)
    rw [← getD_lt (d := z117) hi] at hx
    have r1 : rd_T117 P (i : Int) = P.getD i z117 := rfl
    try dsimp only
    rw [show k + 1 + M = k + M + 1 from by omega]
    generalize hq : k + M = q
    simp only [spec_ProgramOk.l0, r1, specBlock_f _ hx.1 q (by omega), specExprOk_f, Option.bind_some]
    unfold okT at hc
    rw [if_pos (by omega), if_pos (by omega)]
    cases h1 : okB (P.getD i z117).f0 (P.getD i z117).f0.length 0 0 with
    | false => rfl
    | true =>
      rw [h1, Bool.true_and] at hc
      rw [if_pos rfl, hc]
      rfl
  · try dsimp only
    rw [show k + 1 + M = k + M + 1 from by omega]
    generalize k + M = q
    simp only [spec_ProgramOk.l0, in_f, Option.bind_some]
    rw [if_neg (by omega)]
theorem implProg_f (P : List S117) (hP : P.length ≤ 1048576) (M : Nat) (hM : ∀ x ∈ P, x.f0.length ≤ 1048576 ∧ 2 * x.f0.length + 5 < M) (k : Nat) (hk : P.length < k) : impl_ProgramOk.f (k + M) P = some (okP P) := by
  have h : impl_Task_102_at_impl_ProgramOk_1.f (k + M) P = some (endsAt (fun i => okT (P.getD i z117)) (fun i => (i : Int)) (-1) P.length 0) := by
    unfold impl_Task_102_at_impl_ProgramOk_1.f
    refine loop_ends P.length (fun k (s : Int) => impl_Task_102_at_impl_ProgramOk_1.l0 (k + M) P (P.length : Int) s) (fun i => (i : Int)) (fun i => okT (P.getD i z117)) (fun i => (i : Int)) (-1) (fun k i hi hc => ?_) (fun k i hi hc => ?_) (fun k => ?_) k hk
    · have hx := hM P[i] (List.getElem_mem hi)
      rw [← getD_lt (d := z117) hi] at hx
      have r1 : rd_T117 P (i : Int) = P.getD i z117 := rfl
      try dsimp only
      rw [show k + 1 + M = k + M + 1 from by omega]
      generalize hq : k + M = q
      unfold okT at hc
      rw [Bool.and_eq_true] at hc
      simp only [impl_Task_102_at_impl_ProgramOk_1.l0, r1, impl_ProgramOk_1.f, impl_taskOk.f, implBlock_f _ hx.1 q (by omega), implExprOk_f, Option.bind_some, hc.1, hc.2, ↓reduceIte, Bool.not_true, Bool.false_eq_true]
      rw [if_pos (by omega), if_pos (by omega), if_pos (by omega), wrap_next hi (by omega)]
    · have hx := hM P[i] (List.getElem_mem hi)
      rw [← getD_lt (d := z117) hi] at hx
      have r1 : rd_T117 P (i : Int) = P.getD i z117 := rfl
      try dsimp only
      rw [show k + 1 + M = k + M + 1 from by omega]
      generalize hq : k + M = q
      unfold okT at hc
      simp only [impl_Task_102_at_impl_ProgramOk_1.l0, r1, impl_ProgramOk_1.f, impl_taskOk.f, implBlock_f _ hx.1 q (by omega), implExprOk_f, Option.bind_some]
      rw [if_pos (by omega), if_pos (by omega), if_pos (by omega)]
      cases h1 : okB (P.getD i z117).f0 (P.getD i z117).f0.length 0 0 with
      | false => rfl
      | true =>
        rw [h1, Bool.true_and] at hc
        rw [if_pos rfl, hc]
        rfl
    · try dsimp only
      rw [show k + 1 + M = k + M + 1 from by omega]
      generalize k + M = q
      simp only [impl_Task_102_at_impl_ProgramOk_1.l0]
      rw [if_neg (by omega)]
  simp only [impl_ProgramOk.f, impl_Task_88_at_impl_ProgramOk_1.f, h, within_f, Option.bind_some, endsAt_place, Bool.not_not, okP]
  rw [endsAt_last (inB (P.length : Int) 1 6)]
  cases inB (P.length : Int) 1 6 <;> simp
/-- Are the first n entries of the stage valid? -/
def okG (m : List Int) (n : Nat) : Bool := endsAt (fun i => inB (m.getD (9 + 2 * i) 0) 0 7 && inB (m.getD (9 + 2 * i + 1) 0) (-1000000) 1000000) (fun _ => false) true n 0
theorem at_2 (i : Nat) (hi : i < 8) : wrap64 (9 + wrap64 (2 * (i : Int))) = ((9 + 2 * i : Nat) : Int) ∧ wrap64 (((9 + 2 * i : Nat) : Int) + 1) = ((9 + 2 * i + 1 : Nat) : Int) ∧ wrap64 ((i : Int) + 1) = ((i + 1 : Nat) : Int) := by
  have a : wrap64 (2 * (i : Int)) = 2 * (i : Int) := wrap_in (by omega) (by omega)
  have b : wrap64 (9 + 2 * (i : Int)) = 9 + 2 * (i : Int) := wrap_in (by omega) (by omega)
  have c : wrap64 (((9 + 2 * i : Nat) : Int) + 1) = ((9 + 2 * i : Nat) : Int) + 1 := wrap_in (by omega) (by omega)
  rw [a, b, c]
  exact ⟨by omega, by omega, wrap_next (n := 8) hi (by omega)⟩
theorem specG_f (m : List Int) (hm : m.length = 49) (n : Nat) (hn : n ≤ 8) (k : Nat) (hk : n < k) : spec_MemOk.l0 k m (n : Int) 0 = some (okG m n) := by
  unfold okG
  refine loop_ends n (fun k (s : Int) => spec_MemOk.l0 k m (n : Int) s) (fun i => (i : Int)) _ (fun _ => false) true (fun k i hi hc => ?_) (fun k i hi hc => ?_) (fun k => ?_) k hk
  · obtain ⟨w1, w2, w3⟩ := at_2 i (by omega)
    rw [Bool.and_eq_true] at hc
    have q1 : (i : Int) < (n : Int) := by omega
    simp only [spec_MemOk.l0, w1, w2, w3, rd_nat, in_f, specIsValue_f, hc.1, hc.2, Option.bind_some, ↓reduceIte]
    clear w1 w2 w3
    rw [if_pos q1, if_pos (by omega), if_pos (by omega), if_pos (by omega), if_pos (by omega)]
  · obtain ⟨w1, w2, w3⟩ := at_2 i (by omega)
    have q1 : (i : Int) < (n : Int) := by omega
    simp only [spec_MemOk.l0, w1, w2, w3, rd_nat, in_f, specIsValue_f, Option.bind_some]
    clear w1 w2 w3
    rw [if_pos q1, if_pos (by omega), if_pos (by omega)]
    cases h1 : inB (m.getD (9 + 2 * i) 0) 0 7 with
    | false => rfl
    | true =>
      rw [h1, Bool.true_and] at hc
      rw [if_pos rfl, if_pos (by omega), if_pos (by omega), hc]
      rfl
  · simp only [spec_MemOk.l0]
    rw [if_neg (by omega)]
theorem implG_f (m : List Int) (hm : m.length = 49) (n : Nat) (hn : n ≤ 8) (k : Nat) (hk : n < k) : impl_MemOk.l0 k m (n : Int) 0 = some (okG m n) := by
  unfold okG
  refine loop_ends n (fun k (s : Int) => impl_MemOk.l0 k m (n : Int) s) (fun i => (i : Int)) _ (fun _ => false) true (fun k i hi hc => ?_) (fun k i hi hc => ?_) (fun k => ?_) k hk
  · obtain ⟨w1, w2, w3⟩ := at_2 i (by omega)
    rw [Bool.and_eq_true] at hc
    have q1 : (i : Int) < (n : Int) := by omega
    simp only [impl_MemOk.l0, w1, w2, w3, rd_nat, impl_isVar.f, within_f, implIsValue_f, hc.1, hc.2, Option.bind_some, ↓reduceIte]
    clear w1 w2 w3
    rw [if_pos q1, if_pos (by omega), if_pos (by omega), if_pos (by omega), if_pos (by omega)]
  · obtain ⟨w1, w2, w3⟩ := at_2 i (by omega)
    have q1 : (i : Int) < (n : Int) := by omega
    simp only [impl_MemOk.l0, w1, w2, w3, rd_nat, impl_isVar.f, within_f, implIsValue_f, Option.bind_some]
    clear w1 w2 w3
    rw [if_pos q1, if_pos (by omega), if_pos (by omega)]
    cases h1 : inB (m.getD (9 + 2 * i) 0) 0 7 with
    | false => rfl
    | true =>
      rw [h1, Bool.true_and] at hc
      rw [if_pos rfl, if_pos (by omega), if_pos (by omega), hc]
      rfl
  · simp only [impl_MemOk.l0]
    rw [if_neg (by omega)]
theorem unp_in (x : Int) : (unp x).1 < 0 ∨ 0 ≤ (unp x).1 ∧ 0 ≤ (unp x).2.1 ∧ (unp x).2.1 ≤ 8 ∧ 0 ≤ (unp x).2.2 ∧ (unp x).2.2 ≤ 24 := by
  unfold unp
  split
  · refine Or.inr ?_
    dsimp only
    omega
  · exact Or.inl (by decide)
/-- A valid memory of a program. -/
def okM (P : List S117) (m : List Int) : Bool :=
  okP P && (decide (m.length = 49) && (allV (m.take 8) && (decide (0 ≤ (unp (m.getD 8 0)).1) && (decide ((unp (m.getD 8 0)).1 < (P.length : Int)) && (allV ((m.take (25 + (unp (m.getD 8 0)).2.2.toNat)).drop 25) && okG m (unp (m.getD 8 0)).2.1.toNat)))))
theorem specMem_f (P : List S117) (m : List Int) (k : Nat) (hk : 60 < k) (hP : spec_ProgramOk.f k P = some (okP P)) (hx : m.getD 8 0 ≤ 9223372036854775807) : spec_MemOk.f k P m = some (okM P m) := by
  obtain ⟨q, rfl⟩ : ∃ q, k = q + 1 + 1 := ⟨k - 2, by omega⟩
  simp only [spec_MemOk.f, hP, Option.bind_some, okM]
  cases okP P with
  | false => simp only [spec_MemOk.j0, Bool.false_eq_true, ↓reduceIte, Bool.false_and]
  | true =>
    rw [if_pos rfl, Bool.true_and]
    by_cases h49 : m.length = 49
    · have hne : ((m.length : Int) != 49) = false := by rw [h49]; rfl
      have r8 : rd m 8 = m.getD 8 0 := rfl
      rw [hne, decide_eq_true h49, Bool.true_and]
      simp only [spec_MemOk.j0, r8, specUnp_f _ hx (q + 1) (by omega), specValues_f (m.take 8) (by rw [List.length_take]; omega) (q + 1) (by rw [List.length_take]; omega), Option.bind_some, Bool.false_eq_true, ↓reduceIte]
      have c8 : (8 : Int) < (m.length : Int) := by omega
      rw [if_pos c8]
      have hu := unp_in (m.getD 8 0)
      generalize unp (m.getD 8 0) = u at hu
      obtain ⟨a, b, c⟩ := u
      dsimp only at hu ⊢
      by_cases ha : a < 0
      · rw [if_pos ha, decide_eq_false (by omega), Bool.false_and, Bool.and_false]
        simp only [spec_MemOk.j1, ↓reduceIte]
      · rw [if_neg ha, decide_eq_true (show 0 ≤ a by omega), Bool.true_and]
        rcases hu with hu | ⟨_, u1, u2, u3, u4⟩
        · exact absurd hu ha
        by_cases hl : a ≥ (P.length : Int)
        · rw [if_pos hl, decide_eq_false (by omega), Bool.false_and, Bool.and_false]
          simp only [spec_MemOk.j1, ↓reduceIte]
        · rw [if_neg hl, decide_eq_true (show a < (P.length : Int) by omega), Bool.true_and, if_pos (show (8 : Int) ≤ (m.length : Int) by omega)]
          have w : wrap64 (25 + c) = 25 + c := wrap_in (by omega) (by omega)
          have hc : (25 + c).toNat = 25 + c.toNat := by omega
          have hs : ((m.take (25 + c.toNat)).drop 25).length ≤ 24 := by rw [List.length_drop, List.length_take]; omega
          obtain ⟨n, rfl⟩ : ∃ n : Nat, b = (n : Int) := ⟨b.toNat, by omega⟩
          rw [Int.toNat_natCast]
          have c1 : 25 ≤ 25 + c := by omega
          have c2 : 25 + c ≤ (m.length : Int) := by omega
          have hv := specValues_f ((m.take (25 + c.toNat)).drop 25) (by omega) (q + 1) (by omega)
          rw [w, hc, hv, if_pos c1, if_pos c2, Option.bind_some]
          cases allV (m.take 8) with
          | false => simp only [spec_MemOk.j1, Bool.false_eq_true, ↓reduceIte, Bool.false_and]
          | true =>
            rw [if_pos rfl, Bool.true_and]
            cases allV ((m.take (25 + c.toNat)).drop 25) with
            | false => simp only [spec_MemOk.j1, Bool.not_false, ↓reduceIte, Bool.false_and]
            | true =>
              simp only [spec_MemOk.j1, Bool.not_true, Bool.false_eq_true, ↓reduceIte, Bool.true_and]
              exact specG_f m h49 n (by omega) q (by omega)
    · have hne : ((m.length : Int) != 49) = true := by rw [bne_iff_ne]; omega
      rw [hne, decide_eq_false h49, Bool.false_and]
      simp only [spec_MemOk.j0, ↓reduceIte]
theorem implMem_f (P : List S117) (m : List Int) (k : Nat) (hk : 60 < k) (hP : impl_ProgramOk.f k P = some (okP P)) (hx : m.getD 8 0 ≤ 9223372036854775807) : impl_MemOk.f k P m = some (okM P m) := by
  obtain ⟨q, rfl⟩ : ∃ q, k = q + 1 + 1 := ⟨k - 2, by omega⟩
  simp only [impl_MemOk.f, hP, Option.bind_some, okM]
  cases okP P with
  | false => simp only [impl_MemOk.j0, Bool.false_eq_true, ↓reduceIte, Bool.false_and]
  | true =>
    rw [if_pos rfl, Bool.true_and]
    by_cases h49 : m.length = 49
    · have r8 : rd m 8 = m.getD 8 0 := rfl
      rw [if_pos (by omega), if_pos (by omega), implValues_f (m.take 8) (by rw [List.length_take]; omega) (q + 1 + 1) (by rw [List.length_take]; omega), Option.bind_some, decide_eq_true h49, Bool.true_and]
      cases allV (m.take 8) with
      | false => simp only [impl_MemOk.j0, Bool.not_false, ↓reduceIte, Bool.false_and]
      | true =>
        simp only [impl_MemOk.j0, r8, implUnp_f _ hx, Option.bind_some, Bool.not_true, Bool.false_eq_true, ↓reduceIte, Bool.true_and]
        rw [if_pos (by omega)]
        have hu := unp_in (m.getD 8 0)
        generalize unp (m.getD 8 0) = u at hu
        obtain ⟨a, b, c⟩ := u
        dsimp only at hu ⊢
        by_cases ha : a < 0
        · rw [if_pos ha, decide_eq_false (by omega), Bool.false_and]
          simp only [impl_MemOk.j1, ↓reduceIte]
        · rw [if_neg ha, decide_eq_true (show 0 ≤ a by omega), Bool.true_and]
          rcases hu with hu | ⟨_, u1, u2, u3, u4⟩
          · exact absurd hu ha
          by_cases hl : a ≥ (P.length : Int)
          · rw [if_pos hl, decide_eq_false (by omega), Bool.false_and]
            simp only [impl_MemOk.j1, ↓reduceIte]
          · rw [if_neg hl, decide_eq_true (by omega), Bool.true_and]
            have w : wrap64 (25 + c) = 25 + c := wrap_in (by omega) (by omega)
            have hc : (25 + c).toNat = 25 + c.toNat := by omega
            have hs : ((m.take (25 + c.toNat)).drop 25).length ≤ 24 := by rw [List.length_drop, List.length_take]; omega
            obtain ⟨n, rfl⟩ : ∃ n : Nat, b = (n : Int) := ⟨b.toNat, by omega⟩
            rw [Int.toNat_natCast]
            have c1 : 25 ≤ 25 + c := by omega
            have c2 : 25 + c ≤ (m.length : Int) := by omega
            have hv := implValues_f ((m.take (25 + c.toNat)).drop 25) (by omega) (q + 1) (by omega)
            rw [w, hc, hv, if_pos c1, if_pos c2, Option.bind_some]
            cases allV ((m.take (25 + c.toNat)).drop 25) with
            | false => simp only [impl_MemOk.j1, Bool.not_false, ↓reduceIte, Bool.false_and]
            | true =>
              simp only [impl_MemOk.j1, Bool.not_true, Bool.false_eq_true, ↓reduceIte, Bool.true_and]
              exact implG_f m h49 n (by omega) q (by omega)
    · rw [if_neg (by omega), decide_eq_false h49, Bool.false_and]
      simp only [impl_MemOk.j0, ↓reduceIte]
theorem StoreBoth (a b c d : Int) : spec_StoreOk.f a b c d = some (inB b 1 5000 && (inB a 0 b && (inB c 1 b && inB d 0 100))) ∧ impl_StoreOk.f a b c d = some (inB b 1 5000 && (inB a 0 b && (inB c 1 b && inB d 0 100))) := by
  simp only [spec_StoreOk.f, impl_StoreOk.f, in_f, within_f, Option.bind_some]
  cases inB b 1 5000 <;> cases inB a 0 b <;> cases inB c 1 b <;> simp
theorem SpanBoth (a b : Int) : spec_SpanOk.f a b = impl_SpanOk.f a b ∧ ∃ r, impl_SpanOk.f a b = some r := by
  refine ⟨rfl, ?_⟩
  unfold impl_SpanOk.f
  split
  · split
    · exact ⟨_, rfl⟩
    · exact ⟨_, rfl⟩
  · exact ⟨_, rfl⟩
theorem nodeBoth (P : List S117) (l1 l2 : List Int) (a3 a4 a5 a6 a7 a8 a9 a10 : Int) (l11 : List Int) (a12 : Int) (hP : P.length ≤ 1048576) (M : Nat) (hM : ∀ x ∈ P, x.f0.length ≤ 1048576 ∧ 2 * x.f0.length + 5 < M) (hx : l1.getD 8 0 ≤ 9223372036854775807)
    (h1 : l1.length ≤ 1048576) (h2 : l2.length ≤ 1048576) (h11 : l11.length ≤ 1048576) (k : Nat) (k0 : P.length < k) (k1 : l1.length < k) (k2 : l2.length < k) (k11 : l11.length < k) (k60 : 60 < k) :
    ∃ r, spec_NodeOk.f (k + M) P l1 l2 a3 a4 a5 a6 a7 a8 a9 a10 l11 a12 = some r ∧ impl_NodeOk.f (k + M) P l1 l2 a3 a4 a5 a6 a7 a8 a9 a10 l11 a12 = some r := by
  have e1 := specMem_f P l1 (k + M) (by omega) (specProg_f P hP M hM k k0) hx
  have e2 := implMem_f P l1 (k + M) (by omega) (implProg_f P hP M hM k k0) hx
  obtain ⟨e3, e4⟩ := StoreBoth a4 a5 a6 a7
  have e5 := specValues_f l2 (by omega) (k + M) (by omega)
  have e6 := implValues_f l2 (by omega) (k + M) (by omega)
  obtain ⟨e7, r7, e8⟩ := SpanBoth a8 a9
  have e9 := specLink_f l1 a10 l11 hx h11 (k + M) (by omega)
  have e10 := implLink_f l1 a10 l11 hx h11 (k + M) (by omega)
  refine ⟨okM P l1 && ((inB a5 1 5000 && (inB a4 0 a5 && (inB a6 1 a5 && inB a7 0 100))) && (allV l2 && (inB a3 0 400000 && (r7 && (linkOk l1 a10 l11 && inB a12 0 100000))))), ?_⟩
  simp only [spec_NodeOk.f, impl_NodeOk.f, e1, e2, e3, e4, e5, e6, e7, e8, e9, e10, in_f, within_f, Option.bind_some]
  generalize okM P l1 = c1
  generalize (inB a5 1 5000 && (inB a4 0 a5 && (inB a6 1 a5 && inB a7 0 100))) = c2
  generalize allV l2 = c3
  generalize inB a3 0 400000 = c4
  generalize linkOk l1 a10 l11 = c5
  cases c1 <;> cases c2 <;> cases c3 <;> cases c4 <;> cases r7 <;> cases c5 <;> exact ⟨rfl, rfl⟩
theorem FnExactNodeOk : laws_FnExactNodeOk.Pure := by
  intro l0 l1 l2 a3 a4 a5 a6 a7 a8 a9 a10 l11 a12 hG
  have g0 : l0.length ≤ 9223372036854775807 := hG.1.1
  have gb : ∀ x ∈ l0, x.f0.length ≤ 9223372036854775807 := fun x hx => (hG.1.2 x hx).1.1
  have g1 : l1.length ≤ 9223372036854775807 := hG.2.1.1
  have hx : l1.getD 8 0 ≤ 9223372036854775807 := getD_wf hG.2.1.2 8
  have g2 : l2.length ≤ 9223372036854775807 := hG.2.2.1.1
  have g11 : l11.length ≤ 9223372036854775807 := hG.2.2.2.2.2.2.1.2.1
  obtain ⟨k1, hk1⟩ : ∃ k1, k1 = l0.length + 1 := ⟨_, rfl⟩
  obtain ⟨r, e, hr⟩ := szNode_f l0 l1 l2 a3 a4 a5 a6 a7 a8 a9 a10 l11 a12 1048576 (by omega) g0 gb g1 g2 g11 k1 (by omega)
  rcases hr with hr | ⟨q1, q2, t0, tb, t1, t2, t11⟩
  · refine ⟨k1, ?_⟩
    simp only [laws_FnExactNodeOk.f, e, Option.bind_some]
    rw [if_pos hr]
  obtain ⟨M, hMM⟩ : ∃ M : Nat, M = 2097200 := ⟨_, rfl⟩
  have hM : ∀ x ∈ l0, x.f0.length ≤ 1048576 ∧ x.f0.length < M := fun x hx => by
    have := tb x hx
    omega
  have hPM := map_ok l0 M hM
  have hPM2 : ∀ x ∈ l0.map cvT, x.f0.length ≤ 1048576 ∧ 2 * x.f0.length + 5 < M := fun x hx => by
    have := hPM x hx
    omega
  have hPl : (l0.map cvT).length = l0.length := by simp
  obtain ⟨q, hq⟩ : ∃ q, q = k1 + l1.length + l2.length + l11.length + 65 := ⟨_, rfl⟩
  obtain ⟨ans, s1, s2⟩ := nodeBoth (l0.map cvT) l1 l2 a3 a4 a5 a6 a7 a8 a9 a10 l11 a12 (by omega) M hPM2 hx t1 t2 t11 q (by omega) (by omega) (by omega) (by omega) (by omega)
  have z1 := mono_more (f := fun k => laws_szNode.f k l0 l1 l2 a3 a4 a5 a6 a7 a8 a9 a10 l11 a12 1048576) (fun k => laws_szNode.mono _ _ _ _ _ _ _ _ _ _ _ _ _ _ k) e (q + M - k1)
  rw [show k1 + (q + M - k1) = q + M from by omega] at z1
  have n1 := toNode_f l0 l1 l2 a3 a4 a5 a6 a7 a8 a9 a10 l11 a12 t0 M hM t1 t2 t11 q (by omega) (by omega) (by omega) (by omega)
  have v1 := eqNode_f (l0.map cvT) l1 l2 a3 a4 a5 a6 a7 a8 a9 a10 l11 a12 (by omega) M hPM t1 t2 t11 q (by omega) (by omega) (by omega) (by omega)
  have c1 : ¬ r < 0 := by omega
  have c3 : (ans != ans) = false := by simp
  refine ⟨q + M, ?_⟩
  simp only [laws_FnExactNodeOk.f, z1, n1, s1, s2, v1, c1, c3, Option.bind_some, ↓reduceIte, Bool.false_eq_true]

end Go.Proofs.Ytdmmogcpamgdnaa.Pure
