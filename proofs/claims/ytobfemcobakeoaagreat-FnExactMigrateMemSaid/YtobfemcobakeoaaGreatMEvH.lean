/- The program's types for the evaluator, looked up, and the table of calls. No conditions. -/
import Derived.Test.YtobfemcobakeoaaGreatLibC
import Derived.WalkKit
import Derived.Test.YtobfemcobakeoaaGreatProg
namespace Go.Proofs.YtobfemcobakeoaaGreat.Ev
open Go.Proofs.YtobfemcobakeoaaGreatEv Go.RowKit
set_option linter.unusedVariables false
set_option maxRecDepth 100000
noncomputable section
structure S153 where
 f0 : Int
 f1 : Int
 f2 : Int
def z153 : S153 := ⟨(0 : Int), (0 : Int), (0 : Int)⟩
structure S210 where
 f0 : Int
 f1 : Int
 f2 : Int
 f3 : S153
def z210 : S210 := ⟨(0 : Int), (0 : Int), (0 : Int), z153⟩
structure S166 where
 f0 : List S210
 f1 : S153
def z166 : S166 := ⟨([] : List S210), z153⟩
structure S239 where
 f0 : Int
 f1 : Int
 f2 : Int
 f3 : S153
def z239 : S239 := ⟨(0 : Int), (0 : Int), (0 : Int), z153⟩
structure S172 where
 f0 : List S239
 f1 : S153
def z172 : S172 := ⟨([] : List S239), z153⟩
structure S205 where
 f0 : Int
 f1 : Int
def z205 : S205 := ⟨(0 : Int), (0 : Int)⟩
structure S23 where
 f0 : List S172
def z23 : S23 := ⟨([] : List S172)⟩
structure S27 where
 f0 : List S153
def z27 : S27 := ⟨([] : List S153)⟩
abbrev wr (n : Int) : Int := IntKind.wrap .i64 n
abbrev rdI (xs : List Int) (i : Int) : Int := xs.getD i.toNat (0 : Int)
abbrev rdS153 (xs : List S153) (i : Int) : S153 := xs.getD i.toNat z153
abbrev rdS210 (xs : List S210) (i : Int) : S210 := xs.getD i.toNat z210
abbrev rdS166 (xs : List S166) (i : Int) : S166 := xs.getD i.toNat z166
abbrev rdS239 (xs : List S239) (i : Int) : S239 := xs.getD i.toNat z239
abbrev rdS172 (xs : List S172) (i : Int) : S172 := xs.getD i.toNat z172
abbrev rdS205 (xs : List S205) (i : Int) : S205 := xs.getD i.toNat z205
def elTab : List (Nat × (Σ T : Type, T)) := [
 (3, ⟨Int, (0 : Int)⟩),
 (154, ⟨S153, z153⟩),
 (211, ⟨S210, z210⟩),
 (167, ⟨S166, z166⟩),
 (171, ⟨S153, z153⟩),
 (240, ⟨S239, z239⟩),
 (173, ⟨S172, z172⟩),
 (206, ⟨S205, z205⟩)]
def U : Uni := ⟨fun e => (elAt elTab e).1, fun e => (elAt elTab e).2⟩
def elE : List (Σ e, ElE U e) := [
 ⟨3, ⟨fun (x : Int) => .int .i64 x, fun v => (match v with | .int .i64 y1 => some (y1 : Int) | _ => none : Option Int)⟩⟩,
 ⟨154, ⟨fun (x : S153) => .agg [.int .i64 x.f0, .int .i64 x.f1, .int .i64 x.f2], fun v => (match v with | .agg [.int .i64 y1, .int .i64 y2, .int .i64 y3] => some ((⟨y1, y2, y3⟩ : S153) : S153) | _ => none : Option S153)⟩⟩,
 ⟨211, ⟨fun (x : S210) => .agg [.int .i64 x.f0, .int .i64 x.f1, .int .i64 x.f2, .int .i64 x.f3.f0, .int .i64 x.f3.f1, .int .i64 x.f3.f2], fun v => (match v with | .agg [.int .i64 y1, .int .i64 y2, .int .i64 y3, .int .i64 y4, .int .i64 y5, .int .i64 y6] => some ((⟨y1, y2, y3, (⟨y4, y5, y6⟩ : S153)⟩ : S210) : S210) | _ => none : Option S210)⟩⟩,
 ⟨167, ⟨fun (x : S166) => .agg [.sl 211 x.f0, .int .i64 x.f1.f0, .int .i64 x.f1.f1, .int .i64 x.f1.f2], fun v => (match v with | .agg [.sl 211 y1, .int .i64 y2, .int .i64 y3, .int .i64 y4] => some ((⟨y1, (⟨y2, y3, y4⟩ : S153)⟩ : S166) : S166) | _ => none : Option S166)⟩⟩,
 ⟨171, ⟨fun (x : S153) => .agg [.int .i64 x.f0, .int .i64 x.f1, .int .i64 x.f2], fun v => (match v with | .agg [.int .i64 y1, .int .i64 y2, .int .i64 y3] => some ((⟨y1, y2, y3⟩ : S153) : S153) | _ => none : Option S153)⟩⟩,
 ⟨240, ⟨fun (x : S239) => .agg [.int .i64 x.f0, .int .i64 x.f1, .int .i64 x.f2, .int .i64 x.f3.f0, .int .i64 x.f3.f1, .int .i64 x.f3.f2], fun v => (match v with | .agg [.int .i64 y1, .int .i64 y2, .int .i64 y3, .int .i64 y4, .int .i64 y5, .int .i64 y6] => some ((⟨y1, y2, y3, (⟨y4, y5, y6⟩ : S153)⟩ : S239) : S239) | _ => none : Option S239)⟩⟩,
 ⟨173, ⟨fun (x : S172) => .agg [.sl 240 x.f0, .int .i64 x.f1.f0, .int .i64 x.f1.f1, .int .i64 x.f1.f2], fun v => (match v with | .agg [.sl 240 y1, .int .i64 y2, .int .i64 y3, .int .i64 y4] => some ((⟨y1, (⟨y2, y3, y4⟩ : S153)⟩ : S172) : S172) | _ => none : Option S172)⟩⟩,
 ⟨206, ⟨fun (x : S205) => .agg [.int .i64 x.f0, .int .i64 x.f1], fun v => (match v with | .agg [.int .i64 y1, .int .i64 y2] => some ((⟨y1, y2⟩ : S205) : S205) | _ => none : Option S205)⟩⟩]
def tyTab : List (Nat × Ty U) := [
 (3, .int .i64),
 (4, .bool),
 (22, .slice 173),
 (24, .struct [(0, 22)] [.own true 173 ([] : List S172)]),
 (25, .slice 3),
 (26, .slice 171),
 (28, .struct [(0, 26)] [.own true 171 ([] : List S153)]),
 (33, .slice 167),
 (35, .struct [(0, 33)] [.own true 167 ([] : List S166)]),
 (38, .slice 154),
 (40, .struct [(0, 38)] [.own true 154 ([] : List S153)]),
 (154, .struct [(0, 3), (1, 3), (2, 3)] [.int .i64 (0 : Int), .int .i64 (0 : Int), .int .i64 (0 : Int)]),
 (156, .slice 206),
 (165, .slice 211),
 (167, .struct [(0, 165), (1, 154)] [.own true 211 ([] : List S210), .int .i64 (0 : Int), .int .i64 (0 : Int), .int .i64 (0 : Int)]),
 (170, .slice 240),
 (171, .struct [(0, 3), (1, 3), (2, 3)] [.int .i64 (0 : Int), .int .i64 (0 : Int), .int .i64 (0 : Int)]),
 (173, .struct [(0, 170), (1, 171)] [.own true 240 ([] : List S239), .int .i64 (0 : Int), .int .i64 (0 : Int), .int .i64 (0 : Int)]),
 (206, .struct [(0, 3), (1, 3)] [.int .i64 (0 : Int), .int .i64 (0 : Int)]),
 (211, .struct [(0, 3), (1, 3), (2, 3), (3, 154)] [.int .i64 (0 : Int), .int .i64 (0 : Int), .int .i64 (0 : Int), .int .i64 (0 : Int), .int .i64 (0 : Int), .int .i64 (0 : Int)]),
 (240, .struct [(0, 3), (1, 3), (2, 3), (3, 171)] [.int .i64 (0 : Int), .int .i64 (0 : Int), .int .i64 (0 : Int), .int .i64 (0 : Int), .int .i64 (0 : Int), .int .i64 (0 : Int)])]
def bytesTab : List (Nat × Nat) := [(3, 8), (154, 24), (211, 48), (167, 48), (171, 24), (240, 48), (173, 48), (206, 16)]
def eqTab : List (Nat × Nat) := [(154, 3), (211, 6)]
def C : Ctx := ⟨U, fun e => (sel (noEl U) elE e).enc, fun e => (sel (noEl U) elE e).dec, fun t => lookup t tyTab, fun e => (lookup e bytesTab).getD 0, fun t => lookup t eqTab⟩
theorem elOk : AllL (fun p : Σ e, ElE U e => ElOk p.1 p.2) elE := ⟨⟨fun _ => rfl, fun _ => rfl, fun _ => rfl, fun v y h => by dsimp only at h; split at h <;> first | (cases h; rfl) | cases h⟩,
 ⟨fun _ => rfl, fun _ => rfl, fun _ => rfl, fun v y h => by dsimp only at h; split at h <;> first | (cases h; rfl) | cases h⟩,
 ⟨fun _ => rfl, fun _ => rfl, fun _ => rfl, fun v y h => by dsimp only at h; split at h <;> first | (cases h; rfl) | cases h⟩,
 ⟨fun _ => rfl, fun _ => rfl, fun _ => rfl, fun v y h => by dsimp only at h; split at h <;> first | (cases h; rfl) | cases h⟩,
 ⟨fun _ => rfl, fun _ => rfl, fun _ => rfl, fun v y h => by dsimp only at h; split at h <;> first | (cases h; rfl) | cases h⟩,
 ⟨fun _ => rfl, fun _ => rfl, fun _ => rfl, fun v y h => by dsimp only at h; split at h <;> first | (cases h; rfl) | cases h⟩,
 ⟨fun _ => rfl, fun _ => rfl, fun _ => rfl, fun v y h => by dsimp only at h; split at h <;> first | (cases h; rfl) | cases h⟩,
 ⟨fun _ => rfl, fun _ => rfl, fun _ => rfl, fun v y h => by dsimp only at h; split at h <;> first | (cases h; rfl) | cases h⟩, trivial⟩
theorem tyOk : AllL (fun p : Nat × Ty U => TyOk Tryz.prog C p.1 p.2) tyTab := ⟨tyOk_int (by kernel_rfl) (by kernel_rfl),
 tyOk_bool (by kernel_rfl) (by kernel_rfl),
 tyOk_slice (by kernel_rfl) (by kernel_rfl),
 tyOk_struct #[.slice none 0 0] (by kernel_rfl) (by kernel_rfl) (by kernel_rfl) (by kernel_rfl) (by kernel_rfl),
 tyOk_slice (by kernel_rfl) (by kernel_rfl),
 tyOk_slice (by kernel_rfl) (by kernel_rfl),
 tyOk_struct #[.slice none 0 0] (by kernel_rfl) (by kernel_rfl) (by kernel_rfl) (by kernel_rfl) (by kernel_rfl),
 tyOk_slice (by kernel_rfl) (by kernel_rfl),
 tyOk_struct #[.slice none 0 0] (by kernel_rfl) (by kernel_rfl) (by kernel_rfl) (by kernel_rfl) (by kernel_rfl),
 tyOk_slice (by kernel_rfl) (by kernel_rfl),
 tyOk_struct #[.slice none 0 0] (by kernel_rfl) (by kernel_rfl) (by kernel_rfl) (by kernel_rfl) (by kernel_rfl),
 tyOk_struct #[.int .i64 0, .int .i64 0, .int .i64 0] (by kernel_rfl) (by kernel_rfl) (by kernel_rfl) (by kernel_rfl) (by kernel_rfl),
 tyOk_slice (by kernel_rfl) (by kernel_rfl),
 tyOk_slice (by kernel_rfl) (by kernel_rfl),
 tyOk_struct #[.slice none 0 0, .int .i64 0, .int .i64 0, .int .i64 0] (by kernel_rfl) (by kernel_rfl) (by kernel_rfl) (by kernel_rfl) (by kernel_rfl),
 tyOk_slice (by kernel_rfl) (by kernel_rfl),
 tyOk_struct #[.int .i64 0, .int .i64 0, .int .i64 0] (by kernel_rfl) (by kernel_rfl) (by kernel_rfl) (by kernel_rfl) (by kernel_rfl),
 tyOk_struct #[.slice none 0 0, .int .i64 0, .int .i64 0, .int .i64 0] (by kernel_rfl) (by kernel_rfl) (by kernel_rfl) (by kernel_rfl) (by kernel_rfl),
 tyOk_struct #[.int .i64 0, .int .i64 0] (by kernel_rfl) (by kernel_rfl) (by kernel_rfl) (by kernel_rfl) (by kernel_rfl),
 tyOk_struct #[.int .i64 0, .int .i64 0, .int .i64 0, .int .i64 0, .int .i64 0, .int .i64 0] (by kernel_rfl) (by kernel_rfl) (by kernel_rfl) (by kernel_rfl) (by kernel_rfl),
 tyOk_struct #[.int .i64 0, .int .i64 0, .int .i64 0, .int .i64 0, .int .i64 0, .int .i64 0] (by kernel_rfl) (by kernel_rfl) (by kernel_rfl) (by kernel_rfl) (by kernel_rfl), trivial⟩
theorem sl3 : SliceOk Tryz.prog C 3 := sliceOk_of (.int .i64 0) 1 8 (fun x T h ha => by have h' : (some (.int .i64) : Option (Ty U)) = some T := h; cases h'; cases ha) (by kernel_rfl) (by kernel_rfl) (by kernel_rfl) (by decide) (by decide) (by kernel_rfl)
theorem sl154 : SliceOk Tryz.prog C 154 := sliceOk_of (.agg #[.int .i64 0, .int .i64 0, .int .i64 0]) 3 24 (fun x T _ _ => ⟨_, rfl⟩) (by kernel_rfl) (by kernel_rfl) (by kernel_rfl) (by decide) (by decide) (by kernel_rfl)
theorem sl167 : SliceOk Tryz.prog C 167 := sliceOk_of (.agg #[.slice none 0 0, .int .i64 0, .int .i64 0, .int .i64 0]) 4 48 (fun x T _ _ => ⟨_, rfl⟩) (by kernel_rfl) (by kernel_rfl) (by kernel_rfl) (by decide) (by decide) (by kernel_rfl)
theorem sl171 : SliceOk Tryz.prog C 171 := sliceOk_of (.agg #[.int .i64 0, .int .i64 0, .int .i64 0]) 3 24 (fun x T _ _ => ⟨_, rfl⟩) (by kernel_rfl) (by kernel_rfl) (by kernel_rfl) (by decide) (by decide) (by kernel_rfl)
theorem sl173 : SliceOk Tryz.prog C 173 := sliceOk_of (.agg #[.slice none 0 0, .int .i64 0, .int .i64 0, .int .i64 0]) 4 48 (fun x T _ _ => ⟨_, rfl⟩) (by kernel_rfl) (by kernel_rfl) (by kernel_rfl) (by decide) (by decide) (by kernel_rfl)
theorem sl206 : SliceOk Tryz.prog C 206 := sliceOk_of (.agg #[.int .i64 0, .int .i64 0]) 2 16 (fun x T _ _ => ⟨_, rfl⟩) (by kernel_rfl) (by kernel_rfl) (by kernel_rfl) (by decide) (by decide) (by kernel_rfl)
theorem sl211 : SliceOk Tryz.prog C 211 := sliceOk_of (.agg #[.int .i64 0, .int .i64 0, .int .i64 0, .int .i64 0, .int .i64 0, .int .i64 0]) 6 48 (fun x T _ _ => ⟨_, rfl⟩) (by kernel_rfl) (by kernel_rfl) (by kernel_rfl) (by decide) (by decide) (by kernel_rfl)
theorem sl240 : SliceOk Tryz.prog C 240 := sliceOk_of (.agg #[.int .i64 0, .int .i64 0, .int .i64 0, .int .i64 0, .int .i64 0, .int .i64 0]) 6 48 (fun x T _ _ => ⟨_, rfl⟩) (by kernel_rfl) (by kernel_rfl) (by kernel_rfl) (by decide) (by decide) (by kernel_rfl)
theorem slOk : AllL (fun p : Nat × Ty U => ∀ e, p.2 = .slice e → SliceOk Tryz.prog C e) tyTab := ⟨(fun e h => by cases h), (fun e h => by cases h), (fun e h => by cases h; exact sl173), (fun e h => by cases h), (fun e h => by cases h; exact sl3), (fun e h => by cases h; exact sl171), (fun e h => by cases h), (fun e h => by cases h; exact sl167), (fun e h => by cases h), (fun e h => by cases h; exact sl154), (fun e h => by cases h), (fun e h => by cases h), (fun e h => by cases h; exact sl206), (fun e h => by cases h; exact sl211), (fun e h => by cases h), (fun e h => by cases h; exact sl240), (fun e h => by cases h), (fun e h => by cases h), (fun e h => by cases h), (fun e h => by cases h), (fun e h => by cases h), trivial⟩
def eqB154 (x0 x1 x2 y0 y1 y2 : Int) : Bool := (x0 == y0) && ((x1 == y1) && ((x2 == y2) && true))
theorem eqA154 (d : Nat) (w : World) (k0 k1 k2 : IntKind) (x0 x1 x2 y0 y1 y2 : Int) : (Op.equalIn (d + 2) 154 (.agg #[.int k0 x0, .int k1 x1, .int k2 x2]) (.agg #[.int k0 y0, .int k1 y1, .int k2 y2])).run Tryz.prog w = .ok (eqB154 x0 x1 x2 y0 y1 y2) w := by
 refine eq_struct Tryz.underlying154 (by kernel_rfl) ?_; refine eq_cons (by rfl) (by go_simp; rfl) (by go_simp; rfl) (by go_simp) ?_; refine eq_cons (by rfl) (by go_simp; rfl) (by go_simp; rfl) (by go_simp) ?_; refine eq_cons (by rfl) (by go_simp; rfl) (by go_simp; rfl) (by go_simp) ?_; exact eq_nil
theorem eq154 : EqOk Tryz.prog 154 3 := fun ps w h => match ps, h with
 | [p0, p1, p2], _ => ⟨by
  have e := eqA154 9998 w p0.1 p1.1 p2.1 p0.2.1 p1.2.1 p2.2.1 p0.2.2 p1.2.2 p2.2.2
  have hb : ∀ a b : Int, (a == b) = decide (a = b) := fun _ _ => rfl
  exact e.trans (by simp [eqB154, List.all, hb]), by kernel_rfl⟩
def eqB211 (x0 x1 x2 x3 x4 x5 y0 y1 y2 y3 y4 y5 : Int) : Bool := (x0 == y0) && ((x1 == y1) && ((x2 == y2) && ((eqB154 x3 x4 x5 y3 y4 y5) && true)))
theorem eqA211 (d : Nat) (w : World) (k0 k1 k2 k3 k4 k5 : IntKind) (x0 x1 x2 x3 x4 x5 y0 y1 y2 y3 y4 y5 : Int) : (Op.equalIn (d + 3) 211 (.agg #[.int k0 x0, .int k1 x1, .int k2 x2, .int k3 x3, .int k4 x4, .int k5 x5]) (.agg #[.int k0 y0, .int k1 y1, .int k2 y2, .int k3 y3, .int k4 y4, .int k5 y5])).run Tryz.prog w = .ok (eqB211 x0 x1 x2 x3 x4 x5 y0 y1 y2 y3 y4 y5) w := by
 refine eq_struct Tryz.underlying211 (by kernel_rfl) ?_; refine eq_cons (by rfl) (by go_simp; rfl) (by go_simp; rfl) (by go_simp) ?_; refine eq_cons (by rfl) (by go_simp; rfl) (by go_simp; rfl) (by go_simp) ?_; refine eq_cons (by rfl) (by go_simp; rfl) (by go_simp; rfl) (by go_simp) ?_; refine eq_cons (a := .agg #[.int k3 x3, .int k4 x4, .int k5 x5]) (b := .agg #[.int k3 y3, .int k4 y4, .int k5 y5]) (by rfl) (by go_simp) (by go_simp) (eqA154 d w k3 k4 k5 x3 x4 x5 y3 y4 y5) ?_; exact eq_nil
theorem eq211 : EqOk Tryz.prog 211 6 := fun ps w h => match ps, h with
 | [p0, p1, p2, p3, p4, p5], _ => ⟨by
  have e := eqA211 9997 w p0.1 p1.1 p2.1 p3.1 p4.1 p5.1 p0.2.1 p1.2.1 p2.2.1 p3.2.1 p4.2.1 p5.2.1 p0.2.2 p1.2.2 p2.2.2 p3.2.2 p4.2.2 p5.2.2
  have hb : ∀ a b : Int, (a == b) = decide (a = b) := fun _ _ => rfl
  exact e.trans (by simp [eqB154, eqB211, List.all, hb]), by kernel_rfl⟩
theorem eqOk : AllL (fun p : Nat × Nat => EqOk Tryz.prog p.1 p.2) eqTab := ⟨eq154, eq211, trivial⟩
theorem G : YtobfemcobakeoaaGreatEv.Good Tryz.prog C := good_of (U := U) (tab := elE) (tyTab := tyTab) (bytesTab := bytesTab) (eqTab := eqTab) rfl elOk tyOk (fun t e h => slOk.mem _ (lookup_mem h) e rfl) eqOk
abbrev Pg : Program := Tryz.prog
theorem mixed : Pg.follows .mixedOrders = true := by kernel_rfl
abbrev laws_szStmtS.A := Int
def laws_szStmtS.v : laws_szStmtS.A → PV U := fun r => .int .i64 r
def laws_szStmtS.o : laws_szStmtS.A → List (PV U) := fun r => []
abbrev laws_szTask.A := Int
def laws_szTask.v : laws_szTask.A → PV U := fun r => .int .i64 r
def laws_szTask.o : laws_szTask.A → List (PV U) := fun r => []
abbrev laws_szTaskS.A := Int
def laws_szTaskS.v : laws_szTaskS.A → PV U := fun r => .int .i64 r
def laws_szTaskS.o : laws_szTaskS.A → List (PV U) := fun r => []
abbrev laws_szProgram.A := Int
def laws_szProgram.v : laws_szProgram.A → PV U := fun r => .int .i64 r
def laws_szProgram.o : laws_szProgram.A → List (PV U) := fun r => []
abbrev laws_szExprS.A := Int
def laws_szExprS.v : laws_szExprS.A → PV U := fun r => .int .i64 r
def laws_szExprS.o : laws_szExprS.A → List (PV U) := fun r => []
abbrev laws_szRules.A := Int
def laws_szRules.v : laws_szRules.A → PV U := fun r => .int .i64 r
def laws_szRules.o : laws_szRules.A → List (PV U) := fun r => []
abbrev laws_toExpr.A := Int × Int × Int
def laws_toExpr.v : laws_toExpr.A → PV U := fun r => .agg [.int .i64 r.1, .int .i64 r.2.1, .int .i64 r.2.2]
def laws_toExpr.o : laws_toExpr.A → List (PV U) := fun r => []
abbrev laws_toStmt.A := Int × Int × Int × Int × Int × Int
def laws_toStmt.v : laws_toStmt.A → PV U := fun r => .agg [.int .i64 r.1, .int .i64 r.2.1, .int .i64 r.2.2.1, .int .i64 r.2.2.2.1, .int .i64 r.2.2.2.2.1, .int .i64 r.2.2.2.2.2]
def laws_toStmt.o : laws_toStmt.A → List (PV U) := fun r => []
abbrev laws_toStmtS.A := (List S210)
def laws_toStmtS.v : laws_toStmtS.A → PV U := fun r => .own true 211 r
def laws_toStmtS.o : laws_toStmtS.A → List (PV U) := fun r => []
abbrev laws_toTask.A := (List S210) × Int × Int × Int
def laws_toTask.v : laws_toTask.A → PV U := fun r => .agg [.own true 211 r.1, .int .i64 r.2.1, .int .i64 r.2.2.1, .int .i64 r.2.2.2]
def laws_toTask.o : laws_toTask.A → List (PV U) := fun r => []
abbrev laws_toTaskS.A := (List S166)
def laws_toTaskS.v : laws_toTaskS.A → PV U := fun r => .own true 167 r
def laws_toTaskS.o : laws_toTaskS.A → List (PV U) := fun r => []
abbrev laws_toProgram.A := (List S166)
def laws_toProgram.v : laws_toProgram.A → PV U := fun r => .agg [.own true 167 r]
def laws_toProgram.o : laws_toProgram.A → List (PV U) := fun r => []
abbrev laws_toIntS.A := (List Int)
def laws_toIntS.v : laws_toIntS.A → PV U := fun r => .own true 3 r
def laws_toIntS.o : laws_toIntS.A → List (PV U) := fun r => []
abbrev laws_toExprS.A := (List S153)
def laws_toExprS.v : laws_toExprS.A → PV U := fun r => .own true 154 r
def laws_toExprS.o : laws_toExprS.A → List (PV U) := fun r => []
abbrev laws_toRules.A := (List S153)
def laws_toRules.v : laws_toRules.A → PV U := fun r => .agg [.own true 154 r]
def laws_toRules.o : laws_toRules.A → List (PV U) := fun r => []
abbrev spec_l04Plain.A := Int × Int × Int × Int × Int × Int
def spec_l04Plain.v : spec_l04Plain.A → PV U := fun r => .agg [.int .i64 r.1, .int .i64 r.2.1, .int .i64 r.2.2.1, .int .i64 r.2.2.2.1, .int .i64 r.2.2.2.2.1, .int .i64 r.2.2.2.2.2]
def spec_l04Plain.o : spec_l04Plain.A → List (PV U) := fun r => []
abbrev spec_l01In.A := Bool
def spec_l01In.v : spec_l01In.A → PV U := fun r => .bool r
def spec_l01In.o : spec_l01In.A → List (PV U) := fun r => []
abbrev spec_OperandOk.A := Bool
def spec_OperandOk.v : spec_OperandOk.A → PV U := fun r => .bool r
def spec_OperandOk.o : spec_OperandOk.A → List (PV U) := fun r => []
abbrev spec_ExprOk.A := Bool
def spec_ExprOk.v : spec_ExprOk.A → PV U := fun r => .bool r
def spec_ExprOk.o : spec_ExprOk.A → List (PV U) := fun r => []
abbrev spec_StmtOk.A := Bool
def spec_StmtOk.v : spec_StmtOk.A → PV U := fun r => .bool r
def spec_StmtOk.o : spec_StmtOk.A → List (PV U) := fun r => []
abbrev spec_BlockOk.A := Bool
def spec_BlockOk.v : spec_BlockOk.A → PV U := fun r => .bool r
def spec_BlockOk.o : spec_BlockOk.A → List (PV U) := fun r => []
abbrev spec_ProgramOk.A := Bool
def spec_ProgramOk.v : spec_ProgramOk.A → PV U := fun r => .bool r
def spec_ProgramOk.o : spec_ProgramOk.A → List (PV U) := fun r => []
abbrev spec_PackControl.A := Int
def spec_PackControl.v : spec_PackControl.A → PV U := fun r => .int .i64 r
def spec_PackControl.o : spec_PackControl.A → List (PV U) := fun r => []
abbrev spec_UnpackControl.A := Int × Int × Int
def spec_UnpackControl.v : spec_UnpackControl.A → PV U := fun r => .tup [.int .i64 r.1, .int .i64 r.2.1, .int .i64 r.2.2]
def spec_UnpackControl.o : spec_UnpackControl.A → List (PV U) := fun r => []
abbrev spec_IsValue.A := Bool
def spec_IsValue.v : spec_IsValue.A → PV U := fun r => .bool r
def spec_IsValue.o : spec_IsValue.A → List (PV U) := fun r => []
abbrev spec_l09Values.A := Bool
def spec_l09Values.v : spec_l09Values.A → PV U := fun r => .bool r
def spec_l09Values.o : spec_l09Values.A → List (PV U) := fun r => []
abbrev spec_MemOk.A := Bool
def spec_MemOk.v : spec_MemOk.A → PV U := fun r => .bool r
def spec_MemOk.o : spec_MemOk.A → List (PV U) := fun r => []
abbrev spec_RulesOk.A := Bool
def spec_RulesOk.v : spec_RulesOk.A → PV U := fun r => .bool r
def spec_RulesOk.o : spec_RulesOk.A → List (PV U) := fun r => []
abbrev spec_RecoveryWrites.A := (List S205)
def spec_RecoveryWrites.v : spec_RecoveryWrites.A → PV U := fun r => .own true 206 r
def spec_RecoveryWrites.o : spec_RecoveryWrites.A → List (PV U) := fun r => []
abbrev spec_ApplyWrites.A := (List Int)
def spec_ApplyWrites.v : spec_ApplyWrites.A → PV U := fun r => .own true 3 r
def spec_ApplyWrites.o : spec_ApplyWrites.A → List (PV U) := fun r => []
abbrev spec_Recovered.A := (List Int)
def spec_Recovered.v : spec_Recovered.A → PV U := fun r => .own true 3 r
def spec_Recovered.o : spec_Recovered.A → List (PV U) := fun r => []
abbrev spec_MemVars.A := (List Int)
def spec_MemVars.v : spec_MemVars.A → PV U := fun r => .own true 3 r
def spec_MemVars.o : spec_MemVars.A → List (PV U) := fun r => []
abbrev spec_VarsOk.A := Bool
def spec_VarsOk.v : spec_VarsOk.A → PV U := fun r => .bool r
def spec_VarsOk.o : spec_VarsOk.A → List (PV U) := fun r => []
abbrev spec_l03Value.A := Int
def spec_l03Value.v : spec_l03Value.A → PV U := fun r => .int .i64 r
def spec_l03Value.o : spec_l03Value.A → List (PV U) := fun r => []
abbrev spec_Clamp.A := Int
def spec_Clamp.v : spec_Clamp.A → PV U := fun r => .int .i64 r
def spec_Clamp.o : spec_Clamp.A → List (PV U) := fun r => []
abbrev spec_Saturate.A := Int
def spec_Saturate.v : spec_Saturate.A → PV U := fun r => .int .i64 r
def spec_Saturate.o : spec_Saturate.A → List (PV U) := fun r => []
abbrev spec_AddValues.A := Int
def spec_AddValues.v : spec_AddValues.A → PV U := fun r => .int .i64 r
def spec_AddValues.o : spec_AddValues.A → List (PV U) := fun r => []
abbrev spec_SubValues.A := Int
def spec_SubValues.v : spec_SubValues.A → PV U := fun r => .int .i64 r
def spec_SubValues.o : spec_SubValues.A → List (PV U) := fun r => []
abbrev spec_MulValues.A := Int
def spec_MulValues.v : spec_MulValues.A → PV U := fun r => .int .i64 r
def spec_MulValues.o : spec_MulValues.A → List (PV U) := fun r => []
abbrev spec_l03Bit.A := Int
def spec_l03Bit.v : spec_l03Bit.A → PV U := fun r => .int .i64 r
def spec_l03Bit.o : spec_l03Bit.A → List (PV U) := fun r => []
abbrev spec_l03Eval.A := Int
def spec_l03Eval.v : spec_l03Eval.A → PV U := fun r => .int .i64 r
def spec_l03Eval.o : spec_l03Eval.A → List (PV U) := fun r => []
abbrev spec_Migrate.A := (List Int) × Bool
def spec_Migrate.v : spec_Migrate.A → PV U := fun r => .tup [.own true 3 r.1, .bool r.2]
def spec_Migrate.o : spec_Migrate.A → List (PV U) := fun r => []
abbrev spec_MigrateMem.A := (List Int) × Bool
def spec_MigrateMem.v : spec_MigrateMem.A → PV U := fun r => .tup [.own true 3 r.1, .bool r.2]
def spec_MigrateMem.o : spec_MigrateMem.A → List (PV U) := fun r => []
abbrev impl_within.A := Bool
def impl_within.v : impl_within.A → PV U := fun r => .bool r
def impl_within.o : impl_within.A → List (PV U) := fun r => []
abbrev impl_hasVar.A := Bool
def impl_hasVar.v : impl_hasVar.A → PV U := fun r => .bool r
def impl_hasVar.o : impl_hasVar.A → List (PV U) := fun r => []
abbrev impl_isVar.A := Bool
def impl_isVar.v : impl_isVar.A → PV U := fun r => .bool r
def impl_isVar.o : impl_isVar.A → List (PV U) := fun r => []
abbrev impl_hasExpr.A := Bool
def impl_hasExpr.v : impl_hasExpr.A → PV U := fun r => .bool r
def impl_hasExpr.o : impl_hasExpr.A → List (PV U) := fun r => []
abbrev impl_OperandOk.A := Bool
def impl_OperandOk.v : impl_OperandOk.A → PV U := fun r => .bool r
def impl_OperandOk.o : impl_OperandOk.A → List (PV U) := fun r => []
abbrev impl_ExprOk.A := Bool
def impl_ExprOk.v : impl_ExprOk.A → PV U := fun r => .bool r
def impl_ExprOk.o : impl_ExprOk.A → List (PV U) := fun r => []
abbrev impl_isSensor.A := Bool
def impl_isSensor.v : impl_isSensor.A → PV U := fun r => .bool r
def impl_isSensor.o : impl_isSensor.A → List (PV U) := fun r => []
abbrev impl_StmtOk.A := Bool
def impl_StmtOk.v : impl_StmtOk.A → PV U := fun r => .bool r
def impl_StmtOk.o : impl_StmtOk.A → List (PV U) := fun r => []
abbrev impl_isOpening.A := Bool
def impl_isOpening.v : impl_isOpening.A → PV U := fun r => .bool r
def impl_isOpening.o : impl_isOpening.A → List (PV U) := fun r => []
abbrev impl_BlockOk.A := Bool
def impl_BlockOk.v : impl_BlockOk.A → PV U := fun r => .bool r
def impl_BlockOk.o : impl_BlockOk.A → List (PV U) := fun r => []
abbrev impl_taskOk.A := Bool
def impl_taskOk.v : impl_taskOk.A → PV U := fun r => .bool r
def impl_taskOk.o : impl_taskOk.A → List (PV U) := fun r => []
abbrev impl_ProgramOk_1.A := Bool
def impl_ProgramOk_1.v : impl_ProgramOk_1.A → PV U := fun r => .bool r
def impl_ProgramOk_1.o : impl_ProgramOk_1.A → List (PV U) := fun r => []
abbrev slices_IndexFunc_impl_Task_ProgramOk_1.A := Int
def slices_IndexFunc_impl_Task_ProgramOk_1.v : slices_IndexFunc_impl_Task_ProgramOk_1.A → PV U := fun r => .int .i64 r
def slices_IndexFunc_impl_Task_ProgramOk_1.o : slices_IndexFunc_impl_Task_ProgramOk_1.A → List (PV U) := fun r => []
abbrev slices_ContainsFunc_impl_Task_ProgramOk_1.A := Bool
def slices_ContainsFunc_impl_Task_ProgramOk_1.v : slices_ContainsFunc_impl_Task_ProgramOk_1.A → PV U := fun r => .bool r
def slices_ContainsFunc_impl_Task_ProgramOk_1.o : slices_ContainsFunc_impl_Task_ProgramOk_1.A → List (PV U) := fun r => []
abbrev impl_ProgramOk.A := Bool
def impl_ProgramOk.v : impl_ProgramOk.A → PV U := fun r => .bool r
def impl_ProgramOk.o : impl_ProgramOk.A → List (PV U) := fun r => []
abbrev impl_IsValue.A := Bool
def impl_IsValue.v : impl_IsValue.A → PV U := fun r => .bool r
def impl_IsValue.o : impl_IsValue.A → List (PV U) := fun r => []
abbrev impl_areValues_1.A := Bool
def impl_areValues_1.v : impl_areValues_1.A → PV U := fun r => .bool r
def impl_areValues_1.o : impl_areValues_1.A → List (PV U) := fun r => []
abbrev slices_IndexFunc_int_areValues_1.A := Int
def slices_IndexFunc_int_areValues_1.v : slices_IndexFunc_int_areValues_1.A → PV U := fun r => .int .i64 r
def slices_IndexFunc_int_areValues_1.o : slices_IndexFunc_int_areValues_1.A → List (PV U) := fun r => []
abbrev slices_ContainsFunc_int_areValues_1.A := Bool
def slices_ContainsFunc_int_areValues_1.v : slices_ContainsFunc_int_areValues_1.A → PV U := fun r => .bool r
def slices_ContainsFunc_int_areValues_1.o : slices_ContainsFunc_int_areValues_1.A → List (PV U) := fun r => []
abbrev impl_areValues.A := Bool
def impl_areValues.v : impl_areValues.A → PV U := fun r => .bool r
def impl_areValues.o : impl_areValues.A → List (PV U) := fun r => []
abbrev impl_PackControl.A := Int
def impl_PackControl.v : impl_PackControl.A → PV U := fun r => .int .i64 r
def impl_PackControl.o : impl_PackControl.A → List (PV U) := fun r => []
abbrev impl_UnpackControl.A := Int × Int × Int
def impl_UnpackControl.v : impl_UnpackControl.A → PV U := fun r => .tup [.int .i64 r.1, .int .i64 r.2.1, .int .i64 r.2.2]
def impl_UnpackControl.o : impl_UnpackControl.A → List (PV U) := fun r => []
abbrev impl_MemOk.A := Bool
def impl_MemOk.v : impl_MemOk.A → PV U := fun r => .bool r
def impl_MemOk.o : impl_MemOk.A → List (PV U) := fun r => []
abbrev impl_RulesOk_1.A := Bool
def impl_RulesOk_1.v : impl_RulesOk_1.A → PV U := fun r => .bool r
def impl_RulesOk_1.o : impl_RulesOk_1.A → List (PV U) := fun r => []
abbrev slices_IndexFunc_impl_Expr_RulesOk_1.A := Int
def slices_IndexFunc_impl_Expr_RulesOk_1.v : slices_IndexFunc_impl_Expr_RulesOk_1.A → PV U := fun r => .int .i64 r
def slices_IndexFunc_impl_Expr_RulesOk_1.o : slices_IndexFunc_impl_Expr_RulesOk_1.A → List (PV U) := fun r => []
abbrev slices_ContainsFunc_impl_Expr_RulesOk_1.A := Bool
def slices_ContainsFunc_impl_Expr_RulesOk_1.v : slices_ContainsFunc_impl_Expr_RulesOk_1.A → PV U := fun r => .bool r
def slices_ContainsFunc_impl_Expr_RulesOk_1.o : slices_ContainsFunc_impl_Expr_RulesOk_1.A → List (PV U) := fun r => []
abbrev impl_RulesOk.A := Bool
def impl_RulesOk.v : impl_RulesOk.A → PV U := fun r => .bool r
def impl_RulesOk.o : impl_RulesOk.A → List (PV U) := fun r => []
abbrev impl_RecoveryWrites.A := (List S205)
def impl_RecoveryWrites.v : impl_RecoveryWrites.A → PV U := fun r => .own true 206 r
def impl_RecoveryWrites.o : impl_RecoveryWrites.A → List (PV U) := fun r => []
abbrev slices_Clone_int.A := (List Int)
def slices_Clone_int.v : slices_Clone_int.A → PV U := fun r => .own true 3 r
def slices_Clone_int.o : slices_Clone_int.A → List (PV U) := fun r => []
abbrev impl_Clamp.A := Int
def impl_Clamp.v : impl_Clamp.A → PV U := fun r => .int .i64 r
def impl_Clamp.o : impl_Clamp.A → List (PV U) := fun r => []
abbrev impl_ApplyWrites.A := (List Int)
def impl_ApplyWrites.v : impl_ApplyWrites.A → PV U := fun r => .own true 3 r
def impl_ApplyWrites.o : impl_ApplyWrites.A → List (PV U) := fun r => []
abbrev impl_Recovered.A := (List Int)
def impl_Recovered.v : impl_Recovered.A → PV U := fun r => .own true 3 r
def impl_Recovered.o : impl_Recovered.A → List (PV U) := fun r => []
abbrev impl_MemVars.A := (List Int)
def impl_MemVars.v : impl_MemVars.A → PV U := fun r => .own true 3 r
def impl_MemVars.o : impl_MemVars.A → List (PV U) := fun r => []
abbrev impl_VarsOk.A := Bool
def impl_VarsOk.v : impl_VarsOk.A → PV U := fun r => .bool r
def impl_VarsOk.o : impl_VarsOk.A → List (PV U) := fun r => []
abbrev impl_operand.A := Int
def impl_operand.v : impl_operand.A → PV U := fun r => .int .i64 r
def impl_operand.o : impl_operand.A → List (PV U) := fun r => []
abbrev impl_Saturate.A := Int
def impl_Saturate.v : impl_Saturate.A → PV U := fun r => .int .i64 r
def impl_Saturate.o : impl_Saturate.A → List (PV U) := fun r => []
abbrev impl_AddValues.A := Int
def impl_AddValues.v : impl_AddValues.A → PV U := fun r => .int .i64 r
def impl_AddValues.o : impl_AddValues.A → List (PV U) := fun r => []
abbrev impl_SubValues.A := Int
def impl_SubValues.v : impl_SubValues.A → PV U := fun r => .int .i64 r
def impl_SubValues.o : impl_SubValues.A → List (PV U) := fun r => []
abbrev impl_MulValues.A := Int
def impl_MulValues.v : impl_MulValues.A → PV U := fun r => .int .i64 r
def impl_MulValues.o : impl_MulValues.A → List (PV U) := fun r => []
abbrev impl_bit.A := Int
def impl_bit.v : impl_bit.A → PV U := fun r => .int .i64 r
def impl_bit.o : impl_bit.A → List (PV U) := fun r => []
abbrev impl_EvalExpr.A := Int
def impl_EvalExpr.v : impl_EvalExpr.A → PV U := fun r => .int .i64 r
def impl_EvalExpr.o : impl_EvalExpr.A → List (PV U) := fun r => []
abbrev impl_Migrate.A := (List Int) × Bool
def impl_Migrate.v : impl_Migrate.A → PV U := fun r => .tup [.own true 3 r.1, .bool r.2]
def impl_Migrate.o : impl_Migrate.A → List (PV U) := fun r => []
abbrev impl_MigrateMem.A := (List Int) × Bool
def impl_MigrateMem.v : impl_MigrateMem.A → PV U := fun r => .tup [.own true 3 r.1, .bool r.2]
def impl_MigrateMem.o : impl_MigrateMem.A → List (PV U) := fun r => []
abbrev laws_eqIntS.A := Bool
def laws_eqIntS.v : laws_eqIntS.A → PV U := fun r => .bool r
def laws_eqIntS.o : laws_eqIntS.A → List (PV U) := fun r => []
abbrev laws_eqExpr.A := Bool
def laws_eqExpr.v : laws_eqExpr.A → PV U := fun r => .bool r
def laws_eqExpr.o : laws_eqExpr.A → List (PV U) := fun r => []
abbrev laws_eqStmt.A := Bool
def laws_eqStmt.v : laws_eqStmt.A → PV U := fun r => .bool r
def laws_eqStmt.o : laws_eqStmt.A → List (PV U) := fun r => []
abbrev laws_eqStmtS.A := Bool
def laws_eqStmtS.v : laws_eqStmtS.A → PV U := fun r => .bool r
def laws_eqStmtS.o : laws_eqStmtS.A → List (PV U) := fun r => []
abbrev laws_eqTask.A := Bool
def laws_eqTask.v : laws_eqTask.A → PV U := fun r => .bool r
def laws_eqTask.o : laws_eqTask.A → List (PV U) := fun r => []
abbrev laws_eqTaskS.A := Bool
def laws_eqTaskS.v : laws_eqTaskS.A → PV U := fun r => .bool r
def laws_eqTaskS.o : laws_eqTaskS.A → List (PV U) := fun r => []
abbrev laws_eqProgram.A := Bool
def laws_eqProgram.v : laws_eqProgram.A → PV U := fun r => .bool r
def laws_eqProgram.o : laws_eqProgram.A → List (PV U) := fun r => []
abbrev laws_eqExprS.A := Bool
def laws_eqExprS.v : laws_eqExprS.A → PV U := fun r => .bool r
def laws_eqExprS.o : laws_eqExprS.A → List (PV U) := fun r => []
abbrev laws_eqRules.A := Bool
def laws_eqRules.v : laws_eqRules.A → PV U := fun r => .bool r
def laws_eqRules.o : laws_eqRules.A → List (PV U) := fun r => []
abbrev laws_markStmtS.A := Int × (List S210)
def laws_markStmtS.v : laws_markStmtS.A → PV U := fun r => .int .i64 r.1
def laws_markStmtS.o : laws_markStmtS.A → List (PV U) := fun r => [.own true 211 r.2]
abbrev laws_markTaskS.A := Int × (List S166)
def laws_markTaskS.v : laws_markTaskS.A → PV U := fun r => .int .i64 r.1
def laws_markTaskS.o : laws_markTaskS.A → List (PV U) := fun r => [.own true 167 r.2]
abbrev laws_markProgram.A := Int × (List S166)
def laws_markProgram.v : laws_markProgram.A → PV U := fun r => .int .i64 r.1
def laws_markProgram.o : laws_markProgram.A → List (PV U) := fun r => [.own true 167 r.2]
abbrev laws_markIntS.A := Int × (List Int)
def laws_markIntS.v : laws_markIntS.A → PV U := fun r => .int .i64 r.1
def laws_markIntS.o : laws_markIntS.A → List (PV U) := fun r => [.own true 3 r.2]
abbrev laws_markExprS.A := Int × (List S153)
def laws_markExprS.v : laws_markExprS.A → PV U := fun r => .int .i64 r.1
def laws_markExprS.o : laws_markExprS.A → List (PV U) := fun r => [.own true 154 r.2]
abbrev laws_markRules.A := Int × (List S153)
def laws_markRules.v : laws_markRules.A → PV U := fun r => .int .i64 r.1
def laws_markRules.o : laws_markRules.A → List (PV U) := fun r => [.own true 154 r.2]
abbrev laws_heldIntS.A := Int
def laws_heldIntS.v : laws_heldIntS.A → PV U := fun r => .int .i64 r
def laws_heldIntS.o : laws_heldIntS.A → List (PV U) := fun r => []
abbrev laws_FnExactMigrateMem.A := Bool
def laws_FnExactMigrateMem.v : laws_FnExactMigrateMem.A → PV U := fun r => .bool r
def laws_FnExactMigrateMem.o : laws_FnExactMigrateMem.A → List (PV U) := fun r => []
def retTab : List (Nat × Ret C) := [(195, ⟨laws_szStmtS.A, laws_szStmtS.v, laws_szStmtS.o⟩), (136, ⟨laws_szTask.A, laws_szTask.v, laws_szTask.o⟩), (65, ⟨laws_szTaskS.A, laws_szTaskS.v, laws_szTaskS.o⟩), (12, ⟨laws_szProgram.A, laws_szProgram.v, laws_szProgram.o⟩), (66, ⟨laws_szExprS.A, laws_szExprS.v, laws_szExprS.o⟩), (13, ⟨laws_szRules.A, laws_szRules.v, laws_szRules.o⟩), (147, ⟨laws_toExpr.A, laws_toExpr.v, laws_toExpr.o⟩), (227, ⟨laws_toStmt.A, laws_toStmt.v, laws_toStmt.o⟩), (203, ⟨laws_toStmtS.A, laws_toStmtS.v, laws_toStmtS.o⟩), (146, ⟨laws_toTask.A, laws_toTask.v, laws_toTask.o⟩), (74, ⟨laws_toTaskS.A, laws_toTaskS.v, laws_toTaskS.o⟩), (15, ⟨laws_toProgram.A, laws_toProgram.v, laws_toProgram.o⟩), (16, ⟨laws_toIntS.A, laws_toIntS.v, laws_toIntS.o⟩), (75, ⟨laws_toExprS.A, laws_toExprS.v, laws_toExprS.o⟩), (17, ⟨laws_toRules.A, laws_toRules.v, laws_toRules.o⟩), (244, ⟨spec_l04Plain.A, spec_l04Plain.v, spec_l04Plain.o⟩), (139, ⟨spec_l01In.A, spec_l01In.v, spec_l01In.o⟩), (197, ⟨spec_OperandOk.A, spec_OperandOk.v, spec_OperandOk.o⟩), (141, ⟨spec_ExprOk.A, spec_ExprOk.v, spec_ExprOk.o⟩), (225, ⟨spec_StmtOk.A, spec_StmtOk.v, spec_StmtOk.o⟩), (196, ⟨spec_BlockOk.A, spec_BlockOk.v, spec_BlockOk.o⟩), (137, ⟨spec_ProgramOk.A, spec_ProgramOk.v, spec_ProgramOk.o⟩), (73, ⟨spec_PackControl.A, spec_PackControl.v, spec_PackControl.o⟩), (72, ⟨spec_UnpackControl.A, spec_UnpackControl.v, spec_UnpackControl.o⟩), (140, ⟨spec_IsValue.A, spec_IsValue.v, spec_IsValue.o⟩), (138, ⟨spec_l09Values.A, spec_l09Values.v, spec_l09Values.o⟩), (67, ⟨spec_MemOk.A, spec_MemOk.v, spec_MemOk.o⟩), (68, ⟨spec_RulesOk.A, spec_RulesOk.v, spec_RulesOk.o⟩), (142, ⟨spec_RecoveryWrites.A, spec_RecoveryWrites.v, spec_RecoveryWrites.o⟩), (143, ⟨spec_ApplyWrites.A, spec_ApplyWrites.v, spec_ApplyWrites.o⟩), (69, ⟨spec_Recovered.A, spec_Recovered.v, spec_Recovered.o⟩), (71, ⟨spec_MemVars.A, spec_MemVars.v, spec_MemVars.o⟩), (144, ⟨spec_VarsOk.A, spec_VarsOk.v, spec_VarsOk.o⟩), (198, ⟨spec_l03Value.A, spec_l03Value.v, spec_l03Value.o⟩), (245, ⟨spec_Clamp.A, spec_Clamp.v, spec_Clamp.o⟩), (226, ⟨spec_Saturate.A, spec_Saturate.v, spec_Saturate.o⟩), (199, ⟨spec_AddValues.A, spec_AddValues.v, spec_AddValues.o⟩), (200, ⟨spec_SubValues.A, spec_SubValues.v, spec_SubValues.o⟩), (201, ⟨spec_MulValues.A, spec_MulValues.v, spec_MulValues.o⟩), (202, ⟨spec_l03Bit.A, spec_l03Bit.v, spec_l03Bit.o⟩), (145, ⟨spec_l03Eval.A, spec_l03Eval.v, spec_l03Eval.o⟩), (70, ⟨spec_Migrate.A, spec_Migrate.v, spec_Migrate.o⟩), (14, ⟨spec_MigrateMem.A, spec_MigrateMem.v, spec_MigrateMem.o⟩), (105, ⟨impl_within.A, impl_within.v, impl_within.o⟩), (255, ⟨impl_hasVar.A, impl_hasVar.v, impl_hasVar.o⟩), (109, ⟨impl_isVar.A, impl_isVar.v, impl_isVar.o⟩), (256, ⟨impl_hasExpr.A, impl_hasExpr.v, impl_hasExpr.o⟩), (205, ⟨impl_OperandOk.A, impl_OperandOk.v, impl_OperandOk.o⟩), (150, ⟨impl_ExprOk.A, impl_ExprOk.v, impl_ExprOk.o⟩), (253, ⟨impl_isSensor.A, impl_isSensor.v, impl_isSensor.o⟩), (241, ⟨impl_StmtOk.A, impl_StmtOk.v, impl_StmtOk.o⟩), (242, ⟨impl_isOpening.A, impl_isOpening.v, impl_isOpening.o⟩), (218, ⟨impl_BlockOk.A, impl_BlockOk.v, impl_BlockOk.o⟩), (178, ⟨impl_taskOk.A, impl_taskOk.v, impl_taskOk.o⟩), (177, ⟨impl_ProgramOk_1.A, impl_ProgramOk_1.v, impl_ProgramOk_1.o⟩), (217, ⟨slices_IndexFunc_impl_Task_ProgramOk_1.A, slices_IndexFunc_impl_Task_ProgramOk_1.v, slices_IndexFunc_impl_Task_ProgramOk_1.o⟩), (176, ⟨slices_ContainsFunc_impl_Task_ProgramOk_1.A, slices_ContainsFunc_impl_Task_ProgramOk_1.v, slices_ContainsFunc_impl_Task_ProgramOk_1.o⟩), (107, ⟨impl_ProgramOk.A, impl_ProgramOk.v, impl_ProgramOk.o⟩), (110, ⟨impl_IsValue.A, impl_IsValue.v, impl_IsValue.o⟩), (179, ⟨impl_areValues_1.A, impl_areValues_1.v, impl_areValues_1.o⟩), (184, ⟨slices_IndexFunc_int_areValues_1.A, slices_IndexFunc_int_areValues_1.v, slices_IndexFunc_int_areValues_1.o⟩), (124, ⟨slices_ContainsFunc_int_areValues_1.A, slices_ContainsFunc_int_areValues_1.v, slices_ContainsFunc_int_areValues_1.o⟩), (108, ⟨impl_areValues.A, impl_areValues.v, impl_areValues.o⟩), (78, ⟨impl_PackControl.A, impl_PackControl.v, impl_PackControl.o⟩), (77, ⟨impl_UnpackControl.A, impl_UnpackControl.v, impl_UnpackControl.o⟩), (41, ⟨impl_MemOk.A, impl_MemOk.v, impl_MemOk.o⟩), (149, ⟨impl_RulesOk_1.A, impl_RulesOk_1.v, impl_RulesOk_1.o⟩), (204, ⟨slices_IndexFunc_impl_Expr_RulesOk_1.A, slices_IndexFunc_impl_Expr_RulesOk_1.v, slices_IndexFunc_impl_Expr_RulesOk_1.o⟩), (148, ⟨slices_ContainsFunc_impl_Expr_RulesOk_1.A, slices_ContainsFunc_impl_Expr_RulesOk_1.v, slices_ContainsFunc_impl_Expr_RulesOk_1.o⟩), (76, ⟨impl_RulesOk.A, impl_RulesOk.v, impl_RulesOk.o⟩), (129, ⟨impl_RecoveryWrites.A, impl_RecoveryWrites.v, impl_RecoveryWrites.o⟩), (112, ⟨slices_Clone_int.A, slices_Clone_int.v, slices_Clone_int.o⟩), (182, ⟨impl_Clamp.A, impl_Clamp.v, impl_Clamp.o⟩), (130, ⟨impl_ApplyWrites.A, impl_ApplyWrites.v, impl_ApplyWrites.o⟩), (58, ⟨impl_Recovered.A, impl_Recovered.v, impl_Recovered.o⟩), (57, ⟨impl_MemVars.A, impl_MemVars.v, impl_MemVars.o⟩), (127, ⟨impl_VarsOk.A, impl_VarsOk.v, impl_VarsOk.o⟩), (186, ⟨impl_operand.A, impl_operand.v, impl_operand.o⟩), (220, ⟨impl_Saturate.A, impl_Saturate.v, impl_Saturate.o⟩), (187, ⟨impl_AddValues.A, impl_AddValues.v, impl_AddValues.o⟩), (188, ⟨impl_SubValues.A, impl_SubValues.v, impl_SubValues.o⟩), (189, ⟨impl_MulValues.A, impl_MulValues.v, impl_MulValues.o⟩), (190, ⟨impl_bit.A, impl_bit.v, impl_bit.o⟩), (128, ⟨impl_EvalExpr.A, impl_EvalExpr.v, impl_EvalExpr.o⟩), (56, ⟨impl_Migrate.A, impl_Migrate.v, impl_Migrate.o⟩), (18, ⟨impl_MigrateMem.A, impl_MigrateMem.v, impl_MigrateMem.o⟩), (19, ⟨laws_eqIntS.A, laws_eqIntS.v, laws_eqIntS.o⟩), (152, ⟨laws_eqExpr.A, laws_eqExpr.v, laws_eqExpr.o⟩), (228, ⟨laws_eqStmt.A, laws_eqStmt.v, laws_eqStmt.o⟩), (206, ⟨laws_eqStmtS.A, laws_eqStmtS.v, laws_eqStmtS.o⟩), (151, ⟨laws_eqTask.A, laws_eqTask.v, laws_eqTask.o⟩), (79, ⟨laws_eqTaskS.A, laws_eqTaskS.v, laws_eqTaskS.o⟩), (20, ⟨laws_eqProgram.A, laws_eqProgram.v, laws_eqProgram.o⟩), (80, ⟨laws_eqExprS.A, laws_eqExprS.v, laws_eqExprS.o⟩), (21, ⟨laws_eqRules.A, laws_eqRules.v, laws_eqRules.o⟩), (153, ⟨laws_markStmtS.A, laws_markStmtS.v, laws_markStmtS.o⟩), (81, ⟨laws_markTaskS.A, laws_markTaskS.v, laws_markTaskS.o⟩), (22, ⟨laws_markProgram.A, laws_markProgram.v, laws_markProgram.o⟩), (23, ⟨laws_markIntS.A, laws_markIntS.v, laws_markIntS.o⟩), (82, ⟨laws_markExprS.A, laws_markExprS.v, laws_markExprS.o⟩), (24, ⟨laws_markRules.A, laws_markRules.v, laws_markRules.o⟩), (25, ⟨laws_heldIntS.A, laws_heldIntS.v, laws_heldIntS.o⟩), (3, ⟨laws_FnExactMigrateMem.A, laws_FnExactMigrateMem.v, laws_FnExactMigrateMem.o⟩)]
def ntTab : List (Nat × Nat) := [(195, 12), (136, 12), (65, 27), (12, 12), (66, 12), (13, 12), (147, 14), (227, 18), (203, 23), (146, 13), (74, 23), (15, 9), (16, 22), (75, 23), (17, 9), (244, 37), (139, 15), (197, 5), (141, 16), (225, 43), (196, 41), (137, 33), (73, 27), (72, 30), (140, 5), (138, 16), (67, 72), (68, 22), (142, 60), (143, 45), (69, 11), (71, 11), (144, 19), (198, 13), (245, 21), (226, 5), (199, 11), (200, 11), (201, 11), (202, 4), (145, 52), (70, 33), (14, 58), (105, 15), (255, 9), (109, 5), (256, 13), (205, 5), (150, 16), (253, 5), (241, 65), (242, 9), (218, 39), (178, 11), (177, 6), (217, 19), (176, 9), (107, 13), (110, 5), (179, 6), (184, 19), (124, 9), (108, 6), (78, 27), (77, 28), (41, 72), (149, 6), (204, 19), (148, 9), (76, 13), (129, 57), (112, 8), (182, 16), (130, 37), (58, 11), (57, 9), (127, 10), (186, 13), (220, 5), (187, 11), (188, 11), (189, 11), (190, 4), (128, 60), (56, 33), (18, 48), (19, 26), (152, 20), (228, 26), (206, 27), (151, 17), (79, 27), (20, 11), (80, 27), (21, 11), (153, 58), (81, 44), (22, 10), (23, 19), (82, 34), (24, 10), (25, 21), (3, 140)]
def modeTab : List (Nat × YtobfemcobakeoaaGreatEv.Mode) := [(153, .edit), (81, .edit), (22, .edit), (23, .edit), (82, .edit), (24, .edit)]
def PL : Plan C := ⟨fun f => lookup f retTab, fun f => (lookup f ntTab).getD 0, fun f => (lookup f modeTab).getD YtobfemcobakeoaaGreatEv.Mode.read, [], [], []⟩
end
end Go.Proofs.YtobfemcobakeoaaGreat.Ev
