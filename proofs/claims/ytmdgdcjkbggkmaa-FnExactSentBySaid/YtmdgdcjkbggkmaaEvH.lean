/- The program's types for the evaluator, looked up, and the table of calls. No conditions. -/
import Derived.Test.YtmdgdcjkbggkmaaLibC
import Derived.WalkKit
import Derived.Test.YtmdgdcjkbggkmaaProg
namespace Go.Proofs.Ytmdgdcjkbggkmaa.Ev
open Go.Proofs.YtmdgdcjkbggkmaaEv Go.RowKit
set_option linter.unusedVariables false
set_option maxRecDepth 100000
noncomputable section
structure S83 where
 f0 : Int
 f1 : Int
 f2 : Int
def z83 : S83 := ⟨(0 : Int), (0 : Int), (0 : Int)⟩
structure S125 where
 f0 : Int
 f1 : Int
 f2 : Int
 f3 : S83
def z125 : S125 := ⟨(0 : Int), (0 : Int), (0 : Int), z83⟩
structure S85 where
 f0 : List S125
 f1 : S83
def z85 : S85 := ⟨([] : List S125), z83⟩
structure S113 where
 f0 : Int
 f1 : Int
 f2 : Int
 f3 : S83
def z113 : S113 := ⟨(0 : Int), (0 : Int), (0 : Int), z83⟩
structure S90 where
 f0 : List S113
 f1 : S83
def z90 : S90 := ⟨([] : List S113), z83⟩
structure S23 where
 f0 : List S85
def z23 : S23 := ⟨([] : List S85)⟩
structure S26 where
 f0 : Int
 f1 : Int
 f2 : Int
 f3 : Int
def z26 : S26 := ⟨(0 : Int), (0 : Int), (0 : Int), (0 : Int)⟩
structure S33 where
 f0 : Int
 f1 : Int
def z33 : S33 := ⟨(0 : Int), (0 : Int)⟩
structure S35 where
 f0 : List Int
def z35 : S35 := ⟨([] : List Int)⟩
structure S55 where
 f0 : Int
 f1 : S35
def z55 : S55 := ⟨(0 : Int), z35⟩
structure S57 where
 f0 : S23
 f1 : List Int
 f2 : List Int
 f3 : Int
 f4 : S26
 f5 : S33
 f6 : S55
 f7 : Int
def z57 : S57 := ⟨z23, ([] : List Int), ([] : List Int), (0 : Int), z26, z33, z55, (0 : Int)⟩
abbrev wr (n : Int) : Int := IntKind.wrap .i64 n
abbrev rdI (xs : List Int) (i : Int) : Int := xs.getD i.toNat (0 : Int)
abbrev rdS125 (xs : List S125) (i : Int) : S125 := xs.getD i.toNat z125
abbrev rdS85 (xs : List S85) (i : Int) : S85 := xs.getD i.toNat z85
abbrev rdS113 (xs : List S113) (i : Int) : S113 := xs.getD i.toNat z113
abbrev rdS90 (xs : List S90) (i : Int) : S90 := xs.getD i.toNat z90
def elTab : List (Nat × (Σ T : Type, T)) := [
 (3, ⟨Int, (0 : Int)⟩),
 (126, ⟨S125, z125⟩),
 (86, ⟨S85, z85⟩),
 (114, ⟨S113, z113⟩),
 (91, ⟨S90, z90⟩)]
def U : Uni := ⟨fun e => (elAt elTab e).1, fun e => (elAt elTab e).2⟩
def elE : List (Σ e, ElE U e) := [
 ⟨3, ⟨fun (x : Int) => .int .i64 x, fun v => (match v with | .int .i64 y1 => some (y1 : Int) | _ => none : Option Int)⟩⟩,
 ⟨126, ⟨fun (x : S125) => .agg [.int .i64 x.f0, .int .i64 x.f1, .int .i64 x.f2, .int .i64 x.f3.f0, .int .i64 x.f3.f1, .int .i64 x.f3.f2], fun v => (match v with | .agg [.int .i64 y1, .int .i64 y2, .int .i64 y3, .int .i64 y4, .int .i64 y5, .int .i64 y6] => some ((⟨y1, y2, y3, (⟨y4, y5, y6⟩ : S83)⟩ : S125) : S125) | _ => none : Option S125)⟩⟩,
 ⟨86, ⟨fun (x : S85) => .agg [.sl 126 x.f0, .int .i64 x.f1.f0, .int .i64 x.f1.f1, .int .i64 x.f1.f2], fun v => (match v with | .agg [.sl 126 y1, .int .i64 y2, .int .i64 y3, .int .i64 y4] => some ((⟨y1, (⟨y2, y3, y4⟩ : S83)⟩ : S85) : S85) | _ => none : Option S85)⟩⟩,
 ⟨114, ⟨fun (x : S113) => .agg [.int .i64 x.f0, .int .i64 x.f1, .int .i64 x.f2, .int .i64 x.f3.f0, .int .i64 x.f3.f1, .int .i64 x.f3.f2], fun v => (match v with | .agg [.int .i64 y1, .int .i64 y2, .int .i64 y3, .int .i64 y4, .int .i64 y5, .int .i64 y6] => some ((⟨y1, y2, y3, (⟨y4, y5, y6⟩ : S83)⟩ : S113) : S113) | _ => none : Option S113)⟩⟩,
 ⟨91, ⟨fun (x : S90) => .agg [.sl 114 x.f0, .int .i64 x.f1.f0, .int .i64 x.f1.f1, .int .i64 x.f1.f2], fun v => (match v with | .agg [.sl 114 y1, .int .i64 y2, .int .i64 y3, .int .i64 y4] => some ((⟨y1, (⟨y2, y3, y4⟩ : S83)⟩ : S90) : S90) | _ => none : Option S90)⟩⟩]
def tyTab : List (Nat × Ty U) := [
 (3, .int .i64),
 (4, .bool),
 (22, .slice 86),
 (24, .struct [(0, 22)] [.own true 86 ([] : List S85)]),
 (25, .slice 3),
 (27, .struct [(0, 3), (1, 3), (2, 3), (3, 3)] [.int .i64 (0 : Int), .int .i64 (0 : Int), .int .i64 (0 : Int), .int .i64 (0 : Int)]),
 (29, .slice 91),
 (31, .struct [(0, 29)] [.own true 91 ([] : List S90)]),
 (32, .struct [(0, 3), (1, 3), (2, 3), (3, 3)] [.int .i64 (0 : Int), .int .i64 (0 : Int), .int .i64 (0 : Int), .int .i64 (0 : Int)]),
 (34, .struct [(0, 3), (1, 3)] [.int .i64 (0 : Int), .int .i64 (0 : Int)]),
 (36, .struct [(0, 25)] [.own true 3 ([] : List Int)]),
 (38, .struct [(0, 3), (1, 36)] [.int .i64 (0 : Int), .own true 3 ([] : List Int)]),
 (40, .struct [(0, 31), (1, 25), (2, 25), (3, 3), (4, 32), (8, 34), (10, 38), (12, 3)] [.own true 91 ([] : List S90), .own true 3 ([] : List Int), .own true 3 ([] : List Int), .int .i64 (0 : Int), .int .i64 (0 : Int), .int .i64 (0 : Int), .int .i64 (0 : Int), .int .i64 (0 : Int), .int .i64 (0 : Int), .int .i64 (0 : Int), .int .i64 (0 : Int), .own true 3 ([] : List Int), .int .i64 (0 : Int)]),
 (53, .struct [(0, 3), (1, 3)] [.int .i64 (0 : Int), .int .i64 (0 : Int)]),
 (54, .struct [(0, 25)] [.own true 3 ([] : List Int)]),
 (56, .struct [(0, 3), (1, 54)] [.int .i64 (0 : Int), .own true 3 ([] : List Int)]),
 (58, .struct [(0, 24), (1, 25), (2, 25), (3, 3), (4, 27), (8, 53), (10, 56), (12, 3)] [.own true 86 ([] : List S85), .own true 3 ([] : List Int), .own true 3 ([] : List Int), .int .i64 (0 : Int), .int .i64 (0 : Int), .int .i64 (0 : Int), .int .i64 (0 : Int), .int .i64 (0 : Int), .int .i64 (0 : Int), .int .i64 (0 : Int), .int .i64 (0 : Int), .own true 3 ([] : List Int), .int .i64 (0 : Int)]),
 (82, .slice 126),
 (84, .struct [(0, 3), (1, 3), (2, 3)] [.int .i64 (0 : Int), .int .i64 (0 : Int), .int .i64 (0 : Int)]),
 (86, .struct [(0, 82), (1, 84)] [.own true 126 ([] : List S125), .int .i64 (0 : Int), .int .i64 (0 : Int), .int .i64 (0 : Int)]),
 (88, .slice 114),
 (89, .struct [(0, 3), (1, 3), (2, 3)] [.int .i64 (0 : Int), .int .i64 (0 : Int), .int .i64 (0 : Int)]),
 (91, .struct [(0, 88), (1, 89)] [.own true 114 ([] : List S113), .int .i64 (0 : Int), .int .i64 (0 : Int), .int .i64 (0 : Int)]),
 (114, .struct [(0, 3), (1, 3), (2, 3), (3, 89)] [.int .i64 (0 : Int), .int .i64 (0 : Int), .int .i64 (0 : Int), .int .i64 (0 : Int), .int .i64 (0 : Int), .int .i64 (0 : Int)]),
 (126, .struct [(0, 3), (1, 3), (2, 3), (3, 84)] [.int .i64 (0 : Int), .int .i64 (0 : Int), .int .i64 (0 : Int), .int .i64 (0 : Int), .int .i64 (0 : Int), .int .i64 (0 : Int)])]
def bytesTab : List (Nat × Nat) := [(3, 8), (126, 48), (86, 48), (114, 48), (91, 48)]
def eqTab : List (Nat × Nat) := [(89, 3), (114, 6)]
def C : Ctx := ⟨U, fun e => (sel (noEl U) elE e).enc, fun e => (sel (noEl U) elE e).dec, fun t => lookup t tyTab, fun e => (lookup e bytesTab).getD 0, fun t => lookup t eqTab⟩
theorem elOk : AllL (fun p : Σ e, ElE U e => ElOk p.1 p.2) elE := ⟨⟨fun _ => rfl, fun _ => rfl, fun _ => rfl, fun v y h => by dsimp only at h; split at h <;> first | (cases h; rfl) | cases h⟩,
 ⟨fun _ => rfl, fun _ => rfl, fun _ => rfl, fun v y h => by dsimp only at h; split at h <;> first | (cases h; rfl) | cases h⟩,
 ⟨fun _ => rfl, fun _ => rfl, fun _ => rfl, fun v y h => by dsimp only at h; split at h <;> first | (cases h; rfl) | cases h⟩,
 ⟨fun _ => rfl, fun _ => rfl, fun _ => rfl, fun v y h => by dsimp only at h; split at h <;> first | (cases h; rfl) | cases h⟩,
 ⟨fun _ => rfl, fun _ => rfl, fun _ => rfl, fun v y h => by dsimp only at h; split at h <;> first | (cases h; rfl) | cases h⟩, trivial⟩
theorem tyOk : AllL (fun p : Nat × Ty U => TyOk Try.prog C p.1 p.2) tyTab := ⟨tyOk_int (by kernel_rfl) (by kernel_rfl),
 tyOk_bool (by kernel_rfl) (by kernel_rfl),
 tyOk_slice (by kernel_rfl) (by kernel_rfl),
 tyOk_struct #[.slice none 0 0] (by kernel_rfl) (by kernel_rfl) (by kernel_rfl) (by kernel_rfl) (by kernel_rfl),
 tyOk_slice (by kernel_rfl) (by kernel_rfl),
 tyOk_struct #[.int .i64 0, .int .i64 0, .int .i64 0, .int .i64 0] (by kernel_rfl) (by kernel_rfl) (by kernel_rfl) (by kernel_rfl) (by kernel_rfl),
 tyOk_slice (by kernel_rfl) (by kernel_rfl),
 tyOk_struct #[.slice none 0 0] (by kernel_rfl) (by kernel_rfl) (by kernel_rfl) (by kernel_rfl) (by kernel_rfl),
 tyOk_struct #[.int .i64 0, .int .i64 0, .int .i64 0, .int .i64 0] (by kernel_rfl) (by kernel_rfl) (by kernel_rfl) (by kernel_rfl) (by kernel_rfl),
 tyOk_struct #[.int .i64 0, .int .i64 0] (by kernel_rfl) (by kernel_rfl) (by kernel_rfl) (by kernel_rfl) (by kernel_rfl),
 tyOk_struct #[.slice none 0 0] (by kernel_rfl) (by kernel_rfl) (by kernel_rfl) (by kernel_rfl) (by kernel_rfl),
 tyOk_struct #[.int .i64 0, .slice none 0 0] (by kernel_rfl) (by kernel_rfl) (by kernel_rfl) (by kernel_rfl) (by kernel_rfl),
 tyOk_struct #[.slice none 0 0, .slice none 0 0, .slice none 0 0, .int .i64 0, .int .i64 0, .int .i64 0, .int .i64 0, .int .i64 0, .int .i64 0, .int .i64 0, .int .i64 0, .slice none 0 0, .int .i64 0] (by kernel_rfl) (by kernel_rfl) (by kernel_rfl) (by kernel_rfl) (by kernel_rfl),
 tyOk_struct #[.int .i64 0, .int .i64 0] (by kernel_rfl) (by kernel_rfl) (by kernel_rfl) (by kernel_rfl) (by kernel_rfl),
 tyOk_struct #[.slice none 0 0] (by kernel_rfl) (by kernel_rfl) (by kernel_rfl) (by kernel_rfl) (by kernel_rfl),
 tyOk_struct #[.int .i64 0, .slice none 0 0] (by kernel_rfl) (by kernel_rfl) (by kernel_rfl) (by kernel_rfl) (by kernel_rfl),
 tyOk_struct #[.slice none 0 0, .slice none 0 0, .slice none 0 0, .int .i64 0, .int .i64 0, .int .i64 0, .int .i64 0, .int .i64 0, .int .i64 0, .int .i64 0, .int .i64 0, .slice none 0 0, .int .i64 0] (by kernel_rfl) (by kernel_rfl) (by kernel_rfl) (by kernel_rfl) (by kernel_rfl),
 tyOk_slice (by kernel_rfl) (by kernel_rfl),
 tyOk_struct #[.int .i64 0, .int .i64 0, .int .i64 0] (by kernel_rfl) (by kernel_rfl) (by kernel_rfl) (by kernel_rfl) (by kernel_rfl),
 tyOk_struct #[.slice none 0 0, .int .i64 0, .int .i64 0, .int .i64 0] (by kernel_rfl) (by kernel_rfl) (by kernel_rfl) (by kernel_rfl) (by kernel_rfl),
 tyOk_slice (by kernel_rfl) (by kernel_rfl),
 tyOk_struct #[.int .i64 0, .int .i64 0, .int .i64 0] (by kernel_rfl) (by kernel_rfl) (by kernel_rfl) (by kernel_rfl) (by kernel_rfl),
 tyOk_struct #[.slice none 0 0, .int .i64 0, .int .i64 0, .int .i64 0] (by kernel_rfl) (by kernel_rfl) (by kernel_rfl) (by kernel_rfl) (by kernel_rfl),
 tyOk_struct #[.int .i64 0, .int .i64 0, .int .i64 0, .int .i64 0, .int .i64 0, .int .i64 0] (by kernel_rfl) (by kernel_rfl) (by kernel_rfl) (by kernel_rfl) (by kernel_rfl),
 tyOk_struct #[.int .i64 0, .int .i64 0, .int .i64 0, .int .i64 0, .int .i64 0, .int .i64 0] (by kernel_rfl) (by kernel_rfl) (by kernel_rfl) (by kernel_rfl) (by kernel_rfl), trivial⟩
theorem sl3 : SliceOk Try.prog C 3 := sliceOk_of (.int .i64 0) 1 8 (fun x T h ha => by have h' : (some (.int .i64) : Option (Ty U)) = some T := h; cases h'; cases ha) (by kernel_rfl) (by kernel_rfl) (by kernel_rfl) (by decide) (by decide) (by kernel_rfl)
theorem sl86 : SliceOk Try.prog C 86 := sliceOk_of (.agg #[.slice none 0 0, .int .i64 0, .int .i64 0, .int .i64 0]) 4 48 (fun x T _ _ => ⟨_, rfl⟩) (by kernel_rfl) (by kernel_rfl) (by kernel_rfl) (by decide) (by decide) (by kernel_rfl)
theorem sl91 : SliceOk Try.prog C 91 := sliceOk_of (.agg #[.slice none 0 0, .int .i64 0, .int .i64 0, .int .i64 0]) 4 48 (fun x T _ _ => ⟨_, rfl⟩) (by kernel_rfl) (by kernel_rfl) (by kernel_rfl) (by decide) (by decide) (by kernel_rfl)
theorem sl114 : SliceOk Try.prog C 114 := sliceOk_of (.agg #[.int .i64 0, .int .i64 0, .int .i64 0, .int .i64 0, .int .i64 0, .int .i64 0]) 6 48 (fun x T _ _ => ⟨_, rfl⟩) (by kernel_rfl) (by kernel_rfl) (by kernel_rfl) (by decide) (by decide) (by kernel_rfl)
theorem sl126 : SliceOk Try.prog C 126 := sliceOk_of (.agg #[.int .i64 0, .int .i64 0, .int .i64 0, .int .i64 0, .int .i64 0, .int .i64 0]) 6 48 (fun x T _ _ => ⟨_, rfl⟩) (by kernel_rfl) (by kernel_rfl) (by kernel_rfl) (by decide) (by decide) (by kernel_rfl)
theorem slOk : AllL (fun p : Nat × Ty U => ∀ e, p.2 = .slice e → SliceOk Try.prog C e) tyTab := ⟨(fun e h => by cases h), (fun e h => by cases h), (fun e h => by cases h; exact sl86), (fun e h => by cases h), (fun e h => by cases h; exact sl3), (fun e h => by cases h), (fun e h => by cases h; exact sl91), (fun e h => by cases h), (fun e h => by cases h), (fun e h => by cases h), (fun e h => by cases h), (fun e h => by cases h), (fun e h => by cases h), (fun e h => by cases h), (fun e h => by cases h), (fun e h => by cases h), (fun e h => by cases h), (fun e h => by cases h; exact sl126), (fun e h => by cases h), (fun e h => by cases h), (fun e h => by cases h; exact sl114), (fun e h => by cases h), (fun e h => by cases h), (fun e h => by cases h), (fun e h => by cases h), trivial⟩
def eqB89 (x0 x1 x2 y0 y1 y2 : Int) : Bool := (x0 == y0) && ((x1 == y1) && ((x2 == y2) && true))
theorem eqA89 (d : Nat) (w : World) (k0 k1 k2 : IntKind) (x0 x1 x2 y0 y1 y2 : Int) : (Op.equalIn (d + 2) 89 (.agg #[.int k0 x0, .int k1 x1, .int k2 x2]) (.agg #[.int k0 y0, .int k1 y1, .int k2 y2])).run Try.prog w = .ok (eqB89 x0 x1 x2 y0 y1 y2) w := by
 refine eq_struct Try.underlying89 (by kernel_rfl) ?_; refine eq_cons (by rfl) (by go_simp; rfl) (by go_simp; rfl) (by go_simp) ?_; refine eq_cons (by rfl) (by go_simp; rfl) (by go_simp; rfl) (by go_simp) ?_; refine eq_cons (by rfl) (by go_simp; rfl) (by go_simp; rfl) (by go_simp) ?_; exact eq_nil
theorem eq89 : EqOk Try.prog 89 3 := fun ps w h => match ps, h with
 | [p0, p1, p2], _ => ⟨by
  have e := eqA89 9998 w p0.1 p1.1 p2.1 p0.2.1 p1.2.1 p2.2.1 p0.2.2 p1.2.2 p2.2.2
  have hb : ∀ a b : Int, (a == b) = decide (a = b) := fun _ _ => rfl
  exact e.trans (by simp [eqB89, List.all, hb]), by kernel_rfl⟩
def eqB114 (x0 x1 x2 x3 x4 x5 y0 y1 y2 y3 y4 y5 : Int) : Bool := (x0 == y0) && ((x1 == y1) && ((x2 == y2) && ((eqB89 x3 x4 x5 y3 y4 y5) && true)))
theorem eqA114 (d : Nat) (w : World) (k0 k1 k2 k3 k4 k5 : IntKind) (x0 x1 x2 x3 x4 x5 y0 y1 y2 y3 y4 y5 : Int) : (Op.equalIn (d + 3) 114 (.agg #[.int k0 x0, .int k1 x1, .int k2 x2, .int k3 x3, .int k4 x4, .int k5 x5]) (.agg #[.int k0 y0, .int k1 y1, .int k2 y2, .int k3 y3, .int k4 y4, .int k5 y5])).run Try.prog w = .ok (eqB114 x0 x1 x2 x3 x4 x5 y0 y1 y2 y3 y4 y5) w := by
 refine eq_struct Try.underlying114 (by kernel_rfl) ?_; refine eq_cons (by rfl) (by go_simp; rfl) (by go_simp; rfl) (by go_simp) ?_; refine eq_cons (by rfl) (by go_simp; rfl) (by go_simp; rfl) (by go_simp) ?_; refine eq_cons (by rfl) (by go_simp; rfl) (by go_simp; rfl) (by go_simp) ?_; refine eq_cons (a := .agg #[.int k3 x3, .int k4 x4, .int k5 x5]) (b := .agg #[.int k3 y3, .int k4 y4, .int k5 y5]) (by rfl) (by go_simp) (by go_simp) (eqA89 d w k3 k4 k5 x3 x4 x5 y3 y4 y5) ?_; exact eq_nil
theorem eq114 : EqOk Try.prog 114 6 := fun ps w h => match ps, h with
 | [p0, p1, p2, p3, p4, p5], _ => ⟨by
  have e := eqA114 9997 w p0.1 p1.1 p2.1 p3.1 p4.1 p5.1 p0.2.1 p1.2.1 p2.2.1 p3.2.1 p4.2.1 p5.2.1 p0.2.2 p1.2.2 p2.2.2 p3.2.2 p4.2.2 p5.2.2
  have hb : ∀ a b : Int, (a == b) = decide (a = b) := fun _ _ => rfl
  exact e.trans (by simp [eqB89, eqB114, List.all, hb]), by kernel_rfl⟩
theorem eqOk : AllL (fun p : Nat × Nat => EqOk Try.prog p.1 p.2) eqTab := ⟨eq89, eq114, trivial⟩
theorem G : YtmdgdcjkbggkmaaEv.Good Try.prog C := good_of (U := U) (tab := elE) (tyTab := tyTab) (bytesTab := bytesTab) (eqTab := eqTab) rfl elOk tyOk (fun t e h => slOk.mem _ (lookup_mem h) e rfl) eqOk
theorem mixed : Try.prog.follows .mixedOrders = true := by kernel_rfl
abbrev laws_szStmtS.A := Int
def laws_szStmtS.v : laws_szStmtS.A → PV U := fun r => .int .i64 r
def laws_szStmtS.o : laws_szStmtS.A → List (PV U) := fun r => []
abbrev laws_szTask.A := Int
def laws_szTask.v : laws_szTask.A → PV U := fun r => .int .i64 r
def laws_szTask.o : laws_szTask.A → List (PV U) := fun r => []
abbrev laws_szTaskS.A := Int
def laws_szTaskS.v : laws_szTaskS.A → PV U := fun r => .int .i64 r
def laws_szTaskS.o : laws_szTaskS.A → List (PV U) := fun r => []
abbrev laws_szProgram.A := Int
def laws_szProgram.v : laws_szProgram.A → PV U := fun r => .int .i64 r
def laws_szProgram.o : laws_szProgram.A → List (PV U) := fun r => []
abbrev laws_toExpr.A := Int × Int × Int
def laws_toExpr.v : laws_toExpr.A → PV U := fun r => .agg [.int .i64 r.1, .int .i64 r.2.1, .int .i64 r.2.2]
def laws_toExpr.o : laws_toExpr.A → List (PV U) := fun r => []
abbrev laws_toStmt.A := Int × Int × Int × Int × Int × Int
def laws_toStmt.v : laws_toStmt.A → PV U := fun r => .agg [.int .i64 r.1, .int .i64 r.2.1, .int .i64 r.2.2.1, .int .i64 r.2.2.2.1, .int .i64 r.2.2.2.2.1, .int .i64 r.2.2.2.2.2]
def laws_toStmt.o : laws_toStmt.A → List (PV U) := fun r => []
abbrev laws_toStmtS.A := (List S113)
def laws_toStmtS.v : laws_toStmtS.A → PV U := fun r => .own true 114 r
def laws_toStmtS.o : laws_toStmtS.A → List (PV U) := fun r => []
abbrev laws_toTask.A := (List S113) × Int × Int × Int
def laws_toTask.v : laws_toTask.A → PV U := fun r => .agg [.own true 114 r.1, .int .i64 r.2.1, .int .i64 r.2.2.1, .int .i64 r.2.2.2]
def laws_toTask.o : laws_toTask.A → List (PV U) := fun r => []
abbrev laws_toTaskS.A := (List S90)
def laws_toTaskS.v : laws_toTaskS.A → PV U := fun r => .own true 91 r
def laws_toTaskS.o : laws_toTaskS.A → List (PV U) := fun r => []
abbrev laws_toProgram.A := (List S90)
def laws_toProgram.v : laws_toProgram.A → PV U := fun r => .agg [.own true 91 r]
def laws_toProgram.o : laws_toProgram.A → List (PV U) := fun r => []
abbrev laws_toIntS.A := (List Int)
def laws_toIntS.v : laws_toIntS.A → PV U := fun r => .own true 3 r
def laws_toIntS.o : laws_toIntS.A → List (PV U) := fun r => []
abbrev laws_toStore.A := Int × Int × Int × Int
def laws_toStore.v : laws_toStore.A → PV U := fun r => .agg [.int .i64 r.1, .int .i64 r.2.1, .int .i64 r.2.2.1, .int .i64 r.2.2.2]
def laws_toStore.o : laws_toStore.A → List (PV U) := fun r => []
abbrev spec_l01In.A := Bool
def spec_l01In.v : spec_l01In.A → PV U := fun r => .bool r
def spec_l01In.o : spec_l01In.A → List (PV U) := fun r => []
abbrev spec_IsValue.A := Bool
def spec_IsValue.v : spec_IsValue.A → PV U := fun r => .bool r
def spec_IsValue.o : spec_IsValue.A → List (PV U) := fun r => []
abbrev spec_VarsOk.A := Bool
def spec_VarsOk.v : spec_VarsOk.A → PV U := fun r => .bool r
def spec_VarsOk.o : spec_VarsOk.A → List (PV U) := fun r => []
abbrev spec_MemNew.A := (List Int) × Bool
def spec_MemNew.v : spec_MemNew.A → PV U := fun r => .tup [.own true 3 r.1, .bool r.2]
def spec_MemNew.o : spec_MemNew.A → List (PV U) := fun r => []
abbrev spec_l04Plain.A := Int × Int × Int × Int × Int × Int
def spec_l04Plain.v : spec_l04Plain.A → PV U := fun r => .agg [.int .i64 r.1, .int .i64 r.2.1, .int .i64 r.2.2.1, .int .i64 r.2.2.2.1, .int .i64 r.2.2.2.2.1, .int .i64 r.2.2.2.2.2]
def spec_l04Plain.o : spec_l04Plain.A → List (PV U) := fun r => []
abbrev spec_OperandOk.A := Bool
def spec_OperandOk.v : spec_OperandOk.A → PV U := fun r => .bool r
def spec_OperandOk.o : spec_OperandOk.A → List (PV U) := fun r => []
abbrev spec_ExprOk.A := Bool
def spec_ExprOk.v : spec_ExprOk.A → PV U := fun r => .bool r
def spec_ExprOk.o : spec_ExprOk.A → List (PV U) := fun r => []
abbrev spec_StmtOk.A := Bool
def spec_StmtOk.v : spec_StmtOk.A → PV U := fun r => .bool r
def spec_StmtOk.o : spec_StmtOk.A → List (PV U) := fun r => []
abbrev spec_BlockOk.A := Bool
def spec_BlockOk.v : spec_BlockOk.A → PV U := fun r => .bool r
def spec_BlockOk.o : spec_BlockOk.A → List (PV U) := fun r => []
abbrev spec_ProgramOk.A := Bool
def spec_ProgramOk.v : spec_ProgramOk.A → PV U := fun r => .bool r
def spec_ProgramOk.o : spec_ProgramOk.A → List (PV U) := fun r => []
abbrev spec_StoreOk.A := Bool
def spec_StoreOk.v : spec_StoreOk.A → PV U := fun r => .bool r
def spec_StoreOk.o : spec_StoreOk.A → List (PV U) := fun r => []
abbrev spec_l09Values.A := Bool
def spec_l09Values.v : spec_l09Values.A → PV U := fun r => .bool r
def spec_l09Values.o : spec_l09Values.A → List (PV U) := fun r => []
abbrev spec_l06Copy.A := (List S90)
def spec_l06Copy.v : spec_l06Copy.A → PV U := fun r => .agg [.own true 91 r]
def spec_l06Copy.o : spec_l06Copy.A → List (PV U) := fun r => []
abbrev spec_NodeNew.A := (List S90) × (List Int) × (List Int) × Int × Int × Int × Int × Int × Int × Int × Int × (List Int) × Int × Bool
def spec_NodeNew.v : spec_NodeNew.A → PV U := fun r => .tup [.agg [.own true 91 r.1, .own true 3 r.2.1, .own true 3 r.2.2.1, .int .i64 r.2.2.2.1, .int .i64 r.2.2.2.2.1, .int .i64 r.2.2.2.2.2.1, .int .i64 r.2.2.2.2.2.2.1, .int .i64 r.2.2.2.2.2.2.2.1, .int .i64 r.2.2.2.2.2.2.2.2.1, .int .i64 r.2.2.2.2.2.2.2.2.2.1, .int .i64 r.2.2.2.2.2.2.2.2.2.2.1, .own true 3 r.2.2.2.2.2.2.2.2.2.2.2.1, .int .i64 r.2.2.2.2.2.2.2.2.2.2.2.2.1], .bool r.2.2.2.2.2.2.2.2.2.2.2.2.2]
def spec_NodeNew.o : spec_NodeNew.A → List (PV U) := fun r => []
abbrev impl_within.A := Bool
def impl_within.v : impl_within.A → PV U := fun r => .bool r
def impl_within.o : impl_within.A → List (PV U) := fun r => []
abbrev impl_IsValue.A := Bool
def impl_IsValue.v : impl_IsValue.A → PV U := fun r => .bool r
def impl_IsValue.o : impl_IsValue.A → List (PV U) := fun r => []
abbrev impl_areValues_1.A := Bool
def impl_areValues_1.v : impl_areValues_1.A → PV U := fun r => .bool r
def impl_areValues_1.o : impl_areValues_1.A → List (PV U) := fun r => []
abbrev slices_IndexFunc_int_areValues_1.A := Int
def slices_IndexFunc_int_areValues_1.v : slices_IndexFunc_int_areValues_1.A → PV U := fun r => .int .i64 r
def slices_IndexFunc_int_areValues_1.o : slices_IndexFunc_int_areValues_1.A → List (PV U) := fun r => []
abbrev slices_ContainsFunc_int_areValues_1.A := Bool
def slices_ContainsFunc_int_areValues_1.v : slices_ContainsFunc_int_areValues_1.A → PV U := fun r => .bool r
def slices_ContainsFunc_int_areValues_1.o : slices_ContainsFunc_int_areValues_1.A → List (PV U) := fun r => []
abbrev impl_areValues.A := Bool
def impl_areValues.v : impl_areValues.A → PV U := fun r => .bool r
def impl_areValues.o : impl_areValues.A → List (PV U) := fun r => []
abbrev impl_VarsOk.A := Bool
def impl_VarsOk.v : impl_VarsOk.A → PV U := fun r => .bool r
def impl_VarsOk.o : impl_VarsOk.A → List (PV U) := fun r => []
abbrev slices_Clone_int.A := (List Int)
def slices_Clone_int.v : slices_Clone_int.A → PV U := fun r => .own true 3 r
def slices_Clone_int.o : slices_Clone_int.A → List (PV U) := fun r => []
abbrev impl_MemNew.A := (List Int) × Bool
def impl_MemNew.v : impl_MemNew.A → PV U := fun r => .tup [.own true 3 r.1, .bool r.2]
def impl_MemNew.o : impl_MemNew.A → List (PV U) := fun r => []
abbrev impl_hasVar.A := Bool
def impl_hasVar.v : impl_hasVar.A → PV U := fun r => .bool r
def impl_hasVar.o : impl_hasVar.A → List (PV U) := fun r => []
abbrev impl_isVar.A := Bool
def impl_isVar.v : impl_isVar.A → PV U := fun r => .bool r
def impl_isVar.o : impl_isVar.A → List (PV U) := fun r => []
abbrev impl_hasExpr.A := Bool
def impl_hasExpr.v : impl_hasExpr.A → PV U := fun r => .bool r
def impl_hasExpr.o : impl_hasExpr.A → List (PV U) := fun r => []
abbrev impl_OperandOk.A := Bool
def impl_OperandOk.v : impl_OperandOk.A → PV U := fun r => .bool r
def impl_OperandOk.o : impl_OperandOk.A → List (PV U) := fun r => []
abbrev impl_ExprOk.A := Bool
def impl_ExprOk.v : impl_ExprOk.A → PV U := fun r => .bool r
def impl_ExprOk.o : impl_ExprOk.A → List (PV U) := fun r => []
abbrev impl_isSensor.A := Bool
def impl_isSensor.v : impl_isSensor.A → PV U := fun r => .bool r
def impl_isSensor.o : impl_isSensor.A → List (PV U) := fun r => []
abbrev impl_StmtOk.A := Bool
def impl_StmtOk.v : impl_StmtOk.A → PV U := fun r => .bool r
def impl_StmtOk.o : impl_StmtOk.A → List (PV U) := fun r => []
abbrev impl_isOpening.A := Bool
def impl_isOpening.v : impl_isOpening.A → PV U := fun r => .bool r
def impl_isOpening.o : impl_isOpening.A → List (PV U) := fun r => []
abbrev impl_BlockOk.A := Bool
def impl_BlockOk.v : impl_BlockOk.A → PV U := fun r => .bool r
def impl_BlockOk.o : impl_BlockOk.A → List (PV U) := fun r => []
abbrev impl_taskOk.A := Bool
def impl_taskOk.v : impl_taskOk.A → PV U := fun r => .bool r
def impl_taskOk.o : impl_taskOk.A → List (PV U) := fun r => []
abbrev impl_ProgramOk_1.A := Bool
def impl_ProgramOk_1.v : impl_ProgramOk_1.A → PV U := fun r => .bool r
def impl_ProgramOk_1.o : impl_ProgramOk_1.A → List (PV U) := fun r => []
abbrev slices_IndexFunc_impl_Task_ProgramOk_1.A := Int
def slices_IndexFunc_impl_Task_ProgramOk_1.v : slices_IndexFunc_impl_Task_ProgramOk_1.A → PV U := fun r => .int .i64 r
def slices_IndexFunc_impl_Task_ProgramOk_1.o : slices_IndexFunc_impl_Task_ProgramOk_1.A → List (PV U) := fun r => []
abbrev slices_ContainsFunc_impl_Task_ProgramOk_1.A := Bool
def slices_ContainsFunc_impl_Task_ProgramOk_1.v : slices_ContainsFunc_impl_Task_ProgramOk_1.A → PV U := fun r => .bool r
def slices_ContainsFunc_impl_Task_ProgramOk_1.o : slices_ContainsFunc_impl_Task_ProgramOk_1.A → List (PV U) := fun r => []
abbrev impl_ProgramOk.A := Bool
def impl_ProgramOk.v : impl_ProgramOk.A → PV U := fun r => .bool r
def impl_ProgramOk.o : impl_ProgramOk.A → List (PV U) := fun r => []
abbrev impl_StoreOk.A := Bool
def impl_StoreOk.v : impl_StoreOk.A → PV U := fun r => .bool r
def impl_StoreOk.o : impl_StoreOk.A → List (PV U) := fun r => []
abbrev slices_Clone_impl_Stmt.A := (List S113)
def slices_Clone_impl_Stmt.v : slices_Clone_impl_Stmt.A → PV U := fun r => .own true 114 r
def slices_Clone_impl_Stmt.o : slices_Clone_impl_Stmt.A → List (PV U) := fun r => []
abbrev impl_copyTask.A := (List S113) × Int × Int × Int
def impl_copyTask.v : impl_copyTask.A → PV U := fun r => .agg [.own true 114 r.1, .int .i64 r.2.1, .int .i64 r.2.2.1, .int .i64 r.2.2.2]
def impl_copyTask.o : impl_copyTask.A → List (PV U) := fun r => []
abbrev impl_copyProgram.A := (List S90)
def impl_copyProgram.v : impl_copyProgram.A → PV U := fun r => .agg [.own true 91 r]
def impl_copyProgram.o : impl_copyProgram.A → List (PV U) := fun r => []
abbrev impl_NodeNew.A := (List S90) × (List Int) × (List Int) × Int × Int × Int × Int × Int × Int × Int × Int × (List Int) × Int × Bool
def impl_NodeNew.v : impl_NodeNew.A → PV U := fun r => .tup [.agg [.own true 91 r.1, .own true 3 r.2.1, .own true 3 r.2.2.1, .int .i64 r.2.2.2.1, .int .i64 r.2.2.2.2.1, .int .i64 r.2.2.2.2.2.1, .int .i64 r.2.2.2.2.2.2.1, .int .i64 r.2.2.2.2.2.2.2.1, .int .i64 r.2.2.2.2.2.2.2.2.1, .int .i64 r.2.2.2.2.2.2.2.2.2.1, .int .i64 r.2.2.2.2.2.2.2.2.2.2.1, .own true 3 r.2.2.2.2.2.2.2.2.2.2.2.1, .int .i64 r.2.2.2.2.2.2.2.2.2.2.2.2.1], .bool r.2.2.2.2.2.2.2.2.2.2.2.2.2]
def impl_NodeNew.o : impl_NodeNew.A → List (PV U) := fun r => []
abbrev laws_eqExpr.A := Bool
def laws_eqExpr.v : laws_eqExpr.A → PV U := fun r => .bool r
def laws_eqExpr.o : laws_eqExpr.A → List (PV U) := fun r => []
abbrev laws_eqStmt.A := Bool
def laws_eqStmt.v : laws_eqStmt.A → PV U := fun r => .bool r
def laws_eqStmt.o : laws_eqStmt.A → List (PV U) := fun r => []
abbrev laws_eqStmtS.A := Bool
def laws_eqStmtS.v : laws_eqStmtS.A → PV U := fun r => .bool r
def laws_eqStmtS.o : laws_eqStmtS.A → List (PV U) := fun r => []
abbrev laws_eqTask.A := Bool
def laws_eqTask.v : laws_eqTask.A → PV U := fun r => .bool r
def laws_eqTask.o : laws_eqTask.A → List (PV U) := fun r => []
abbrev laws_eqTaskS.A := Bool
def laws_eqTaskS.v : laws_eqTaskS.A → PV U := fun r => .bool r
def laws_eqTaskS.o : laws_eqTaskS.A → List (PV U) := fun r => []
abbrev laws_eqProgram.A := Bool
def laws_eqProgram.v : laws_eqProgram.A → PV U := fun r => .bool r
def laws_eqProgram.o : laws_eqProgram.A → List (PV U) := fun r => []
abbrev laws_eqIntS.A := Bool
def laws_eqIntS.v : laws_eqIntS.A → PV U := fun r => .bool r
def laws_eqIntS.o : laws_eqIntS.A → List (PV U) := fun r => []
abbrev laws_eqStore.A := Bool
def laws_eqStore.v : laws_eqStore.A → PV U := fun r => .bool r
def laws_eqStore.o : laws_eqStore.A → List (PV U) := fun r => []
abbrev laws_eqSpan.A := Bool
def laws_eqSpan.v : laws_eqSpan.A → PV U := fun r => .bool r
def laws_eqSpan.o : laws_eqSpan.A → List (PV U) := fun r => []
abbrev laws_eqGateway.A := Bool
def laws_eqGateway.v : laws_eqGateway.A → PV U := fun r => .bool r
def laws_eqGateway.o : laws_eqGateway.A → List (PV U) := fun r => []
abbrev laws_eqLink.A := Bool
def laws_eqLink.v : laws_eqLink.A → PV U := fun r => .bool r
def laws_eqLink.o : laws_eqLink.A → List (PV U) := fun r => []
abbrev laws_eqNode.A := Bool
def laws_eqNode.v : laws_eqNode.A → PV U := fun r => .bool r
def laws_eqNode.o : laws_eqNode.A → List (PV U) := fun r => []
abbrev laws_markStmtS.A := Int × (List S113)
def laws_markStmtS.v : laws_markStmtS.A → PV U := fun r => .int .i64 r.1
def laws_markStmtS.o : laws_markStmtS.A → List (PV U) := fun r => [.own true 114 r.2]
abbrev laws_markTaskS.A := Int × (List S90)
def laws_markTaskS.v : laws_markTaskS.A → PV U := fun r => .int .i64 r.1
def laws_markTaskS.o : laws_markTaskS.A → List (PV U) := fun r => [.own true 91 r.2]
abbrev laws_markProgram.A := Int × (List S90)
def laws_markProgram.v : laws_markProgram.A → PV U := fun r => .int .i64 r.1
def laws_markProgram.o : laws_markProgram.A → List (PV U) := fun r => [.own true 91 r.2]
abbrev laws_markIntS.A := Int × (List Int)
def laws_markIntS.v : laws_markIntS.A → PV U := fun r => .int .i64 r.1
def laws_markIntS.o : laws_markIntS.A → List (PV U) := fun r => [.own true 3 r.2]
abbrev laws_markGateway.A := Int × (List Int)
def laws_markGateway.v : laws_markGateway.A → PV U := fun r => .int .i64 r.1
def laws_markGateway.o : laws_markGateway.A → List (PV U) := fun r => [.own true 3 r.2]
abbrev laws_markLink.A := Int × (List Int)
def laws_markLink.v : laws_markLink.A → PV U := fun r => .int .i64 r.1
def laws_markLink.o : laws_markLink.A → List (PV U) := fun r => [.own true 3 r.2]
abbrev laws_markNode.A := Int × (List S90) × (List Int) × (List Int) × (List Int)
def laws_markNode.v : laws_markNode.A → PV U := fun r => .int .i64 r.1
def laws_markNode.o : laws_markNode.A → List (PV U) := fun r => [.own true 91 r.2.1, .own true 3 r.2.2.1, .own true 3 r.2.2.2.1, .own true 3 r.2.2.2.2]
abbrev laws_heldStmtS.A := Int
def laws_heldStmtS.v : laws_heldStmtS.A → PV U := fun r => .int .i64 r
def laws_heldStmtS.o : laws_heldStmtS.A → List (PV U) := fun r => []
abbrev laws_heldTaskS.A := Int
def laws_heldTaskS.v : laws_heldTaskS.A → PV U := fun r => .int .i64 r
def laws_heldTaskS.o : laws_heldTaskS.A → List (PV U) := fun r => []
abbrev laws_heldProgram.A := Int
def laws_heldProgram.v : laws_heldProgram.A → PV U := fun r => .int .i64 r
def laws_heldProgram.o : laws_heldProgram.A → List (PV U) := fun r => []
abbrev laws_heldIntS.A := Int
def laws_heldIntS.v : laws_heldIntS.A → PV U := fun r => .int .i64 r
def laws_heldIntS.o : laws_heldIntS.A → List (PV U) := fun r => []
abbrev laws_heldGateway.A := Int
def laws_heldGateway.v : laws_heldGateway.A → PV U := fun r => .int .i64 r
def laws_heldGateway.o : laws_heldGateway.A → List (PV U) := fun r => []
abbrev laws_heldLink.A := Int
def laws_heldLink.v : laws_heldLink.A → PV U := fun r => .int .i64 r
def laws_heldLink.o : laws_heldLink.A → List (PV U) := fun r => []
abbrev laws_heldNode.A := Int
def laws_heldNode.v : laws_heldNode.A → PV U := fun r => .int .i64 r
def laws_heldNode.o : laws_heldNode.A → List (PV U) := fun r => []
abbrev laws_FnExactNodeNew.A := Bool
def laws_FnExactNodeNew.v : laws_FnExactNodeNew.A → PV U := fun r => .bool r
def laws_FnExactNodeNew.o : laws_FnExactNodeNew.A → List (PV U) := fun r => []
abbrev laws_szIntS.A := Int
def laws_szIntS.v : laws_szIntS.A → PV U := fun r => .int .i64 r
def laws_szIntS.o : laws_szIntS.A → List (PV U) := fun r => []
abbrev laws_szGateway.A := Int
def laws_szGateway.v : laws_szGateway.A → PV U := fun r => .int .i64 r
def laws_szGateway.o : laws_szGateway.A → List (PV U) := fun r => []
abbrev laws_szLink.A := Int
def laws_szLink.v : laws_szLink.A → PV U := fun r => .int .i64 r
def laws_szLink.o : laws_szLink.A → List (PV U) := fun r => []
abbrev laws_szNode.A := Int
def laws_szNode.v : laws_szNode.A → PV U := fun r => .int .i64 r
def laws_szNode.o : laws_szNode.A → List (PV U) := fun r => []
abbrev laws_toSpan.A := Int × Int
def laws_toSpan.v : laws_toSpan.A → PV U := fun r => .agg [.int .i64 r.1, .int .i64 r.2]
def laws_toSpan.o : laws_toSpan.A → List (PV U) := fun r => []
abbrev laws_toGateway.A := (List Int)
def laws_toGateway.v : laws_toGateway.A → PV U := fun r => .agg [.own true 3 r]
def laws_toGateway.o : laws_toGateway.A → List (PV U) := fun r => []
abbrev laws_toLink.A := Int × (List Int)
def laws_toLink.v : laws_toLink.A → PV U := fun r => .agg [.int .i64 r.1, .own true 3 r.2]
def laws_toLink.o : laws_toLink.A → List (PV U) := fun r => []
abbrev laws_toNode.A := (List S90) × (List Int) × (List Int) × Int × Int × Int × Int × Int × Int × Int × Int × (List Int) × Int
def laws_toNode.v : laws_toNode.A → PV U := fun r => .agg [.own true 91 r.1, .own true 3 r.2.1, .own true 3 r.2.2.1, .int .i64 r.2.2.2.1, .int .i64 r.2.2.2.2.1, .int .i64 r.2.2.2.2.2.1, .int .i64 r.2.2.2.2.2.2.1, .int .i64 r.2.2.2.2.2.2.2.1, .int .i64 r.2.2.2.2.2.2.2.2.1, .int .i64 r.2.2.2.2.2.2.2.2.2.1, .int .i64 r.2.2.2.2.2.2.2.2.2.2.1, .own true 3 r.2.2.2.2.2.2.2.2.2.2.2.1, .int .i64 r.2.2.2.2.2.2.2.2.2.2.2.2]
def laws_toNode.o : laws_toNode.A → List (PV U) := fun r => []
abbrev spec_PackControl.A := Int
def spec_PackControl.v : spec_PackControl.A → PV U := fun r => .int .i64 r
def spec_PackControl.o : spec_PackControl.A → List (PV U) := fun r => []
abbrev spec_UnpackControl.A := Int × Int × Int
def spec_UnpackControl.v : spec_UnpackControl.A → PV U := fun r => .tup [.int .i64 r.1, .int .i64 r.2.1, .int .i64 r.2.2]
def spec_UnpackControl.o : spec_UnpackControl.A → List (PV U) := fun r => []
abbrev spec_MemOk.A := Bool
def spec_MemOk.v : spec_MemOk.A → PV U := fun r => .bool r
def spec_MemOk.o : spec_MemOk.A → List (PV U) := fun r => []
abbrev spec_SpanOk.A := Bool
def spec_SpanOk.v : spec_SpanOk.A → PV U := fun r => .bool r
def spec_SpanOk.o : spec_SpanOk.A → List (PV U) := fun r => []
abbrev spec_MemSent.A := (List Int)
def spec_MemSent.v : spec_MemSent.A → PV U := fun r => .own true 3 r
def spec_MemSent.o : spec_MemSent.A → List (PV U) := fun r => []
abbrev spec_IsPrefixOf.A := Bool
def spec_IsPrefixOf.v : spec_IsPrefixOf.A → PV U := fun r => .bool r
def spec_IsPrefixOf.o : spec_IsPrefixOf.A → List (PV U) := fun r => []
abbrev spec_LinkOk.A := Bool
def spec_LinkOk.v : spec_LinkOk.A → PV U := fun r => .bool r
def spec_LinkOk.o : spec_LinkOk.A → List (PV U) := fun r => []
abbrev spec_NodeOk.A := Bool
def spec_NodeOk.v : spec_NodeOk.A → PV U := fun r => .bool r
def spec_NodeOk.o : spec_NodeOk.A → List (PV U) := fun r => []
abbrev spec_SentBy.A := (List Int)
def spec_SentBy.v : spec_SentBy.A → PV U := fun r => .own true 3 r
def spec_SentBy.o : spec_SentBy.A → List (PV U) := fun r => []
abbrev impl_PackControl.A := Int
def impl_PackControl.v : impl_PackControl.A → PV U := fun r => .int .i64 r
def impl_PackControl.o : impl_PackControl.A → List (PV U) := fun r => []
abbrev impl_UnpackControl.A := Int × Int × Int
def impl_UnpackControl.v : impl_UnpackControl.A → PV U := fun r => .tup [.int .i64 r.1, .int .i64 r.2.1, .int .i64 r.2.2]
def impl_UnpackControl.o : impl_UnpackControl.A → List (PV U) := fun r => []
abbrev impl_MemOk.A := Bool
def impl_MemOk.v : impl_MemOk.A → PV U := fun r => .bool r
def impl_MemOk.o : impl_MemOk.A → List (PV U) := fun r => []
abbrev impl_SpanOk.A := Bool
def impl_SpanOk.v : impl_SpanOk.A → PV U := fun r => .bool r
def impl_SpanOk.o : impl_SpanOk.A → List (PV U) := fun r => []
abbrev impl_MemSent.A := (List Int)
def impl_MemSent.v : impl_MemSent.A → PV U := fun r => .own true 3 r
def impl_MemSent.o : impl_MemSent.A → List (PV U) := fun r => []
abbrev slices_Equal_int.A := Bool
def slices_Equal_int.v : slices_Equal_int.A → PV U := fun r => .bool r
def slices_Equal_int.o : slices_Equal_int.A → List (PV U) := fun r => []
abbrev impl_IsPrefixOf.A := Bool
def impl_IsPrefixOf.v : impl_IsPrefixOf.A → PV U := fun r => .bool r
def impl_IsPrefixOf.o : impl_IsPrefixOf.A → List (PV U) := fun r => []
abbrev impl_LinkOk.A := Bool
def impl_LinkOk.v : impl_LinkOk.A → PV U := fun r => .bool r
def impl_LinkOk.o : impl_LinkOk.A → List (PV U) := fun r => []
abbrev impl_NodeOk.A := Bool
def impl_NodeOk.v : impl_NodeOk.A → PV U := fun r => .bool r
def impl_NodeOk.o : impl_NodeOk.A → List (PV U) := fun r => []
abbrev impl_SentBy.A := (List Int)
def impl_SentBy.v : impl_SentBy.A → PV U := fun r => .own true 3 r
def impl_SentBy.o : impl_SentBy.A → List (PV U) := fun r => []
abbrev laws_FnExactSentBy.A := Bool
def laws_FnExactSentBy.v : laws_FnExactSentBy.A → PV U := fun r => .bool r
def laws_FnExactSentBy.o : laws_FnExactSentBy.A → List (PV U) := fun r => []
def retTab : List (Nat × Ret C) := [(84, ⟨laws_szStmtS.A, laws_szStmtS.v, laws_szStmtS.o⟩), (52, ⟨laws_szTask.A, laws_szTask.v, laws_szTask.o⟩), (23, ⟨laws_szTaskS.A, laws_szTaskS.v, laws_szTaskS.o⟩), (5, ⟨laws_szProgram.A, laws_szProgram.v, laws_szProgram.o⟩), (88, ⟨laws_toExpr.A, laws_toExpr.v, laws_toExpr.o⟩), (103, ⟨laws_toStmt.A, laws_toStmt.v, laws_toStmt.o⟩), (87, ⟨laws_toStmtS.A, laws_toStmtS.v, laws_toStmtS.o⟩), (58, ⟨laws_toTask.A, laws_toTask.v, laws_toTask.o⟩), (29, ⟨laws_toTaskS.A, laws_toTaskS.v, laws_toTaskS.o⟩), (7, ⟨laws_toProgram.A, laws_toProgram.v, laws_toProgram.o⟩), (8, ⟨laws_toIntS.A, laws_toIntS.v, laws_toIntS.o⟩), (9, ⟨laws_toStore.A, laws_toStore.v, laws_toStore.o⟩), (56, ⟨spec_l01In.A, spec_l01In.v, spec_l01In.o⟩), (57, ⟨spec_IsValue.A, spec_IsValue.v, spec_IsValue.o⟩), (53, ⟨spec_VarsOk.A, spec_VarsOk.v, spec_VarsOk.o⟩), (24, ⟨spec_MemNew.A, spec_MemNew.v, spec_MemNew.o⟩), (102, ⟨spec_l04Plain.A, spec_l04Plain.v, spec_l04Plain.o⟩), (86, ⟨spec_OperandOk.A, spec_OperandOk.v, spec_OperandOk.o⟩), (55, ⟨spec_ExprOk.A, spec_ExprOk.v, spec_ExprOk.o⟩), (85, ⟨spec_StmtOk.A, spec_StmtOk.v, spec_StmtOk.o⟩), (54, ⟨spec_BlockOk.A, spec_BlockOk.v, spec_BlockOk.o⟩), (25, ⟨spec_ProgramOk.A, spec_ProgramOk.v, spec_ProgramOk.o⟩), (26, ⟨spec_StoreOk.A, spec_StoreOk.v, spec_StoreOk.o⟩), (27, ⟨spec_l09Values.A, spec_l09Values.v, spec_l09Values.o⟩), (28, ⟨spec_l06Copy.A, spec_l06Copy.v, spec_l06Copy.o⟩), (6, ⟨spec_NodeNew.A, spec_NodeNew.v, spec_NodeNew.o⟩), (60, ⟨impl_within.A, impl_within.v, impl_within.o⟩), (66, ⟨impl_IsValue.A, impl_IsValue.v, impl_IsValue.o⟩), (65, ⟨impl_areValues_1.A, impl_areValues_1.v, impl_areValues_1.o⟩), (92, ⟨slices_IndexFunc_int_areValues_1.A, slices_IndexFunc_int_areValues_1.v, slices_IndexFunc_int_areValues_1.o⟩), (64, ⟨slices_ContainsFunc_int_areValues_1.A, slices_ContainsFunc_int_areValues_1.v, slices_ContainsFunc_int_areValues_1.o⟩), (33, ⟨impl_areValues.A, impl_areValues.v, impl_areValues.o⟩), (59, ⟨impl_VarsOk.A, impl_VarsOk.v, impl_VarsOk.o⟩), (35, ⟨slices_Clone_int.A, slices_Clone_int.v, slices_Clone_int.o⟩), (30, ⟨impl_MemNew.A, impl_MemNew.v, impl_MemNew.o⟩), (109, ⟨impl_hasVar.A, impl_hasVar.v, impl_hasVar.o⟩), (99, ⟨impl_isVar.A, impl_isVar.v, impl_isVar.o⟩), (110, ⟨impl_hasExpr.A, impl_hasExpr.v, impl_hasExpr.o⟩), (106, ⟨impl_OperandOk.A, impl_OperandOk.v, impl_OperandOk.o⟩), (91, ⟨impl_ExprOk.A, impl_ExprOk.v, impl_ExprOk.o⟩), (111, ⟨impl_isSensor.A, impl_isSensor.v, impl_isSensor.o⟩), (104, ⟨impl_StmtOk.A, impl_StmtOk.v, impl_StmtOk.o⟩), (105, ⟨impl_isOpening.A, impl_isOpening.v, impl_isOpening.o⟩), (90, ⟨impl_BlockOk.A, impl_BlockOk.v, impl_BlockOk.o⟩), (63, ⟨impl_taskOk.A, impl_taskOk.v, impl_taskOk.o⟩), (62, ⟨impl_ProgramOk_1.A, impl_ProgramOk_1.v, impl_ProgramOk_1.o⟩), (89, ⟨slices_IndexFunc_impl_Task_ProgramOk_1.A, slices_IndexFunc_impl_Task_ProgramOk_1.v, slices_IndexFunc_impl_Task_ProgramOk_1.o⟩), (61, ⟨slices_ContainsFunc_impl_Task_ProgramOk_1.A, slices_ContainsFunc_impl_Task_ProgramOk_1.v, slices_ContainsFunc_impl_Task_ProgramOk_1.o⟩), (31, ⟨impl_ProgramOk.A, impl_ProgramOk.v, impl_ProgramOk.o⟩), (32, ⟨impl_StoreOk.A, impl_StoreOk.v, impl_StoreOk.o⟩), (93, ⟨slices_Clone_impl_Stmt.A, slices_Clone_impl_Stmt.v, slices_Clone_impl_Stmt.o⟩), (67, ⟨impl_copyTask.A, impl_copyTask.v, impl_copyTask.o⟩), (34, ⟨impl_copyProgram.A, impl_copyProgram.v, impl_copyProgram.o⟩), (10, ⟨impl_NodeNew.A, impl_NodeNew.v, impl_NodeNew.o⟩), (95, ⟨laws_eqExpr.A, laws_eqExpr.v, laws_eqExpr.o⟩), (107, ⟨laws_eqStmt.A, laws_eqStmt.v, laws_eqStmt.o⟩), (94, ⟨laws_eqStmtS.A, laws_eqStmtS.v, laws_eqStmtS.o⟩), (69, ⟨laws_eqTask.A, laws_eqTask.v, laws_eqTask.o⟩), (39, ⟨laws_eqTaskS.A, laws_eqTaskS.v, laws_eqTaskS.o⟩), (12, ⟨laws_eqProgram.A, laws_eqProgram.v, laws_eqProgram.o⟩), (13, ⟨laws_eqIntS.A, laws_eqIntS.v, laws_eqIntS.o⟩), (36, ⟨laws_eqStore.A, laws_eqStore.v, laws_eqStore.o⟩), (37, ⟨laws_eqSpan.A, laws_eqSpan.v, laws_eqSpan.o⟩), (68, ⟨laws_eqGateway.A, laws_eqGateway.v, laws_eqGateway.o⟩), (38, ⟨laws_eqLink.A, laws_eqLink.v, laws_eqLink.o⟩), (11, ⟨laws_eqNode.A, laws_eqNode.v, laws_eqNode.o⟩), (70, ⟨laws_markStmtS.A, laws_markStmtS.v, laws_markStmtS.o⟩), (40, ⟨laws_markTaskS.A, laws_markTaskS.v, laws_markTaskS.o⟩), (14, ⟨laws_markProgram.A, laws_markProgram.v, laws_markProgram.o⟩), (15, ⟨laws_markIntS.A, laws_markIntS.v, laws_markIntS.o⟩), (71, ⟨laws_markGateway.A, laws_markGateway.v, laws_markGateway.o⟩), (41, ⟨laws_markLink.A, laws_markLink.v, laws_markLink.o⟩), (16, ⟨laws_markNode.A, laws_markNode.v, laws_markNode.o⟩), (96, ⟨laws_heldStmtS.A, laws_heldStmtS.v, laws_heldStmtS.o⟩), (72, ⟨laws_heldTaskS.A, laws_heldTaskS.v, laws_heldTaskS.o⟩), (42, ⟨laws_heldProgram.A, laws_heldProgram.v, laws_heldProgram.o⟩), (22, ⟨laws_heldIntS.A, laws_heldIntS.v, laws_heldIntS.o⟩), (73, ⟨laws_heldGateway.A, laws_heldGateway.v, laws_heldGateway.o⟩), (43, ⟨laws_heldLink.A, laws_heldLink.v, laws_heldLink.o⟩), (17, ⟨laws_heldNode.A, laws_heldNode.v, laws_heldNode.o⟩), (3, ⟨laws_FnExactNodeNew.A, laws_FnExactNodeNew.v, laws_FnExactNodeNew.o⟩), (44, ⟨laws_szIntS.A, laws_szIntS.v, laws_szIntS.o⟩), (74, ⟨laws_szGateway.A, laws_szGateway.v, laws_szGateway.o⟩), (45, ⟨laws_szLink.A, laws_szLink.v, laws_szLink.o⟩), (18, ⟨laws_szNode.A, laws_szNode.v, laws_szNode.o⟩), (48, ⟨laws_toSpan.A, laws_toSpan.v, laws_toSpan.o⟩), (79, ⟨laws_toGateway.A, laws_toGateway.v, laws_toGateway.o⟩), (49, ⟨laws_toLink.A, laws_toLink.v, laws_toLink.o⟩), (20, ⟨laws_toNode.A, laws_toNode.v, laws_toNode.o⟩), (98, ⟨spec_PackControl.A, spec_PackControl.v, spec_PackControl.o⟩), (78, ⟨spec_UnpackControl.A, spec_UnpackControl.v, spec_UnpackControl.o⟩), (75, ⟨spec_MemOk.A, spec_MemOk.v, spec_MemOk.o⟩), (76, ⟨spec_SpanOk.A, spec_SpanOk.v, spec_SpanOk.o⟩), (47, ⟨spec_MemSent.A, spec_MemSent.v, spec_MemSent.o⟩), (97, ⟨spec_IsPrefixOf.A, spec_IsPrefixOf.v, spec_IsPrefixOf.o⟩), (77, ⟨spec_LinkOk.A, spec_LinkOk.v, spec_LinkOk.o⟩), (46, ⟨spec_NodeOk.A, spec_NodeOk.v, spec_NodeOk.o⟩), (19, ⟨spec_SentBy.A, spec_SentBy.v, spec_SentBy.o⟩), (101, ⟨impl_PackControl.A, impl_PackControl.v, impl_PackControl.o⟩), (83, ⟨impl_UnpackControl.A, impl_UnpackControl.v, impl_UnpackControl.o⟩), (80, ⟨impl_MemOk.A, impl_MemOk.v, impl_MemOk.o⟩), (81, ⟨impl_SpanOk.A, impl_SpanOk.v, impl_SpanOk.o⟩), (51, ⟨impl_MemSent.A, impl_MemSent.v, impl_MemSent.o⟩), (108, ⟨slices_Equal_int.A, slices_Equal_int.v, slices_Equal_int.o⟩), (100, ⟨impl_IsPrefixOf.A, impl_IsPrefixOf.v, impl_IsPrefixOf.o⟩), (82, ⟨impl_LinkOk.A, impl_LinkOk.v, impl_LinkOk.o⟩), (50, ⟨impl_NodeOk.A, impl_NodeOk.v, impl_NodeOk.o⟩), (21, ⟨impl_SentBy.A, impl_SentBy.v, impl_SentBy.o⟩), (4, ⟨laws_FnExactSentBy.A, laws_FnExactSentBy.v, laws_FnExactSentBy.o⟩)]
def ntTab : List (Nat × Nat) := [(84, 12), (52, 12), (23, 27), (5, 12), (88, 14), (103, 18), (87, 23), (58, 13), (29, 23), (7, 9), (8, 22), (9, 17), (56, 15), (57, 5), (53, 19), (24, 14), (102, 37), (86, 5), (55, 16), (85, 43), (54, 41), (25, 33), (26, 25), (27, 16), (28, 34), (6, 43), (60, 15), (66, 5), (65, 6), (92, 19), (64, 9), (33, 6), (59, 10), (35, 8), (30, 10), (109, 9), (99, 5), (110, 13), (106, 5), (91, 16), (111, 5), (104, 65), (105, 9), (90, 39), (63, 11), (62, 6), (89, 19), (61, 9), (31, 13), (32, 25), (93, 8), (67, 8), (34, 23), (10, 42), (95, 20), (107, 26), (94, 27), (69, 17), (39, 27), (12, 11), (13, 26), (36, 25), (37, 15), (68, 11), (38, 16), (11, 51), (70, 58), (40, 44), (14, 10), (15, 19), (71, 10), (41, 10), (16, 22), (96, 70), (72, 52), (42, 12), (22, 21), (73, 12), (43, 12), (17, 30), (3, 146), (44, 12), (74, 12), (45, 12), (18, 30), (48, 11), (79, 9), (49, 12), (20, 35), (98, 27), (78, 30), (75, 72), (76, 18), (47, 27), (97, 27), (77, 20), (46, 40), (19, 10), (101, 27), (83, 28), (80, 72), (81, 18), (51, 24), (108, 26), (100, 18), (82, 20), (50, 40), (21, 9), (4, 69)]
def modeTab : List (Nat × YtmdgdcjkbggkmaaEv.Mode) := [(70, .edit), (40, .edit), (14, .edit), (15, .edit), (71, .edit), (41, .edit), (16, .edit)]
def PL : Plan C := ⟨fun f => lookup f retTab, fun f => (lookup f ntTab).getD 0, fun f => (lookup f modeTab).getD YtmdgdcjkbggkmaaEv.Mode.read, [], [], []⟩
end
end Go.Proofs.Ytmdgdcjkbggkmaa.Ev
