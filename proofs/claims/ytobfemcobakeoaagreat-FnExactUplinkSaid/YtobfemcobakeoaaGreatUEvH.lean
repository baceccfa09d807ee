/- The program's types for the evaluator, looked up, and the table of calls. No conditions. -/
import Derived.Test.YtobfemcobakeoaaGreatLibC
import Derived.WalkKit
import Derived.Test.YtobfemcobakeoaaGreatProg
namespace Go.Proofs.YtobfemcobakeoaaGreat.Ev
open Go.Proofs.YtobfemcobakeoaaGreatEv Go.RowKit
set_option linter.unusedVariables false
set_option maxRecDepth 100000
noncomputable section
structure S153 where
 f0 : Int
 f1 : Int
 f2 : Int
def z153 : S153 := ⟨(0 : Int), (0 : Int), (0 : Int)⟩
structure S210 where
 f0 : Int
 f1 : Int
 f2 : Int
 f3 : S153
def z210 : S210 := ⟨(0 : Int), (0 : Int), (0 : Int), z153⟩
structure S166 where
 f0 : List S210
 f1 : S153
def z166 : S166 := ⟨([] : List S210), z153⟩
structure S239 where
 f0 : Int
 f1 : Int
 f2 : Int
 f3 : S153
def z239 : S239 := ⟨(0 : Int), (0 : Int), (0 : Int), z153⟩
structure S172 where
 f0 : List S239
 f1 : S153
def z172 : S172 := ⟨([] : List S239), z153⟩
structure S217 where
 f0 : Int
 f1 : Int
def z217 : S217 := ⟨(0 : Int), (0 : Int)⟩
structure S23 where
 f0 : List S172
def z23 : S23 := ⟨([] : List S172)⟩
structure S49 where
 f0 : Int
 f1 : Int
 f2 : Int
 f3 : Int
def z49 : S49 := ⟨(0 : Int), (0 : Int), (0 : Int), (0 : Int)⟩
structure S51 where
 f0 : Int
 f1 : Int
def z51 : S51 := ⟨(0 : Int), (0 : Int)⟩
structure S53 where
 f0 : List Int
def z53 : S53 := ⟨([] : List Int)⟩
structure S55 where
 f0 : Int
 f1 : S53
def z55 : S55 := ⟨(0 : Int), z53⟩
structure S57 where
 f0 : S23
 f1 : List Int
 f2 : List Int
 f3 : Int
 f4 : S49
 f5 : S51
 f6 : S55
 f7 : Int
def z57 : S57 := ⟨z23, ([] : List Int), ([] : List Int), (0 : Int), z49, z51, z55, (0 : Int)⟩
abbrev wr (n : Int) : Int := IntKind.wrap .i64 n
abbrev rdI (xs : List Int) (i : Int) : Int := xs.getD i.toNat (0 : Int)
abbrev rdB (xs : List Bool) (i : Int) : Bool := xs.getD i.toNat false
abbrev rdS210 (xs : List S210) (i : Int) : S210 := xs.getD i.toNat z210
abbrev rdS166 (xs : List S166) (i : Int) : S166 := xs.getD i.toNat z166
abbrev rdS239 (xs : List S239) (i : Int) : S239 := xs.getD i.toNat z239
abbrev rdS172 (xs : List S172) (i : Int) : S172 := xs.getD i.toNat z172
abbrev rdS217 (xs : List S217) (i : Int) : S217 := xs.getD i.toNat z217
def elTab : List (Nat × (Σ T : Type, T)) := [
 (3, ⟨Int, (0 : Int)⟩),
 (4, ⟨Bool, false⟩),
 (211, ⟨S210, z210⟩),
 (167, ⟨S166, z166⟩),
 (240, ⟨S239, z239⟩),
 (173, ⟨S172, z172⟩),
 (218, ⟨S217, z217⟩)]
def U : Uni := ⟨fun e => (elAt elTab e).1, fun e => (elAt elTab e).2⟩
def elE : List (Σ e, ElE U e) := [
 ⟨3, ⟨fun (x : Int) => .int .i64 x, fun v => (match v with | .int .i64 y1 => some (y1 : Int) | _ => none : Option Int)⟩⟩,
 ⟨4, ⟨fun (x : Bool) => .bool x, fun v => (match v with | .bool y1 => some (y1 : Bool) | _ => none : Option Bool)⟩⟩,
 ⟨211, ⟨fun (x : S210) => .agg [.int .i64 x.f0, .int .i64 x.f1, .int .i64 x.f2, .int .i64 x.f3.f0, .int .i64 x.f3.f1, .int .i64 x.f3.f2], fun v => (match v with | .agg [.int .i64 y1, .int .i64 y2, .int .i64 y3, .int .i64 y4, .int .i64 y5, .int .i64 y6] => some ((⟨y1, y2, y3, (⟨y4, y5, y6⟩ : S153)⟩ : S210) : S210) | _ => none : Option S210)⟩⟩,
 ⟨167, ⟨fun (x : S166) => .agg [.sl 211 x.f0, .int .i64 x.f1.f0, .int .i64 x.f1.f1, .int .i64 x.f1.f2], fun v => (match v with | .agg [.sl 211 y1, .int .i64 y2, .int .i64 y3, .int .i64 y4] => some ((⟨y1, (⟨y2, y3, y4⟩ : S153)⟩ : S166) : S166) | _ => none : Option S166)⟩⟩,
 ⟨240, ⟨fun (x : S239) => .agg [.int .i64 x.f0, .int .i64 x.f1, .int .i64 x.f2, .int .i64 x.f3.f0, .int .i64 x.f3.f1, .int .i64 x.f3.f2], fun v => (match v with | .agg [.int .i64 y1, .int .i64 y2, .int .i64 y3, .int .i64 y4, .int .i64 y5, .int .i64 y6] => some ((⟨y1, y2, y3, (⟨y4, y5, y6⟩ : S153)⟩ : S239) : S239) | _ => none : Option S239)⟩⟩,
 ⟨173, ⟨fun (x : S172) => .agg [.sl 240 x.f0, .int .i64 x.f1.f0, .int .i64 x.f1.f1, .int .i64 x.f1.f2], fun v => (match v with | .agg [.sl 240 y1, .int .i64 y2, .int .i64 y3, .int .i64 y4] => some ((⟨y1, (⟨y2, y3, y4⟩ : S153)⟩ : S172) : S172) | _ => none : Option S172)⟩⟩,
 ⟨218, ⟨fun (x : S217) => .agg [.int .i64 x.f0, .int .i64 x.f1], fun v => (match v with | .agg [.int .i64 y1, .int .i64 y2] => some ((⟨y1, y2⟩ : S217) : S217) | _ => none : Option S217)⟩⟩]
def tyTab : List (Nat × Ty U) := [
 (3, .int .i64),
 (4, .bool),
 (22, .slice 173),
 (24, .struct [(0, 22)] [.own true 173 ([] : List S172)]),
 (25, .slice 3),
 (33, .slice 167),
 (35, .struct [(0, 33)] [.own true 167 ([] : List S166)]),
 (50, .struct [(0, 3), (1, 3), (2, 3), (3, 3)] [.int .i64 (0 : Int), .int .i64 (0 : Int), .int .i64 (0 : Int), .int .i64 (0 : Int)]),
 (52, .struct [(0, 3), (1, 3)] [.int .i64 (0 : Int), .int .i64 (0 : Int)]),
 (54, .struct [(0, 25)] [.own true 3 ([] : List Int)]),
 (56, .struct [(0, 3), (1, 54)] [.int .i64 (0 : Int), .own true 3 ([] : List Int)]),
 (58, .struct [(0, 24), (1, 25), (2, 25), (3, 3), (4, 50), (8, 52), (10, 56), (12, 3)] [.own true 173 ([] : List S172), .own true 3 ([] : List Int), .own true 3 ([] : List Int), .int .i64 (0 : Int), .int .i64 (0 : Int), .int .i64 (0 : Int), .int .i64 (0 : Int), .int .i64 (0 : Int), .int .i64 (0 : Int), .int .i64 (0 : Int), .int .i64 (0 : Int), .own true 3 ([] : List Int), .int .i64 (0 : Int)]),
 (59, .slice 4),
 (61, .struct [(0, 3), (1, 3), (2, 3), (3, 3)] [.int .i64 (0 : Int), .int .i64 (0 : Int), .int .i64 (0 : Int), .int .i64 (0 : Int)]),
 (62, .struct [(0, 3), (1, 3)] [.int .i64 (0 : Int), .int .i64 (0 : Int)]),
 (63, .struct [(0, 25)] [.own true 3 ([] : List Int)]),
 (65, .struct [(0, 3), (1, 63)] [.int .i64 (0 : Int), .own true 3 ([] : List Int)]),
 (67, .struct [(0, 35), (1, 25), (2, 25), (3, 3), (4, 61), (8, 62), (10, 65), (12, 3)] [.own true 167 ([] : List S166), .own true 3 ([] : List Int), .own true 3 ([] : List Int), .int .i64 (0 : Int), .int .i64 (0 : Int), .int .i64 (0 : Int), .int .i64 (0 : Int), .int .i64 (0 : Int), .int .i64 (0 : Int), .int .i64 (0 : Int), .int .i64 (0 : Int), .own true 3 ([] : List Int), .int .i64 (0 : Int)]),
 (154, .struct [(0, 3), (1, 3), (2, 3)] [.int .i64 (0 : Int), .int .i64 (0 : Int), .int .i64 (0 : Int)]),
 (165, .slice 211),
 (167, .struct [(0, 165), (1, 154)] [.own true 211 ([] : List S210), .int .i64 (0 : Int), .int .i64 (0 : Int), .int .i64 (0 : Int)]),
 (170, .slice 240),
 (171, .struct [(0, 3), (1, 3), (2, 3)] [.int .i64 (0 : Int), .int .i64 (0 : Int), .int .i64 (0 : Int)]),
 (173, .struct [(0, 170), (1, 171)] [.own true 240 ([] : List S239), .int .i64 (0 : Int), .int .i64 (0 : Int), .int .i64 (0 : Int)]),
 (184, .slice 218),
 (211, .struct [(0, 3), (1, 3), (2, 3), (3, 154)] [.int .i64 (0 : Int), .int .i64 (0 : Int), .int .i64 (0 : Int), .int .i64 (0 : Int), .int .i64 (0 : Int), .int .i64 (0 : Int)]),
 (218, .struct [(0, 3), (1, 3)] [.int .i64 (0 : Int), .int .i64 (0 : Int)]),
 (240, .struct [(0, 3), (1, 3), (2, 3), (3, 171)] [.int .i64 (0 : Int), .int .i64 (0 : Int), .int .i64 (0 : Int), .int .i64 (0 : Int), .int .i64 (0 : Int), .int .i64 (0 : Int)])]
def bytesTab : List (Nat × Nat) := [(3, 8), (4, 1), (211, 48), (167, 48), (240, 48), (173, 48), (218, 16)]
def eqTab : List (Nat × Nat) := [(154, 3), (211, 6)]
def C : Ctx := ⟨U, fun e => (sel (noEl U) elE e).enc, fun e => (sel (noEl U) elE e).dec, fun t => lookup t tyTab, fun e => (lookup e bytesTab).getD 0, fun t => lookup t eqTab⟩
theorem elOk : AllL (fun p : Σ e, ElE U e => ElOk p.1 p.2) elE := ⟨⟨fun _ => rfl, fun _ => rfl, fun _ => rfl, fun v y h => by dsimp only at h; split at h <;> first | (cases h; rfl) | cases h⟩,
 ⟨fun _ => rfl, fun _ => rfl, fun _ => rfl, fun v y h => by dsimp only at h; split at h <;> first | (cases h; rfl) | cases h⟩,
 ⟨fun _ => rfl, fun _ => rfl, fun _ => rfl, fun v y h => by dsimp only at h; split at h <;> first | (cases h; rfl) | cases h⟩,
 ⟨fun _ => rfl, fun _ => rfl, fun _ => rfl, fun v y h => by dsimp only at h; split at h <;> first | (cases h; rfl) | cases h⟩,
 ⟨fun _ => rfl, fun _ => rfl, fun _ => rfl, fun v y h => by dsimp only at h; split at h <;> first | (cases h; rfl) | cases h⟩,
 ⟨fun _ => rfl, fun _ => rfl, fun _ => rfl, fun v y h => by dsimp only at h; split at h <;> first | (cases h; rfl) | cases h⟩,
 ⟨fun _ => rfl, fun _ => rfl, fun _ => rfl, fun v y h => by dsimp only at h; split at h <;> first | (cases h; rfl) | cases h⟩, trivial⟩
theorem tyOk : AllL (fun p : Nat × Ty U => TyOk Tryz.prog C p.1 p.2) tyTab := ⟨tyOk_int (by kernel_rfl) (by kernel_rfl),
 tyOk_bool (by kernel_rfl) (by kernel_rfl),
 tyOk_slice (by kernel_rfl) (by kernel_rfl),
 tyOk_struct #[.slice none 0 0] (by kernel_rfl) (by kernel_rfl) (by kernel_rfl) (by kernel_rfl) (by kernel_rfl),
 tyOk_slice (by kernel_rfl) (by kernel_rfl),
 tyOk_slice (by kernel_rfl) (by kernel_rfl),
 tyOk_struct #[.slice none 0 0] (by kernel_rfl) (by kernel_rfl) (by kernel_rfl) (by kernel_rfl) (by kernel_rfl),
 tyOk_struct #[.int .i64 0, .int .i64 0, .int .i64 0, .int .i64 0] (by kernel_rfl) (by kernel_rfl) (by kernel_rfl) (by kernel_rfl) (by kernel_rfl),
 tyOk_struct #[.int .i64 0, .int .i64 0] (by kernel_rfl) (by kernel_rfl) (by kernel_rfl) (by kernel_rfl) (by kernel_rfl),
 tyOk_struct #[.slice none 0 0] (by kernel_rfl) (by kernel_rfl) (by kernel_rfl) (by kernel_rfl) (by kernel_rfl),
 tyOk_struct #[.int .i64 0, .slice none 0 0] (by kernel_rfl) (by kernel_rfl) (by kernel_rfl) (by kernel_rfl) (by kernel_rfl),
 tyOk_struct #[.slice none 0 0, .slice none 0 0, .slice none 0 0, .int .i64 0, .int .i64 0, .int .i64 0, .int .i64 0, .int .i64 0, .int .i64 0, .int .i64 0, .int .i64 0, .slice none 0 0, .int .i64 0] (by kernel_rfl) (by kernel_rfl) (by kernel_rfl) (by kernel_rfl) (by kernel_rfl),
 tyOk_slice (by kernel_rfl) (by kernel_rfl),
 tyOk_struct #[.int .i64 0, .int .i64 0, .int .i64 0, .int .i64 0] (by kernel_rfl) (by kernel_rfl) (by kernel_rfl) (by kernel_rfl) (by kernel_rfl),
 tyOk_struct #[.int .i64 0, .int .i64 0] (by kernel_rfl) (by kernel_rfl) (by kernel_rfl) (by kernel_rfl) (by kernel_rfl),
 tyOk_struct #[.slice none 0 0] (by kernel_rfl) (by kernel_rfl) (by kernel_rfl) (by kernel_rfl) (by kernel_rfl),
 tyOk_struct #[.int .i64 0, .slice none 0 0] (by kernel_rfl) (by kernel_rfl) (by kernel_rfl) (by kernel_rfl) (by kernel_rfl),
 tyOk_struct #[.slice none 0 0, .slice none 0 0, .slice none 0 0, .int .i64 0, .int .i64 0, .int .i64 0, .int .i64 0, .int .i64 0, .int .i64 0, .int .i64 0, .int .i64 0, .slice none 0 0, .int .i64 0] (by kernel_rfl) (by kernel_rfl) (by kernel_rfl) (by kernel_rfl) (by kernel_rfl),
 tyOk_struct #[.int .i64 0, .int .i64 0, .int .i64 0] (by kernel_rfl) (by kernel_rfl) (by kernel_rfl) (by kernel_rfl) (by kernel_rfl),
 tyOk_slice (by kernel_rfl) (by kernel_rfl),
 tyOk_struct #[.slice none 0 0, .int .i64 0, .int .i64 0, .int .i64 0] (by kernel_rfl) (by kernel_rfl) (by kernel_rfl) (by kernel_rfl) (by kernel_rfl),
 tyOk_slice (by kernel_rfl) (by kernel_rfl),
 tyOk_struct #[.int .i64 0, .int .i64 0, .int .i64 0] (by kernel_rfl) (by kernel_rfl) (by kernel_rfl) (by kernel_rfl) (by kernel_rfl),
 tyOk_struct #[.slice none 0 0, .int .i64 0, .int .i64 0, .int .i64 0] (by kernel_rfl) (by kernel_rfl) (by kernel_rfl) (by kernel_rfl) (by kernel_rfl),
 tyOk_slice (by kernel_rfl) (by kernel_rfl),
 tyOk_struct #[.int .i64 0, .int .i64 0, .int .i64 0, .int .i64 0, .int .i64 0, .int .i64 0] (by kernel_rfl) (by kernel_rfl) (by kernel_rfl) (by kernel_rfl) (by kernel_rfl),
 tyOk_struct #[.int .i64 0, .int .i64 0] (by kernel_rfl) (by kernel_rfl) (by kernel_rfl) (by kernel_rfl) (by kernel_rfl),
 tyOk_struct #[.int .i64 0, .int .i64 0, .int .i64 0, .int .i64 0, .int .i64 0, .int .i64 0] (by kernel_rfl) (by kernel_rfl) (by kernel_rfl) (by kernel_rfl) (by kernel_rfl), trivial⟩
theorem sl3 : SliceOk Tryz.prog C 3 := sliceOk_of (.int .i64 0) 1 8 (fun x T h ha => by have h' : (some (.int .i64) : Option (Ty U)) = some T := h; cases h'; cases ha) (by kernel_rfl) (by kernel_rfl) (by kernel_rfl) (by decide) (by decide) (by kernel_rfl)
theorem sl4 : SliceOk Tryz.prog C 4 := sliceOk_of (.bool false) 1 1 (fun x T h ha => by have h' : (some (.bool) : Option (Ty U)) = some T := h; cases h'; cases ha) (by kernel_rfl) (by kernel_rfl) (by kernel_rfl) (by decide) (by decide) (by kernel_rfl)
theorem sl167 : SliceOk Tryz.prog C 167 := sliceOk_of (.agg #[.slice none 0 0, .int .i64 0, .int .i64 0, .int .i64 0]) 4 48 (fun x T _ _ => ⟨_, rfl⟩) (by kernel_rfl) (by kernel_rfl) (by kernel_rfl) (by decide) (by decide) (by kernel_rfl)
theorem sl173 : SliceOk Tryz.prog C 173 := sliceOk_of (.agg #[.slice none 0 0, .int .i64 0, .int .i64 0, .int .i64 0]) 4 48 (fun x T _ _ => ⟨_, rfl⟩) (by kernel_rfl) (by kernel_rfl) (by kernel_rfl) (by decide) (by decide) (by kernel_rfl)
theorem sl211 : SliceOk Tryz.prog C 211 := sliceOk_of (.agg #[.int .i64 0, .int .i64 0, .int .i64 0, .int .i64 0, .int .i64 0, .int .i64 0]) 6 48 (fun x T _ _ => ⟨_, rfl⟩) (by kernel_rfl) (by kernel_rfl) (by kernel_rfl) (by decide) (by decide) (by kernel_rfl)
theorem sl218 : SliceOk Tryz.prog C 218 := sliceOk_of (.agg #[.int .i64 0, .int .i64 0]) 2 16 (fun x T _ _ => ⟨_, rfl⟩) (by kernel_rfl) (by kernel_rfl) (by kernel_rfl) (by decide) (by decide) (by kernel_rfl)
theorem sl240 : SliceOk Tryz.prog C 240 := sliceOk_of (.agg #[.int .i64 0, .int .i64 0, .int .i64 0, .int .i64 0, .int .i64 0, .int .i64 0]) 6 48 (fun x T _ _ => ⟨_, rfl⟩) (by kernel_rfl) (by kernel_rfl) (by kernel_rfl) (by decide) (by decide) (by kernel_rfl)
theorem slOk : AllL (fun p : Nat × Ty U => ∀ e, p.2 = .slice e → SliceOk Tryz.prog C e) tyTab := ⟨(fun e h => by cases h), (fun e h => by cases h), (fun e h => by cases h; exact sl173), (fun e h => by cases h), (fun e h => by cases h; exact sl3), (fun e h => by cases h; exact sl167), (fun e h => by cases h), (fun e h => by cases h), (fun e h => by cases h), (fun e h => by cases h), (fun e h => by cases h), (fun e h => by cases h), (fun e h => by cases h; exact sl4), (fun e h => by cases h), (fun e h => by cases h), (fun e h => by cases h), (fun e h => by cases h), (fun e h => by cases h), (fun e h => by cases h), (fun e h => by cases h; exact sl211), (fun e h => by cases h), (fun e h => by cases h; exact sl240), (fun e h => by cases h), (fun e h => by cases h), (fun e h => by cases h; exact sl218), (fun e h => by cases h), (fun e h => by cases h), (fun e h => by cases h), trivial⟩
def eqB154 (x0 x1 x2 y0 y1 y2 : Int) : Bool := (x0 == y0) && ((x1 == y1) && ((x2 == y2) && true))
theorem eqA154 (d : Nat) (w : World) (k0 k1 k2 : IntKind) (x0 x1 x2 y0 y1 y2 : Int) : (Op.equalIn (d + 2) 154 (.agg #[.int k0 x0, .int k1 x1, .int k2 x2]) (.agg #[.int k0 y0, .int k1 y1, .int k2 y2])).run Tryz.prog w = .ok (eqB154 x0 x1 x2 y0 y1 y2) w := by
 refine eq_struct Tryz.underlying154 (by kernel_rfl) ?_; refine eq_cons (by rfl) (by go_simp; rfl) (by go_simp; rfl) (by go_simp) ?_; refine eq_cons (by rfl) (by go_simp; rfl) (by go_simp; rfl) (by go_simp) ?_; refine eq_cons (by rfl) (by go_simp; rfl) (by go_simp; rfl) (by go_simp) ?_; exact eq_nil
theorem eq154 : EqOk Tryz.prog 154 3 := fun ps w h => match ps, h with
 | [p0, p1, p2], _ => ⟨by
  have e := eqA154 9998 w p0.1 p1.1 p2.1 p0.2.1 p1.2.1 p2.2.1 p0.2.2 p1.2.2 p2.2.2
  have hb : ∀ a b : Int, (a == b) = decide (a = b) := fun _ _ => rfl
  exact e.trans (by simp [eqB154, List.all, hb]), by kernel_rfl⟩
def eqB211 (x0 x1 x2 x3 x4 x5 y0 y1 y2 y3 y4 y5 : Int) : Bool := (x0 == y0) && ((x1 == y1) && ((x2 == y2) && ((eqB154 x3 x4 x5 y3 y4 y5) && true)))
theorem eqA211 (d : Nat) (w : World) (k0 k1 k2 k3 k4 k5 : IntKind) (x0 x1 x2 x3 x4 x5 y0 y1 y2 y3 y4 y5 : Int) : (Op.equalIn (d + 3) 211 (.agg #[.int k0 x0, .int k1 x1, .int k2 x2, .int k3 x3, .int k4 x4, .int k5 x5]) (.agg #[.int k0 y0, .int k1 y1, .int k2 y2, .int k3 y3, .int k4 y4, .int k5 y5])).run Tryz.prog w = .ok (eqB211 x0 x1 x2 x3 x4 x5 y0 y1 y2 y3 y4 y5) w := by
 refine eq_struct Tryz.underlying211 (by kernel_rfl) ?_; refine eq_cons (by rfl) (by go_simp; rfl) (by go_simp; rfl) (by go_simp) ?_; refine eq_cons (by rfl) (by go_simp; rfl) (by go_simp; rfl) (by go_simp) ?_; refine eq_cons (by rfl) (by go_simp; rfl) (by go_simp; rfl) (by go_simp) ?_; refine eq_cons (a := .agg #[.int k3 x3, .int k4 x4, .int k5 x5]) (b := .agg #[.int k3 y3, .int k4 y4, .int k5 y5]) (by rfl) (by go_simp) (by go_simp) (eqA154 d w k3 k4 k5 x3 x4 x5 y3 y4 y5) ?_; exact eq_nil
theorem eq211 : EqOk Tryz.prog 211 6 := fun ps w h => match ps, h with
 | [p0, p1, p2, p3, p4, p5], _ => ⟨by
  have e := eqA211 9997 w p0.1 p1.1 p2.1 p3.1 p4.1 p5.1 p0.2.1 p1.2.1 p2.2.1 p3.2.1 p4.2.1 p5.2.1 p0.2.2 p1.2.2 p2.2.2 p3.2.2 p4.2.2 p5.2.2
  have hb : ∀ a b : Int, (a == b) = decide (a = b) := fun _ _ => rfl
  exact e.trans (by simp [eqB154, eqB211, List.all, hb]), by kernel_rfl⟩
theorem eqOk : AllL (fun p : Nat × Nat => EqOk Tryz.prog p.1 p.2) eqTab := ⟨eq154, eq211, trivial⟩
theorem G : YtobfemcobakeoaaGreatEv.Good Tryz.prog C := good_of (U := U) (tab := elE) (tyTab := tyTab) (bytesTab := bytesTab) (eqTab := eqTab) rfl elOk tyOk (fun t e h => slOk.mem _ (lookup_mem h) e rfl) eqOk
abbrev Pg : Program := Tryz.prog
theorem mixed : Pg.follows .mixedOrders = true := by kernel_rfl
abbrev laws_szStmtS.A := Int
def laws_szStmtS.v : laws_szStmtS.A → PV U := fun r => .int .i64 r
def laws_szStmtS.o : laws_szStmtS.A → List (PV U) := fun r => []
abbrev laws_szTask.A := Int
def laws_szTask.v : laws_szTask.A → PV U := fun r => .int .i64 r
def laws_szTask.o : laws_szTask.A → List (PV U) := fun r => []
abbrev laws_szTaskS.A := Int
def laws_szTaskS.v : laws_szTaskS.A → PV U := fun r => .int .i64 r
def laws_szTaskS.o : laws_szTaskS.A → List (PV U) := fun r => []
abbrev laws_szProgram.A := Int
def laws_szProgram.v : laws_szProgram.A → PV U := fun r => .int .i64 r
def laws_szProgram.o : laws_szProgram.A → List (PV U) := fun r => []
abbrev laws_szIntS.A := Int
def laws_szIntS.v : laws_szIntS.A → PV U := fun r => .int .i64 r
def laws_szIntS.o : laws_szIntS.A → List (PV U) := fun r => []
abbrev laws_szGateway.A := Int
def laws_szGateway.v : laws_szGateway.A → PV U := fun r => .int .i64 r
def laws_szGateway.o : laws_szGateway.A → List (PV U) := fun r => []
abbrev laws_szLink.A := Int
def laws_szLink.v : laws_szLink.A → PV U := fun r => .int .i64 r
def laws_szLink.o : laws_szLink.A → List (PV U) := fun r => []
abbrev laws_szNode.A := Int
def laws_szNode.v : laws_szNode.A → PV U := fun r => .int .i64 r
def laws_szNode.o : laws_szNode.A → List (PV U) := fun r => []
abbrev laws_toExpr.A := Int × Int × Int
def laws_toExpr.v : laws_toExpr.A → PV U := fun r => .agg [.int .i64 r.1, .int .i64 r.2.1, .int .i64 r.2.2]
def laws_toExpr.o : laws_toExpr.A → List (PV U) := fun r => []
abbrev laws_toStmt.A := Int × Int × Int × Int × Int × Int
def laws_toStmt.v : laws_toStmt.A → PV U := fun r => .agg [.int .i64 r.1, .int .i64 r.2.1, .int .i64 r.2.2.1, .int .i64 r.2.2.2.1, .int .i64 r.2.2.2.2.1, .int .i64 r.2.2.2.2.2]
def laws_toStmt.o : laws_toStmt.A → List (PV U) := fun r => []
abbrev laws_toStmtS.A := (List S210)
def laws_toStmtS.v : laws_toStmtS.A → PV U := fun r => .own true 211 r
def laws_toStmtS.o : laws_toStmtS.A → List (PV U) := fun r => []
abbrev laws_toTask.A := (List S210) × Int × Int × Int
def laws_toTask.v : laws_toTask.A → PV U := fun r => .agg [.own true 211 r.1, .int .i64 r.2.1, .int .i64 r.2.2.1, .int .i64 r.2.2.2]
def laws_toTask.o : laws_toTask.A → List (PV U) := fun r => []
abbrev laws_toTaskS.A := (List S166)
def laws_toTaskS.v : laws_toTaskS.A → PV U := fun r => .own true 167 r
def laws_toTaskS.o : laws_toTaskS.A → List (PV U) := fun r => []
abbrev laws_toProgram.A := (List S166)
def laws_toProgram.v : laws_toProgram.A → PV U := fun r => .agg [.own true 167 r]
def laws_toProgram.o : laws_toProgram.A → List (PV U) := fun r => []
abbrev laws_toIntS.A := (List Int)
def laws_toIntS.v : laws_toIntS.A → PV U := fun r => .own true 3 r
def laws_toIntS.o : laws_toIntS.A → List (PV U) := fun r => []
abbrev laws_toStore.A := Int × Int × Int × Int
def laws_toStore.v : laws_toStore.A → PV U := fun r => .agg [.int .i64 r.1, .int .i64 r.2.1, .int .i64 r.2.2.1, .int .i64 r.2.2.2]
def laws_toStore.o : laws_toStore.A → List (PV U) := fun r => []
abbrev laws_toSpan.A := Int × Int
def laws_toSpan.v : laws_toSpan.A → PV U := fun r => .agg [.int .i64 r.1, .int .i64 r.2]
def laws_toSpan.o : laws_toSpan.A → List (PV U) := fun r => []
abbrev laws_toGateway.A := (List Int)
def laws_toGateway.v : laws_toGateway.A → PV U := fun r => .agg [.own true 3 r]
def laws_toGateway.o : laws_toGateway.A → List (PV U) := fun r => []
abbrev laws_toLink.A := Int × (List Int)
def laws_toLink.v : laws_toLink.A → PV U := fun r => .agg [.int .i64 r.1, .own true 3 r.2]
def laws_toLink.o : laws_toLink.A → List (PV U) := fun r => []
abbrev laws_toNode.A := (List S166) × (List Int) × (List Int) × Int × Int × Int × Int × Int × Int × Int × Int × (List Int) × Int
def laws_toNode.v : laws_toNode.A → PV U := fun r => .agg [.own true 167 r.1, .own true 3 r.2.1, .own true 3 r.2.2.1, .int .i64 r.2.2.2.1, .int .i64 r.2.2.2.2.1, .int .i64 r.2.2.2.2.2.1, .int .i64 r.2.2.2.2.2.2.1, .int .i64 r.2.2.2.2.2.2.2.1, .int .i64 r.2.2.2.2.2.2.2.2.1, .int .i64 r.2.2.2.2.2.2.2.2.2.1, .int .i64 r.2.2.2.2.2.2.2.2.2.2.1, .own true 3 r.2.2.2.2.2.2.2.2.2.2.2.1, .int .i64 r.2.2.2.2.2.2.2.2.2.2.2.2]
def laws_toNode.o : laws_toNode.A → List (PV U) := fun r => []
abbrev laws_toBoolS.A := (List Bool)
def laws_toBoolS.v : laws_toBoolS.A → PV U := fun r => .own true 4 r
def laws_toBoolS.o : laws_toBoolS.A → List (PV U) := fun r => []
abbrev spec_l06Copy.A := (List S166)
def spec_l06Copy.v : spec_l06Copy.A → PV U := fun r => .agg [.own true 167 r]
def spec_l06Copy.o : spec_l06Copy.A → List (PV U) := fun r => []
abbrev spec_l32Copy.A := Int × (List Int)
def spec_l32Copy.v : spec_l32Copy.A → PV U := fun r => .agg [.int .i64 r.1, .own true 3 r.2]
def spec_l32Copy.o : spec_l32Copy.A → List (PV U) := fun r => []
abbrev spec_l37Copy.A := (List S166) × (List Int) × (List Int) × Int × Int × Int × Int × Int × Int × Int × Int × (List Int) × Int
def spec_l37Copy.v : spec_l37Copy.A → PV U := fun r => .agg [.own true 167 r.1, .own true 3 r.2.1, .own true 3 r.2.2.1, .int .i64 r.2.2.2.1, .int .i64 r.2.2.2.2.1, .int .i64 r.2.2.2.2.2.1, .int .i64 r.2.2.2.2.2.2.1, .int .i64 r.2.2.2.2.2.2.2.1, .int .i64 r.2.2.2.2.2.2.2.2.1, .int .i64 r.2.2.2.2.2.2.2.2.2.1, .int .i64 r.2.2.2.2.2.2.2.2.2.2.1, .own true 3 r.2.2.2.2.2.2.2.2.2.2.2.1, .int .i64 r.2.2.2.2.2.2.2.2.2.2.2.2]
def spec_l37Copy.o : spec_l37Copy.A → List (PV U) := fun r => []
abbrev spec_l04Plain.A := Int × Int × Int × Int × Int × Int
def spec_l04Plain.v : spec_l04Plain.A → PV U := fun r => .agg [.int .i64 r.1, .int .i64 r.2.1, .int .i64 r.2.2.1, .int .i64 r.2.2.2.1, .int .i64 r.2.2.2.2.1, .int .i64 r.2.2.2.2.2]
def spec_l04Plain.o : spec_l04Plain.A → List (PV U) := fun r => []
abbrev spec_l01In.A := Bool
def spec_l01In.v : spec_l01In.A → PV U := fun r => .bool r
def spec_l01In.o : spec_l01In.A → List (PV U) := fun r => []
abbrev spec_OperandOk.A := Bool
def spec_OperandOk.v : spec_OperandOk.A → PV U := fun r => .bool r
def spec_OperandOk.o : spec_OperandOk.A → List (PV U) := fun r => []
abbrev spec_ExprOk.A := Bool
def spec_ExprOk.v : spec_ExprOk.A → PV U := fun r => .bool r
def spec_ExprOk.o : spec_ExprOk.A → List (PV U) := fun r => []
abbrev spec_StmtOk.A := Bool
def spec_StmtOk.v : spec_StmtOk.A → PV U := fun r => .bool r
def spec_StmtOk.o : spec_StmtOk.A → List (PV U) := fun r => []
abbrev spec_BlockOk.A := Bool
def spec_BlockOk.v : spec_BlockOk.A → PV U := fun r => .bool r
def spec_BlockOk.o : spec_BlockOk.A → List (PV U) := fun r => []
abbrev spec_ProgramOk.A := Bool
def spec_ProgramOk.v : spec_ProgramOk.A → PV U := fun r => .bool r
def spec_ProgramOk.o : spec_ProgramOk.A → List (PV U) := fun r => []
abbrev spec_PackControl.A := Int
def spec_PackControl.v : spec_PackControl.A → PV U := fun r => .int .i64 r
def spec_PackControl.o : spec_PackControl.A → List (PV U) := fun r => []
abbrev spec_UnpackControl.A := Int × Int × Int
def spec_UnpackControl.v : spec_UnpackControl.A → PV U := fun r => .tup [.int .i64 r.1, .int .i64 r.2.1, .int .i64 r.2.2]
def spec_UnpackControl.o : spec_UnpackControl.A → List (PV U) := fun r => []
abbrev spec_IsValue.A := Bool
def spec_IsValue.v : spec_IsValue.A → PV U := fun r => .bool r
def spec_IsValue.o : spec_IsValue.A → List (PV U) := fun r => []
abbrev spec_l09Values.A := Bool
def spec_l09Values.v : spec_l09Values.A → PV U := fun r => .bool r
def spec_l09Values.o : spec_l09Values.A → List (PV U) := fun r => []
abbrev spec_MemOk.A := Bool
def spec_MemOk.v : spec_MemOk.A → PV U := fun r => .bool r
def spec_MemOk.o : spec_MemOk.A → List (PV U) := fun r => []
abbrev spec_StoreOk.A := Bool
def spec_StoreOk.v : spec_StoreOk.A → PV U := fun r => .bool r
def spec_StoreOk.o : spec_StoreOk.A → List (PV U) := fun r => []
abbrev spec_SpanOk.A := Bool
def spec_SpanOk.v : spec_SpanOk.A → PV U := fun r => .bool r
def spec_SpanOk.o : spec_SpanOk.A → List (PV U) := fun r => []
abbrev spec_MemSent.A := (List Int)
def spec_MemSent.v : spec_MemSent.A → PV U := fun r => .own true 3 r
def spec_MemSent.o : spec_MemSent.A → List (PV U) := fun r => []
abbrev spec_IsPrefixOf.A := Bool
def spec_IsPrefixOf.v : spec_IsPrefixOf.A → PV U := fun r => .bool r
def spec_IsPrefixOf.o : spec_IsPrefixOf.A → List (PV U) := fun r => []
abbrev spec_LinkOk.A := Bool
def spec_LinkOk.v : spec_LinkOk.A → PV U := fun r => .bool r
def spec_LinkOk.o : spec_LinkOk.A → List (PV U) := fun r => []
abbrev spec_NodeOk.A := Bool
def spec_NodeOk.v : spec_NodeOk.A → PV U := fun r => .bool r
def spec_NodeOk.o : spec_NodeOk.A → List (PV U) := fun r => []
abbrev spec_PacketsOf.A := (List S217)
def spec_PacketsOf.v : spec_PacketsOf.A → PV U := fun r => .own true 218 r
def spec_PacketsOf.o : spec_PacketsOf.A → List (PV U) := fun r => []
abbrev spec_l31Take.A := (List Int)
def spec_l31Take.v : spec_l31Take.A → PV U := fun r => .own true 3 r
def spec_l31Take.o : spec_l31Take.A → List (PV U) := fun r => []
abbrev spec_ReceiveAll.A := (List Int) × Int
def spec_ReceiveAll.v : spec_ReceiveAll.A → PV U := fun r => .tup [.agg [.own true 3 r.1], .int .i64 r.2]
def spec_ReceiveAll.o : spec_ReceiveAll.A → List (PV U) := fun r => []
abbrev spec_SendRound.A := Int × (List Int) × Bool
def spec_SendRound.v : spec_SendRound.A → PV U := fun r => .tup [.agg [.int .i64 r.1, .own true 3 r.2.1], .bool r.2.2]
def spec_SendRound.o : spec_SendRound.A → List (PV U) := fun r => []
abbrev spec_Uplink.A := (List S166) × (List Int) × (List Int) × Int × Int × Int × Int × Int × Int × Int × Int × (List Int) × Int × Bool
def spec_Uplink.v : spec_Uplink.A → PV U := fun r => .tup [.agg [.own true 167 r.1, .own true 3 r.2.1, .own true 3 r.2.2.1, .int .i64 r.2.2.2.1, .int .i64 r.2.2.2.2.1, .int .i64 r.2.2.2.2.2.1, .int .i64 r.2.2.2.2.2.2.1, .int .i64 r.2.2.2.2.2.2.2.1, .int .i64 r.2.2.2.2.2.2.2.2.1, .int .i64 r.2.2.2.2.2.2.2.2.2.1, .int .i64 r.2.2.2.2.2.2.2.2.2.2.1, .own true 3 r.2.2.2.2.2.2.2.2.2.2.2.1, .int .i64 r.2.2.2.2.2.2.2.2.2.2.2.2.1], .bool r.2.2.2.2.2.2.2.2.2.2.2.2.2]
def spec_Uplink.o : spec_Uplink.A → List (PV U) := fun r => []
abbrev slices_Clone_impl_Stmt.A := (List S210)
def slices_Clone_impl_Stmt.v : slices_Clone_impl_Stmt.A → PV U := fun r => .own true 211 r
def slices_Clone_impl_Stmt.o : slices_Clone_impl_Stmt.A → List (PV U) := fun r => []
abbrev impl_copyTask.A := (List S210) × Int × Int × Int
def impl_copyTask.v : impl_copyTask.A → PV U := fun r => .agg [.own true 211 r.1, .int .i64 r.2.1, .int .i64 r.2.2.1, .int .i64 r.2.2.2]
def impl_copyTask.o : impl_copyTask.A → List (PV U) := fun r => []
abbrev impl_copyProgram.A := (List S166)
def impl_copyProgram.v : impl_copyProgram.A → PV U := fun r => .agg [.own true 167 r]
def impl_copyProgram.o : impl_copyProgram.A → List (PV U) := fun r => []
abbrev slices_Clone_int.A := (List Int)
def slices_Clone_int.v : slices_Clone_int.A → PV U := fun r => .own true 3 r
def slices_Clone_int.o : slices_Clone_int.A → List (PV U) := fun r => []
abbrev impl_copyLink.A := Int × (List Int)
def impl_copyLink.v : impl_copyLink.A → PV U := fun r => .agg [.int .i64 r.1, .own true 3 r.2]
def impl_copyLink.o : impl_copyLink.A → List (PV U) := fun r => []
abbrev impl_copyNode.A := (List S166) × (List Int) × (List Int) × Int × Int × Int × Int × Int × Int × Int × Int × (List Int) × Int
def impl_copyNode.v : impl_copyNode.A → PV U := fun r => .agg [.own true 167 r.1, .own true 3 r.2.1, .own true 3 r.2.2.1, .int .i64 r.2.2.2.1, .int .i64 r.2.2.2.2.1, .int .i64 r.2.2.2.2.2.1, .int .i64 r.2.2.2.2.2.2.1, .int .i64 r.2.2.2.2.2.2.2.1, .int .i64 r.2.2.2.2.2.2.2.2.1, .int .i64 r.2.2.2.2.2.2.2.2.2.1, .int .i64 r.2.2.2.2.2.2.2.2.2.2.1, .own true 3 r.2.2.2.2.2.2.2.2.2.2.2.1, .int .i64 r.2.2.2.2.2.2.2.2.2.2.2.2]
def impl_copyNode.o : impl_copyNode.A → List (PV U) := fun r => []
abbrev impl_within.A := Bool
def impl_within.v : impl_within.A → PV U := fun r => .bool r
def impl_within.o : impl_within.A → List (PV U) := fun r => []
abbrev impl_hasVar.A := Bool
def impl_hasVar.v : impl_hasVar.A → PV U := fun r => .bool r
def impl_hasVar.o : impl_hasVar.A → List (PV U) := fun r => []
abbrev impl_isVar.A := Bool
def impl_isVar.v : impl_isVar.A → PV U := fun r => .bool r
def impl_isVar.o : impl_isVar.A → List (PV U) := fun r => []
abbrev impl_hasExpr.A := Bool
def impl_hasExpr.v : impl_hasExpr.A → PV U := fun r => .bool r
def impl_hasExpr.o : impl_hasExpr.A → List (PV U) := fun r => []
abbrev impl_OperandOk.A := Bool
def impl_OperandOk.v : impl_OperandOk.A → PV U := fun r => .bool r
def impl_OperandOk.o : impl_OperandOk.A → List (PV U) := fun r => []
abbrev impl_ExprOk.A := Bool
def impl_ExprOk.v : impl_ExprOk.A → PV U := fun r => .bool r
def impl_ExprOk.o : impl_ExprOk.A → List (PV U) := fun r => []
abbrev impl_isSensor.A := Bool
def impl_isSensor.v : impl_isSensor.A → PV U := fun r => .bool r
def impl_isSensor.o : impl_isSensor.A → List (PV U) := fun r => []
abbrev impl_StmtOk.A := Bool
def impl_StmtOk.v : impl_StmtOk.A → PV U := fun r => .bool r
def impl_StmtOk.o : impl_StmtOk.A → List (PV U) := fun r => []
abbrev impl_isOpening.A := Bool
def impl_isOpening.v : impl_isOpening.A → PV U := fun r => .bool r
def impl_isOpening.o : impl_isOpening.A → List (PV U) := fun r => []
abbrev impl_BlockOk.A := Bool
def impl_BlockOk.v : impl_BlockOk.A → PV U := fun r => .bool r
def impl_BlockOk.o : impl_BlockOk.A → List (PV U) := fun r => []
abbrev impl_taskOk.A := Bool
def impl_taskOk.v : impl_taskOk.A → PV U := fun r => .bool r
def impl_taskOk.o : impl_taskOk.A → List (PV U) := fun r => []
abbrev impl_ProgramOk_1.A := Bool
def impl_ProgramOk_1.v : impl_ProgramOk_1.A → PV U := fun r => .bool r
def impl_ProgramOk_1.o : impl_ProgramOk_1.A → List (PV U) := fun r => []
abbrev slices_IndexFunc_impl_Task_ProgramOk_1.A := Int
def slices_IndexFunc_impl_Task_ProgramOk_1.v : slices_IndexFunc_impl_Task_ProgramOk_1.A → PV U := fun r => .int .i64 r
def slices_IndexFunc_impl_Task_ProgramOk_1.o : slices_IndexFunc_impl_Task_ProgramOk_1.A → List (PV U) := fun r => []
abbrev slices_ContainsFunc_impl_Task_ProgramOk_1.A := Bool
def slices_ContainsFunc_impl_Task_ProgramOk_1.v : slices_ContainsFunc_impl_Task_ProgramOk_1.A → PV U := fun r => .bool r
def slices_ContainsFunc_impl_Task_ProgramOk_1.o : slices_ContainsFunc_impl_Task_ProgramOk_1.A → List (PV U) := fun r => []
abbrev impl_ProgramOk.A := Bool
def impl_ProgramOk.v : impl_ProgramOk.A → PV U := fun r => .bool r
def impl_ProgramOk.o : impl_ProgramOk.A → List (PV U) := fun r => []
abbrev impl_IsValue.A := Bool
def impl_IsValue.v : impl_IsValue.A → PV U := fun r => .bool r
def impl_IsValue.o : impl_IsValue.A → List (PV U) := fun r => []
abbrev impl_areValues_1.A := Bool
def impl_areValues_1.v : impl_areValues_1.A → PV U := fun r => .bool r
def impl_areValues_1.o : impl_areValues_1.A → List (PV U) := fun r => []
abbrev slices_IndexFunc_int_areValues_1.A := Int
def slices_IndexFunc_int_areValues_1.v : slices_IndexFunc_int_areValues_1.A → PV U := fun r => .int .i64 r
def slices_IndexFunc_int_areValues_1.o : slices_IndexFunc_int_areValues_1.A → List (PV U) := fun r => []
abbrev slices_ContainsFunc_int_areValues_1.A := Bool
def slices_ContainsFunc_int_areValues_1.v : slices_ContainsFunc_int_areValues_1.A → PV U := fun r => .bool r
def slices_ContainsFunc_int_areValues_1.o : slices_ContainsFunc_int_areValues_1.A → List (PV U) := fun r => []
abbrev impl_areValues.A := Bool
def impl_areValues.v : impl_areValues.A → PV U := fun r => .bool r
def impl_areValues.o : impl_areValues.A → List (PV U) := fun r => []
abbrev impl_PackControl.A := Int
def impl_PackControl.v : impl_PackControl.A → PV U := fun r => .int .i64 r
def impl_PackControl.o : impl_PackControl.A → List (PV U) := fun r => []
abbrev impl_UnpackControl.A := Int × Int × Int
def impl_UnpackControl.v : impl_UnpackControl.A → PV U := fun r => .tup [.int .i64 r.1, .int .i64 r.2.1, .int .i64 r.2.2]
def impl_UnpackControl.o : impl_UnpackControl.A → List (PV U) := fun r => []
abbrev impl_MemOk.A := Bool
def impl_MemOk.v : impl_MemOk.A → PV U := fun r => .bool r
def impl_MemOk.o : impl_MemOk.A → List (PV U) := fun r => []
abbrev impl_StoreOk.A := Bool
def impl_StoreOk.v : impl_StoreOk.A → PV U := fun r => .bool r
def impl_StoreOk.o : impl_StoreOk.A → List (PV U) := fun r => []
abbrev impl_SpanOk.A := Bool
def impl_SpanOk.v : impl_SpanOk.A → PV U := fun r => .bool r
def impl_SpanOk.o : impl_SpanOk.A → List (PV U) := fun r => []
abbrev impl_MemSent.A := (List Int)
def impl_MemSent.v : impl_MemSent.A → PV U := fun r => .own true 3 r
def impl_MemSent.o : impl_MemSent.A → List (PV U) := fun r => []
abbrev slices_Equal_int.A := Bool
def slices_Equal_int.v : slices_Equal_int.A → PV U := fun r => .bool r
def slices_Equal_int.o : slices_Equal_int.A → List (PV U) := fun r => []
abbrev impl_IsPrefixOf.A := Bool
def impl_IsPrefixOf.v : impl_IsPrefixOf.A → PV U := fun r => .bool r
def impl_IsPrefixOf.o : impl_IsPrefixOf.A → List (PV U) := fun r => []
abbrev impl_LinkOk.A := Bool
def impl_LinkOk.v : impl_LinkOk.A → PV U := fun r => .bool r
def impl_LinkOk.o : impl_LinkOk.A → List (PV U) := fun r => []
abbrev impl_NodeOk.A := Bool
def impl_NodeOk.v : impl_NodeOk.A → PV U := fun r => .bool r
def impl_NodeOk.o : impl_NodeOk.A → List (PV U) := fun r => []
abbrev impl_PacketsOf.A := (List S217)
def impl_PacketsOf.v : impl_PacketsOf.A → PV U := fun r => .own true 218 r
def impl_PacketsOf.o : impl_PacketsOf.A → List (PV U) := fun r => []
abbrev impl_Receive.A := (List Int) × Int
def impl_Receive.v : impl_Receive.A → PV U := fun r => .tup [.agg [.own true 3 r.1], .int .i64 r.2]
def impl_Receive.o : impl_Receive.A → List (PV U) := fun r => []
abbrev impl_ReceiveAll.A := (List Int) × Int
def impl_ReceiveAll.v : impl_ReceiveAll.A → PV U := fun r => .tup [.agg [.own true 3 r.1], .int .i64 r.2]
def impl_ReceiveAll.o : impl_ReceiveAll.A → List (PV U) := fun r => []
abbrev impl_SendRound.A := Int × (List Int) × Bool
def impl_SendRound.v : impl_SendRound.A → PV U := fun r => .tup [.agg [.int .i64 r.1, .own true 3 r.2.1], .bool r.2.2]
def impl_SendRound.o : impl_SendRound.A → List (PV U) := fun r => []
abbrev impl_Uplink.A := (List S166) × (List Int) × (List Int) × Int × Int × Int × Int × Int × Int × Int × Int × (List Int) × Int × Bool
def impl_Uplink.v : impl_Uplink.A → PV U := fun r => .tup [.agg [.own true 167 r.1, .own true 3 r.2.1, .own true 3 r.2.2.1, .int .i64 r.2.2.2.1, .int .i64 r.2.2.2.2.1, .int .i64 r.2.2.2.2.2.1, .int .i64 r.2.2.2.2.2.2.1, .int .i64 r.2.2.2.2.2.2.2.1, .int .i64 r.2.2.2.2.2.2.2.2.1, .int .i64 r.2.2.2.2.2.2.2.2.2.1, .int .i64 r.2.2.2.2.2.2.2.2.2.2.1, .own true 3 r.2.2.2.2.2.2.2.2.2.2.2.1, .int .i64 r.2.2.2.2.2.2.2.2.2.2.2.2.1], .bool r.2.2.2.2.2.2.2.2.2.2.2.2.2]
def impl_Uplink.o : impl_Uplink.A → List (PV U) := fun r => []
abbrev laws_eqExpr.A := Bool
def laws_eqExpr.v : laws_eqExpr.A → PV U := fun r => .bool r
def laws_eqExpr.o : laws_eqExpr.A → List (PV U) := fun r => []
abbrev laws_eqStmt.A := Bool
def laws_eqStmt.v : laws_eqStmt.A → PV U := fun r => .bool r
def laws_eqStmt.o : laws_eqStmt.A → List (PV U) := fun r => []
abbrev laws_eqStmtS.A := Bool
def laws_eqStmtS.v : laws_eqStmtS.A → PV U := fun r => .bool r
def laws_eqStmtS.o : laws_eqStmtS.A → List (PV U) := fun r => []
abbrev laws_eqTask.A := Bool
def laws_eqTask.v : laws_eqTask.A → PV U := fun r => .bool r
def laws_eqTask.o : laws_eqTask.A → List (PV U) := fun r => []
abbrev laws_eqTaskS.A := Bool
def laws_eqTaskS.v : laws_eqTaskS.A → PV U := fun r => .bool r
def laws_eqTaskS.o : laws_eqTaskS.A → List (PV U) := fun r => []
abbrev laws_eqProgram.A := Bool
def laws_eqProgram.v : laws_eqProgram.A → PV U := fun r => .bool r
def laws_eqProgram.o : laws_eqProgram.A → List (PV U) := fun r => []
abbrev laws_eqIntS.A := Bool
def laws_eqIntS.v : laws_eqIntS.A → PV U := fun r => .bool r
def laws_eqIntS.o : laws_eqIntS.A → List (PV U) := fun r => []
abbrev laws_eqStore.A := Bool
def laws_eqStore.v : laws_eqStore.A → PV U := fun r => .bool r
def laws_eqStore.o : laws_eqStore.A → List (PV U) := fun r => []
abbrev laws_eqSpan.A := Bool
def laws_eqSpan.v : laws_eqSpan.A → PV U := fun r => .bool r
def laws_eqSpan.o : laws_eqSpan.A → List (PV U) := fun r => []
abbrev laws_eqGateway.A := Bool
def laws_eqGateway.v : laws_eqGateway.A → PV U := fun r => .bool r
def laws_eqGateway.o : laws_eqGateway.A → List (PV U) := fun r => []
abbrev laws_eqLink.A := Bool
def laws_eqLink.v : laws_eqLink.A → PV U := fun r => .bool r
def laws_eqLink.o : laws_eqLink.A → List (PV U) := fun r => []
abbrev laws_eqNode.A := Bool
def laws_eqNode.v : laws_eqNode.A → PV U := fun r => .bool r
def laws_eqNode.o : laws_eqNode.A → List (PV U) := fun r => []
abbrev laws_eqBoolS.A := Bool
def laws_eqBoolS.v : laws_eqBoolS.A → PV U := fun r => .bool r
def laws_eqBoolS.o : laws_eqBoolS.A → List (PV U) := fun r => []
abbrev laws_markStmtS.A := Int × (List S210)
def laws_markStmtS.v : laws_markStmtS.A → PV U := fun r => .int .i64 r.1
def laws_markStmtS.o : laws_markStmtS.A → List (PV U) := fun r => [.own true 211 r.2]
abbrev laws_markTaskS.A := Int × (List S166)
def laws_markTaskS.v : laws_markTaskS.A → PV U := fun r => .int .i64 r.1
def laws_markTaskS.o : laws_markTaskS.A → List (PV U) := fun r => [.own true 167 r.2]
abbrev laws_markProgram.A := Int × (List S166)
def laws_markProgram.v : laws_markProgram.A → PV U := fun r => .int .i64 r.1
def laws_markProgram.o : laws_markProgram.A → List (PV U) := fun r => [.own true 167 r.2]
abbrev laws_markIntS.A := Int × (List Int)
def laws_markIntS.v : laws_markIntS.A → PV U := fun r => .int .i64 r.1
def laws_markIntS.o : laws_markIntS.A → List (PV U) := fun r => [.own true 3 r.2]
abbrev laws_markGateway.A := Int × (List Int)
def laws_markGateway.v : laws_markGateway.A → PV U := fun r => .int .i64 r.1
def laws_markGateway.o : laws_markGateway.A → List (PV U) := fun r => [.own true 3 r.2]
abbrev laws_markLink.A := Int × (List Int)
def laws_markLink.v : laws_markLink.A → PV U := fun r => .int .i64 r.1
def laws_markLink.o : laws_markLink.A → List (PV U) := fun r => [.own true 3 r.2]
abbrev laws_markNode.A := Int × (List S166) × (List Int) × (List Int) × (List Int)
def laws_markNode.v : laws_markNode.A → PV U := fun r => .int .i64 r.1
def laws_markNode.o : laws_markNode.A → List (PV U) := fun r => [.own true 167 r.2.1, .own true 3 r.2.2.1, .own true 3 r.2.2.2.1, .own true 3 r.2.2.2.2]
abbrev laws_markBoolS.A := Int × (List Bool)
def laws_markBoolS.v : laws_markBoolS.A → PV U := fun r => .int .i64 r.1
def laws_markBoolS.o : laws_markBoolS.A → List (PV U) := fun r => [.own true 4 r.2]
abbrev laws_heldStmtS.A := Int
def laws_heldStmtS.v : laws_heldStmtS.A → PV U := fun r => .int .i64 r
def laws_heldStmtS.o : laws_heldStmtS.A → List (PV U) := fun r => []
abbrev laws_heldTaskS.A := Int
def laws_heldTaskS.v : laws_heldTaskS.A → PV U := fun r => .int .i64 r
def laws_heldTaskS.o : laws_heldTaskS.A → List (PV U) := fun r => []
abbrev laws_heldProgram.A := Int
def laws_heldProgram.v : laws_heldProgram.A → PV U := fun r => .int .i64 r
def laws_heldProgram.o : laws_heldProgram.A → List (PV U) := fun r => []
abbrev laws_heldIntS.A := Int
def laws_heldIntS.v : laws_heldIntS.A → PV U := fun r => .int .i64 r
def laws_heldIntS.o : laws_heldIntS.A → List (PV U) := fun r => []
abbrev laws_heldGateway.A := Int
def laws_heldGateway.v : laws_heldGateway.A → PV U := fun r => .int .i64 r
def laws_heldGateway.o : laws_heldGateway.A → List (PV U) := fun r => []
abbrev laws_heldLink.A := Int
def laws_heldLink.v : laws_heldLink.A → PV U := fun r => .int .i64 r
def laws_heldLink.o : laws_heldLink.A → List (PV U) := fun r => []
abbrev laws_heldNode.A := Int
def laws_heldNode.v : laws_heldNode.A → PV U := fun r => .int .i64 r
def laws_heldNode.o : laws_heldNode.A → List (PV U) := fun r => []
abbrev laws_FnExactUplink.A := Bool
def laws_FnExactUplink.v : laws_FnExactUplink.A → PV U := fun r => .bool r
def laws_FnExactUplink.o : laws_FnExactUplink.A → List (PV U) := fun r => []
def retTab : List (Nat × Ret C) := [(195, ⟨laws_szStmtS.A, laws_szStmtS.v, laws_szStmtS.o⟩), (136, ⟨laws_szTask.A, laws_szTask.v, laws_szTask.o⟩), (65, ⟨laws_szTaskS.A, laws_szTaskS.v, laws_szTaskS.o⟩), (12, ⟨laws_szProgram.A, laws_szProgram.v, laws_szProgram.o⟩), (83, ⟨laws_szIntS.A, laws_szIntS.v, laws_szIntS.o⟩), (154, ⟨laws_szGateway.A, laws_szGateway.v, laws_szGateway.o⟩), (84, ⟨laws_szLink.A, laws_szLink.v, laws_szLink.o⟩), (26, ⟨laws_szNode.A, laws_szNode.v, laws_szNode.o⟩), (147, ⟨laws_toExpr.A, laws_toExpr.v, laws_toExpr.o⟩), (227, ⟨laws_toStmt.A, laws_toStmt.v, laws_toStmt.o⟩), (203, ⟨laws_toStmtS.A, laws_toStmtS.v, laws_toStmtS.o⟩), (146, ⟨laws_toTask.A, laws_toTask.v, laws_toTask.o⟩), (74, ⟨laws_toTaskS.A, laws_toTaskS.v, laws_toTaskS.o⟩), (15, ⟨laws_toProgram.A, laws_toProgram.v, laws_toProgram.o⟩), (16, ⟨laws_toIntS.A, laws_toIntS.v, laws_toIntS.o⟩), (88, ⟨laws_toStore.A, laws_toStore.v, laws_toStore.o⟩), (89, ⟨laws_toSpan.A, laws_toSpan.v, laws_toSpan.o⟩), (162, ⟨laws_toGateway.A, laws_toGateway.v, laws_toGateway.o⟩), (90, ⟨laws_toLink.A, laws_toLink.v, laws_toLink.o⟩), (28, ⟨laws_toNode.A, laws_toNode.v, laws_toNode.o⟩), (29, ⟨laws_toBoolS.A, laws_toBoolS.v, laws_toBoolS.o⟩), (155, ⟨spec_l06Copy.A, spec_l06Copy.v, spec_l06Copy.o⟩), (156, ⟨spec_l32Copy.A, spec_l32Copy.v, spec_l32Copy.o⟩), (85, ⟨spec_l37Copy.A, spec_l37Copy.v, spec_l37Copy.o⟩), (244, ⟨spec_l04Plain.A, spec_l04Plain.v, spec_l04Plain.o⟩), (139, ⟨spec_l01In.A, spec_l01In.v, spec_l01In.o⟩), (197, ⟨spec_OperandOk.A, spec_OperandOk.v, spec_OperandOk.o⟩), (141, ⟨spec_ExprOk.A, spec_ExprOk.v, spec_ExprOk.o⟩), (225, ⟨spec_StmtOk.A, spec_StmtOk.v, spec_StmtOk.o⟩), (196, ⟨spec_BlockOk.A, spec_BlockOk.v, spec_BlockOk.o⟩), (137, ⟨spec_ProgramOk.A, spec_ProgramOk.v, spec_ProgramOk.o⟩), (73, ⟨spec_PackControl.A, spec_PackControl.v, spec_PackControl.o⟩), (72, ⟨spec_UnpackControl.A, spec_UnpackControl.v, spec_UnpackControl.o⟩), (140, ⟨spec_IsValue.A, spec_IsValue.v, spec_IsValue.o⟩), (138, ⟨spec_l09Values.A, spec_l09Values.v, spec_l09Values.o⟩), (67, ⟨spec_MemOk.A, spec_MemOk.v, spec_MemOk.o⟩), (157, ⟨spec_StoreOk.A, spec_StoreOk.v, spec_StoreOk.o⟩), (158, ⟨spec_SpanOk.A, spec_SpanOk.v, spec_SpanOk.o⟩), (208, ⟨spec_MemSent.A, spec_MemSent.v, spec_MemSent.o⟩), (207, ⟨spec_IsPrefixOf.A, spec_IsPrefixOf.v, spec_IsPrefixOf.o⟩), (159, ⟨spec_LinkOk.A, spec_LinkOk.v, spec_LinkOk.o⟩), (86, ⟨spec_NodeOk.A, spec_NodeOk.v, spec_NodeOk.o⟩), (161, ⟨spec_PacketsOf.A, spec_PacketsOf.v, spec_PacketsOf.o⟩), (209, ⟨spec_l31Take.A, spec_l31Take.v, spec_l31Take.o⟩), (160, ⟨spec_ReceiveAll.A, spec_ReceiveAll.v, spec_ReceiveAll.o⟩), (87, ⟨spec_SendRound.A, spec_SendRound.v, spec_SendRound.o⟩), (27, ⟨spec_Uplink.A, spec_Uplink.v, spec_Uplink.o⟩), (219, ⟨slices_Clone_impl_Stmt.A, slices_Clone_impl_Stmt.v, slices_Clone_impl_Stmt.o⟩), (181, ⟨impl_copyTask.A, impl_copyTask.v, impl_copyTask.o⟩), (117, ⟨impl_copyProgram.A, impl_copyProgram.v, impl_copyProgram.o⟩), (112, ⟨slices_Clone_int.A, slices_Clone_int.v, slices_Clone_int.o⟩), (163, ⟨impl_copyLink.A, impl_copyLink.v, impl_copyLink.o⟩), (91, ⟨impl_copyNode.A, impl_copyNode.v, impl_copyNode.o⟩), (105, ⟨impl_within.A, impl_within.v, impl_within.o⟩), (255, ⟨impl_hasVar.A, impl_hasVar.v, impl_hasVar.o⟩), (109, ⟨impl_isVar.A, impl_isVar.v, impl_isVar.o⟩), (256, ⟨impl_hasExpr.A, impl_hasExpr.v, impl_hasExpr.o⟩), (205, ⟨impl_OperandOk.A, impl_OperandOk.v, impl_OperandOk.o⟩), (150, ⟨impl_ExprOk.A, impl_ExprOk.v, impl_ExprOk.o⟩), (253, ⟨impl_isSensor.A, impl_isSensor.v, impl_isSensor.o⟩), (241, ⟨impl_StmtOk.A, impl_StmtOk.v, impl_StmtOk.o⟩), (242, ⟨impl_isOpening.A, impl_isOpening.v, impl_isOpening.o⟩), (218, ⟨impl_BlockOk.A, impl_BlockOk.v, impl_BlockOk.o⟩), (178, ⟨impl_taskOk.A, impl_taskOk.v, impl_taskOk.o⟩), (177, ⟨impl_ProgramOk_1.A, impl_ProgramOk_1.v, impl_ProgramOk_1.o⟩), (217, ⟨slices_IndexFunc_impl_Task_ProgramOk_1.A, slices_IndexFunc_impl_Task_ProgramOk_1.v, slices_IndexFunc_impl_Task_ProgramOk_1.o⟩), (176, ⟨slices_ContainsFunc_impl_Task_ProgramOk_1.A, slices_ContainsFunc_impl_Task_ProgramOk_1.v, slices_ContainsFunc_impl_Task_ProgramOk_1.o⟩), (107, ⟨impl_ProgramOk.A, impl_ProgramOk.v, impl_ProgramOk.o⟩), (110, ⟨impl_IsValue.A, impl_IsValue.v, impl_IsValue.o⟩), (179, ⟨impl_areValues_1.A, impl_areValues_1.v, impl_areValues_1.o⟩), (184, ⟨slices_IndexFunc_int_areValues_1.A, slices_IndexFunc_int_areValues_1.v, slices_IndexFunc_int_areValues_1.o⟩), (124, ⟨slices_ContainsFunc_int_areValues_1.A, slices_ContainsFunc_int_areValues_1.v, slices_ContainsFunc_int_areValues_1.o⟩), (108, ⟨impl_areValues.A, impl_areValues.v, impl_areValues.o⟩), (78, ⟨impl_PackControl.A, impl_PackControl.v, impl_PackControl.o⟩), (77, ⟨impl_UnpackControl.A, impl_UnpackControl.v, impl_UnpackControl.o⟩), (41, ⟨impl_MemOk.A, impl_MemOk.v, impl_MemOk.o⟩), (116, ⟨impl_StoreOk.A, impl_StoreOk.v, impl_StoreOk.o⟩), (121, ⟨impl_SpanOk.A, impl_SpanOk.v, impl_SpanOk.o⟩), (43, ⟨impl_MemSent.A, impl_MemSent.v, impl_MemSent.o⟩), (111, ⟨slices_Equal_int.A, slices_Equal_int.v, slices_Equal_int.o⟩), (42, ⟨impl_IsPrefixOf.A, impl_IsPrefixOf.v, impl_IsPrefixOf.o⟩), (122, ⟨impl_LinkOk.A, impl_LinkOk.v, impl_LinkOk.o⟩), (50, ⟨impl_NodeOk.A, impl_NodeOk.v, impl_NodeOk.o⟩), (165, ⟨impl_PacketsOf.A, impl_PacketsOf.v, impl_PacketsOf.o⟩), (210, ⟨impl_Receive.A, impl_Receive.v, impl_Receive.o⟩), (164, ⟨impl_ReceiveAll.A, impl_ReceiveAll.v, impl_ReceiveAll.o⟩), (92, ⟨impl_SendRound.A, impl_SendRound.v, impl_SendRound.o⟩), (30, ⟨impl_Uplink.A, impl_Uplink.v, impl_Uplink.o⟩), (152, ⟨laws_eqExpr.A, laws_eqExpr.v, laws_eqExpr.o⟩), (228, ⟨laws_eqStmt.A, laws_eqStmt.v, laws_eqStmt.o⟩), (206, ⟨laws_eqStmtS.A, laws_eqStmtS.v, laws_eqStmtS.o⟩), (151, ⟨laws_eqTask.A, laws_eqTask.v, laws_eqTask.o⟩), (79, ⟨laws_eqTaskS.A, laws_eqTaskS.v, laws_eqTaskS.o⟩), (20, ⟨laws_eqProgram.A, laws_eqProgram.v, laws_eqProgram.o⟩), (19, ⟨laws_eqIntS.A, laws_eqIntS.v, laws_eqIntS.o⟩), (93, ⟨laws_eqStore.A, laws_eqStore.v, laws_eqStore.o⟩), (94, ⟨laws_eqSpan.A, laws_eqSpan.v, laws_eqSpan.o⟩), (166, ⟨laws_eqGateway.A, laws_eqGateway.v, laws_eqGateway.o⟩), (95, ⟨laws_eqLink.A, laws_eqLink.v, laws_eqLink.o⟩), (31, ⟨laws_eqNode.A, laws_eqNode.v, laws_eqNode.o⟩), (32, ⟨laws_eqBoolS.A, laws_eqBoolS.v, laws_eqBoolS.o⟩), (153, ⟨laws_markStmtS.A, laws_markStmtS.v, laws_markStmtS.o⟩), (81, ⟨laws_markTaskS.A, laws_markTaskS.v, laws_markTaskS.o⟩), (22, ⟨laws_markProgram.A, laws_markProgram.v, laws_markProgram.o⟩), (23, ⟨laws_markIntS.A, laws_markIntS.v, laws_markIntS.o⟩), (167, ⟨laws_markGateway.A, laws_markGateway.v, laws_markGateway.o⟩), (96, ⟨laws_markLink.A, laws_markLink.v, laws_markLink.o⟩), (33, ⟨laws_markNode.A, laws_markNode.v, laws_markNode.o⟩), (34, ⟨laws_markBoolS.A, laws_markBoolS.v, laws_markBoolS.o⟩), (211, ⟨laws_heldStmtS.A, laws_heldStmtS.v, laws_heldStmtS.o⟩), (168, ⟨laws_heldTaskS.A, laws_heldTaskS.v, laws_heldTaskS.o⟩), (97, ⟨laws_heldProgram.A, laws_heldProgram.v, laws_heldProgram.o⟩), (25, ⟨laws_heldIntS.A, laws_heldIntS.v, laws_heldIntS.o⟩), (169, ⟨laws_heldGateway.A, laws_heldGateway.v, laws_heldGateway.o⟩), (98, ⟨laws_heldLink.A, laws_heldLink.v, laws_heldLink.o⟩), (35, ⟨laws_heldNode.A, laws_heldNode.v, laws_heldNode.o⟩), (4, ⟨laws_FnExactUplink.A, laws_FnExactUplink.v, laws_FnExactUplink.o⟩)]
def ntTab : List (Nat × Nat) := [(195, 12), (136, 12), (65, 27), (12, 12), (83, 12), (154, 12), (84, 12), (26, 30), (147, 14), (227, 18), (203, 23), (146, 13), (74, 23), (15, 9), (16, 22), (88, 17), (89, 11), (162, 9), (90, 12), (28, 35), (29, 22), (155, 34), (156, 12), (85, 22), (244, 37), (139, 15), (197, 5), (141, 16), (225, 43), (196, 41), (137, 33), (73, 27), (72, 30), (140, 5), (138, 16), (67, 72), (157, 25), (158, 18), (208, 27), (207, 27), (159, 20), (86, 40), (161, 34), (209, 21), (160, 40), (87, 37), (27, 27), (219, 8), (181, 8), (117, 23), (112, 8), (163, 11), (91, 20), (105, 15), (255, 9), (109, 5), (256, 13), (205, 5), (150, 16), (253, 5), (241, 65), (242, 9), (218, 39), (178, 11), (177, 6), (217, 19), (176, 9), (107, 13), (110, 5), (179, 6), (184, 19), (124, 9), (108, 6), (78, 27), (77, 28), (41, 72), (116, 25), (121, 18), (43, 24), (111, 26), (42, 18), (122, 20), (50, 40), (165, 33), (210, 34), (164, 43), (92, 37), (30, 27), (152, 20), (228, 26), (206, 27), (151, 17), (79, 27), (20, 11), (19, 26), (93, 25), (94, 15), (166, 11), (95, 16), (31, 51), (32, 26), (153, 58), (81, 44), (22, 10), (23, 19), (167, 10), (96, 10), (33, 22), (34, 21), (211, 70), (168, 52), (97, 12), (25, 21), (169, 12), (98, 12), (35, 30), (4, 122)]
def modeTab : List (Nat × YtobfemcobakeoaaGreatEv.Mode) := [(209, .take), (153, .edit), (81, .edit), (22, .edit), (23, .edit), (167, .edit), (96, .edit), (33, .edit), (34, .edit)]
def PL : Plan C := ⟨fun f => lookup f retTab, fun f => (lookup f ntTab).getD 0, fun f => (lookup f modeTab).getD YtobfemcobakeoaaGreatEv.Mode.read, [], [], []⟩
end
end Go.Proofs.YtobfemcobakeoaaGreat.Ev
