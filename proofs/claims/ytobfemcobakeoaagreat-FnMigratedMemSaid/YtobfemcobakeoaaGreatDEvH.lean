/- The program's types for the evaluator, looked up, and the table of calls. No conditions. -/
import Derived.Test.YtobfemcobakeoaaGreatLibC
import Derived.WalkKit
import Derived.Test.YtobfemcobakeoaaGreatProg
import Derived.Test.YtobfemcobakeoaaGreatShelf
namespace Go.Proofs.YtobfemcobakeoaaGreat.Ev
open Go.Proofs.YtobfemcobakeoaaGreatEv Go.RowKit
set_option linter.unusedVariables false
set_option maxRecDepth 100000
noncomputable section
structure S153 where
 f0 : Int
 f1 : Int
 f2 : Int
def z153 : S153 := ⟨(0 : Int), (0 : Int), (0 : Int)⟩
structure S210 where
 f0 : Int
 f1 : Int
 f2 : Int
 f3 : S153
def z210 : S210 := ⟨(0 : Int), (0 : Int), (0 : Int), z153⟩
structure S166 where
 f0 : List S210
 f1 : S153
def z166 : S166 := ⟨([] : List S210), z153⟩
structure S205 where
 f0 : Int
 f1 : Int
def z205 : S205 := ⟨(0 : Int), (0 : Int)⟩
structure S227 where
 f0 : Int
 f1 : Int
 f2 : Int
def z227 : S227 := ⟨(0 : Int), (0 : Int), (0 : Int)⟩
abbrev wr (n : Int) : Int := IntKind.wrap .i64 n
abbrev rdI (xs : List Int) (i : Int) : Int := xs.getD i.toNat (0 : Int)
abbrev rdB (xs : List Bool) (i : Int) : Bool := xs.getD i.toNat false
abbrev rdLI (xs : List (List Int)) (i : Int) : List Int := xs.getD i.toNat ([] : List Int)
abbrev rdS153 (xs : List S153) (i : Int) : S153 := xs.getD i.toNat z153
abbrev rdS210 (xs : List S210) (i : Int) : S210 := xs.getD i.toNat z210
abbrev rdS166 (xs : List S166) (i : Int) : S166 := xs.getD i.toNat z166
abbrev rdS205 (xs : List S205) (i : Int) : S205 := xs.getD i.toNat z205
abbrev rdS227 (xs : List S227) (i : Int) : S227 := xs.getD i.toNat z227
def elTab : List (Nat × (Σ T : Type, T)) := [
 (3, ⟨Int, (0 : Int)⟩),
 (4, ⟨Bool, false⟩),
 (5, ⟨Int, (0 : Int)⟩),
 (25, ⟨List Int, ([] : List Int)⟩),
 (154, ⟨S153, z153⟩),
 (211, ⟨S210, z210⟩),
 (167, ⟨S166, z166⟩),
 (206, ⟨S205, z205⟩),
 (228, ⟨S227, z227⟩)]
def U : Uni := ⟨fun e => (elAt elTab e).1, fun e => (elAt elTab e).2⟩
def elE : List (Σ e, ElE U e) := [
 ⟨3, ⟨fun (x : Int) => .int .i64 x, fun v => (match v with | .int .i64 y1 => some (y1 : Int) | _ => none : Option Int)⟩⟩,
 ⟨4, ⟨fun (x : Bool) => .bool x, fun v => (match v with | .bool y1 => some (y1 : Bool) | _ => none : Option Bool)⟩⟩,
 ⟨5, ⟨fun (x : Int) => .int .u8 x, fun v => (match v with | .int .u8 y1 => some (y1 : Int) | _ => none : Option Int)⟩⟩,
 ⟨25, ⟨fun (x : List Int) => .sl 3 x, fun v => (match v with | .sl 3 y1 => some (y1 : List Int) | _ => none : Option (List Int))⟩⟩,
 ⟨154, ⟨fun (x : S153) => .agg [.int .i64 x.f0, .int .i64 x.f1, .int .i64 x.f2], fun v => (match v with | .agg [.int .i64 y1, .int .i64 y2, .int .i64 y3] => some ((⟨y1, y2, y3⟩ : S153) : S153) | _ => none : Option S153)⟩⟩,
 ⟨211, ⟨fun (x : S210) => .agg [.int .i64 x.f0, .int .i64 x.f1, .int .i64 x.f2, .int .i64 x.f3.f0, .int .i64 x.f3.f1, .int .i64 x.f3.f2], fun v => (match v with | .agg [.int .i64 y1, .int .i64 y2, .int .i64 y3, .int .i64 y4, .int .i64 y5, .int .i64 y6] => some ((⟨y1, y2, y3, (⟨y4, y5, y6⟩ : S153)⟩ : S210) : S210) | _ => none : Option S210)⟩⟩,
 ⟨167, ⟨fun (x : S166) => .agg [.sl 211 x.f0, .int .i64 x.f1.f0, .int .i64 x.f1.f1, .int .i64 x.f1.f2], fun v => (match v with | .agg [.sl 211 y1, .int .i64 y2, .int .i64 y3, .int .i64 y4] => some ((⟨y1, (⟨y2, y3, y4⟩ : S153)⟩ : S166) : S166) | _ => none : Option S166)⟩⟩,
 ⟨206, ⟨fun (x : S205) => .agg [.int .i64 x.f0, .int .i64 x.f1], fun v => (match v with | .agg [.int .i64 y1, .int .i64 y2] => some ((⟨y1, y2⟩ : S205) : S205) | _ => none : Option S205)⟩⟩,
 ⟨228, ⟨fun (x : S227) => .agg [.int .i64 x.f0, .int .i64 x.f1, .int .i64 x.f2], fun v => (match v with | .agg [.int .i64 y1, .int .i64 y2, .int .i64 y3] => some ((⟨y1, y2, y3⟩ : S227) : S227) | _ => none : Option S227)⟩⟩]
def tyTab : List (Nat × Ty U) := [
 (3, .int .i64),
 (4, .bool),
 (5, .int .u8),
 (25, .slice 3),
 (33, .slice 167),
 (35, .struct [(0, 33)] [.own true 167 ([] : List S166)]),
 (38, .slice 154),
 (40, .struct [(0, 38)] [.own true 154 ([] : List S153)]),
 (59, .slice 4),
 (77, .slice 5),
 (82, .slice 25),
 (84, .struct [(0, 25), (1, 3), (2, 82), (3, 3)] [.own true 3 ([] : List Int), .int .i64 (0 : Int), .own true 25 ([] : List (List Int)), .int .i64 (0 : Int)]),
 (96, .struct [(0, 25), (1, 3), (2, 82), (3, 25)] [.own true 3 ([] : List Int), .int .i64 (0 : Int), .own true 25 ([] : List (List Int)), .own true 3 ([] : List Int)]),
 (132, .ptr),
 (154, .struct [(0, 3), (1, 3), (2, 3)] [.int .i64 (0 : Int), .int .i64 (0 : Int), .int .i64 (0 : Int)]),
 (156, .slice 206),
 (165, .slice 211),
 (167, .struct [(0, 165), (1, 154)] [.own true 211 ([] : List S210), .int .i64 (0 : Int), .int .i64 (0 : Int), .int .i64 (0 : Int)]),
 (190, .struct [(0, 77), (1, 3), (2, 3)] [.own true 5 ([] : List Int), .int .i64 (0 : Int), .int .i64 (0 : Int)]),
 (206, .struct [(0, 3), (1, 3)] [.int .i64 (0 : Int), .int .i64 (0 : Int)]),
 (211, .struct [(0, 3), (1, 3), (2, 3), (3, 154)] [.int .i64 (0 : Int), .int .i64 (0 : Int), .int .i64 (0 : Int), .int .i64 (0 : Int), .int .i64 (0 : Int), .int .i64 (0 : Int)]),
 (221, .int .u64),
 (222, .ptr),
 (223, .slice 228),
 (225, .struct [(0, 223), (1, 25)] [.own true 228 ([] : List S227), .own true 3 ([] : List Int)]),
 (228, .struct [(0, 3), (1, 3), (2, 3)] [.int .i64 (0 : Int), .int .i64 (0 : Int), .int .i64 (0 : Int)]),
 (244, .ptr),
 (245, .arr 8 4 [.bool false, .bool false, .bool false, .bool false, .bool false, .bool false, .bool false, .bool false]),
 (247, .struct [(0, 225), (2, 3), (3, 3), (4, 3), (5, 25), (6, 245), (14, 25)] [.own true 228 ([] : List S227), .own true 3 ([] : List Int), .int .i64 (0 : Int), .int .i64 (0 : Int), .int .i64 (0 : Int), .own true 3 ([] : List Int), .bool false, .bool false, .bool false, .bool false, .bool false, .bool false, .bool false, .bool false, .own true 3 ([] : List Int)]),
 (268, .ptr),
 (270, .struct [(0, 245), (8, 245)] [.bool false, .bool false, .bool false, .bool false, .bool false, .bool false, .bool false, .bool false, .bool false, .bool false, .bool false, .bool false, .bool false, .bool false, .bool false, .bool false])]
def bytesTab : List (Nat × Nat) := [(3, 8), (4, 1), (5, 1), (25, 24), (154, 24), (211, 48), (167, 48), (206, 16), (228, 24)]
def eqTab : List (Nat × Nat) := [(154, 3)]
def C : Ctx := ⟨U, fun e => (sel (noEl U) elE e).enc, fun e => (sel (noEl U) elE e).dec, fun t => lookup t tyTab, fun e => (lookup e bytesTab).getD 0, fun t => lookup t eqTab⟩
theorem elOk : AllL (fun p : Σ e, ElE U e => ElOk p.1 p.2) elE := ⟨⟨fun _ => rfl, fun _ => rfl, fun _ => rfl, fun v y h => by dsimp only at h; split at h <;> first | (cases h; rfl) | cases h⟩,
 ⟨fun _ => rfl, fun _ => rfl, fun _ => rfl, fun v y h => by dsimp only at h; split at h <;> first | (cases h; rfl) | cases h⟩,
 ⟨fun _ => rfl, fun _ => rfl, fun _ => rfl, fun v y h => by dsimp only at h; split at h <;> first | (cases h; rfl) | cases h⟩,
 ⟨fun _ => rfl, fun _ => rfl, fun _ => rfl, fun v y h => by dsimp only at h; split at h <;> first | (cases h; rfl) | cases h⟩,
 ⟨fun _ => rfl, fun _ => rfl, fun _ => rfl, fun v y h => by dsimp only at h; split at h <;> first | (cases h; rfl) | cases h⟩,
 ⟨fun _ => rfl, fun _ => rfl, fun _ => rfl, fun v y h => by dsimp only at h; split at h <;> first | (cases h; rfl) | cases h⟩,
 ⟨fun _ => rfl, fun _ => rfl, fun _ => rfl, fun v y h => by dsimp only at h; split at h <;> first | (cases h; rfl) | cases h⟩,
 ⟨fun _ => rfl, fun _ => rfl, fun _ => rfl, fun v y h => by dsimp only at h; split at h <;> first | (cases h; rfl) | cases h⟩,
 ⟨fun _ => rfl, fun _ => rfl, fun _ => rfl, fun v y h => by dsimp only at h; split at h <;> first | (cases h; rfl) | cases h⟩, trivial⟩
theorem tyOk : AllL (fun p : Nat × Ty U => TyOk Tryz.prog C p.1 p.2) tyTab := ⟨tyOk_int (by kernel_rfl) (by kernel_rfl),
 tyOk_bool (by kernel_rfl) (by kernel_rfl),
 tyOk_int (by kernel_rfl) (by kernel_rfl),
 tyOk_slice (by kernel_rfl) (by kernel_rfl),
 tyOk_slice (by kernel_rfl) (by kernel_rfl),
 tyOk_struct #[.slice none 0 0] (by kernel_rfl) (by kernel_rfl) (by kernel_rfl) (by kernel_rfl) (by kernel_rfl),
 tyOk_slice (by kernel_rfl) (by kernel_rfl),
 tyOk_struct #[.slice none 0 0] (by kernel_rfl) (by kernel_rfl) (by kernel_rfl) (by kernel_rfl) (by kernel_rfl),
 tyOk_slice (by kernel_rfl) (by kernel_rfl),
 tyOk_slice (by kernel_rfl) (by kernel_rfl),
 tyOk_slice (by kernel_rfl) (by kernel_rfl),
 tyOk_struct #[.slice none 0 0, .int .i64 0, .slice none 0 0, .int .i64 0] (by kernel_rfl) (by kernel_rfl) (by kernel_rfl) (by kernel_rfl) (by kernel_rfl),
 tyOk_struct #[.slice none 0 0, .int .i64 0, .slice none 0 0, .slice none 0 0] (by kernel_rfl) (by kernel_rfl) (by kernel_rfl) (by kernel_rfl) (by kernel_rfl),
 tyOk_ptr (e := 190) (by kernel_rfl) (by kernel_rfl),
 tyOk_struct #[.int .i64 0, .int .i64 0, .int .i64 0] (by kernel_rfl) (by kernel_rfl) (by kernel_rfl) (by kernel_rfl) (by kernel_rfl),
 tyOk_slice (by kernel_rfl) (by kernel_rfl),
 tyOk_slice (by kernel_rfl) (by kernel_rfl),
 tyOk_struct #[.slice none 0 0, .int .i64 0, .int .i64 0, .int .i64 0] (by kernel_rfl) (by kernel_rfl) (by kernel_rfl) (by kernel_rfl) (by kernel_rfl),
 tyOk_struct #[.slice none 0 0, .int .i64 0, .int .i64 0] (by kernel_rfl) (by kernel_rfl) (by kernel_rfl) (by kernel_rfl) (by kernel_rfl),
 tyOk_struct #[.int .i64 0, .int .i64 0] (by kernel_rfl) (by kernel_rfl) (by kernel_rfl) (by kernel_rfl) (by kernel_rfl),
 tyOk_struct #[.int .i64 0, .int .i64 0, .int .i64 0, .int .i64 0, .int .i64 0, .int .i64 0] (by kernel_rfl) (by kernel_rfl) (by kernel_rfl) (by kernel_rfl) (by kernel_rfl),
 tyOk_int (by kernel_rfl) (by kernel_rfl),
 tyOk_ptr (e := 84) (by kernel_rfl) (by kernel_rfl),
 tyOk_slice (by kernel_rfl) (by kernel_rfl),
 tyOk_struct #[.slice none 0 0, .slice none 0 0] (by kernel_rfl) (by kernel_rfl) (by kernel_rfl) (by kernel_rfl) (by kernel_rfl),
 tyOk_struct #[.int .i64 0, .int .i64 0, .int .i64 0] (by kernel_rfl) (by kernel_rfl) (by kernel_rfl) (by kernel_rfl) (by kernel_rfl),
 tyOk_ptr (e := 247) (by kernel_rfl) (by kernel_rfl),
 tyOk_arr #[.bool false, .bool false, .bool false, .bool false, .bool false, .bool false, .bool false, .bool false] (by kernel_rfl) (by kernel_rfl) (by kernel_rfl) (by kernel_rfl) (by kernel_rfl) (by kernel_rfl),
 tyOk_struct #[.slice none 0 0, .slice none 0 0, .int .i64 0, .int .i64 0, .int .i64 0, .slice none 0 0, .bool false, .bool false, .bool false, .bool false, .bool false, .bool false, .bool false, .bool false, .slice none 0 0] (by kernel_rfl) (by kernel_rfl) (by kernel_rfl) (by kernel_rfl) (by kernel_rfl),
 tyOk_ptr (e := 270) (by kernel_rfl) (by kernel_rfl),
 tyOk_struct #[.bool false, .bool false, .bool false, .bool false, .bool false, .bool false, .bool false, .bool false, .bool false, .bool false, .bool false, .bool false, .bool false, .bool false, .bool false, .bool false] (by kernel_rfl) (by kernel_rfl) (by kernel_rfl) (by kernel_rfl) (by kernel_rfl), trivial⟩
theorem sl3 : SliceOk Tryz.prog C 3 := sliceOk_of (.int .i64 0) 1 8 (fun x T h ha => by have h' : (some (.int .i64) : Option (Ty U)) = some T := h; cases h'; cases ha) (by kernel_rfl) (by kernel_rfl) (by kernel_rfl) (by decide) (by decide) (by kernel_rfl)
theorem sl4 : SliceOk Tryz.prog C 4 := sliceOk_of (.bool false) 1 1 (fun x T h ha => by have h' : (some (.bool) : Option (Ty U)) = some T := h; cases h'; cases ha) (by kernel_rfl) (by kernel_rfl) (by kernel_rfl) (by decide) (by decide) (by kernel_rfl)
theorem sl5 : SliceOk Tryz.prog C 5 := sliceOk_of (.int .u8 0) 1 1 (fun x T h ha => by have h' : (some (.int .u8) : Option (Ty U)) = some T := h; cases h'; cases ha) (by kernel_rfl) (by kernel_rfl) (by kernel_rfl) (by decide) (by decide) (by kernel_rfl)
theorem sl25 : SliceOk Tryz.prog C 25 := sliceOk_of (.slice none 0 0) 1 24 (fun x T h ha => by have h' : (some (.slice 3) : Option (Ty U)) = some T := h; cases h'; cases ha) (by kernel_rfl) (by kernel_rfl) (by kernel_rfl) (by decide) (by decide) (by kernel_rfl)
theorem sl154 : SliceOk Tryz.prog C 154 := sliceOk_of (.agg #[.int .i64 0, .int .i64 0, .int .i64 0]) 3 24 (fun x T _ _ => ⟨_, rfl⟩) (by kernel_rfl) (by kernel_rfl) (by kernel_rfl) (by decide) (by decide) (by kernel_rfl)
theorem sl167 : SliceOk Tryz.prog C 167 := sliceOk_of (.agg #[.slice none 0 0, .int .i64 0, .int .i64 0, .int .i64 0]) 4 48 (fun x T _ _ => ⟨_, rfl⟩) (by kernel_rfl) (by kernel_rfl) (by kernel_rfl) (by decide) (by decide) (by kernel_rfl)
theorem sl206 : SliceOk Tryz.prog C 206 := sliceOk_of (.agg #[.int .i64 0, .int .i64 0]) 2 16 (fun x T _ _ => ⟨_, rfl⟩) (by kernel_rfl) (by kernel_rfl) (by kernel_rfl) (by decide) (by decide) (by kernel_rfl)
theorem sl211 : SliceOk Tryz.prog C 211 := sliceOk_of (.agg #[.int .i64 0, .int .i64 0, .int .i64 0, .int .i64 0, .int .i64 0, .int .i64 0]) 6 48 (fun x T _ _ => ⟨_, rfl⟩) (by kernel_rfl) (by kernel_rfl) (by kernel_rfl) (by decide) (by decide) (by kernel_rfl)
theorem sl228 : SliceOk Tryz.prog C 228 := sliceOk_of (.agg #[.int .i64 0, .int .i64 0, .int .i64 0]) 3 24 (fun x T _ _ => ⟨_, rfl⟩) (by kernel_rfl) (by kernel_rfl) (by kernel_rfl) (by decide) (by decide) (by kernel_rfl)
theorem slOk : AllL (fun p : Nat × Ty U => ∀ e, p.2 = .slice e → SliceOk Tryz.prog C e) tyTab := ⟨(fun e h => by cases h), (fun e h => by cases h), (fun e h => by cases h), (fun e h => by cases h; exact sl3), (fun e h => by cases h; exact sl167), (fun e h => by cases h), (fun e h => by cases h; exact sl154), (fun e h => by cases h), (fun e h => by cases h; exact sl4), (fun e h => by cases h; exact sl5), (fun e h => by cases h; exact sl25), (fun e h => by cases h), (fun e h => by cases h), (fun e h => by cases h), (fun e h => by cases h), (fun e h => by cases h; exact sl206), (fun e h => by cases h; exact sl211), (fun e h => by cases h), (fun e h => by cases h), (fun e h => by cases h), (fun e h => by cases h), (fun e h => by cases h), (fun e h => by cases h), (fun e h => by cases h; exact sl228), (fun e h => by cases h), (fun e h => by cases h), (fun e h => by cases h), (fun e h => by cases h), (fun e h => by cases h), (fun e h => by cases h), (fun e h => by cases h), trivial⟩
def eqB154 (x0 x1 x2 y0 y1 y2 : Int) : Bool := (x0 == y0) && ((x1 == y1) && ((x2 == y2) && true))
theorem eqA154 (d : Nat) (w : World) (k0 k1 k2 : IntKind) (x0 x1 x2 y0 y1 y2 : Int) : (Op.equalIn (d + 2) 154 (.agg #[.int k0 x0, .int k1 x1, .int k2 x2]) (.agg #[.int k0 y0, .int k1 y1, .int k2 y2])).run Tryz.prog w = .ok (eqB154 x0 x1 x2 y0 y1 y2) w := by
 refine eq_struct Tryz.underlying154 (by kernel_rfl) ?_; refine eq_cons (by rfl) (by go_simp; rfl) (by go_simp; rfl) (by go_simp) ?_; refine eq_cons (by rfl) (by go_simp; rfl) (by go_simp; rfl) (by go_simp) ?_; refine eq_cons (by rfl) (by go_simp; rfl) (by go_simp; rfl) (by go_simp) ?_; exact eq_nil
theorem eq154 : EqOk Tryz.prog 154 3 := fun ps w h => match ps, h with
 | [p0, p1, p2], _ => ⟨by
  have e := eqA154 9998 w p0.1 p1.1 p2.1 p0.2.1 p1.2.1 p2.2.1 p0.2.2 p1.2.2 p2.2.2
  have hb : ∀ a b : Int, (a == b) = decide (a = b) := fun _ _ => rfl
  exact e.trans (by simp [eqB154, List.all, hb]), by kernel_rfl⟩
theorem eqOk : AllL (fun p : Nat × Nat => EqOk Tryz.prog p.1 p.2) eqTab := ⟨eq154, trivial⟩
theorem G : YtobfemcobakeoaaGreatEv.Good Tryz.prog C := good_of (U := U) (tab := elE) (tyTab := tyTab) (bytesTab := bytesTab) (eqTab := eqTab) rfl elOk tyOk (fun t e h => slOk.mem _ (lookup_mem h) e rfl) eqOk
abbrev Pg : Program := Tryz.prog
theorem mixed : Pg.follows .mixedOrders = true := by kernel_rfl
abbrev laws_big.A := Bool
def laws_big.v : laws_big.A → PV U := fun r => .bool r
def laws_big.o : laws_big.A → List (PV U) := fun r => []
abbrev spec_l01New.A := (List Int) × Int × Int
def spec_l01New.v : spec_l01New.A → PV U := fun r => .box [.sl 5 r.1, .int .i64 r.2.1, .int .i64 r.2.2]
def spec_l01New.o : spec_l01New.A → List (PV U) := fun r => []
abbrev spec_l01Byte.A := Int × (List Int) × Int × Int
def spec_l01Byte.v : spec_l01Byte.A → PV U := fun r => .int .i64 r.1
def spec_l01Byte.o : spec_l01Byte.A → List (PV U) := fun r => [.box [.sl 5 r.2.1, .int .i64 r.2.2.1, .int .i64 r.2.2.2]]
abbrev spec_l01Below.A := Int × (List Int) × Int × Int
def spec_l01Below.v : spec_l01Below.A → PV U := fun r => .int .i64 r.1
def spec_l01Below.o : spec_l01Below.A → List (PV U) := fun r => [.box [.sl 5 r.2.1, .int .i64 r.2.2.1, .int .i64 r.2.2.2]]
abbrev spec_l01Once.A := Bool × (List Int) × Int × Int
def spec_l01Once.v : spec_l01Once.A → PV U := fun r => .bool r.1
def spec_l01Once.o : spec_l01Once.A → List (PV U) := fun r => [.box [.sl 5 r.2.1, .int .i64 r.2.2.1, .int .i64 r.2.2.2]]
abbrev spec_l01PickInt.A := Int × (List Int) × Int × Int
def spec_l01PickInt.v : spec_l01PickInt.A → PV U := fun r => .int .i64 r.1
def spec_l01PickInt.o : spec_l01PickInt.A → List (PV U) := fun r => [.box [.sl 5 r.2.1, .int .i64 r.2.2.1, .int .i64 r.2.2.2]]
abbrev spec_l03Operand.A := Int × (List Int) × Int × Int
def spec_l03Operand.v : spec_l03Operand.A → PV U := fun r => .int .i64 r.1
def spec_l03Operand.o : spec_l03Operand.A → List (PV U) := fun r => [.box [.sl 5 r.2.1, .int .i64 r.2.2.1, .int .i64 r.2.2.2]]
abbrev spec_l03Expr.A := Int × Int × Int × (List Int) × Int × Int
def spec_l03Expr.v : spec_l03Expr.A → PV U := fun r => .agg [.int .i64 r.1, .int .i64 r.2.1, .int .i64 r.2.2.1]
def spec_l03Expr.o : spec_l03Expr.A → List (PV U) := fun r => [.box [.sl 5 r.2.2.2.1, .int .i64 r.2.2.2.2.1, .int .i64 r.2.2.2.2.2]]
abbrev spec_l04Stmt.A := Int × Int × Int × Int × Int × Int × (List Int) × Int × Int
def spec_l04Stmt.v : spec_l04Stmt.A → PV U := fun r => .agg [.int .i64 r.1, .int .i64 r.2.1, .int .i64 r.2.2.1, .int .i64 r.2.2.2.1, .int .i64 r.2.2.2.2.1, .int .i64 r.2.2.2.2.2.1]
def spec_l04Stmt.o : spec_l04Stmt.A → List (PV U) := fun r => [.box [.sl 5 r.2.2.2.2.2.2.1, .int .i64 r.2.2.2.2.2.2.2.1, .int .i64 r.2.2.2.2.2.2.2.2]]
abbrev spec_l05Block.A := (List S210) × (List Int) × Int × Int
def spec_l05Block.v : spec_l05Block.A → PV U := fun r => .own true 211 r.1
def spec_l05Block.o : spec_l05Block.A → List (PV U) := fun r => [.box [.sl 5 r.2.1, .int .i64 r.2.2.1, .int .i64 r.2.2.2]]
abbrev spec_l05Case.A := (List S210) × (List Int) × Int × Int
def spec_l05Case.v : spec_l05Case.A → PV U := fun r => .own true 211 r.1
def spec_l05Case.o : spec_l05Case.A → List (PV U) := fun r => [.box [.sl 5 r.2.1, .int .i64 r.2.2.1, .int .i64 r.2.2.2]]
abbrev spec_l06Program.A := (List S166) × (List Int) × Int × Int
def spec_l06Program.v : spec_l06Program.A → PV U := fun r => .agg [.own true 167 r.1]
def spec_l06Program.o : spec_l06Program.A → List (PV U) := fun r => [.box [.sl 5 r.2.1, .int .i64 r.2.2.1, .int .i64 r.2.2.2]]
abbrev spec_l03Vars.A := (List Int) × (List Int) × Int × Int
def spec_l03Vars.v : spec_l03Vars.A → PV U := fun r => .own true 3 r.1
def spec_l03Vars.o : spec_l03Vars.A → List (PV U) := fun r => [.box [.sl 5 r.2.1, .int .i64 r.2.2.1, .int .i64 r.2.2.2]]
abbrev spec_l01In.A := Bool
def spec_l01In.v : spec_l01In.A → PV U := fun r => .bool r
def spec_l01In.o : spec_l01In.A → List (PV U) := fun r => []
abbrev spec_IsValue.A := Bool
def spec_IsValue.v : spec_IsValue.A → PV U := fun r => .bool r
def spec_IsValue.o : spec_IsValue.A → List (PV U) := fun r => []
abbrev spec_VarsOk.A := Bool
def spec_VarsOk.v : spec_VarsOk.A → PV U := fun r => .bool r
def spec_VarsOk.o : spec_VarsOk.A → List (PV U) := fun r => []
abbrev spec_MemNew.A := (List Int) × Bool
def spec_MemNew.v : spec_MemNew.A → PV U := fun r => .tup [.own true 3 r.1, .bool r.2]
def spec_MemNew.o : spec_MemNew.A → List (PV U) := fun r => []
abbrev spec_PackControl.A := Int
def spec_PackControl.v : spec_PackControl.A → PV U := fun r => .int .i64 r
def spec_PackControl.o : spec_PackControl.A → List (PV U) := fun r => []
abbrev spec_l09Mem.A := (List Int) × (List Int) × Int × Int
def spec_l09Mem.v : spec_l09Mem.A → PV U := fun r => .own true 3 r.1
def spec_l09Mem.o : spec_l09Mem.A → List (PV U) := fun r => [.box [.sl 5 r.2.1, .int .i64 r.2.2.1, .int .i64 r.2.2.2]]
abbrev spec_UnpackControl.A := Int × Int × Int
def spec_UnpackControl.v : spec_UnpackControl.A → PV U := fun r => .tup [.int .i64 r.1, .int .i64 r.2.1, .int .i64 r.2.2]
def spec_UnpackControl.o : spec_UnpackControl.A → List (PV U) := fun r => []
abbrev spec_DrawMemory.A := (List S166) × (List Int)
def spec_DrawMemory.v : spec_DrawMemory.A → PV U := fun r => .tup [.agg [.sl 167 r.1], .own true 3 r.2]
def spec_DrawMemory.o : spec_DrawMemory.A → List (PV U) := fun r => []
abbrev spec_IdentityRules.A := (List S153)
def spec_IdentityRules.v : spec_IdentityRules.A → PV U := fun r => .agg [.own true 154 r]
def spec_IdentityRules.o : spec_IdentityRules.A → List (PV U) := fun r => []
abbrev spec_l36Rules.A := (List S153) × (List Int) × Int × Int
def spec_l36Rules.v : spec_l36Rules.A → PV U := fun r => .agg [.own true 154 r.1]
def spec_l36Rules.o : spec_l36Rules.A → List (PV U) := fun r => [.box [.sl 5 r.2.1, .int .i64 r.2.2.1, .int .i64 r.2.2.2]]
abbrev spec_DrawRules.A := (List S153)
def spec_DrawRules.v : spec_DrawRules.A → PV U := fun r => .agg [.own true 154 r]
def spec_DrawRules.o : spec_DrawRules.A → List (PV U) := fun r => []
abbrev spec_l17Energies.A := (List Int) × (List Int) × Int × Int
def spec_l17Energies.v : spec_l17Energies.A → PV U := fun r => .own true 3 r.1
def spec_l17Energies.o : spec_l17Energies.A → List (PV U) := fun r => [.box [.sl 5 r.2.1, .int .i64 r.2.2.1, .int .i64 r.2.2.2]]
abbrev spec_DrawEnergies.A := (List Int)
def spec_DrawEnergies.v : spec_DrawEnergies.A → PV U := fun r => .own true 3 r
def spec_DrawEnergies.o : spec_DrawEnergies.A → List (PV U) := fun r => []
abbrev spec_l12Readings.A := (List Int) × (List Int) × Int × Int
def spec_l12Readings.v : spec_l12Readings.A → PV U := fun r => .own true 3 r.1
def spec_l12Readings.o : spec_l12Readings.A → List (PV U) := fun r => [.box [.sl 5 r.2.1, .int .i64 r.2.2.1, .int .i64 r.2.2.2]]
abbrev spec_DrawReadings.A := (List Int)
def spec_DrawReadings.v : spec_DrawReadings.A → PV U := fun r => .own true 3 r
def spec_DrawReadings.o : spec_DrawReadings.A → List (PV U) := fun r => []
abbrev impl_within.A := Bool
def impl_within.v : impl_within.A → PV U := fun r => .bool r
def impl_within.o : impl_within.A → List (PV U) := fun r => []
abbrev impl_hasVar.A := Bool
def impl_hasVar.v : impl_hasVar.A → PV U := fun r => .bool r
def impl_hasVar.o : impl_hasVar.A → List (PV U) := fun r => []
abbrev impl_isVar.A := Bool
def impl_isVar.v : impl_isVar.A → PV U := fun r => .bool r
def impl_isVar.o : impl_isVar.A → List (PV U) := fun r => []
abbrev impl_hasExpr.A := Bool
def impl_hasExpr.v : impl_hasExpr.A → PV U := fun r => .bool r
def impl_hasExpr.o : impl_hasExpr.A → List (PV U) := fun r => []
abbrev impl_OperandOk.A := Bool
def impl_OperandOk.v : impl_OperandOk.A → PV U := fun r => .bool r
def impl_OperandOk.o : impl_OperandOk.A → List (PV U) := fun r => []
abbrev impl_ExprOk.A := Bool
def impl_ExprOk.v : impl_ExprOk.A → PV U := fun r => .bool r
def impl_ExprOk.o : impl_ExprOk.A → List (PV U) := fun r => []
abbrev impl_isSensor.A := Bool
def impl_isSensor.v : impl_isSensor.A → PV U := fun r => .bool r
def impl_isSensor.o : impl_isSensor.A → List (PV U) := fun r => []
abbrev impl_StmtOk.A := Bool
def impl_StmtOk.v : impl_StmtOk.A → PV U := fun r => .bool r
def impl_StmtOk.o : impl_StmtOk.A → List (PV U) := fun r => []
abbrev impl_isOpening.A := Bool
def impl_isOpening.v : impl_isOpening.A → PV U := fun r => .bool r
def impl_isOpening.o : impl_isOpening.A → List (PV U) := fun r => []
abbrev impl_BlockOk.A := Bool
def impl_BlockOk.v : impl_BlockOk.A → PV U := fun r => .bool r
def impl_BlockOk.o : impl_BlockOk.A → List (PV U) := fun r => []
abbrev impl_taskOk.A := Bool
def impl_taskOk.v : impl_taskOk.A → PV U := fun r => .bool r
def impl_taskOk.o : impl_taskOk.A → List (PV U) := fun r => []
abbrev impl_ProgramOk_1.A := Bool
def impl_ProgramOk_1.v : impl_ProgramOk_1.A → PV U := fun r => .bool r
def impl_ProgramOk_1.o : impl_ProgramOk_1.A → List (PV U) := fun r => []
abbrev slices_IndexFunc_impl_Task_ProgramOk_1.A := Int
def slices_IndexFunc_impl_Task_ProgramOk_1.v : slices_IndexFunc_impl_Task_ProgramOk_1.A → PV U := fun r => .int .i64 r
def slices_IndexFunc_impl_Task_ProgramOk_1.o : slices_IndexFunc_impl_Task_ProgramOk_1.A → List (PV U) := fun r => []
abbrev slices_ContainsFunc_impl_Task_ProgramOk_1.A := Bool
def slices_ContainsFunc_impl_Task_ProgramOk_1.v : slices_ContainsFunc_impl_Task_ProgramOk_1.A → PV U := fun r => .bool r
def slices_ContainsFunc_impl_Task_ProgramOk_1.o : slices_ContainsFunc_impl_Task_ProgramOk_1.A → List (PV U) := fun r => []
abbrev impl_ProgramOk.A := Bool
def impl_ProgramOk.v : impl_ProgramOk.A → PV U := fun r => .bool r
def impl_ProgramOk.o : impl_ProgramOk.A → List (PV U) := fun r => []
abbrev impl_IsValue.A := Bool
def impl_IsValue.v : impl_IsValue.A → PV U := fun r => .bool r
def impl_IsValue.o : impl_IsValue.A → List (PV U) := fun r => []
abbrev impl_areValues_1.A := Bool
def impl_areValues_1.v : impl_areValues_1.A → PV U := fun r => .bool r
def impl_areValues_1.o : impl_areValues_1.A → List (PV U) := fun r => []
abbrev slices_IndexFunc_int_areValues_1.A := Int
def slices_IndexFunc_int_areValues_1.v : slices_IndexFunc_int_areValues_1.A → PV U := fun r => .int .i64 r
def slices_IndexFunc_int_areValues_1.o : slices_IndexFunc_int_areValues_1.A → List (PV U) := fun r => []
abbrev slices_ContainsFunc_int_areValues_1.A := Bool
def slices_ContainsFunc_int_areValues_1.v : slices_ContainsFunc_int_areValues_1.A → PV U := fun r => .bool r
def slices_ContainsFunc_int_areValues_1.o : slices_ContainsFunc_int_areValues_1.A → List (PV U) := fun r => []
abbrev impl_areValues.A := Bool
def impl_areValues.v : impl_areValues.A → PV U := fun r => .bool r
def impl_areValues.o : impl_areValues.A → List (PV U) := fun r => []
abbrev impl_PackControl.A := Int
def impl_PackControl.v : impl_PackControl.A → PV U := fun r => .int .i64 r
def impl_PackControl.o : impl_PackControl.A → List (PV U) := fun r => []
abbrev impl_UnpackControl.A := Int × Int × Int
def impl_UnpackControl.v : impl_UnpackControl.A → PV U := fun r => .tup [.int .i64 r.1, .int .i64 r.2.1, .int .i64 r.2.2]
def impl_UnpackControl.o : impl_UnpackControl.A → List (PV U) := fun r => []
abbrev impl_MemOk.A := Bool
def impl_MemOk.v : impl_MemOk.A → PV U := fun r => .bool r
def impl_MemOk.o : impl_MemOk.A → List (PV U) := fun r => []
abbrev impl_isBootAt.A := Bool
def impl_isBootAt.v : impl_isBootAt.A → PV U := fun r => .bool r
def impl_isBootAt.o : impl_isBootAt.A → List (PV U) := fun r => []
abbrev impl_RunBoots_1.A := Bool
def impl_RunBoots_1.v : impl_RunBoots_1.A → PV U := fun r => .bool r
def impl_RunBoots_1.o : impl_RunBoots_1.A → List (PV U) := fun r => []
abbrev slices_IndexFunc_int_RunBoots_1.A := Int
def slices_IndexFunc_int_RunBoots_1.v : slices_IndexFunc_int_RunBoots_1.A → PV U := fun r => .int .i64 r
def slices_IndexFunc_int_RunBoots_1.o : slices_IndexFunc_int_RunBoots_1.A → List (PV U) := fun r => []
abbrev slices_ContainsFunc_int_RunBoots_1.A := Bool
def slices_ContainsFunc_int_RunBoots_1.v : slices_ContainsFunc_int_RunBoots_1.A → PV U := fun r => .bool r
def slices_ContainsFunc_int_RunBoots_1.o : slices_ContainsFunc_int_RunBoots_1.A → List (PV U) := fun r => []
abbrev slices_Clone_int.A := (List Int)
def slices_Clone_int.v : slices_Clone_int.A → PV U := fun r => .own true 3 r
def slices_Clone_int.o : slices_Clone_int.A → List (PV U) := fun r => []
abbrev impl_RecoveryWrites.A := (List S205)
def impl_RecoveryWrites.v : impl_RecoveryWrites.A → PV U := fun r => .own true 206 r
def impl_RecoveryWrites.o : impl_RecoveryWrites.A → List (PV U) := fun r => []
abbrev impl_Boot_spend.A := Bool × (List Int) × Int × (List (List Int)) × Int
def impl_Boot_spend.v : impl_Boot_spend.A → PV U := fun r => .bool r.1
def impl_Boot_spend.o : impl_Boot_spend.A → List (PV U) := fun r => [.box [.own true 3 r.2.1, .int .i64 r.2.2.1, .own true 25 r.2.2.2.1, .int .i64 r.2.2.2.2]]
abbrev impl_Boot_recover.A := Bool × (List Int) × Int × (List (List Int)) × Int
def impl_Boot_recover.v : impl_Boot_recover.A → PV U := fun r => .bool r.1
def impl_Boot_recover.o : impl_Boot_recover.A → List (PV U) := fun r => [.box [.own true 3 r.2.1, .int .i64 r.2.2.1, .own true 25 r.2.2.2.1, .int .i64 r.2.2.2.2]]
abbrev impl_MemVars.A := (List Int)
def impl_MemVars.v : impl_MemVars.A → PV U := fun r => .own true 3 r
def impl_MemVars.o : impl_MemVars.A → List (PV U) := fun r => []
abbrev slices_Sort_int.A := (List Int)
def slices_Sort_int.v : slices_Sort_int.A → PV U := fun r => .tup []
def slices_Sort_int.o : slices_Sort_int.A → List (PV U) := fun r => [.own true 3 r]
abbrev slices_Compact_int.A := (List Int)
def slices_Compact_int.v : slices_Compact_int.A → PV U := fun r => .own true 3 r
def slices_Compact_int.o : slices_Compact_int.A → List (PV U) := fun r => []
abbrev impl_ReadsOf.A := (List Int)
def impl_ReadsOf.v : impl_ReadsOf.A → PV U := fun r => .own true 3 r
def impl_ReadsOf.o : impl_ReadsOf.A → List (PV U) := fun r => []
abbrev impl_reader_read.A := Bool × Bool × Bool × Bool × Bool × Bool × Bool × Bool × Bool × Bool × Bool × Bool × Bool × Bool × Bool × Bool
def impl_reader_read.v : impl_reader_read.A → PV U := fun r => .tup []
def impl_reader_read.o : impl_reader_read.A → List (PV U) := fun r => [.box [.bool r.1, .bool r.2.1, .bool r.2.2.1, .bool r.2.2.2.1, .bool r.2.2.2.2.1, .bool r.2.2.2.2.2.1, .bool r.2.2.2.2.2.2.1, .bool r.2.2.2.2.2.2.2.1, .bool r.2.2.2.2.2.2.2.2.1, .bool r.2.2.2.2.2.2.2.2.2.1, .bool r.2.2.2.2.2.2.2.2.2.2.1, .bool r.2.2.2.2.2.2.2.2.2.2.2.1, .bool r.2.2.2.2.2.2.2.2.2.2.2.2.1, .bool r.2.2.2.2.2.2.2.2.2.2.2.2.2.1, .bool r.2.2.2.2.2.2.2.2.2.2.2.2.2.2.1, .bool r.2.2.2.2.2.2.2.2.2.2.2.2.2.2.2]]
abbrev impl_endOf.A := Int
def impl_endOf.v : impl_endOf.A → PV U := fun r => .int .i64 r
def impl_endOf.o : impl_endOf.A → List (PV U) := fun r => []
abbrev impl_reader_pass.A := Bool × Bool × Bool × Bool × Bool × Bool × Bool × Bool × Bool × Bool × Bool × Bool × Bool × Bool × Bool × Bool
def impl_reader_pass.v : impl_reader_pass.A → PV U := fun r => .tup []
def impl_reader_pass.o : impl_reader_pass.A → List (PV U) := fun r => [.box [.bool r.1, .bool r.2.1, .bool r.2.2.1, .bool r.2.2.2.1, .bool r.2.2.2.2.1, .bool r.2.2.2.2.2.1, .bool r.2.2.2.2.2.2.1, .bool r.2.2.2.2.2.2.2.1, .bool r.2.2.2.2.2.2.2.2.1, .bool r.2.2.2.2.2.2.2.2.2.1, .bool r.2.2.2.2.2.2.2.2.2.2.1, .bool r.2.2.2.2.2.2.2.2.2.2.2.1, .bool r.2.2.2.2.2.2.2.2.2.2.2.2.1, .bool r.2.2.2.2.2.2.2.2.2.2.2.2.2.1, .bool r.2.2.2.2.2.2.2.2.2.2.2.2.2.2.1, .bool r.2.2.2.2.2.2.2.2.2.2.2.2.2.2.2]]
abbrev impl_MayReadFirst.A := (List Int)
def impl_MayReadFirst.v : impl_MayReadFirst.A → PV U := fun r => .own true 3 r
def impl_MayReadFirst.o : impl_MayReadFirst.A → List (PV U) := fun r => []
abbrev impl_MustWrite_1.A := Bool × (List Bool)
def impl_MustWrite_1.v : impl_MustWrite_1.A → PV U := fun r => .bool r.1
def impl_MustWrite_1.o : impl_MustWrite_1.A → List (PV U) := fun r => [.box [.own true 4 r.2]]
abbrev impl_written.A := (List Int) × (List Bool)
def impl_written.v : impl_written.A → PV U := fun r => .own true 3 r.1
def impl_written.o : impl_written.A → List (PV U) := fun r => [.box [.own true 4 r.2]]
abbrev impl_MustWrite.A := (List Int)
def impl_MustWrite.v : impl_MustWrite.A → PV U := fun r => .own true 3 r
def impl_MustWrite.o : impl_MustWrite.A → List (PV U) := fun r => []
abbrev impl_MayWrite_1.A := Bool
def impl_MayWrite_1.v : impl_MayWrite_1.A → PV U := fun r => .bool r
def impl_MayWrite_1.o : impl_MayWrite_1.A → List (PV U) := fun r => []
abbrev impl_written_2.A := (List Int)
def impl_written_2.v : impl_written_2.A → PV U := fun r => .own true 3 r
def impl_written_2.o : impl_written_2.A → List (PV U) := fun r => []
abbrev impl_MayWrite.A := (List Int)
def impl_MayWrite.v : impl_MayWrite.A → PV U := fun r => .own true 3 r
def impl_MayWrite.o : impl_MayWrite.A → List (PV U) := fun r => []
abbrev slices_Index_int.A := Int
def slices_Index_int.v : slices_Index_int.A → PV U := fun r => .int .i64 r
def slices_Index_int.o : slices_Index_int.A → List (PV U) := fun r => []
abbrev slices_Contains_int.A := Bool
def slices_Contains_int.v : slices_Contains_int.A → PV U := fun r => .bool r
def slices_Contains_int.o : slices_Contains_int.A → List (PV U) := fun r => []
abbrev impl_HasVar.A := Bool
def impl_HasVar.v : impl_HasVar.A → PV U := fun r => .bool r
def impl_HasVar.o : impl_HasVar.A → List (PV U) := fun r => []
abbrev impl_MustLog_1.A := Bool × (List Int) × (List Int)
def impl_MustLog_1.v : impl_MustLog_1.A → PV U := fun r => .bool r.1
def impl_MustLog_1.o : impl_MustLog_1.A → List (PV U) := fun r => [.box [.own true 3 r.2.1], .box [.own true 3 r.2.2]]
abbrev slices_IndexFunc_int_MustLog_1.A := Int × (List Int) × (List Int)
def slices_IndexFunc_int_MustLog_1.v : slices_IndexFunc_int_MustLog_1.A → PV U := fun r => .int .i64 r.1
def slices_IndexFunc_int_MustLog_1.o : slices_IndexFunc_int_MustLog_1.A → List (PV U) := fun r => [.box [.own true 3 r.2.1], .box [.own true 3 r.2.2]]
abbrev slices_DeleteFunc_int_MustLog_1.A := (List Int) × (List Int) × (List Int)
def slices_DeleteFunc_int_MustLog_1.v : slices_DeleteFunc_int_MustLog_1.A → PV U := fun r => .sl 3 r.1
def slices_DeleteFunc_int_MustLog_1.o : slices_DeleteFunc_int_MustLog_1.A → List (PV U) := fun r => [.box [.own true 3 r.2.1], .box [.own true 3 r.2.2]]
abbrev impl_MustLog.A := (List Int)
def impl_MustLog.v : impl_MustLog.A → PV U := fun r => .sl 3 r
def impl_MustLog.o : impl_MustLog.A → List (PV U) := fun r => []
abbrev impl_StmtCost.A := Int
def impl_StmtCost.v : impl_StmtCost.A → PV U := fun r => .int .i64 r
def impl_StmtCost.o : impl_StmtCost.A → List (PV U) := fun r => []
abbrev impl_tracer_work.A := (List S227) × (List Int) × Int × Int × Int × (List Int) × Bool × Bool × Bool × Bool × Bool × Bool × Bool × Bool × (List Int)
def impl_tracer_work.v : impl_tracer_work.A → PV U := fun r => .tup []
def impl_tracer_work.o : impl_tracer_work.A → List (PV U) := fun r => [.box [.own true 228 r.1, .own true 3 r.2.1, .int .i64 r.2.2.1, .int .i64 r.2.2.2.1, .int .i64 r.2.2.2.2.1, .own true 3 r.2.2.2.2.2.1, .bool r.2.2.2.2.2.2.1, .bool r.2.2.2.2.2.2.2.1, .bool r.2.2.2.2.2.2.2.2.1, .bool r.2.2.2.2.2.2.2.2.2.1, .bool r.2.2.2.2.2.2.2.2.2.2.1, .bool r.2.2.2.2.2.2.2.2.2.2.2.1, .bool r.2.2.2.2.2.2.2.2.2.2.2.2.1, .bool r.2.2.2.2.2.2.2.2.2.2.2.2.2.1, .own true 3 r.2.2.2.2.2.2.2.2.2.2.2.2.2.2]]
abbrev impl_VarsOk.A := Bool
def impl_VarsOk.v : impl_VarsOk.A → PV U := fun r => .bool r
def impl_VarsOk.o : impl_VarsOk.A → List (PV U) := fun r => []
abbrev impl_operand.A := Int
def impl_operand.v : impl_operand.A → PV U := fun r => .int .i64 r
def impl_operand.o : impl_operand.A → List (PV U) := fun r => []
abbrev impl_Clamp.A := Int
def impl_Clamp.v : impl_Clamp.A → PV U := fun r => .int .i64 r
def impl_Clamp.o : impl_Clamp.A → List (PV U) := fun r => []
abbrev impl_Saturate.A := Int
def impl_Saturate.v : impl_Saturate.A → PV U := fun r => .int .i64 r
def impl_Saturate.o : impl_Saturate.A → List (PV U) := fun r => []
abbrev impl_AddValues.A := Int
def impl_AddValues.v : impl_AddValues.A → PV U := fun r => .int .i64 r
def impl_AddValues.o : impl_AddValues.A → List (PV U) := fun r => []
abbrev impl_SubValues.A := Int
def impl_SubValues.v : impl_SubValues.A → PV U := fun r => .int .i64 r
def impl_SubValues.o : impl_SubValues.A → List (PV U) := fun r => []
abbrev impl_MulValues.A := Int
def impl_MulValues.v : impl_MulValues.A → PV U := fun r => .int .i64 r
def impl_MulValues.o : impl_MulValues.A → List (PV U) := fun r => []
abbrev impl_bit.A := Int
def impl_bit.v : impl_bit.A → PV U := fun r => .int .i64 r
def impl_bit.o : impl_bit.A → List (PV U) := fun r => []
abbrev impl_EvalExpr.A := Int
def impl_EvalExpr.v : impl_EvalExpr.A → PV U := fun r => .int .i64 r
def impl_EvalExpr.o : impl_EvalExpr.A → List (PV U) := fun r => []
abbrev impl_tracer_write.A := (List S227) × (List Int) × Int × Int × Int × (List Int) × Bool × Bool × Bool × Bool × Bool × Bool × Bool × Bool × (List Int)
def impl_tracer_write.v : impl_tracer_write.A → PV U := fun r => .tup []
def impl_tracer_write.o : impl_tracer_write.A → List (PV U) := fun r => [.box [.own true 228 r.1, .own true 3 r.2.1, .int .i64 r.2.2.1, .int .i64 r.2.2.2.1, .int .i64 r.2.2.2.2.1, .own true 3 r.2.2.2.2.2.1, .bool r.2.2.2.2.2.2.1, .bool r.2.2.2.2.2.2.2.1, .bool r.2.2.2.2.2.2.2.2.1, .bool r.2.2.2.2.2.2.2.2.2.1, .bool r.2.2.2.2.2.2.2.2.2.2.1, .bool r.2.2.2.2.2.2.2.2.2.2.2.1, .bool r.2.2.2.2.2.2.2.2.2.2.2.2.1, .bool r.2.2.2.2.2.2.2.2.2.2.2.2.2.1, .own true 3 r.2.2.2.2.2.2.2.2.2.2.2.2.2.2]]
abbrev impl_tracer_assign.A := (List S227) × (List Int) × Int × Int × Int × (List Int) × Bool × Bool × Bool × Bool × Bool × Bool × Bool × Bool × (List Int)
def impl_tracer_assign.v : impl_tracer_assign.A → PV U := fun r => .tup []
def impl_tracer_assign.o : impl_tracer_assign.A → List (PV U) := fun r => [.box [.own true 228 r.1, .own true 3 r.2.1, .int .i64 r.2.2.1, .int .i64 r.2.2.2.1, .int .i64 r.2.2.2.2.1, .own true 3 r.2.2.2.2.2.1, .bool r.2.2.2.2.2.2.1, .bool r.2.2.2.2.2.2.2.1, .bool r.2.2.2.2.2.2.2.2.1, .bool r.2.2.2.2.2.2.2.2.2.1, .bool r.2.2.2.2.2.2.2.2.2.2.1, .bool r.2.2.2.2.2.2.2.2.2.2.2.1, .bool r.2.2.2.2.2.2.2.2.2.2.2.2.1, .bool r.2.2.2.2.2.2.2.2.2.2.2.2.2.1, .own true 3 r.2.2.2.2.2.2.2.2.2.2.2.2.2.2]]
abbrev impl_ReadSensor.A := Int
def impl_ReadSensor.v : impl_ReadSensor.A → PV U := fun r => .int .i64 r
def impl_ReadSensor.o : impl_ReadSensor.A → List (PV U) := fun r => []
abbrev impl_tracer_send.A := (List S227) × (List Int) × Int × Int × Int × (List Int) × Bool × Bool × Bool × Bool × Bool × Bool × Bool × Bool × (List Int)
def impl_tracer_send.v : impl_tracer_send.A → PV U := fun r => .tup []
def impl_tracer_send.o : impl_tracer_send.A → List (PV U) := fun r => [.box [.own true 228 r.1, .own true 3 r.2.1, .int .i64 r.2.2.1, .int .i64 r.2.2.2.1, .int .i64 r.2.2.2.2.1, .own true 3 r.2.2.2.2.2.1, .bool r.2.2.2.2.2.2.1, .bool r.2.2.2.2.2.2.2.1, .bool r.2.2.2.2.2.2.2.2.1, .bool r.2.2.2.2.2.2.2.2.2.1, .bool r.2.2.2.2.2.2.2.2.2.2.1, .bool r.2.2.2.2.2.2.2.2.2.2.2.1, .bool r.2.2.2.2.2.2.2.2.2.2.2.2.1, .bool r.2.2.2.2.2.2.2.2.2.2.2.2.2.1, .own true 3 r.2.2.2.2.2.2.2.2.2.2.2.2.2.2]]
abbrev impl_traceOf_1.A := Bool × (List Int) × (List Int) × Int × (List S227) × (List Int) × Int × Int × Int × (List Int) × Bool × Bool × Bool × Bool × Bool × Bool × Bool × Bool × (List Int)
def impl_traceOf_1.v : impl_traceOf_1.A → PV U := fun r => .bool r.1
def impl_traceOf_1.o : impl_traceOf_1.A → List (PV U) := fun r => [.box [.ptr 85 0], .box [.sl 3 r.2.1], .box [.sl 3 r.2.2.1], .box [.int .i64 r.2.2.2.1], .box [.own true 228 r.2.2.2.2.1, .own true 3 r.2.2.2.2.2.1, .int .i64 r.2.2.2.2.2.2.1, .int .i64 r.2.2.2.2.2.2.2.1, .int .i64 r.2.2.2.2.2.2.2.2.1, .own true 3 r.2.2.2.2.2.2.2.2.2.1, .bool r.2.2.2.2.2.2.2.2.2.2.1, .bool r.2.2.2.2.2.2.2.2.2.2.2.1, .bool r.2.2.2.2.2.2.2.2.2.2.2.2.1, .bool r.2.2.2.2.2.2.2.2.2.2.2.2.2.1, .bool r.2.2.2.2.2.2.2.2.2.2.2.2.2.2.1, .bool r.2.2.2.2.2.2.2.2.2.2.2.2.2.2.2.1, .bool r.2.2.2.2.2.2.2.2.2.2.2.2.2.2.2.2.1, .bool r.2.2.2.2.2.2.2.2.2.2.2.2.2.2.2.2.2.1, .own true 3 r.2.2.2.2.2.2.2.2.2.2.2.2.2.2.2.2.2.2]]
abbrev impl_walk.A := (List Int) × (List Int) × Int × (List S227) × (List Int) × Int × Int × Int × (List Int) × Bool × Bool × Bool × Bool × Bool × Bool × Bool × Bool × (List Int)
def impl_walk.v : impl_walk.A → PV U := fun r => .tup []
def impl_walk.o : impl_walk.A → List (PV U) := fun r => [.box [.ptr 55 0], .box [.sl 3 r.1], .box [.sl 3 r.2.1], .box [.int .i64 r.2.2.1], .box [.own true 228 r.2.2.2.1, .own true 3 r.2.2.2.2.1, .int .i64 r.2.2.2.2.2.1, .int .i64 r.2.2.2.2.2.2.1, .int .i64 r.2.2.2.2.2.2.2.1, .own true 3 r.2.2.2.2.2.2.2.2.1, .bool r.2.2.2.2.2.2.2.2.2.1, .bool r.2.2.2.2.2.2.2.2.2.2.1, .bool r.2.2.2.2.2.2.2.2.2.2.2.1, .bool r.2.2.2.2.2.2.2.2.2.2.2.2.1, .bool r.2.2.2.2.2.2.2.2.2.2.2.2.2.1, .bool r.2.2.2.2.2.2.2.2.2.2.2.2.2.2.1, .bool r.2.2.2.2.2.2.2.2.2.2.2.2.2.2.2.1, .bool r.2.2.2.2.2.2.2.2.2.2.2.2.2.2.2.2.1, .own true 3 r.2.2.2.2.2.2.2.2.2.2.2.2.2.2.2.2.2]]
abbrev impl_hasTask.A := Bool
def impl_hasTask.v : impl_hasTask.A → PV U := fun r => .bool r
def impl_hasTask.o : impl_hasTask.A → List (PV U) := fun r => []
abbrev impl_NextTask.A := Int
def impl_NextTask.v : impl_NextTask.A → PV U := fun r => .int .i64 r
def impl_NextTask.o : impl_NextTask.A → List (PV U) := fun r => []
abbrev impl_traceOf.A := (List S227) × (List Int)
def impl_traceOf.v : impl_traceOf.A → PV U := fun r => .agg [.own true 228 r.1, .own true 3 r.2]
def impl_traceOf.o : impl_traceOf.A → List (PV U) := fun r => []
abbrev impl_isSenseStep.A := Bool
def impl_isSenseStep.v : impl_isSenseStep.A → PV U := fun r => .bool r
def impl_isSenseStep.o : impl_isSenseStep.A → List (PV U) := fun r => []
abbrev impl_Boot_task.A := Bool × (List Int) × Int × (List (List Int)) × Int
def impl_Boot_task.v : impl_Boot_task.A → PV U := fun r => .bool r.1
def impl_Boot_task.o : impl_Boot_task.A → List (PV U) := fun r => [.box [.own true 3 r.2.1, .int .i64 r.2.2.1, .own true 25 r.2.2.2.1, .int .i64 r.2.2.2.2]]
abbrev impl_boot.A := (List Int) × Int × (List (List Int)) × Int
def impl_boot.v : impl_boot.A → PV U := fun r => .agg [.own true 3 r.1, .int .i64 r.2.1, .own true 25 r.2.2.1, .int .i64 r.2.2.2]
def impl_boot.o : impl_boot.A → List (PV U) := fun r => []
abbrev impl_RunBoots.A := (List Int) × Int × (List (List Int)) × (List Int) × Bool
def impl_RunBoots.v : impl_RunBoots.A → PV U := fun r => .tup [.agg [.own true 3 r.1, .int .i64 r.2.1, .own false 25 r.2.2.1, .own true 3 r.2.2.2.1], .bool r.2.2.2.2]
def impl_RunBoots.o : impl_RunBoots.A → List (PV U) := fun r => []
abbrev impl_RulesOk_1.A := Bool
def impl_RulesOk_1.v : impl_RulesOk_1.A → PV U := fun r => .bool r
def impl_RulesOk_1.o : impl_RulesOk_1.A → List (PV U) := fun r => []
abbrev slices_IndexFunc_impl_Expr_RulesOk_1.A := Int
def slices_IndexFunc_impl_Expr_RulesOk_1.v : slices_IndexFunc_impl_Expr_RulesOk_1.A → PV U := fun r => .int .i64 r
def slices_IndexFunc_impl_Expr_RulesOk_1.o : slices_IndexFunc_impl_Expr_RulesOk_1.A → List (PV U) := fun r => []
abbrev slices_ContainsFunc_impl_Expr_RulesOk_1.A := Bool
def slices_ContainsFunc_impl_Expr_RulesOk_1.v : slices_ContainsFunc_impl_Expr_RulesOk_1.A → PV U := fun r => .bool r
def slices_ContainsFunc_impl_Expr_RulesOk_1.o : slices_ContainsFunc_impl_Expr_RulesOk_1.A → List (PV U) := fun r => []
abbrev impl_RulesOk.A := Bool
def impl_RulesOk.v : impl_RulesOk.A → PV U := fun r => .bool r
def impl_RulesOk.o : impl_RulesOk.A → List (PV U) := fun r => []
abbrev impl_ApplyWrites.A := (List Int)
def impl_ApplyWrites.v : impl_ApplyWrites.A → PV U := fun r => .own true 3 r
def impl_ApplyWrites.o : impl_ApplyWrites.A → List (PV U) := fun r => []
abbrev impl_Recovered.A := (List Int)
def impl_Recovered.v : impl_Recovered.A → PV U := fun r => .own true 3 r
def impl_Recovered.o : impl_Recovered.A → List (PV U) := fun r => []
abbrev impl_Migrate.A := (List Int) × Bool
def impl_Migrate.v : impl_Migrate.A → PV U := fun r => .tup [.own true 3 r.1, .bool r.2]
def impl_Migrate.o : impl_Migrate.A → List (PV U) := fun r => []
abbrev impl_MigrateMem.A := (List Int) × Bool
def impl_MigrateMem.v : impl_MigrateMem.A → PV U := fun r => .tup [.own true 3 r.1, .bool r.2]
def impl_MigrateMem.o : impl_MigrateMem.A → List (PV U) := fun r => []
abbrev laws_sameInts.A := Bool
def laws_sameInts.v : laws_sameInts.A → PV U := fun r => .bool r
def laws_sameInts.o : laws_sameInts.A → List (PV U) := fun r => []
abbrev impl_MemSent.A := (List Int)
def impl_MemSent.v : impl_MemSent.A → PV U := fun r => .own true 3 r
def impl_MemSent.o : impl_MemSent.A → List (PV U) := fun r => []
abbrev impl_IsClean.A := Bool
def impl_IsClean.v : impl_IsClean.A → PV U := fun r => .bool r
def impl_IsClean.o : impl_IsClean.A → List (PV U) := fun r => []
abbrev laws_FnMigratedMem.A := Bool
def laws_FnMigratedMem.v : laws_FnMigratedMem.A → PV U := fun r => .bool r
def laws_FnMigratedMem.o : laws_FnMigratedMem.A → List (PV U) := fun r => []
def retTab : List (Nat × Ret C) := [(36, ⟨laws_big.A, laws_big.v, laws_big.o⟩), (99, ⟨spec_l01New.A, spec_l01New.v, spec_l01New.o⟩), (173, ⟨spec_l01Byte.A, spec_l01Byte.v, spec_l01Byte.o⟩), (103, ⟨spec_l01Below.A, spec_l01Below.v, spec_l01Below.o⟩), (229, ⟨spec_l01Once.A, spec_l01Once.v, spec_l01Once.o⟩), (180, ⟨spec_l01PickInt.A, spec_l01PickInt.v, spec_l01PickInt.o⟩), (213, ⟨spec_l03Operand.A, spec_l03Operand.v, spec_l03Operand.o⟩), (171, ⟨spec_l03Expr.A, spec_l03Expr.v, spec_l03Expr.o⟩), (230, ⟨spec_l04Stmt.A, spec_l04Stmt.v, spec_l04Stmt.o⟩), (212, ⟨spec_l05Block.A, spec_l05Block.v, spec_l05Block.o⟩), (170, ⟨spec_l05Case.A, spec_l05Case.v, spec_l05Case.o⟩), (100, ⟨spec_l06Program.A, spec_l06Program.v, spec_l06Program.o⟩), (113, ⟨spec_l03Vars.A, spec_l03Vars.v, spec_l03Vars.o⟩), (139, ⟨spec_l01In.A, spec_l01In.v, spec_l01In.o⟩), (140, ⟨spec_IsValue.A, spec_IsValue.v, spec_IsValue.o⟩), (144, ⟨spec_VarsOk.A, spec_VarsOk.v, spec_VarsOk.o⟩), (172, ⟨spec_MemNew.A, spec_MemNew.v, spec_MemNew.o⟩), (73, ⟨spec_PackControl.A, spec_PackControl.v, spec_PackControl.o⟩), (101, ⟨spec_l09Mem.A, spec_l09Mem.v, spec_l09Mem.o⟩), (72, ⟨spec_UnpackControl.A, spec_UnpackControl.v, spec_UnpackControl.o⟩), (37, ⟨spec_DrawMemory.A, spec_DrawMemory.v, spec_DrawMemory.o⟩), (185, ⟨spec_IdentityRules.A, spec_IdentityRules.v, spec_IdentityRules.o⟩), (126, ⟨spec_l36Rules.A, spec_l36Rules.v, spec_l36Rules.o⟩), (55, ⟨spec_DrawRules.A, spec_DrawRules.v, spec_DrawRules.o⟩), (123, ⟨spec_l17Energies.A, spec_l17Energies.v, spec_l17Energies.o⟩), (52, ⟨spec_DrawEnergies.A, spec_DrawEnergies.v, spec_DrawEnergies.o⟩), (102, ⟨spec_l12Readings.A, spec_l12Readings.v, spec_l12Readings.o⟩), (38, ⟨spec_DrawReadings.A, spec_DrawReadings.v, spec_DrawReadings.o⟩), (105, ⟨impl_within.A, impl_within.v, impl_within.o⟩), (255, ⟨impl_hasVar.A, impl_hasVar.v, impl_hasVar.o⟩), (109, ⟨impl_isVar.A, impl_isVar.v, impl_isVar.o⟩), (256, ⟨impl_hasExpr.A, impl_hasExpr.v, impl_hasExpr.o⟩), (205, ⟨impl_OperandOk.A, impl_OperandOk.v, impl_OperandOk.o⟩), (150, ⟨impl_ExprOk.A, impl_ExprOk.v, impl_ExprOk.o⟩), (253, ⟨impl_isSensor.A, impl_isSensor.v, impl_isSensor.o⟩), (241, ⟨impl_StmtOk.A, impl_StmtOk.v, impl_StmtOk.o⟩), (242, ⟨impl_isOpening.A, impl_isOpening.v, impl_isOpening.o⟩), (218, ⟨impl_BlockOk.A, impl_BlockOk.v, impl_BlockOk.o⟩), (178, ⟨impl_taskOk.A, impl_taskOk.v, impl_taskOk.o⟩), (177, ⟨impl_ProgramOk_1.A, impl_ProgramOk_1.v, impl_ProgramOk_1.o⟩), (217, ⟨slices_IndexFunc_impl_Task_ProgramOk_1.A, slices_IndexFunc_impl_Task_ProgramOk_1.v, slices_IndexFunc_impl_Task_ProgramOk_1.o⟩), (176, ⟨slices_ContainsFunc_impl_Task_ProgramOk_1.A, slices_ContainsFunc_impl_Task_ProgramOk_1.v, slices_ContainsFunc_impl_Task_ProgramOk_1.o⟩), (107, ⟨impl_ProgramOk.A, impl_ProgramOk.v, impl_ProgramOk.o⟩), (110, ⟨impl_IsValue.A, impl_IsValue.v, impl_IsValue.o⟩), (179, ⟨impl_areValues_1.A, impl_areValues_1.v, impl_areValues_1.o⟩), (184, ⟨slices_IndexFunc_int_areValues_1.A, slices_IndexFunc_int_areValues_1.v, slices_IndexFunc_int_areValues_1.o⟩), (124, ⟨slices_ContainsFunc_int_areValues_1.A, slices_ContainsFunc_int_areValues_1.v, slices_ContainsFunc_int_areValues_1.o⟩), (108, ⟨impl_areValues.A, impl_areValues.v, impl_areValues.o⟩), (78, ⟨impl_PackControl.A, impl_PackControl.v, impl_PackControl.o⟩), (77, ⟨impl_UnpackControl.A, impl_UnpackControl.v, impl_UnpackControl.o⟩), (41, ⟨impl_MemOk.A, impl_MemOk.v, impl_MemOk.o⟩), (104, ⟨impl_isBootAt.A, impl_isBootAt.v, impl_isBootAt.o⟩), (125, ⟨impl_RunBoots_1.A, impl_RunBoots_1.v, impl_RunBoots_1.o⟩), (112, ⟨slices_Clone_int.A, slices_Clone_int.v, slices_Clone_int.o⟩), (129, ⟨impl_RecoveryWrites.A, impl_RecoveryWrites.v, impl_RecoveryWrites.o⟩), (214, ⟨impl_Boot_spend.A, impl_Boot_spend.v, impl_Boot_spend.o⟩), (174, ⟨impl_Boot_recover.A, impl_Boot_recover.v, impl_Boot_recover.o⟩), (57, ⟨impl_MemVars.A, impl_MemVars.v, impl_MemVars.o⟩), (266, ⟨slices_Sort_int.A, slices_Sort_int.v, slices_Sort_int.o⟩), (267, ⟨slices_Compact_int.A, slices_Compact_int.v, slices_Compact_int.o⟩), (265, ⟨impl_ReadsOf.A, impl_ReadsOf.v, impl_ReadsOf.o⟩), (260, ⟨impl_reader_read.A, impl_reader_read.v, impl_reader_read.o⟩), (252, ⟨impl_endOf.A, impl_endOf.v, impl_endOf.o⟩), (259, ⟨impl_reader_pass.A, impl_reader_pass.v, impl_reader_pass.o⟩), (246, ⟨impl_MayReadFirst.A, impl_MayReadFirst.v, impl_MayReadFirst.o⟩), (262, ⟨impl_MustWrite_1.A, impl_MustWrite_1.v, impl_MustWrite_1.o⟩), (261, ⟨impl_written.A, impl_written.v, impl_written.o⟩), (247, ⟨impl_MustWrite.A, impl_MustWrite.v, impl_MustWrite.o⟩), (263, ⟨impl_MayWrite_1.A, impl_MayWrite_1.v, impl_MayWrite_1.o⟩), (249, ⟨impl_MayWrite.A, impl_MayWrite.v, impl_MayWrite.o⟩), (268, ⟨slices_Index_int.A, slices_Index_int.v, slices_Index_int.o⟩), (264, ⟨slices_Contains_int.A, slices_Contains_int.v, slices_Contains_int.o⟩), (251, ⟨impl_HasVar.A, impl_HasVar.v, impl_HasVar.o⟩), (250, ⟨impl_MustLog_1.A, impl_MustLog_1.v, impl_MustLog_1.o⟩), (248, ⟨slices_DeleteFunc_int_MustLog_1.A, slices_DeleteFunc_int_MustLog_1.v, slices_DeleteFunc_int_MustLog_1.o⟩), (231, ⟨impl_MustLog.A, impl_MustLog.v, impl_MustLog.o⟩), (235, ⟨impl_StmtCost.A, impl_StmtCost.v, impl_StmtCost.o⟩), (234, ⟨impl_tracer_work.A, impl_tracer_work.v, impl_tracer_work.o⟩), (127, ⟨impl_VarsOk.A, impl_VarsOk.v, impl_VarsOk.o⟩), (186, ⟨impl_operand.A, impl_operand.v, impl_operand.o⟩), (182, ⟨impl_Clamp.A, impl_Clamp.v, impl_Clamp.o⟩), (220, ⟨impl_Saturate.A, impl_Saturate.v, impl_Saturate.o⟩), (187, ⟨impl_AddValues.A, impl_AddValues.v, impl_AddValues.o⟩), (188, ⟨impl_SubValues.A, impl_SubValues.v, impl_SubValues.o⟩), (189, ⟨impl_MulValues.A, impl_MulValues.v, impl_MulValues.o⟩), (190, ⟨impl_bit.A, impl_bit.v, impl_bit.o⟩), (128, ⟨impl_EvalExpr.A, impl_EvalExpr.v, impl_EvalExpr.o⟩), (239, ⟨impl_tracer_write.A, impl_tracer_write.v, impl_tracer_write.o⟩), (236, ⟨impl_tracer_assign.A, impl_tracer_assign.v, impl_tracer_assign.o⟩), (237, ⟨impl_ReadSensor.A, impl_ReadSensor.v, impl_ReadSensor.o⟩), (238, ⟨impl_tracer_send.A, impl_tracer_send.v, impl_tracer_send.o⟩), (233, ⟨impl_traceOf_1.A, impl_traceOf_1.v, impl_traceOf_1.o⟩), (232, ⟨impl_walk.A, impl_walk.v, impl_walk.o⟩), (254, ⟨impl_hasTask.A, impl_hasTask.v, impl_hasTask.o⟩), (240, ⟨impl_NextTask.A, impl_NextTask.v, impl_NextTask.o⟩), (215, ⟨impl_traceOf.A, impl_traceOf.v, impl_traceOf.o⟩), (216, ⟨impl_isSenseStep.A, impl_isSenseStep.v, impl_isSenseStep.o⟩), (175, ⟨impl_Boot_task.A, impl_Boot_task.v, impl_Boot_task.o⟩), (106, ⟨impl_boot.A, impl_boot.v, impl_boot.o⟩), (53, ⟨impl_RunBoots.A, impl_RunBoots.v, impl_RunBoots.o⟩), (149, ⟨impl_RulesOk_1.A, impl_RulesOk_1.v, impl_RulesOk_1.o⟩), (204, ⟨slices_IndexFunc_impl_Expr_RulesOk_1.A, slices_IndexFunc_impl_Expr_RulesOk_1.v, slices_IndexFunc_impl_Expr_RulesOk_1.o⟩), (148, ⟨slices_ContainsFunc_impl_Expr_RulesOk_1.A, slices_ContainsFunc_impl_Expr_RulesOk_1.v, slices_ContainsFunc_impl_Expr_RulesOk_1.o⟩), (76, ⟨impl_RulesOk.A, impl_RulesOk.v, impl_RulesOk.o⟩), (130, ⟨impl_ApplyWrites.A, impl_ApplyWrites.v, impl_ApplyWrites.o⟩), (58, ⟨impl_Recovered.A, impl_Recovered.v, impl_Recovered.o⟩), (56, ⟨impl_Migrate.A, impl_Migrate.v, impl_Migrate.o⟩), (18, ⟨impl_MigrateMem.A, impl_MigrateMem.v, impl_MigrateMem.o⟩), (54, ⟨laws_sameInts.A, laws_sameInts.v, laws_sameInts.o⟩), (43, ⟨impl_MemSent.A, impl_MemSent.v, impl_MemSent.o⟩), (59, ⟨impl_IsClean.A, impl_IsClean.v, impl_IsClean.o⟩), (8, ⟨laws_FnMigratedMem.A, laws_FnMigratedMem.v, laws_FnMigratedMem.o⟩)]
def ntTab : List (Nat × Nat) := [(36, 6), (99, 32), (173, 58), (103, 37), (229, 9), (180, 12), (213, 11), (171, 11), (230, 23), (212, 59), (170, 7), (100, 24), (113, 20), (139, 15), (140, 5), (144, 19), (172, 14), (73, 27), (101, 65), (72, 30), (37, 32), (185, 17), (126, 20), (55, 6), (123, 21), (52, 6), (102, 20), (38, 6), (105, 15), (255, 9), (109, 5), (256, 13), (205, 5), (150, 16), (253, 5), (241, 65), (242, 9), (218, 39), (178, 11), (177, 6), (217, 19), (176, 9), (107, 13), (110, 5), (179, 6), (184, 19), (124, 9), (108, 6), (78, 27), (77, 28), (41, 72), (104, 20), (125, 6), (112, 8), (129, 57), (214, 19), (174, 28), (57, 9), (266, 1), (267, 1), (265, 32), (260, 26), (252, 33), (259, 56), (246, 36), (262, 9), (261, 34), (247, 38), (263, 3), (249, 8), (268, 19), (264, 9), (251, 8), (250, 14), (248, 42), (231, 18), (235, 11), (234, 17), (127, 10), (186, 13), (182, 16), (220, 5), (187, 11), (188, 11), (189, 11), (190, 4), (128, 60), (239, 20), (236, 85), (237, 29), (238, 28), (233, 81), (232, 51), (254, 15), (240, 34), (215, 63), (216, 11), (175, 66), (106, 30), (53, 68), (149, 6), (204, 19), (148, 9), (76, 13), (130, 37), (58, 11), (56, 33), (18, 48), (54, 26), (43, 24), (59, 19), (8, 80)]
def modeTab : List (Nat × YtobfemcobakeoaaGreatEv.Mode) := [(266, .edit), (267, .take), (248, .take)]
def PL : Plan C := ⟨fun f => lookup f retTab, fun f => (lookup f ntTab).getD 0, fun f => (lookup f modeTab).getD YtobfemcobakeoaaGreatEv.Mode.read, [], [], []⟩
end
end Go.Proofs.YtobfemcobakeoaaGreat.Ev
