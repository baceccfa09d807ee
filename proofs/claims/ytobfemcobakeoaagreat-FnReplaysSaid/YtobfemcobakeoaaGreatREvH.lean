/- The program's types for the evaluator, looked up, and the table of calls. No conditions. -/
import Derived.Test.YtobfemcobakeoaaGreatLibC
import Derived.WalkKit
import Derived.Test.YtobfemcobakeoaaGreatProg
import Derived.Test.YtobfemcobakeoaaGreatShelf
namespace Go.Proofs.YtobfemcobakeoaaGreat.Ev
open Go.Proofs.YtobfemcobakeoaaGreatEv Go.RowKit
set_option linter.unusedVariables false
set_option maxRecDepth 100000
noncomputable section
structure S160 where
 f0 : Int
 f1 : Int
 f2 : Int
def z160 : S160 := ⟨(0 : Int), (0 : Int), (0 : Int)⟩
structure S153 where
 f0 : Int
 f1 : Int
 f2 : Int
def z153 : S153 := ⟨(0 : Int), (0 : Int), (0 : Int)⟩
structure S210 where
 f0 : Int
 f1 : Int
 f2 : Int
 f3 : S153
def z210 : S210 := ⟨(0 : Int), (0 : Int), (0 : Int), z153⟩
structure S166 where
 f0 : List S210
 f1 : S153
def z166 : S166 := ⟨([] : List S210), z153⟩
structure S205 where
 f0 : Int
 f1 : Int
def z205 : S205 := ⟨(0 : Int), (0 : Int)⟩
structure S217 where
 f0 : Int
 f1 : Int
def z217 : S217 := ⟨(0 : Int), (0 : Int)⟩
structure S227 where
 f0 : Int
 f1 : Int
 f2 : Int
def z227 : S227 := ⟨(0 : Int), (0 : Int), (0 : Int)⟩
abbrev wr (n : Int) : Int := IntKind.wrap .i64 n
abbrev rdI (xs : List Int) (i : Int) : Int := xs.getD i.toNat (0 : Int)
abbrev rdB (xs : List Bool) (i : Int) : Bool := xs.getD i.toNat false
abbrev rdLI (xs : List (List Int)) (i : Int) : List Int := xs.getD i.toNat ([] : List Int)
abbrev rdS160 (xs : List S160) (i : Int) : S160 := xs.getD i.toNat z160
abbrev rdS210 (xs : List S210) (i : Int) : S210 := xs.getD i.toNat z210
abbrev rdS166 (xs : List S166) (i : Int) : S166 := xs.getD i.toNat z166
abbrev rdS205 (xs : List S205) (i : Int) : S205 := xs.getD i.toNat z205
abbrev rdS217 (xs : List S217) (i : Int) : S217 := xs.getD i.toNat z217
abbrev rdS227 (xs : List S227) (i : Int) : S227 := xs.getD i.toNat z227
def elTab : List (Nat × (Σ T : Type, T)) := [
 (3, ⟨Int, (0 : Int)⟩),
 (4, ⟨Bool, false⟩),
 (5, ⟨Int, (0 : Int)⟩),
 (25, ⟨List Int, ([] : List Int)⟩),
 (161, ⟨S160, z160⟩),
 (211, ⟨S210, z210⟩),
 (167, ⟨S166, z166⟩),
 (206, ⟨S205, z205⟩),
 (218, ⟨S217, z217⟩),
 (228, ⟨S227, z227⟩)]
def U : Uni := ⟨fun e => (elAt elTab e).1, fun e => (elAt elTab e).2⟩
def elE : List (Σ e, ElE U e) := [
 ⟨3, ⟨fun (x : Int) => .int .i64 x, fun v => (match v with | .int .i64 y1 => some (y1 : Int) | _ => none : Option Int)⟩⟩,
 ⟨4, ⟨fun (x : Bool) => .bool x, fun v => (match v with | .bool y1 => some (y1 : Bool) | _ => none : Option Bool)⟩⟩,
 ⟨5, ⟨fun (x : Int) => .int .u8 x, fun v => (match v with | .int .u8 y1 => some (y1 : Int) | _ => none : Option Int)⟩⟩,
 ⟨25, ⟨fun (x : List Int) => .sl 3 x, fun v => (match v with | .sl 3 y1 => some (y1 : List Int) | _ => none : Option (List Int))⟩⟩,
 ⟨161, ⟨fun (x : S160) => .agg [.int .i64 x.f0, .int .i64 x.f1, .int .i64 x.f2], fun v => (match v with | .agg [.int .i64 y1, .int .i64 y2, .int .i64 y3] => some ((⟨y1, y2, y3⟩ : S160) : S160) | _ => none : Option S160)⟩⟩,
 ⟨211, ⟨fun (x : S210) => .agg [.int .i64 x.f0, .int .i64 x.f1, .int .i64 x.f2, .int .i64 x.f3.f0, .int .i64 x.f3.f1, .int .i64 x.f3.f2], fun v => (match v with | .agg [.int .i64 y1, .int .i64 y2, .int .i64 y3, .int .i64 y4, .int .i64 y5, .int .i64 y6] => some ((⟨y1, y2, y3, (⟨y4, y5, y6⟩ : S153)⟩ : S210) : S210) | _ => none : Option S210)⟩⟩,
 ⟨167, ⟨fun (x : S166) => .agg [.sl 211 x.f0, .int .i64 x.f1.f0, .int .i64 x.f1.f1, .int .i64 x.f1.f2], fun v => (match v with | .agg [.sl 211 y1, .int .i64 y2, .int .i64 y3, .int .i64 y4] => some ((⟨y1, (⟨y2, y3, y4⟩ : S153)⟩ : S166) : S166) | _ => none : Option S166)⟩⟩,
 ⟨206, ⟨fun (x : S205) => .agg [.int .i64 x.f0, .int .i64 x.f1], fun v => (match v with | .agg [.int .i64 y1, .int .i64 y2] => some ((⟨y1, y2⟩ : S205) : S205) | _ => none : Option S205)⟩⟩,
 ⟨218, ⟨fun (x : S217) => .agg [.int .i64 x.f0, .int .i64 x.f1], fun v => (match v with | .agg [.int .i64 y1, .int .i64 y2] => some ((⟨y1, y2⟩ : S217) : S217) | _ => none : Option S217)⟩⟩,
 ⟨228, ⟨fun (x : S227) => .agg [.int .i64 x.f0, .int .i64 x.f1, .int .i64 x.f2], fun v => (match v with | .agg [.int .i64 y1, .int .i64 y2, .int .i64 y3] => some ((⟨y1, y2, y3⟩ : S227) : S227) | _ => none : Option S227)⟩⟩]
def tyTab : List (Nat × Ty U) := [
 (3, .int .i64),
 (4, .bool),
 (5, .int .u8),
 (25, .slice 3),
 (33, .slice 167),
 (35, .struct [(0, 33)] [.own true 167 ([] : List S166)]),
 (59, .slice 4),
 (61, .struct [(0, 3), (1, 3), (2, 3), (3, 3)] [.int .i64 (0 : Int), .int .i64 (0 : Int), .int .i64 (0 : Int), .int .i64 (0 : Int)]),
 (62, .struct [(0, 3), (1, 3)] [.int .i64 (0 : Int), .int .i64 (0 : Int)]),
 (63, .struct [(0, 25)] [.own true 3 ([] : List Int)]),
 (65, .struct [(0, 3), (1, 63)] [.int .i64 (0 : Int), .own true 3 ([] : List Int)]),
 (67, .struct [(0, 35), (1, 25), (2, 25), (3, 3), (4, 61), (8, 62), (10, 65), (12, 3)] [.own true 167 ([] : List S166), .own true 3 ([] : List Int), .own true 3 ([] : List Int), .int .i64 (0 : Int), .int .i64 (0 : Int), .int .i64 (0 : Int), .int .i64 (0 : Int), .int .i64 (0 : Int), .int .i64 (0 : Int), .int .i64 (0 : Int), .int .i64 (0 : Int), .own true 3 ([] : List Int), .int .i64 (0 : Int)]),
 (77, .slice 5),
 (82, .slice 25),
 (84, .struct [(0, 25), (1, 3), (2, 82), (3, 3)] [.own true 3 ([] : List Int), .int .i64 (0 : Int), .own true 25 ([] : List (List Int)), .int .i64 (0 : Int)]),
 (102, .slice 161),
 (132, .ptr),
 (154, .struct [(0, 3), (1, 3), (2, 3)] [.int .i64 (0 : Int), .int .i64 (0 : Int), .int .i64 (0 : Int)]),
 (156, .slice 206),
 (161, .struct [(0, 3), (1, 3), (2, 3)] [.int .i64 (0 : Int), .int .i64 (0 : Int), .int .i64 (0 : Int)]),
 (165, .slice 211),
 (167, .struct [(0, 165), (1, 154)] [.own true 211 ([] : List S210), .int .i64 (0 : Int), .int .i64 (0 : Int), .int .i64 (0 : Int)]),
 (184, .slice 218),
 (190, .struct [(0, 77), (1, 3), (2, 3)] [.own true 5 ([] : List Int), .int .i64 (0 : Int), .int .i64 (0 : Int)]),
 (199, .ptr),
 (206, .struct [(0, 3), (1, 3)] [.int .i64 (0 : Int), .int .i64 (0 : Int)]),
 (211, .struct [(0, 3), (1, 3), (2, 3), (3, 154)] [.int .i64 (0 : Int), .int .i64 (0 : Int), .int .i64 (0 : Int), .int .i64 (0 : Int), .int .i64 (0 : Int), .int .i64 (0 : Int)]),
 (218, .struct [(0, 3), (1, 3)] [.int .i64 (0 : Int), .int .i64 (0 : Int)]),
 (221, .int .u64),
 (222, .ptr),
 (223, .slice 228),
 (225, .struct [(0, 223), (1, 25)] [.own true 228 ([] : List S227), .own true 3 ([] : List Int)]),
 (228, .struct [(0, 3), (1, 3), (2, 3)] [.int .i64 (0 : Int), .int .i64 (0 : Int), .int .i64 (0 : Int)]),
 (244, .ptr),
 (245, .arr 8 4 [.bool false, .bool false, .bool false, .bool false, .bool false, .bool false, .bool false, .bool false]),
 (247, .struct [(0, 225), (2, 3), (3, 3), (4, 3), (5, 25), (6, 245), (14, 25)] [.own true 228 ([] : List S227), .own true 3 ([] : List Int), .int .i64 (0 : Int), .int .i64 (0 : Int), .int .i64 (0 : Int), .own true 3 ([] : List Int), .bool false, .bool false, .bool false, .bool false, .bool false, .bool false, .bool false, .bool false, .own true 3 ([] : List Int)]),
 (262, .int .u32),
 (265, .int .u64),
 (268, .ptr),
 (270, .struct [(0, 245), (8, 245)] [.bool false, .bool false, .bool false, .bool false, .bool false, .bool false, .bool false, .bool false, .bool false, .bool false, .bool false, .bool false, .bool false, .bool false, .bool false, .bool false])]
def bytesTab : List (Nat × Nat) := [(3, 8), (4, 1), (5, 1), (25, 24), (161, 24), (211, 48), (167, 48), (206, 16), (218, 16), (228, 24)]
def eqTab : List (Nat × Nat) := [(154, 3), (211, 6)]
def C : Ctx := ⟨U, fun e => (sel (noEl U) elE e).enc, fun e => (sel (noEl U) elE e).dec, fun t => lookup t tyTab, fun e => (lookup e bytesTab).getD 0, fun t => lookup t eqTab⟩
theorem elOk : AllL (fun p : Σ e, ElE U e => ElOk p.1 p.2) elE := ⟨⟨fun _ => rfl, fun _ => rfl, fun _ => rfl, fun v y h => by dsimp only at h; split at h <;> first | (cases h; rfl) | cases h⟩,
 ⟨fun _ => rfl, fun _ => rfl, fun _ => rfl, fun v y h => by dsimp only at h; split at h <;> first | (cases h; rfl) | cases h⟩,
 ⟨fun _ => rfl, fun _ => rfl, fun _ => rfl, fun v y h => by dsimp only at h; split at h <;> first | (cases h; rfl) | cases h⟩,
 ⟨fun _ => rfl, fun _ => rfl, fun _ => rfl, fun v y h => by dsimp only at h; split at h <;> first | (cases h; rfl) | cases h⟩,
 ⟨fun _ => rfl, fun _ => rfl, fun _ => rfl, fun v y h => by dsimp only at h; split at h <;> first | (cases h; rfl) | cases h⟩,
 ⟨fun _ => rfl, fun _ => rfl, fun _ => rfl, fun v y h => by dsimp only at h; split at h <;> first | (cases h; rfl) | cases h⟩,
 ⟨fun _ => rfl, fun _ => rfl, fun _ => rfl, fun v y h => by dsimp only at h; split at h <;> first | (cases h; rfl) | cases h⟩,
 ⟨fun _ => rfl, fun _ => rfl, fun _ => rfl, fun v y h => by dsimp only at h; split at h <;> first | (cases h; rfl) | cases h⟩,
 ⟨fun _ => rfl, fun _ => rfl, fun _ => rfl, fun v y h => by dsimp only at h; split at h <;> first | (cases h; rfl) | cases h⟩,
 ⟨fun _ => rfl, fun _ => rfl, fun _ => rfl, fun v y h => by dsimp only at h; split at h <;> first | (cases h; rfl) | cases h⟩, trivial⟩
theorem tyOk : AllL (fun p : Nat × Ty U => TyOk Tryz.prog C p.1 p.2) tyTab := ⟨tyOk_int (by kernel_rfl) (by kernel_rfl),
 tyOk_bool (by kernel_rfl) (by kernel_rfl),
 tyOk_int (by kernel_rfl) (by kernel_rfl),
 tyOk_slice (by kernel_rfl) (by kernel_rfl),
 tyOk_slice (by kernel_rfl) (by kernel_rfl),
 tyOk_struct #[.slice none 0 0] (by kernel_rfl) (by kernel_rfl) (by kernel_rfl) (by kernel_rfl) (by kernel_rfl),
 tyOk_slice (by kernel_rfl) (by kernel_rfl),
 tyOk_struct #[.int .i64 0, .int .i64 0, .int .i64 0, .int .i64 0] (by kernel_rfl) (by kernel_rfl) (by kernel_rfl) (by kernel_rfl) (by kernel_rfl),
 tyOk_struct #[.int .i64 0, .int .i64 0] (by kernel_rfl) (by kernel_rfl) (by kernel_rfl) (by kernel_rfl) (by kernel_rfl),
 tyOk_struct #[.slice none 0 0] (by kernel_rfl) (by kernel_rfl) (by kernel_rfl) (by kernel_rfl) (by kernel_rfl),
 tyOk_struct #[.int .i64 0, .slice none 0 0] (by kernel_rfl) (by kernel_rfl) (by kernel_rfl) (by kernel_rfl) (by kernel_rfl),
 tyOk_struct #[.slice none 0 0, .slice none 0 0, .slice none 0 0, .int .i64 0, .int .i64 0, .int .i64 0, .int .i64 0, .int .i64 0, .int .i64 0, .int .i64 0, .int .i64 0, .slice none 0 0, .int .i64 0] (by kernel_rfl) (by kernel_rfl) (by kernel_rfl) (by kernel_rfl) (by kernel_rfl),
 tyOk_slice (by kernel_rfl) (by kernel_rfl),
 tyOk_slice (by kernel_rfl) (by kernel_rfl),
 tyOk_struct #[.slice none 0 0, .int .i64 0, .slice none 0 0, .int .i64 0] (by kernel_rfl) (by kernel_rfl) (by kernel_rfl) (by kernel_rfl) (by kernel_rfl),
 tyOk_slice (by kernel_rfl) (by kernel_rfl),
 tyOk_ptr (e := 190) (by kernel_rfl) (by kernel_rfl),
 tyOk_struct #[.int .i64 0, .int .i64 0, .int .i64 0] (by kernel_rfl) (by kernel_rfl) (by kernel_rfl) (by kernel_rfl) (by kernel_rfl),
 tyOk_slice (by kernel_rfl) (by kernel_rfl),
 tyOk_struct #[.int .i64 0, .int .i64 0, .int .i64 0] (by kernel_rfl) (by kernel_rfl) (by kernel_rfl) (by kernel_rfl) (by kernel_rfl),
 tyOk_slice (by kernel_rfl) (by kernel_rfl),
 tyOk_struct #[.slice none 0 0, .int .i64 0, .int .i64 0, .int .i64 0] (by kernel_rfl) (by kernel_rfl) (by kernel_rfl) (by kernel_rfl) (by kernel_rfl),
 tyOk_slice (by kernel_rfl) (by kernel_rfl),
 tyOk_struct #[.slice none 0 0, .int .i64 0, .int .i64 0] (by kernel_rfl) (by kernel_rfl) (by kernel_rfl) (by kernel_rfl) (by kernel_rfl),
 tyOk_ptr (e := 61) (by kernel_rfl) (by kernel_rfl),
 tyOk_struct #[.int .i64 0, .int .i64 0] (by kernel_rfl) (by kernel_rfl) (by kernel_rfl) (by kernel_rfl) (by kernel_rfl),
 tyOk_struct #[.int .i64 0, .int .i64 0, .int .i64 0, .int .i64 0, .int .i64 0, .int .i64 0] (by kernel_rfl) (by kernel_rfl) (by kernel_rfl) (by kernel_rfl) (by kernel_rfl),
 tyOk_struct #[.int .i64 0, .int .i64 0] (by kernel_rfl) (by kernel_rfl) (by kernel_rfl) (by kernel_rfl) (by kernel_rfl),
 tyOk_int (by kernel_rfl) (by kernel_rfl),
 tyOk_ptr (e := 84) (by kernel_rfl) (by kernel_rfl),
 tyOk_slice (by kernel_rfl) (by kernel_rfl),
 tyOk_struct #[.slice none 0 0, .slice none 0 0] (by kernel_rfl) (by kernel_rfl) (by kernel_rfl) (by kernel_rfl) (by kernel_rfl),
 tyOk_struct #[.int .i64 0, .int .i64 0, .int .i64 0] (by kernel_rfl) (by kernel_rfl) (by kernel_rfl) (by kernel_rfl) (by kernel_rfl),
 tyOk_ptr (e := 247) (by kernel_rfl) (by kernel_rfl),
 tyOk_arr #[.bool false, .bool false, .bool false, .bool false, .bool false, .bool false, .bool false, .bool false] (by kernel_rfl) (by kernel_rfl) (by kernel_rfl) (by kernel_rfl) (by kernel_rfl) (by kernel_rfl),
 tyOk_struct #[.slice none 0 0, .slice none 0 0, .int .i64 0, .int .i64 0, .int .i64 0, .slice none 0 0, .bool false, .bool false, .bool false, .bool false, .bool false, .bool false, .bool false, .bool false, .slice none 0 0] (by kernel_rfl) (by kernel_rfl) (by kernel_rfl) (by kernel_rfl) (by kernel_rfl),
 tyOk_int (by kernel_rfl) (by kernel_rfl),
 tyOk_int (by kernel_rfl) (by kernel_rfl),
 tyOk_ptr (e := 270) (by kernel_rfl) (by kernel_rfl),
 tyOk_struct #[.bool false, .bool false, .bool false, .bool false, .bool false, .bool false, .bool false, .bool false, .bool false, .bool false, .bool false, .bool false, .bool false, .bool false, .bool false, .bool false] (by kernel_rfl) (by kernel_rfl) (by kernel_rfl) (by kernel_rfl) (by kernel_rfl), trivial⟩
theorem sl3 : SliceOk Tryz.prog C 3 := sliceOk_of (.int .i64 0) 1 8 (fun x T h ha => by have h' : (some (.int .i64) : Option (Ty U)) = some T := h; cases h'; cases ha) (by kernel_rfl) (by kernel_rfl) (by kernel_rfl) (by decide) (by decide) (by kernel_rfl)
theorem sl4 : SliceOk Tryz.prog C 4 := sliceOk_of (.bool false) 1 1 (fun x T h ha => by have h' : (some (.bool) : Option (Ty U)) = some T := h; cases h'; cases ha) (by kernel_rfl) (by kernel_rfl) (by kernel_rfl) (by decide) (by decide) (by kernel_rfl)
theorem sl5 : SliceOk Tryz.prog C 5 := sliceOk_of (.int .u8 0) 1 1 (fun x T h ha => by have h' : (some (.int .u8) : Option (Ty U)) = some T := h; cases h'; cases ha) (by kernel_rfl) (by kernel_rfl) (by kernel_rfl) (by decide) (by decide) (by kernel_rfl)
theorem sl25 : SliceOk Tryz.prog C 25 := sliceOk_of (.slice none 0 0) 1 24 (fun x T h ha => by have h' : (some (.slice 3) : Option (Ty U)) = some T := h; cases h'; cases ha) (by kernel_rfl) (by kernel_rfl) (by kernel_rfl) (by decide) (by decide) (by kernel_rfl)
theorem sl161 : SliceOk Tryz.prog C 161 := sliceOk_of (.agg #[.int .i64 0, .int .i64 0, .int .i64 0]) 3 24 (fun x T _ _ => ⟨_, rfl⟩) (by kernel_rfl) (by kernel_rfl) (by kernel_rfl) (by decide) (by decide) (by kernel_rfl)
theorem sl167 : SliceOk Tryz.prog C 167 := sliceOk_of (.agg #[.slice none 0 0, .int .i64 0, .int .i64 0, .int .i64 0]) 4 48 (fun x T _ _ => ⟨_, rfl⟩) (by kernel_rfl) (by kernel_rfl) (by kernel_rfl) (by decide) (by decide) (by kernel_rfl)
theorem sl206 : SliceOk Tryz.prog C 206 := sliceOk_of (.agg #[.int .i64 0, .int .i64 0]) 2 16 (fun x T _ _ => ⟨_, rfl⟩) (by kernel_rfl) (by kernel_rfl) (by kernel_rfl) (by decide) (by decide) (by kernel_rfl)
theorem sl211 : SliceOk Tryz.prog C 211 := sliceOk_of (.agg #[.int .i64 0, .int .i64 0, .int .i64 0, .int .i64 0, .int .i64 0, .int .i64 0]) 6 48 (fun x T _ _ => ⟨_, rfl⟩) (by kernel_rfl) (by kernel_rfl) (by kernel_rfl) (by decide) (by decide) (by kernel_rfl)
theorem sl218 : SliceOk Tryz.prog C 218 := sliceOk_of (.agg #[.int .i64 0, .int .i64 0]) 2 16 (fun x T _ _ => ⟨_, rfl⟩) (by kernel_rfl) (by kernel_rfl) (by kernel_rfl) (by decide) (by decide) (by kernel_rfl)
theorem sl228 : SliceOk Tryz.prog C 228 := sliceOk_of (.agg #[.int .i64 0, .int .i64 0, .int .i64 0]) 3 24 (fun x T _ _ => ⟨_, rfl⟩) (by kernel_rfl) (by kernel_rfl) (by kernel_rfl) (by decide) (by decide) (by kernel_rfl)
theorem slOk : AllL (fun p : Nat × Ty U => ∀ e, p.2 = .slice e → SliceOk Tryz.prog C e) tyTab := ⟨(fun e h => by cases h), (fun e h => by cases h), (fun e h => by cases h), (fun e h => by cases h; exact sl3), (fun e h => by cases h; exact sl167), (fun e h => by cases h), (fun e h => by cases h; exact sl4), (fun e h => by cases h), (fun e h => by cases h), (fun e h => by cases h), (fun e h => by cases h), (fun e h => by cases h), (fun e h => by cases h; exact sl5), (fun e h => by cases h; exact sl25), (fun e h => by cases h), (fun e h => by cases h; exact sl161), (fun e h => by cases h), (fun e h => by cases h), (fun e h => by cases h; exact sl206), (fun e h => by cases h), (fun e h => by cases h; exact sl211), (fun e h => by cases h), (fun e h => by cases h; exact sl218), (fun e h => by cases h), (fun e h => by cases h), (fun e h => by cases h), (fun e h => by cases h), (fun e h => by cases h), (fun e h => by cases h), (fun e h => by cases h), (fun e h => by cases h; exact sl228), (fun e h => by cases h), (fun e h => by cases h), (fun e h => by cases h), (fun e h => by cases h), (fun e h => by cases h), (fun e h => by cases h), (fun e h => by cases h), (fun e h => by cases h), (fun e h => by cases h), trivial⟩
def eqB154 (x0 x1 x2 y0 y1 y2 : Int) : Bool := (x0 == y0) && ((x1 == y1) && ((x2 == y2) && true))
theorem eqA154 (d : Nat) (w : World) (k0 k1 k2 : IntKind) (x0 x1 x2 y0 y1 y2 : Int) : (Op.equalIn (d + 2) 154 (.agg #[.int k0 x0, .int k1 x1, .int k2 x2]) (.agg #[.int k0 y0, .int k1 y1, .int k2 y2])).run Tryz.prog w = .ok (eqB154 x0 x1 x2 y0 y1 y2) w := by
 refine eq_struct Tryz.underlying154 (by kernel_rfl) ?_; refine eq_cons (by rfl) (by go_simp; rfl) (by go_simp; rfl) (by go_simp) ?_; refine eq_cons (by rfl) (by go_simp; rfl) (by go_simp; rfl) (by go_simp) ?_; refine eq_cons (by rfl) (by go_simp; rfl) (by go_simp; rfl) (by go_simp) ?_; exact eq_nil
theorem eq154 : EqOk Tryz.prog 154 3 := fun ps w h => match ps, h with
 | [p0, p1, p2], _ => ⟨by
  have e := eqA154 9998 w p0.1 p1.1 p2.1 p0.2.1 p1.2.1 p2.2.1 p0.2.2 p1.2.2 p2.2.2
  have hb : ∀ a b : Int, (a == b) = decide (a = b) := fun _ _ => rfl
  exact e.trans (by simp [eqB154, List.all, hb]), by kernel_rfl⟩
def eqB211 (x0 x1 x2 x3 x4 x5 y0 y1 y2 y3 y4 y5 : Int) : Bool := (x0 == y0) && ((x1 == y1) && ((x2 == y2) && ((eqB154 x3 x4 x5 y3 y4 y5) && true)))
theorem eqA211 (d : Nat) (w : World) (k0 k1 k2 k3 k4 k5 : IntKind) (x0 x1 x2 x3 x4 x5 y0 y1 y2 y3 y4 y5 : Int) : (Op.equalIn (d + 3) 211 (.agg #[.int k0 x0, .int k1 x1, .int k2 x2, .int k3 x3, .int k4 x4, .int k5 x5]) (.agg #[.int k0 y0, .int k1 y1, .int k2 y2, .int k3 y3, .int k4 y4, .int k5 y5])).run Tryz.prog w = .ok (eqB211 x0 x1 x2 x3 x4 x5 y0 y1 y2 y3 y4 y5) w := by
 refine eq_struct Tryz.underlying211 (by kernel_rfl) ?_; refine eq_cons (by rfl) (by go_simp; rfl) (by go_simp; rfl) (by go_simp) ?_; refine eq_cons (by rfl) (by go_simp; rfl) (by go_simp; rfl) (by go_simp) ?_; refine eq_cons (by rfl) (by go_simp; rfl) (by go_simp; rfl) (by go_simp) ?_; refine eq_cons (a := .agg #[.int k3 x3, .int k4 x4, .int k5 x5]) (b := .agg #[.int k3 y3, .int k4 y4, .int k5 y5]) (by rfl) (by go_simp) (by go_simp) (eqA154 d w k3 k4 k5 x3 x4 x5 y3 y4 y5) ?_; exact eq_nil
theorem eq211 : EqOk Tryz.prog 211 6 := fun ps w h => match ps, h with
 | [p0, p1, p2, p3, p4, p5], _ => ⟨by
  have e := eqA211 9997 w p0.1 p1.1 p2.1 p3.1 p4.1 p5.1 p0.2.1 p1.2.1 p2.2.1 p3.2.1 p4.2.1 p5.2.1 p0.2.2 p1.2.2 p2.2.2 p3.2.2 p4.2.2 p5.2.2
  have hb : ∀ a b : Int, (a == b) = decide (a = b) := fun _ _ => rfl
  exact e.trans (by simp [eqB154, eqB211, List.all, hb]), by kernel_rfl⟩
theorem eqOk : AllL (fun p : Nat × Nat => EqOk Tryz.prog p.1 p.2) eqTab := ⟨eq154, eq211, trivial⟩
theorem G : YtobfemcobakeoaaGreatEv.Good Tryz.prog C := good_of (U := U) (tab := elE) (tyTab := tyTab) (bytesTab := bytesTab) (eqTab := eqTab) rfl elOk tyOk (fun t e h => slOk.mem _ (lookup_mem h) e rfl) eqOk
abbrev Pg : Program := Tryz.prog
theorem mixed : Pg.follows .mixedOrders = true := by kernel_rfl
abbrev laws_big.A := Bool
def laws_big.v : laws_big.A → PV U := fun r => .bool r
def laws_big.o : laws_big.A → List (PV U) := fun r => []
abbrev spec_l01New.A := (List Int) × Int × Int
def spec_l01New.v : spec_l01New.A → PV U := fun r => .box [.sl 5 r.1, .int .i64 r.2.1, .int .i64 r.2.2]
def spec_l01New.o : spec_l01New.A → List (PV U) := fun r => []
abbrev spec_l01Byte.A := Int × (List Int) × Int × Int
def spec_l01Byte.v : spec_l01Byte.A → PV U := fun r => .int .i64 r.1
def spec_l01Byte.o : spec_l01Byte.A → List (PV U) := fun r => [.box [.sl 5 r.2.1, .int .i64 r.2.2.1, .int .i64 r.2.2.2]]
abbrev spec_l01Below.A := Int × (List Int) × Int × Int
def spec_l01Below.v : spec_l01Below.A → PV U := fun r => .int .i64 r.1
def spec_l01Below.o : spec_l01Below.A → List (PV U) := fun r => [.box [.sl 5 r.2.1, .int .i64 r.2.2.1, .int .i64 r.2.2.2]]
abbrev spec_l01Once.A := Bool × (List Int) × Int × Int
def spec_l01Once.v : spec_l01Once.A → PV U := fun r => .bool r.1
def spec_l01Once.o : spec_l01Once.A → List (PV U) := fun r => [.box [.sl 5 r.2.1, .int .i64 r.2.2.1, .int .i64 r.2.2.2]]
abbrev spec_l01PickInt.A := Int × (List Int) × Int × Int
def spec_l01PickInt.v : spec_l01PickInt.A → PV U := fun r => .int .i64 r.1
def spec_l01PickInt.o : spec_l01PickInt.A → List (PV U) := fun r => [.box [.sl 5 r.2.1, .int .i64 r.2.2.1, .int .i64 r.2.2.2]]
abbrev spec_l03Operand.A := Int × (List Int) × Int × Int
def spec_l03Operand.v : spec_l03Operand.A → PV U := fun r => .int .i64 r.1
def spec_l03Operand.o : spec_l03Operand.A → List (PV U) := fun r => [.box [.sl 5 r.2.1, .int .i64 r.2.2.1, .int .i64 r.2.2.2]]
abbrev spec_l03Expr.A := Int × Int × Int × (List Int) × Int × Int
def spec_l03Expr.v : spec_l03Expr.A → PV U := fun r => .agg [.int .i64 r.1, .int .i64 r.2.1, .int .i64 r.2.2.1]
def spec_l03Expr.o : spec_l03Expr.A → List (PV U) := fun r => [.box [.sl 5 r.2.2.2.1, .int .i64 r.2.2.2.2.1, .int .i64 r.2.2.2.2.2]]
abbrev spec_l04Stmt.A := Int × Int × Int × Int × Int × Int × (List Int) × Int × Int
def spec_l04Stmt.v : spec_l04Stmt.A → PV U := fun r => .agg [.int .i64 r.1, .int .i64 r.2.1, .int .i64 r.2.2.1, .int .i64 r.2.2.2.1, .int .i64 r.2.2.2.2.1, .int .i64 r.2.2.2.2.2.1]
def spec_l04Stmt.o : spec_l04Stmt.A → List (PV U) := fun r => [.box [.sl 5 r.2.2.2.2.2.2.1, .int .i64 r.2.2.2.2.2.2.2.1, .int .i64 r.2.2.2.2.2.2.2.2]]
abbrev spec_l05Block.A := (List S210) × (List Int) × Int × Int
def spec_l05Block.v : spec_l05Block.A → PV U := fun r => .own true 211 r.1
def spec_l05Block.o : spec_l05Block.A → List (PV U) := fun r => [.box [.sl 5 r.2.1, .int .i64 r.2.2.1, .int .i64 r.2.2.2]]
abbrev spec_l05Case.A := (List S210) × (List Int) × Int × Int
def spec_l05Case.v : spec_l05Case.A → PV U := fun r => .own true 211 r.1
def spec_l05Case.o : spec_l05Case.A → List (PV U) := fun r => [.box [.sl 5 r.2.1, .int .i64 r.2.2.1, .int .i64 r.2.2.2]]
abbrev spec_l06Program.A := (List S166) × (List Int) × Int × Int
def spec_l06Program.v : spec_l06Program.A → PV U := fun r => .agg [.own true 167 r.1]
def spec_l06Program.o : spec_l06Program.A → List (PV U) := fun r => [.box [.sl 5 r.2.1, .int .i64 r.2.2.1, .int .i64 r.2.2.2]]
abbrev spec_l03Vars.A := (List Int) × (List Int) × Int × Int
def spec_l03Vars.v : spec_l03Vars.A → PV U := fun r => .own true 3 r.1
def spec_l03Vars.o : spec_l03Vars.A → List (PV U) := fun r => [.box [.sl 5 r.2.1, .int .i64 r.2.2.1, .int .i64 r.2.2.2]]
abbrev spec_l12Readings.A := (List Int) × (List Int) × Int × Int
def spec_l12Readings.v : spec_l12Readings.A → PV U := fun r => .own true 3 r.1
def spec_l12Readings.o : spec_l12Readings.A → List (PV U) := fun r => [.box [.sl 5 r.2.1, .int .i64 r.2.2.1, .int .i64 r.2.2.2]]
abbrev spec_l19Store.A := Int × Int × Int × Int × (List Int) × Int × Int
def spec_l19Store.v : spec_l19Store.A → PV U := fun r => .agg [.int .i64 r.1, .int .i64 r.2.1, .int .i64 r.2.2.1, .int .i64 r.2.2.2.1]
def spec_l19Store.o : spec_l19Store.A → List (PV U) := fun r => [.box [.sl 5 r.2.2.2.2.1, .int .i64 r.2.2.2.2.2.1, .int .i64 r.2.2.2.2.2.2]]
abbrev spec_l01In.A := Bool
def spec_l01In.v : spec_l01In.A → PV U := fun r => .bool r
def spec_l01In.o : spec_l01In.A → List (PV U) := fun r => []
abbrev spec_IsValue.A := Bool
def spec_IsValue.v : spec_IsValue.A → PV U := fun r => .bool r
def spec_IsValue.o : spec_IsValue.A → List (PV U) := fun r => []
abbrev spec_VarsOk.A := Bool
def spec_VarsOk.v : spec_VarsOk.A → PV U := fun r => .bool r
def spec_VarsOk.o : spec_VarsOk.A → List (PV U) := fun r => []
abbrev spec_MemNew.A := (List Int) × Bool
def spec_MemNew.v : spec_MemNew.A → PV U := fun r => .tup [.own true 3 r.1, .bool r.2]
def spec_MemNew.o : spec_MemNew.A → List (PV U) := fun r => []
abbrev spec_l04Plain.A := Int × Int × Int × Int × Int × Int
def spec_l04Plain.v : spec_l04Plain.A → PV U := fun r => .agg [.int .i64 r.1, .int .i64 r.2.1, .int .i64 r.2.2.1, .int .i64 r.2.2.2.1, .int .i64 r.2.2.2.2.1, .int .i64 r.2.2.2.2.2]
def spec_l04Plain.o : spec_l04Plain.A → List (PV U) := fun r => []
abbrev spec_OperandOk.A := Bool
def spec_OperandOk.v : spec_OperandOk.A → PV U := fun r => .bool r
def spec_OperandOk.o : spec_OperandOk.A → List (PV U) := fun r => []
abbrev spec_ExprOk.A := Bool
def spec_ExprOk.v : spec_ExprOk.A → PV U := fun r => .bool r
def spec_ExprOk.o : spec_ExprOk.A → List (PV U) := fun r => []
abbrev spec_StmtOk.A := Bool
def spec_StmtOk.v : spec_StmtOk.A → PV U := fun r => .bool r
def spec_StmtOk.o : spec_StmtOk.A → List (PV U) := fun r => []
abbrev spec_BlockOk.A := Bool
def spec_BlockOk.v : spec_BlockOk.A → PV U := fun r => .bool r
def spec_BlockOk.o : spec_BlockOk.A → List (PV U) := fun r => []
abbrev spec_ProgramOk.A := Bool
def spec_ProgramOk.v : spec_ProgramOk.A → PV U := fun r => .bool r
def spec_ProgramOk.o : spec_ProgramOk.A → List (PV U) := fun r => []
abbrev spec_StoreOk.A := Bool
def spec_StoreOk.v : spec_StoreOk.A → PV U := fun r => .bool r
def spec_StoreOk.o : spec_StoreOk.A → List (PV U) := fun r => []
abbrev spec_l09Values.A := Bool
def spec_l09Values.v : spec_l09Values.A → PV U := fun r => .bool r
def spec_l09Values.o : spec_l09Values.A → List (PV U) := fun r => []
abbrev spec_l06Copy.A := (List S166)
def spec_l06Copy.v : spec_l06Copy.A → PV U := fun r => .agg [.own true 167 r]
def spec_l06Copy.o : spec_l06Copy.A → List (PV U) := fun r => []
abbrev spec_NodeNew.A := (List S166) × (List Int) × (List Int) × Int × Int × Int × Int × Int × Int × Int × Int × (List Int) × Int × Bool
def spec_NodeNew.v : spec_NodeNew.A → PV U := fun r => .tup [.agg [.own true 167 r.1, .own true 3 r.2.1, .own true 3 r.2.2.1, .int .i64 r.2.2.2.1, .int .i64 r.2.2.2.2.1, .int .i64 r.2.2.2.2.2.1, .int .i64 r.2.2.2.2.2.2.1, .int .i64 r.2.2.2.2.2.2.2.1, .int .i64 r.2.2.2.2.2.2.2.2.1, .int .i64 r.2.2.2.2.2.2.2.2.2.1, .int .i64 r.2.2.2.2.2.2.2.2.2.2.1, .own true 3 r.2.2.2.2.2.2.2.2.2.2.2.1, .int .i64 r.2.2.2.2.2.2.2.2.2.2.2.2.1], .bool r.2.2.2.2.2.2.2.2.2.2.2.2.2]
def spec_NodeNew.o : spec_NodeNew.A → List (PV U) := fun r => []
abbrev spec_l38Act.A := Int × Int × Int × (List Int) × Int × Int
def spec_l38Act.v : spec_l38Act.A → PV U := fun r => .agg [.int .i64 r.1, .int .i64 r.2.1, .int .i64 r.2.2.1]
def spec_l38Act.o : spec_l38Act.A → List (PV U) := fun r => [.box [.sl 5 r.2.2.2.1, .int .i64 r.2.2.2.2.1, .int .i64 r.2.2.2.2.2]]
abbrev spec_l38Acts.A := (List S160) × (List Int) × Int × Int
def spec_l38Acts.v : spec_l38Acts.A → PV U := fun r => .own true 161 r.1
def spec_l38Acts.o : spec_l38Acts.A → List (PV U) := fun r => [.box [.sl 5 r.2.1, .int .i64 r.2.2.1, .int .i64 r.2.2.2]]
abbrev spec_DrawActs.A := (List S166) × (List Int) × (List Int) × Int × Int × Int × Int × Int × Int × Int × Int × (List Int) × Int × (List S160)
def spec_DrawActs.v : spec_DrawActs.A → PV U := fun r => .tup [.agg [.own true 167 r.1, .own true 3 r.2.1, .own true 3 r.2.2.1, .int .i64 r.2.2.2.1, .int .i64 r.2.2.2.2.1, .int .i64 r.2.2.2.2.2.1, .int .i64 r.2.2.2.2.2.2.1, .int .i64 r.2.2.2.2.2.2.2.1, .int .i64 r.2.2.2.2.2.2.2.2.1, .int .i64 r.2.2.2.2.2.2.2.2.2.1, .int .i64 r.2.2.2.2.2.2.2.2.2.2.1, .own true 3 r.2.2.2.2.2.2.2.2.2.2.2.1, .int .i64 r.2.2.2.2.2.2.2.2.2.2.2.2.1], .own true 161 r.2.2.2.2.2.2.2.2.2.2.2.2.2]
def spec_DrawActs.o : spec_DrawActs.A → List (PV U) := fun r => []
abbrev slices_Clone_impl_Stmt.A := (List S210)
def slices_Clone_impl_Stmt.v : slices_Clone_impl_Stmt.A → PV U := fun r => .own true 211 r
def slices_Clone_impl_Stmt.o : slices_Clone_impl_Stmt.A → List (PV U) := fun r => []
abbrev impl_copyTask.A := (List S210) × Int × Int × Int
def impl_copyTask.v : impl_copyTask.A → PV U := fun r => .agg [.own true 211 r.1, .int .i64 r.2.1, .int .i64 r.2.2.1, .int .i64 r.2.2.2]
def impl_copyTask.o : impl_copyTask.A → List (PV U) := fun r => []
abbrev impl_copyProgram.A := (List S166)
def impl_copyProgram.v : impl_copyProgram.A → PV U := fun r => .agg [.own true 167 r]
def impl_copyProgram.o : impl_copyProgram.A → List (PV U) := fun r => []
abbrev slices_Clone_int.A := (List Int)
def slices_Clone_int.v : slices_Clone_int.A → PV U := fun r => .own true 3 r
def slices_Clone_int.o : slices_Clone_int.A → List (PV U) := fun r => []
abbrev impl_copyLink.A := Int × (List Int)
def impl_copyLink.v : impl_copyLink.A → PV U := fun r => .agg [.int .i64 r.1, .own true 3 r.2]
def impl_copyLink.o : impl_copyLink.A → List (PV U) := fun r => []
abbrev impl_copyNode.A := (List S166) × (List Int) × (List Int) × Int × Int × Int × Int × Int × Int × Int × Int × (List Int) × Int
def impl_copyNode.v : impl_copyNode.A → PV U := fun r => .agg [.own true 167 r.1, .own true 3 r.2.1, .own true 3 r.2.2.1, .int .i64 r.2.2.2.1, .int .i64 r.2.2.2.2.1, .int .i64 r.2.2.2.2.2.1, .int .i64 r.2.2.2.2.2.2.1, .int .i64 r.2.2.2.2.2.2.2.1, .int .i64 r.2.2.2.2.2.2.2.2.1, .int .i64 r.2.2.2.2.2.2.2.2.2.1, .int .i64 r.2.2.2.2.2.2.2.2.2.2.1, .own true 3 r.2.2.2.2.2.2.2.2.2.2.2.1, .int .i64 r.2.2.2.2.2.2.2.2.2.2.2.2]
def impl_copyNode.o : impl_copyNode.A → List (PV U) := fun r => []
abbrev impl_within.A := Bool
def impl_within.v : impl_within.A → PV U := fun r => .bool r
def impl_within.o : impl_within.A → List (PV U) := fun r => []
abbrev impl_hasVar.A := Bool
def impl_hasVar.v : impl_hasVar.A → PV U := fun r => .bool r
def impl_hasVar.o : impl_hasVar.A → List (PV U) := fun r => []
abbrev impl_isVar.A := Bool
def impl_isVar.v : impl_isVar.A → PV U := fun r => .bool r
def impl_isVar.o : impl_isVar.A → List (PV U) := fun r => []
abbrev impl_hasExpr.A := Bool
def impl_hasExpr.v : impl_hasExpr.A → PV U := fun r => .bool r
def impl_hasExpr.o : impl_hasExpr.A → List (PV U) := fun r => []
abbrev impl_OperandOk.A := Bool
def impl_OperandOk.v : impl_OperandOk.A → PV U := fun r => .bool r
def impl_OperandOk.o : impl_OperandOk.A → List (PV U) := fun r => []
abbrev impl_ExprOk.A := Bool
def impl_ExprOk.v : impl_ExprOk.A → PV U := fun r => .bool r
def impl_ExprOk.o : impl_ExprOk.A → List (PV U) := fun r => []
abbrev impl_isSensor.A := Bool
def impl_isSensor.v : impl_isSensor.A → PV U := fun r => .bool r
def impl_isSensor.o : impl_isSensor.A → List (PV U) := fun r => []
abbrev impl_StmtOk.A := Bool
def impl_StmtOk.v : impl_StmtOk.A → PV U := fun r => .bool r
def impl_StmtOk.o : impl_StmtOk.A → List (PV U) := fun r => []
abbrev impl_isOpening.A := Bool
def impl_isOpening.v : impl_isOpening.A → PV U := fun r => .bool r
def impl_isOpening.o : impl_isOpening.A → List (PV U) := fun r => []
abbrev impl_BlockOk.A := Bool
def impl_BlockOk.v : impl_BlockOk.A → PV U := fun r => .bool r
def impl_BlockOk.o : impl_BlockOk.A → List (PV U) := fun r => []
abbrev impl_taskOk.A := Bool
def impl_taskOk.v : impl_taskOk.A → PV U := fun r => .bool r
def impl_taskOk.o : impl_taskOk.A → List (PV U) := fun r => []
abbrev impl_ProgramOk_1.A := Bool
def impl_ProgramOk_1.v : impl_ProgramOk_1.A → PV U := fun r => .bool r
def impl_ProgramOk_1.o : impl_ProgramOk_1.A → List (PV U) := fun r => []
abbrev slices_IndexFunc_impl_Task_ProgramOk_1.A := Int
def slices_IndexFunc_impl_Task_ProgramOk_1.v : slices_IndexFunc_impl_Task_ProgramOk_1.A → PV U := fun r => .int .i64 r
def slices_IndexFunc_impl_Task_ProgramOk_1.o : slices_IndexFunc_impl_Task_ProgramOk_1.A → List (PV U) := fun r => []
abbrev slices_ContainsFunc_impl_Task_ProgramOk_1.A := Bool
def slices_ContainsFunc_impl_Task_ProgramOk_1.v : slices_ContainsFunc_impl_Task_ProgramOk_1.A → PV U := fun r => .bool r
def slices_ContainsFunc_impl_Task_ProgramOk_1.o : slices_ContainsFunc_impl_Task_ProgramOk_1.A → List (PV U) := fun r => []
abbrev impl_ProgramOk.A := Bool
def impl_ProgramOk.v : impl_ProgramOk.A → PV U := fun r => .bool r
def impl_ProgramOk.o : impl_ProgramOk.A → List (PV U) := fun r => []
abbrev impl_IsValue.A := Bool
def impl_IsValue.v : impl_IsValue.A → PV U := fun r => .bool r
def impl_IsValue.o : impl_IsValue.A → List (PV U) := fun r => []
abbrev impl_areValues_1.A := Bool
def impl_areValues_1.v : impl_areValues_1.A → PV U := fun r => .bool r
def impl_areValues_1.o : impl_areValues_1.A → List (PV U) := fun r => []
abbrev slices_IndexFunc_int_areValues_1.A := Int
def slices_IndexFunc_int_areValues_1.v : slices_IndexFunc_int_areValues_1.A → PV U := fun r => .int .i64 r
def slices_IndexFunc_int_areValues_1.o : slices_IndexFunc_int_areValues_1.A → List (PV U) := fun r => []
abbrev slices_ContainsFunc_int_areValues_1.A := Bool
def slices_ContainsFunc_int_areValues_1.v : slices_ContainsFunc_int_areValues_1.A → PV U := fun r => .bool r
def slices_ContainsFunc_int_areValues_1.o : slices_ContainsFunc_int_areValues_1.A → List (PV U) := fun r => []
abbrev impl_areValues.A := Bool
def impl_areValues.v : impl_areValues.A → PV U := fun r => .bool r
def impl_areValues.o : impl_areValues.A → List (PV U) := fun r => []
abbrev impl_PackControl.A := Int
def impl_PackControl.v : impl_PackControl.A → PV U := fun r => .int .i64 r
def impl_PackControl.o : impl_PackControl.A → List (PV U) := fun r => []
abbrev impl_UnpackControl.A := Int × Int × Int
def impl_UnpackControl.v : impl_UnpackControl.A → PV U := fun r => .tup [.int .i64 r.1, .int .i64 r.2.1, .int .i64 r.2.2]
def impl_UnpackControl.o : impl_UnpackControl.A → List (PV U) := fun r => []
abbrev impl_MemOk.A := Bool
def impl_MemOk.v : impl_MemOk.A → PV U := fun r => .bool r
def impl_MemOk.o : impl_MemOk.A → List (PV U) := fun r => []
abbrev impl_StoreOk.A := Bool
def impl_StoreOk.v : impl_StoreOk.A → PV U := fun r => .bool r
def impl_StoreOk.o : impl_StoreOk.A → List (PV U) := fun r => []
abbrev impl_SpanOk.A := Bool
def impl_SpanOk.v : impl_SpanOk.A → PV U := fun r => .bool r
def impl_SpanOk.o : impl_SpanOk.A → List (PV U) := fun r => []
abbrev impl_MemSent.A := (List Int)
def impl_MemSent.v : impl_MemSent.A → PV U := fun r => .own true 3 r
def impl_MemSent.o : impl_MemSent.A → List (PV U) := fun r => []
abbrev slices_Equal_int.A := Bool
def slices_Equal_int.v : slices_Equal_int.A → PV U := fun r => .bool r
def slices_Equal_int.o : slices_Equal_int.A → List (PV U) := fun r => []
abbrev impl_IsPrefixOf.A := Bool
def impl_IsPrefixOf.v : impl_IsPrefixOf.A → PV U := fun r => .bool r
def impl_IsPrefixOf.o : impl_IsPrefixOf.A → List (PV U) := fun r => []
abbrev impl_LinkOk.A := Bool
def impl_LinkOk.v : impl_LinkOk.A → PV U := fun r => .bool r
def impl_LinkOk.o : impl_LinkOk.A → List (PV U) := fun r => []
abbrev impl_NodeOk.A := Bool
def impl_NodeOk.v : impl_NodeOk.A → PV U := fun r => .bool r
def impl_NodeOk.o : impl_NodeOk.A → List (PV U) := fun r => []
abbrev impl_isHarvest.A := Bool
def impl_isHarvest.v : impl_isHarvest.A → PV U := fun r => .bool r
def impl_isHarvest.o : impl_isHarvest.A → List (PV U) := fun r => []
abbrev impl_ActOk.A := Bool
def impl_ActOk.v : impl_ActOk.A → PV U := fun r => .bool r
def impl_ActOk.o : impl_ActOk.A → List (PV U) := fun r => []
abbrev impl_Clamp.A := Int
def impl_Clamp.v : impl_Clamp.A → PV U := fun r => .int .i64 r
def impl_Clamp.o : impl_Clamp.A → List (PV U) := fun r => []
abbrev impl_Store_tick.A := (List S166) × (List Int) × (List Int) × Int × Int × Int × Int × Int × Int × Int × Int × (List Int) × Int
def impl_Store_tick.v : impl_Store_tick.A → PV U := fun r => .tup []
def impl_Store_tick.o : impl_Store_tick.A → List (PV U) := fun r => [.box [.own true 167 r.1, .own true 3 r.2.1, .own true 3 r.2.2.1, .int .i64 r.2.2.2.1, .int .i64 r.2.2.2.2.1, .int .i64 r.2.2.2.2.2.1, .int .i64 r.2.2.2.2.2.2.1, .int .i64 r.2.2.2.2.2.2.2.1, .int .i64 r.2.2.2.2.2.2.2.2.1, .int .i64 r.2.2.2.2.2.2.2.2.2.1, .int .i64 r.2.2.2.2.2.2.2.2.2.2.1, .own true 3 r.2.2.2.2.2.2.2.2.2.2.2.1, .int .i64 r.2.2.2.2.2.2.2.2.2.2.2.2]]
abbrev impl_PassOff.A := Int × Int
def impl_PassOff.v : impl_PassOff.A → PV U := fun r => .agg [.int .i64 r.1, .int .i64 r.2]
def impl_PassOff.o : impl_PassOff.A → List (PV U) := fun r => []
abbrev impl_PassOn.A := Int × Int
def impl_PassOn.v : impl_PassOn.A → PV U := fun r => .agg [.int .i64 r.1, .int .i64 r.2]
def impl_PassOn.o : impl_PassOn.A → List (PV U) := fun r => []
abbrev impl_RecoveryWrites.A := (List S205)
def impl_RecoveryWrites.v : impl_RecoveryWrites.A → PV U := fun r => .own true 206 r
def impl_RecoveryWrites.o : impl_RecoveryWrites.A → List (PV U) := fun r => []
abbrev impl_Boot_spend.A := Bool × (List Int) × Int × (List (List Int)) × Int
def impl_Boot_spend.v : impl_Boot_spend.A → PV U := fun r => .bool r.1
def impl_Boot_spend.o : impl_Boot_spend.A → List (PV U) := fun r => [.box [.own true 3 r.2.1, .int .i64 r.2.2.1, .own true 25 r.2.2.2.1, .int .i64 r.2.2.2.2]]
abbrev impl_Boot_recover.A := Bool × (List Int) × Int × (List (List Int)) × Int
def impl_Boot_recover.v : impl_Boot_recover.A → PV U := fun r => .bool r.1
def impl_Boot_recover.o : impl_Boot_recover.A → List (PV U) := fun r => [.box [.own true 3 r.2.1, .int .i64 r.2.2.1, .own true 25 r.2.2.2.1, .int .i64 r.2.2.2.2]]
abbrev impl_MemVars.A := (List Int)
def impl_MemVars.v : impl_MemVars.A → PV U := fun r => .own true 3 r
def impl_MemVars.o : impl_MemVars.A → List (PV U) := fun r => []
abbrev slices_Sort_int.A := (List Int)
def slices_Sort_int.v : slices_Sort_int.A → PV U := fun r => .tup []
def slices_Sort_int.o : slices_Sort_int.A → List (PV U) := fun r => [.own true 3 r]
abbrev slices_Compact_int.A := (List Int)
def slices_Compact_int.v : slices_Compact_int.A → PV U := fun r => .own true 3 r
def slices_Compact_int.o : slices_Compact_int.A → List (PV U) := fun r => []
abbrev impl_ReadsOf.A := (List Int)
def impl_ReadsOf.v : impl_ReadsOf.A → PV U := fun r => .own true 3 r
def impl_ReadsOf.o : impl_ReadsOf.A → List (PV U) := fun r => []
abbrev impl_reader_read.A := Bool × Bool × Bool × Bool × Bool × Bool × Bool × Bool × Bool × Bool × Bool × Bool × Bool × Bool × Bool × Bool
def impl_reader_read.v : impl_reader_read.A → PV U := fun r => .tup []
def impl_reader_read.o : impl_reader_read.A → List (PV U) := fun r => [.box [.bool r.1, .bool r.2.1, .bool r.2.2.1, .bool r.2.2.2.1, .bool r.2.2.2.2.1, .bool r.2.2.2.2.2.1, .bool r.2.2.2.2.2.2.1, .bool r.2.2.2.2.2.2.2.1, .bool r.2.2.2.2.2.2.2.2.1, .bool r.2.2.2.2.2.2.2.2.2.1, .bool r.2.2.2.2.2.2.2.2.2.2.1, .bool r.2.2.2.2.2.2.2.2.2.2.2.1, .bool r.2.2.2.2.2.2.2.2.2.2.2.2.1, .bool r.2.2.2.2.2.2.2.2.2.2.2.2.2.1, .bool r.2.2.2.2.2.2.2.2.2.2.2.2.2.2.1, .bool r.2.2.2.2.2.2.2.2.2.2.2.2.2.2.2]]
abbrev impl_endOf.A := Int
def impl_endOf.v : impl_endOf.A → PV U := fun r => .int .i64 r
def impl_endOf.o : impl_endOf.A → List (PV U) := fun r => []
abbrev impl_reader_pass.A := Bool × Bool × Bool × Bool × Bool × Bool × Bool × Bool × Bool × Bool × Bool × Bool × Bool × Bool × Bool × Bool
def impl_reader_pass.v : impl_reader_pass.A → PV U := fun r => .tup []
def impl_reader_pass.o : impl_reader_pass.A → List (PV U) := fun r => [.box [.bool r.1, .bool r.2.1, .bool r.2.2.1, .bool r.2.2.2.1, .bool r.2.2.2.2.1, .bool r.2.2.2.2.2.1, .bool r.2.2.2.2.2.2.1, .bool r.2.2.2.2.2.2.2.1, .bool r.2.2.2.2.2.2.2.2.1, .bool r.2.2.2.2.2.2.2.2.2.1, .bool r.2.2.2.2.2.2.2.2.2.2.1, .bool r.2.2.2.2.2.2.2.2.2.2.2.1, .bool r.2.2.2.2.2.2.2.2.2.2.2.2.1, .bool r.2.2.2.2.2.2.2.2.2.2.2.2.2.1, .bool r.2.2.2.2.2.2.2.2.2.2.2.2.2.2.1, .bool r.2.2.2.2.2.2.2.2.2.2.2.2.2.2.2]]
abbrev impl_MayReadFirst.A := (List Int)
def impl_MayReadFirst.v : impl_MayReadFirst.A → PV U := fun r => .own true 3 r
def impl_MayReadFirst.o : impl_MayReadFirst.A → List (PV U) := fun r => []
abbrev impl_MustWrite_1.A := Bool × (List Bool)
def impl_MustWrite_1.v : impl_MustWrite_1.A → PV U := fun r => .bool r.1
def impl_MustWrite_1.o : impl_MustWrite_1.A → List (PV U) := fun r => [.box [.own true 4 r.2]]
abbrev impl_written.A := (List Int) × (List Bool)
def impl_written.v : impl_written.A → PV U := fun r => .own true 3 r.1
def impl_written.o : impl_written.A → List (PV U) := fun r => [.box [.own true 4 r.2]]
abbrev impl_MustWrite.A := (List Int)
def impl_MustWrite.v : impl_MustWrite.A → PV U := fun r => .own true 3 r
def impl_MustWrite.o : impl_MustWrite.A → List (PV U) := fun r => []
abbrev impl_MayWrite_1.A := Bool
def impl_MayWrite_1.v : impl_MayWrite_1.A → PV U := fun r => .bool r
def impl_MayWrite_1.o : impl_MayWrite_1.A → List (PV U) := fun r => []
abbrev impl_written_2.A := (List Int)
def impl_written_2.v : impl_written_2.A → PV U := fun r => .own true 3 r
def impl_written_2.o : impl_written_2.A → List (PV U) := fun r => []
abbrev impl_MayWrite.A := (List Int)
def impl_MayWrite.v : impl_MayWrite.A → PV U := fun r => .own true 3 r
def impl_MayWrite.o : impl_MayWrite.A → List (PV U) := fun r => []
abbrev slices_Index_int.A := Int
def slices_Index_int.v : slices_Index_int.A → PV U := fun r => .int .i64 r
def slices_Index_int.o : slices_Index_int.A → List (PV U) := fun r => []
abbrev slices_Contains_int.A := Bool
def slices_Contains_int.v : slices_Contains_int.A → PV U := fun r => .bool r
def slices_Contains_int.o : slices_Contains_int.A → List (PV U) := fun r => []
abbrev impl_HasVar.A := Bool
def impl_HasVar.v : impl_HasVar.A → PV U := fun r => .bool r
def impl_HasVar.o : impl_HasVar.A → List (PV U) := fun r => []
abbrev impl_MustLog_1.A := Bool × (List Int) × (List Int)
def impl_MustLog_1.v : impl_MustLog_1.A → PV U := fun r => .bool r.1
def impl_MustLog_1.o : impl_MustLog_1.A → List (PV U) := fun r => [.box [.own true 3 r.2.1], .box [.own true 3 r.2.2]]
abbrev slices_IndexFunc_int_MustLog_1.A := Int × (List Int) × (List Int)
def slices_IndexFunc_int_MustLog_1.v : slices_IndexFunc_int_MustLog_1.A → PV U := fun r => .int .i64 r.1
def slices_IndexFunc_int_MustLog_1.o : slices_IndexFunc_int_MustLog_1.A → List (PV U) := fun r => [.box [.own true 3 r.2.1], .box [.own true 3 r.2.2]]
abbrev slices_DeleteFunc_int_MustLog_1.A := (List Int) × (List Int) × (List Int)
def slices_DeleteFunc_int_MustLog_1.v : slices_DeleteFunc_int_MustLog_1.A → PV U := fun r => .sl 3 r.1
def slices_DeleteFunc_int_MustLog_1.o : slices_DeleteFunc_int_MustLog_1.A → List (PV U) := fun r => [.box [.own true 3 r.2.1], .box [.own true 3 r.2.2]]
abbrev impl_MustLog.A := (List Int)
def impl_MustLog.v : impl_MustLog.A → PV U := fun r => .sl 3 r
def impl_MustLog.o : impl_MustLog.A → List (PV U) := fun r => []
abbrev impl_StmtCost.A := Int
def impl_StmtCost.v : impl_StmtCost.A → PV U := fun r => .int .i64 r
def impl_StmtCost.o : impl_StmtCost.A → List (PV U) := fun r => []
abbrev impl_tracer_work.A := (List S227) × (List Int) × Int × Int × Int × (List Int) × Bool × Bool × Bool × Bool × Bool × Bool × Bool × Bool × (List Int)
def impl_tracer_work.v : impl_tracer_work.A → PV U := fun r => .tup []
def impl_tracer_work.o : impl_tracer_work.A → List (PV U) := fun r => [.box [.own true 228 r.1, .own true 3 r.2.1, .int .i64 r.2.2.1, .int .i64 r.2.2.2.1, .int .i64 r.2.2.2.2.1, .own true 3 r.2.2.2.2.2.1, .bool r.2.2.2.2.2.2.1, .bool r.2.2.2.2.2.2.2.1, .bool r.2.2.2.2.2.2.2.2.1, .bool r.2.2.2.2.2.2.2.2.2.1, .bool r.2.2.2.2.2.2.2.2.2.2.1, .bool r.2.2.2.2.2.2.2.2.2.2.2.1, .bool r.2.2.2.2.2.2.2.2.2.2.2.2.1, .bool r.2.2.2.2.2.2.2.2.2.2.2.2.2.1, .own true 3 r.2.2.2.2.2.2.2.2.2.2.2.2.2.2]]
abbrev impl_VarsOk.A := Bool
def impl_VarsOk.v : impl_VarsOk.A → PV U := fun r => .bool r
def impl_VarsOk.o : impl_VarsOk.A → List (PV U) := fun r => []
abbrev impl_operand.A := Int
def impl_operand.v : impl_operand.A → PV U := fun r => .int .i64 r
def impl_operand.o : impl_operand.A → List (PV U) := fun r => []
abbrev impl_Saturate.A := Int
def impl_Saturate.v : impl_Saturate.A → PV U := fun r => .int .i64 r
def impl_Saturate.o : impl_Saturate.A → List (PV U) := fun r => []
abbrev impl_AddValues.A := Int
def impl_AddValues.v : impl_AddValues.A → PV U := fun r => .int .i64 r
def impl_AddValues.o : impl_AddValues.A → List (PV U) := fun r => []
abbrev impl_SubValues.A := Int
def impl_SubValues.v : impl_SubValues.A → PV U := fun r => .int .i64 r
def impl_SubValues.o : impl_SubValues.A → List (PV U) := fun r => []
abbrev impl_MulValues.A := Int
def impl_MulValues.v : impl_MulValues.A → PV U := fun r => .int .i64 r
def impl_MulValues.o : impl_MulValues.A → List (PV U) := fun r => []
abbrev impl_bit.A := Int
def impl_bit.v : impl_bit.A → PV U := fun r => .int .i64 r
def impl_bit.o : impl_bit.A → List (PV U) := fun r => []
abbrev impl_EvalExpr.A := Int
def impl_EvalExpr.v : impl_EvalExpr.A → PV U := fun r => .int .i64 r
def impl_EvalExpr.o : impl_EvalExpr.A → List (PV U) := fun r => []
abbrev impl_tracer_write.A := (List S227) × (List Int) × Int × Int × Int × (List Int) × Bool × Bool × Bool × Bool × Bool × Bool × Bool × Bool × (List Int)
def impl_tracer_write.v : impl_tracer_write.A → PV U := fun r => .tup []
def impl_tracer_write.o : impl_tracer_write.A → List (PV U) := fun r => [.box [.own true 228 r.1, .own true 3 r.2.1, .int .i64 r.2.2.1, .int .i64 r.2.2.2.1, .int .i64 r.2.2.2.2.1, .own true 3 r.2.2.2.2.2.1, .bool r.2.2.2.2.2.2.1, .bool r.2.2.2.2.2.2.2.1, .bool r.2.2.2.2.2.2.2.2.1, .bool r.2.2.2.2.2.2.2.2.2.1, .bool r.2.2.2.2.2.2.2.2.2.2.1, .bool r.2.2.2.2.2.2.2.2.2.2.2.1, .bool r.2.2.2.2.2.2.2.2.2.2.2.2.1, .bool r.2.2.2.2.2.2.2.2.2.2.2.2.2.1, .own true 3 r.2.2.2.2.2.2.2.2.2.2.2.2.2.2]]
abbrev impl_tracer_assign.A := (List S227) × (List Int) × Int × Int × Int × (List Int) × Bool × Bool × Bool × Bool × Bool × Bool × Bool × Bool × (List Int)
def impl_tracer_assign.v : impl_tracer_assign.A → PV U := fun r => .tup []
def impl_tracer_assign.o : impl_tracer_assign.A → List (PV U) := fun r => [.box [.own true 228 r.1, .own true 3 r.2.1, .int .i64 r.2.2.1, .int .i64 r.2.2.2.1, .int .i64 r.2.2.2.2.1, .own true 3 r.2.2.2.2.2.1, .bool r.2.2.2.2.2.2.1, .bool r.2.2.2.2.2.2.2.1, .bool r.2.2.2.2.2.2.2.2.1, .bool r.2.2.2.2.2.2.2.2.2.1, .bool r.2.2.2.2.2.2.2.2.2.2.1, .bool r.2.2.2.2.2.2.2.2.2.2.2.1, .bool r.2.2.2.2.2.2.2.2.2.2.2.2.1, .bool r.2.2.2.2.2.2.2.2.2.2.2.2.2.1, .own true 3 r.2.2.2.2.2.2.2.2.2.2.2.2.2.2]]
abbrev impl_ReadSensor.A := Int
def impl_ReadSensor.v : impl_ReadSensor.A → PV U := fun r => .int .i64 r
def impl_ReadSensor.o : impl_ReadSensor.A → List (PV U) := fun r => []
abbrev impl_tracer_send.A := (List S227) × (List Int) × Int × Int × Int × (List Int) × Bool × Bool × Bool × Bool × Bool × Bool × Bool × Bool × (List Int)
def impl_tracer_send.v : impl_tracer_send.A → PV U := fun r => .tup []
def impl_tracer_send.o : impl_tracer_send.A → List (PV U) := fun r => [.box [.own true 228 r.1, .own true 3 r.2.1, .int .i64 r.2.2.1, .int .i64 r.2.2.2.1, .int .i64 r.2.2.2.2.1, .own true 3 r.2.2.2.2.2.1, .bool r.2.2.2.2.2.2.1, .bool r.2.2.2.2.2.2.2.1, .bool r.2.2.2.2.2.2.2.2.1, .bool r.2.2.2.2.2.2.2.2.2.1, .bool r.2.2.2.2.2.2.2.2.2.2.1, .bool r.2.2.2.2.2.2.2.2.2.2.2.1, .bool r.2.2.2.2.2.2.2.2.2.2.2.2.1, .bool r.2.2.2.2.2.2.2.2.2.2.2.2.2.1, .own true 3 r.2.2.2.2.2.2.2.2.2.2.2.2.2.2]]
abbrev impl_traceOf_1.A := Bool × (List Int) × (List Int) × Int × (List S227) × (List Int) × Int × Int × Int × (List Int) × Bool × Bool × Bool × Bool × Bool × Bool × Bool × Bool × (List Int)
def impl_traceOf_1.v : impl_traceOf_1.A → PV U := fun r => .bool r.1
def impl_traceOf_1.o : impl_traceOf_1.A → List (PV U) := fun r => [.box [.ptr 85 0], .box [.sl 3 r.2.1], .box [.sl 3 r.2.2.1], .box [.int .i64 r.2.2.2.1], .box [.own true 228 r.2.2.2.2.1, .own true 3 r.2.2.2.2.2.1, .int .i64 r.2.2.2.2.2.2.1, .int .i64 r.2.2.2.2.2.2.2.1, .int .i64 r.2.2.2.2.2.2.2.2.1, .own true 3 r.2.2.2.2.2.2.2.2.2.1, .bool r.2.2.2.2.2.2.2.2.2.2.1, .bool r.2.2.2.2.2.2.2.2.2.2.2.1, .bool r.2.2.2.2.2.2.2.2.2.2.2.2.1, .bool r.2.2.2.2.2.2.2.2.2.2.2.2.2.1, .bool r.2.2.2.2.2.2.2.2.2.2.2.2.2.2.1, .bool r.2.2.2.2.2.2.2.2.2.2.2.2.2.2.2.1, .bool r.2.2.2.2.2.2.2.2.2.2.2.2.2.2.2.2.1, .bool r.2.2.2.2.2.2.2.2.2.2.2.2.2.2.2.2.2.1, .own true 3 r.2.2.2.2.2.2.2.2.2.2.2.2.2.2.2.2.2.2]]
abbrev impl_walk.A := (List Int) × (List Int) × Int × (List S227) × (List Int) × Int × Int × Int × (List Int) × Bool × Bool × Bool × Bool × Bool × Bool × Bool × Bool × (List Int)
def impl_walk.v : impl_walk.A → PV U := fun r => .tup []
def impl_walk.o : impl_walk.A → List (PV U) := fun r => [.box [.ptr 55 0], .box [.sl 3 r.1], .box [.sl 3 r.2.1], .box [.int .i64 r.2.2.1], .box [.own true 228 r.2.2.2.1, .own true 3 r.2.2.2.2.1, .int .i64 r.2.2.2.2.2.1, .int .i64 r.2.2.2.2.2.2.1, .int .i64 r.2.2.2.2.2.2.2.1, .own true 3 r.2.2.2.2.2.2.2.2.1, .bool r.2.2.2.2.2.2.2.2.2.1, .bool r.2.2.2.2.2.2.2.2.2.2.1, .bool r.2.2.2.2.2.2.2.2.2.2.2.1, .bool r.2.2.2.2.2.2.2.2.2.2.2.2.1, .bool r.2.2.2.2.2.2.2.2.2.2.2.2.2.1, .bool r.2.2.2.2.2.2.2.2.2.2.2.2.2.2.1, .bool r.2.2.2.2.2.2.2.2.2.2.2.2.2.2.2.1, .bool r.2.2.2.2.2.2.2.2.2.2.2.2.2.2.2.2.1, .own true 3 r.2.2.2.2.2.2.2.2.2.2.2.2.2.2.2.2.2]]
abbrev impl_hasTask.A := Bool
def impl_hasTask.v : impl_hasTask.A → PV U := fun r => .bool r
def impl_hasTask.o : impl_hasTask.A → List (PV U) := fun r => []
abbrev impl_NextTask.A := Int
def impl_NextTask.v : impl_NextTask.A → PV U := fun r => .int .i64 r
def impl_NextTask.o : impl_NextTask.A → List (PV U) := fun r => []
abbrev impl_traceOf.A := (List S227) × (List Int)
def impl_traceOf.v : impl_traceOf.A → PV U := fun r => .agg [.own true 228 r.1, .own true 3 r.2]
def impl_traceOf.o : impl_traceOf.A → List (PV U) := fun r => []
abbrev impl_isSenseStep.A := Bool
def impl_isSenseStep.v : impl_isSenseStep.A → PV U := fun r => .bool r
def impl_isSenseStep.o : impl_isSenseStep.A → List (PV U) := fun r => []
abbrev impl_Boot_task.A := Bool × (List Int) × Int × (List (List Int)) × Int
def impl_Boot_task.v : impl_Boot_task.A → PV U := fun r => .bool r.1
def impl_Boot_task.o : impl_Boot_task.A → List (PV U) := fun r => [.box [.own true 3 r.2.1, .int .i64 r.2.2.1, .own true 25 r.2.2.2.1, .int .i64 r.2.2.2.2]]
abbrev impl_boot.A := (List Int) × Int × (List (List Int)) × Int
def impl_boot.v : impl_boot.A → PV U := fun r => .agg [.own true 3 r.1, .int .i64 r.2.1, .own true 25 r.2.2.1, .int .i64 r.2.2.2]
def impl_boot.o : impl_boot.A → List (PV U) := fun r => []
abbrev impl_TickNode.A := (List S166) × (List Int) × (List Int) × Int × Int × Int × Int × Int × Int × Int × Int × (List Int) × Int × Bool
def impl_TickNode.v : impl_TickNode.A → PV U := fun r => .tup [.agg [.own true 167 r.1, .own true 3 r.2.1, .own true 3 r.2.2.1, .int .i64 r.2.2.2.1, .int .i64 r.2.2.2.2.1, .int .i64 r.2.2.2.2.2.1, .int .i64 r.2.2.2.2.2.2.1, .int .i64 r.2.2.2.2.2.2.2.1, .int .i64 r.2.2.2.2.2.2.2.2.1, .int .i64 r.2.2.2.2.2.2.2.2.2.1, .int .i64 r.2.2.2.2.2.2.2.2.2.2.1, .own true 3 r.2.2.2.2.2.2.2.2.2.2.2.1, .int .i64 r.2.2.2.2.2.2.2.2.2.2.2.2.1], .bool r.2.2.2.2.2.2.2.2.2.2.2.2.2]
def impl_TickNode.o : impl_TickNode.A → List (PV U) := fun r => []
abbrev impl_ticks.A := (List S166) × (List Int) × (List Int) × Int × Int × Int × Int × Int × Int × Int × Int × (List Int) × Int × Int
def impl_ticks.v : impl_ticks.A → PV U := fun r => .tup [.agg [.sl 167 r.1, .sl 3 r.2.1, .sl 3 r.2.2.1, .int .i64 r.2.2.2.1, .int .i64 r.2.2.2.2.1, .int .i64 r.2.2.2.2.2.1, .int .i64 r.2.2.2.2.2.2.1, .int .i64 r.2.2.2.2.2.2.2.1, .int .i64 r.2.2.2.2.2.2.2.2.1, .int .i64 r.2.2.2.2.2.2.2.2.2.1, .int .i64 r.2.2.2.2.2.2.2.2.2.2.1, .sl 3 r.2.2.2.2.2.2.2.2.2.2.2.1, .int .i64 r.2.2.2.2.2.2.2.2.2.2.2.2.1], .int .i64 r.2.2.2.2.2.2.2.2.2.2.2.2.2]
def impl_ticks.o : impl_ticks.A → List (PV U) := fun r => []
abbrev impl_Uncertainty.A := Int
def impl_Uncertainty.v : impl_Uncertainty.A → PV U := fun r => .int .i64 r
def impl_Uncertainty.o : impl_Uncertainty.A → List (PV U) := fun r => []
abbrev bits_Mul64.A := Int × Int
def bits_Mul64.v : bits_Mul64.A → PV U := fun r => .tup [.int .u64 r.1, .int .u64 r.2]
def bits_Mul64.o : bits_Mul64.A → List (PV U) := fun r => []
abbrev bits_Mul.A := Int × Int
def bits_Mul.v : bits_Mul.A → PV U := fun r => .tup [.int .u64 r.1, .int .u64 r.2]
def bits_Mul.o : bits_Mul.A → List (PV U) := fun r => []
abbrev slices_Repeat_bool.A := (List Bool)
def slices_Repeat_bool.v : slices_Repeat_bool.A → PV U := fun r => .own true 4 r
def slices_Repeat_bool.o : slices_Repeat_bool.A → List (PV U) := fun r => []
abbrev impl_PacketsOf.A := (List S217)
def impl_PacketsOf.v : impl_PacketsOf.A → PV U := fun r => .own true 218 r
def impl_PacketsOf.o : impl_PacketsOf.A → List (PV U) := fun r => []
abbrev impl_Receive.A := (List Int) × Int
def impl_Receive.v : impl_Receive.A → PV U := fun r => .tup [.agg [.own true 3 r.1], .int .i64 r.2]
def impl_Receive.o : impl_Receive.A → List (PV U) := fun r => []
abbrev impl_ReceiveAll.A := (List Int) × Int
def impl_ReceiveAll.v : impl_ReceiveAll.A → PV U := fun r => .tup [.agg [.own true 3 r.1], .int .i64 r.2]
def impl_ReceiveAll.o : impl_ReceiveAll.A → List (PV U) := fun r => []
abbrev impl_SendRound.A := Int × (List Int) × Bool
def impl_SendRound.v : impl_SendRound.A → PV U := fun r => .tup [.agg [.int .i64 r.1, .own true 3 r.2.1], .bool r.2.2]
def impl_SendRound.o : impl_SendRound.A → List (PV U) := fun r => []
abbrev impl_Uplink.A := (List S166) × (List Int) × (List Int) × Int × Int × Int × Int × Int × Int × Int × Int × (List Int) × Int × Bool
def impl_Uplink.v : impl_Uplink.A → PV U := fun r => .tup [.agg [.own true 167 r.1, .own true 3 r.2.1, .own true 3 r.2.2.1, .int .i64 r.2.2.2.1, .int .i64 r.2.2.2.2.1, .int .i64 r.2.2.2.2.2.1, .int .i64 r.2.2.2.2.2.2.1, .int .i64 r.2.2.2.2.2.2.2.1, .int .i64 r.2.2.2.2.2.2.2.2.1, .int .i64 r.2.2.2.2.2.2.2.2.2.1, .int .i64 r.2.2.2.2.2.2.2.2.2.2.1, .own true 3 r.2.2.2.2.2.2.2.2.2.2.2.1, .int .i64 r.2.2.2.2.2.2.2.2.2.2.2.2.1], .bool r.2.2.2.2.2.2.2.2.2.2.2.2.2]
def impl_Uplink.o : impl_Uplink.A → List (PV U) := fun r => []
abbrev impl_Synchronize.A := Int × Int × Bool
def impl_Synchronize.v : impl_Synchronize.A → PV U := fun r => .tup [.agg [.int .i64 r.1, .int .i64 r.2.1], .bool r.2.2]
def impl_Synchronize.o : impl_Synchronize.A → List (PV U) := fun r => []
abbrev impl_do.A := (List S166) × (List Int) × (List Int) × Int × Int × Int × Int × Int × Int × Int × Int × (List Int) × Int × Int
def impl_do.v : impl_do.A → PV U := fun r => .tup [.agg [.sl 167 r.1, .sl 3 r.2.1, .sl 3 r.2.2.1, .int .i64 r.2.2.2.1, .int .i64 r.2.2.2.2.1, .int .i64 r.2.2.2.2.2.1, .int .i64 r.2.2.2.2.2.2.1, .int .i64 r.2.2.2.2.2.2.2.1, .int .i64 r.2.2.2.2.2.2.2.2.1, .int .i64 r.2.2.2.2.2.2.2.2.2.1, .int .i64 r.2.2.2.2.2.2.2.2.2.2.1, .sl 3 r.2.2.2.2.2.2.2.2.2.2.2.1, .int .i64 r.2.2.2.2.2.2.2.2.2.2.2.2.1], .int .i64 r.2.2.2.2.2.2.2.2.2.2.2.2.2]
def impl_do.o : impl_do.A → List (PV U) := fun r => []
abbrev impl_DoAct.A := (List S166) × (List Int) × (List Int) × Int × Int × Int × Int × Int × Int × Int × Int × (List Int) × Int × Int
def impl_DoAct.v : impl_DoAct.A → PV U := fun r => .tup [.agg [.sl 167 r.1, .sl 3 r.2.1, .sl 3 r.2.2.1, .int .i64 r.2.2.2.1, .int .i64 r.2.2.2.2.1, .int .i64 r.2.2.2.2.2.1, .int .i64 r.2.2.2.2.2.2.1, .int .i64 r.2.2.2.2.2.2.2.1, .int .i64 r.2.2.2.2.2.2.2.2.1, .int .i64 r.2.2.2.2.2.2.2.2.2.1, .int .i64 r.2.2.2.2.2.2.2.2.2.2.1, .sl 3 r.2.2.2.2.2.2.2.2.2.2.2.1, .int .i64 r.2.2.2.2.2.2.2.2.2.2.2.2.1], .int .i64 r.2.2.2.2.2.2.2.2.2.2.2.2.2]
def impl_DoAct.o : impl_DoAct.A → List (PV U) := fun r => []
abbrev impl_RunActs.A := (List S166) × (List Int) × (List Int) × Int × Int × Int × Int × Int × Int × Int × Int × (List Int) × Int × (List Int)
def impl_RunActs.v : impl_RunActs.A → PV U := fun r => .tup [.agg [.sl 167 r.1, .sl 3 r.2.1, .sl 3 r.2.2.1, .int .i64 r.2.2.2.1, .int .i64 r.2.2.2.2.1, .int .i64 r.2.2.2.2.2.1, .int .i64 r.2.2.2.2.2.2.1, .int .i64 r.2.2.2.2.2.2.2.1, .int .i64 r.2.2.2.2.2.2.2.2.1, .int .i64 r.2.2.2.2.2.2.2.2.2.1, .int .i64 r.2.2.2.2.2.2.2.2.2.2.1, .sl 3 r.2.2.2.2.2.2.2.2.2.2.2.1, .int .i64 r.2.2.2.2.2.2.2.2.2.2.2.2.1], .own true 3 r.2.2.2.2.2.2.2.2.2.2.2.2.2]
def impl_RunActs.o : impl_RunActs.A → List (PV U) := fun r => []
abbrev impl_IsReplay.A := Bool
def impl_IsReplay.v : impl_IsReplay.A → PV U := fun r => .bool r
def impl_IsReplay.o : impl_IsReplay.A → List (PV U) := fun r => []
abbrev spec_DrawPlaces.A := (List Int)
def spec_DrawPlaces.v : spec_DrawPlaces.A → PV U := fun r => .own true 3 r
def spec_DrawPlaces.o : spec_DrawPlaces.A → List (PV U) := fun r => []
abbrev laws_FnReplays.A := Bool
def laws_FnReplays.v : laws_FnReplays.A → PV U := fun r => .bool r
def laws_FnReplays.o : laws_FnReplays.A → List (PV U) := fun r => []
def retTab : List (Nat × Ret C) := [(36, ⟨laws_big.A, laws_big.v, laws_big.o⟩), (99, ⟨spec_l01New.A, spec_l01New.v, spec_l01New.o⟩), (173, ⟨spec_l01Byte.A, spec_l01Byte.v, spec_l01Byte.o⟩), (103, ⟨spec_l01Below.A, spec_l01Below.v, spec_l01Below.o⟩), (229, ⟨spec_l01Once.A, spec_l01Once.v, spec_l01Once.o⟩), (180, ⟨spec_l01PickInt.A, spec_l01PickInt.v, spec_l01PickInt.o⟩), (213, ⟨spec_l03Operand.A, spec_l03Operand.v, spec_l03Operand.o⟩), (171, ⟨spec_l03Expr.A, spec_l03Expr.v, spec_l03Expr.o⟩), (230, ⟨spec_l04Stmt.A, spec_l04Stmt.v, spec_l04Stmt.o⟩), (212, ⟨spec_l05Block.A, spec_l05Block.v, spec_l05Block.o⟩), (170, ⟨spec_l05Case.A, spec_l05Case.v, spec_l05Case.o⟩), (100, ⟨spec_l06Program.A, spec_l06Program.v, spec_l06Program.o⟩), (113, ⟨spec_l03Vars.A, spec_l03Vars.v, spec_l03Vars.o⟩), (102, ⟨spec_l12Readings.A, spec_l12Readings.v, spec_l12Readings.o⟩), (114, ⟨spec_l19Store.A, spec_l19Store.v, spec_l19Store.o⟩), (139, ⟨spec_l01In.A, spec_l01In.v, spec_l01In.o⟩), (140, ⟨spec_IsValue.A, spec_IsValue.v, spec_IsValue.o⟩), (144, ⟨spec_VarsOk.A, spec_VarsOk.v, spec_VarsOk.o⟩), (172, ⟨spec_MemNew.A, spec_MemNew.v, spec_MemNew.o⟩), (244, ⟨spec_l04Plain.A, spec_l04Plain.v, spec_l04Plain.o⟩), (197, ⟨spec_OperandOk.A, spec_OperandOk.v, spec_OperandOk.o⟩), (141, ⟨spec_ExprOk.A, spec_ExprOk.v, spec_ExprOk.o⟩), (225, ⟨spec_StmtOk.A, spec_StmtOk.v, spec_StmtOk.o⟩), (196, ⟨spec_BlockOk.A, spec_BlockOk.v, spec_BlockOk.o⟩), (137, ⟨spec_ProgramOk.A, spec_ProgramOk.v, spec_ProgramOk.o⟩), (157, ⟨spec_StoreOk.A, spec_StoreOk.v, spec_StoreOk.o⟩), (138, ⟨spec_l09Values.A, spec_l09Values.v, spec_l09Values.o⟩), (155, ⟨spec_l06Copy.A, spec_l06Copy.v, spec_l06Copy.o⟩), (131, ⟨spec_NodeNew.A, spec_NodeNew.v, spec_NodeNew.o⟩), (191, ⟨spec_l38Act.A, spec_l38Act.v, spec_l38Act.o⟩), (132, ⟨spec_l38Acts.A, spec_l38Acts.v, spec_l38Acts.o⟩), (60, ⟨spec_DrawActs.A, spec_DrawActs.v, spec_DrawActs.o⟩), (219, ⟨slices_Clone_impl_Stmt.A, slices_Clone_impl_Stmt.v, slices_Clone_impl_Stmt.o⟩), (181, ⟨impl_copyTask.A, impl_copyTask.v, impl_copyTask.o⟩), (117, ⟨impl_copyProgram.A, impl_copyProgram.v, impl_copyProgram.o⟩), (112, ⟨slices_Clone_int.A, slices_Clone_int.v, slices_Clone_int.o⟩), (163, ⟨impl_copyLink.A, impl_copyLink.v, impl_copyLink.o⟩), (91, ⟨impl_copyNode.A, impl_copyNode.v, impl_copyNode.o⟩), (105, ⟨impl_within.A, impl_within.v, impl_within.o⟩), (255, ⟨impl_hasVar.A, impl_hasVar.v, impl_hasVar.o⟩), (109, ⟨impl_isVar.A, impl_isVar.v, impl_isVar.o⟩), (256, ⟨impl_hasExpr.A, impl_hasExpr.v, impl_hasExpr.o⟩), (205, ⟨impl_OperandOk.A, impl_OperandOk.v, impl_OperandOk.o⟩), (150, ⟨impl_ExprOk.A, impl_ExprOk.v, impl_ExprOk.o⟩), (253, ⟨impl_isSensor.A, impl_isSensor.v, impl_isSensor.o⟩), (241, ⟨impl_StmtOk.A, impl_StmtOk.v, impl_StmtOk.o⟩), (242, ⟨impl_isOpening.A, impl_isOpening.v, impl_isOpening.o⟩), (218, ⟨impl_BlockOk.A, impl_BlockOk.v, impl_BlockOk.o⟩), (178, ⟨impl_taskOk.A, impl_taskOk.v, impl_taskOk.o⟩), (177, ⟨impl_ProgramOk_1.A, impl_ProgramOk_1.v, impl_ProgramOk_1.o⟩), (217, ⟨slices_IndexFunc_impl_Task_ProgramOk_1.A, slices_IndexFunc_impl_Task_ProgramOk_1.v, slices_IndexFunc_impl_Task_ProgramOk_1.o⟩), (176, ⟨slices_ContainsFunc_impl_Task_ProgramOk_1.A, slices_ContainsFunc_impl_Task_ProgramOk_1.v, slices_ContainsFunc_impl_Task_ProgramOk_1.o⟩), (107, ⟨impl_ProgramOk.A, impl_ProgramOk.v, impl_ProgramOk.o⟩), (110, ⟨impl_IsValue.A, impl_IsValue.v, impl_IsValue.o⟩), (179, ⟨impl_areValues_1.A, impl_areValues_1.v, impl_areValues_1.o⟩), (184, ⟨slices_IndexFunc_int_areValues_1.A, slices_IndexFunc_int_areValues_1.v, slices_IndexFunc_int_areValues_1.o⟩), (124, ⟨slices_ContainsFunc_int_areValues_1.A, slices_ContainsFunc_int_areValues_1.v, slices_ContainsFunc_int_areValues_1.o⟩), (108, ⟨impl_areValues.A, impl_areValues.v, impl_areValues.o⟩), (78, ⟨impl_PackControl.A, impl_PackControl.v, impl_PackControl.o⟩), (77, ⟨impl_UnpackControl.A, impl_UnpackControl.v, impl_UnpackControl.o⟩), (41, ⟨impl_MemOk.A, impl_MemOk.v, impl_MemOk.o⟩), (116, ⟨impl_StoreOk.A, impl_StoreOk.v, impl_StoreOk.o⟩), (121, ⟨impl_SpanOk.A, impl_SpanOk.v, impl_SpanOk.o⟩), (43, ⟨impl_MemSent.A, impl_MemSent.v, impl_MemSent.o⟩), (111, ⟨slices_Equal_int.A, slices_Equal_int.v, slices_Equal_int.o⟩), (42, ⟨impl_IsPrefixOf.A, impl_IsPrefixOf.v, impl_IsPrefixOf.o⟩), (122, ⟨impl_LinkOk.A, impl_LinkOk.v, impl_LinkOk.o⟩), (50, ⟨impl_NodeOk.A, impl_NodeOk.v, impl_NodeOk.o⟩), (118, ⟨impl_isHarvest.A, impl_isHarvest.v, impl_isHarvest.o⟩), (192, ⟨impl_ActOk.A, impl_ActOk.v, impl_ActOk.o⟩), (182, ⟨impl_Clamp.A, impl_Clamp.v, impl_Clamp.o⟩), (119, ⟨impl_Store_tick.A, impl_Store_tick.v, impl_Store_tick.o⟩), (183, ⟨impl_PassOff.A, impl_PassOff.v, impl_PassOff.o⟩), (120, ⟨impl_PassOn.A, impl_PassOn.v, impl_PassOn.o⟩), (129, ⟨impl_RecoveryWrites.A, impl_RecoveryWrites.v, impl_RecoveryWrites.o⟩), (214, ⟨impl_Boot_spend.A, impl_Boot_spend.v, impl_Boot_spend.o⟩), (174, ⟨impl_Boot_recover.A, impl_Boot_recover.v, impl_Boot_recover.o⟩), (57, ⟨impl_MemVars.A, impl_MemVars.v, impl_MemVars.o⟩), (266, ⟨slices_Sort_int.A, slices_Sort_int.v, slices_Sort_int.o⟩), (267, ⟨slices_Compact_int.A, slices_Compact_int.v, slices_Compact_int.o⟩), (265, ⟨impl_ReadsOf.A, impl_ReadsOf.v, impl_ReadsOf.o⟩), (260, ⟨impl_reader_read.A, impl_reader_read.v, impl_reader_read.o⟩), (252, ⟨impl_endOf.A, impl_endOf.v, impl_endOf.o⟩), (259, ⟨impl_reader_pass.A, impl_reader_pass.v, impl_reader_pass.o⟩), (246, ⟨impl_MayReadFirst.A, impl_MayReadFirst.v, impl_MayReadFirst.o⟩), (262, ⟨impl_MustWrite_1.A, impl_MustWrite_1.v, impl_MustWrite_1.o⟩), (261, ⟨impl_written.A, impl_written.v, impl_written.o⟩), (247, ⟨impl_MustWrite.A, impl_MustWrite.v, impl_MustWrite.o⟩), (263, ⟨impl_MayWrite_1.A, impl_MayWrite_1.v, impl_MayWrite_1.o⟩), (249, ⟨impl_MayWrite.A, impl_MayWrite.v, impl_MayWrite.o⟩), (268, ⟨slices_Index_int.A, slices_Index_int.v, slices_Index_int.o⟩), (264, ⟨slices_Contains_int.A, slices_Contains_int.v, slices_Contains_int.o⟩), (251, ⟨impl_HasVar.A, impl_HasVar.v, impl_HasVar.o⟩), (250, ⟨impl_MustLog_1.A, impl_MustLog_1.v, impl_MustLog_1.o⟩), (248, ⟨slices_DeleteFunc_int_MustLog_1.A, slices_DeleteFunc_int_MustLog_1.v, slices_DeleteFunc_int_MustLog_1.o⟩), (231, ⟨impl_MustLog.A, impl_MustLog.v, impl_MustLog.o⟩), (235, ⟨impl_StmtCost.A, impl_StmtCost.v, impl_StmtCost.o⟩), (234, ⟨impl_tracer_work.A, impl_tracer_work.v, impl_tracer_work.o⟩), (127, ⟨impl_VarsOk.A, impl_VarsOk.v, impl_VarsOk.o⟩), (186, ⟨impl_operand.A, impl_operand.v, impl_operand.o⟩), (220, ⟨impl_Saturate.A, impl_Saturate.v, impl_Saturate.o⟩), (187, ⟨impl_AddValues.A, impl_AddValues.v, impl_AddValues.o⟩), (188, ⟨impl_SubValues.A, impl_SubValues.v, impl_SubValues.o⟩), (189, ⟨impl_MulValues.A, impl_MulValues.v, impl_MulValues.o⟩), (190, ⟨impl_bit.A, impl_bit.v, impl_bit.o⟩), (128, ⟨impl_EvalExpr.A, impl_EvalExpr.v, impl_EvalExpr.o⟩), (239, ⟨impl_tracer_write.A, impl_tracer_write.v, impl_tracer_write.o⟩), (236, ⟨impl_tracer_assign.A, impl_tracer_assign.v, impl_tracer_assign.o⟩), (237, ⟨impl_ReadSensor.A, impl_ReadSensor.v, impl_ReadSensor.o⟩), (238, ⟨impl_tracer_send.A, impl_tracer_send.v, impl_tracer_send.o⟩), (233, ⟨impl_traceOf_1.A, impl_traceOf_1.v, impl_traceOf_1.o⟩), (232, ⟨impl_walk.A, impl_walk.v, impl_walk.o⟩), (254, ⟨impl_hasTask.A, impl_hasTask.v, impl_hasTask.o⟩), (240, ⟨impl_NextTask.A, impl_NextTask.v, impl_NextTask.o⟩), (215, ⟨impl_traceOf.A, impl_traceOf.v, impl_traceOf.o⟩), (216, ⟨impl_isSenseStep.A, impl_isSenseStep.v, impl_isSenseStep.o⟩), (175, ⟨impl_Boot_task.A, impl_Boot_task.v, impl_Boot_task.o⟩), (106, ⟨impl_boot.A, impl_boot.v, impl_boot.o⟩), (49, ⟨impl_TickNode.A, impl_TickNode.v, impl_TickNode.o⟩), (221, ⟨impl_ticks.A, impl_ticks.v, impl_ticks.o⟩), (222, ⟨impl_Uncertainty.A, impl_Uncertainty.v, impl_Uncertainty.o⟩), (258, ⟨bits_Mul64.A, bits_Mul64.v, bits_Mul64.o⟩), (243, ⟨bits_Mul.A, bits_Mul.v, bits_Mul.o⟩), (223, ⟨slices_Repeat_bool.A, slices_Repeat_bool.v, slices_Repeat_bool.o⟩), (165, ⟨impl_PacketsOf.A, impl_PacketsOf.v, impl_PacketsOf.o⟩), (210, ⟨impl_Receive.A, impl_Receive.v, impl_Receive.o⟩), (164, ⟨impl_ReceiveAll.A, impl_ReceiveAll.v, impl_ReceiveAll.o⟩), (92, ⟨impl_SendRound.A, impl_SendRound.v, impl_SendRound.o⟩), (30, ⟨impl_Uplink.A, impl_Uplink.v, impl_Uplink.o⟩), (224, ⟨impl_Synchronize.A, impl_Synchronize.v, impl_Synchronize.o⟩), (193, ⟨impl_do.A, impl_do.v, impl_do.o⟩), (133, ⟨impl_DoAct.A, impl_DoAct.v, impl_DoAct.o⟩), (61, ⟨impl_RunActs.A, impl_RunActs.v, impl_RunActs.o⟩), (63, ⟨impl_IsReplay.A, impl_IsReplay.v, impl_IsReplay.o⟩), (39, ⟨spec_DrawPlaces.A, spec_DrawPlaces.v, spec_DrawPlaces.o⟩), (10, ⟨laws_FnReplays.A, laws_FnReplays.v, laws_FnReplays.o⟩)]
def ntTab : List (Nat × Nat) := [(36, 6), (99, 32), (173, 58), (103, 37), (229, 9), (180, 12), (213, 11), (171, 11), (230, 23), (212, 59), (170, 7), (100, 24), (113, 20), (102, 20), (114, 23), (139, 15), (140, 5), (144, 19), (172, 14), (244, 37), (197, 5), (141, 16), (225, 43), (196, 41), (137, 33), (157, 25), (138, 16), (155, 34), (131, 43), (191, 48), (132, 18), (60, 26), (219, 8), (181, 8), (117, 23), (112, 8), (163, 11), (91, 20), (105, 15), (255, 9), (109, 5), (256, 13), (205, 5), (150, 16), (253, 5), (241, 65), (242, 9), (218, 39), (178, 11), (177, 6), (217, 19), (176, 9), (107, 13), (110, 5), (179, 6), (184, 19), (124, 9), (108, 6), (78, 27), (77, 28), (41, 72), (116, 25), (121, 18), (43, 24), (111, 26), (42, 18), (122, 20), (50, 40), (118, 5), (192, 60), (182, 16), (119, 23), (183, 29), (120, 9), (129, 57), (214, 19), (174, 28), (57, 9), (266, 1), (267, 1), (265, 32), (260, 26), (252, 33), (259, 56), (246, 36), (262, 9), (261, 34), (247, 38), (263, 3), (249, 8), (268, 19), (264, 9), (251, 8), (250, 14), (248, 42), (231, 18), (235, 11), (234, 17), (127, 10), (186, 13), (220, 5), (187, 11), (188, 11), (189, 11), (190, 4), (128, 60), (239, 20), (236, 85), (237, 29), (238, 28), (233, 81), (232, 51), (254, 15), (240, 34), (215, 63), (216, 11), (175, 66), (106, 30), (49, 66), (221, 26), (222, 11), (258, 51), (243, 30), (223, 48), (165, 33), (210, 34), (164, 43), (92, 37), (30, 27), (224, 33), (193, 84), (133, 22), (61, 44), (63, 27), (39, 19), (10, 56)]
def modeTab : List (Nat × YtobfemcobakeoaaGreatEv.Mode) := [(266, .edit), (267, .take), (248, .take), (193, .take)]
def PL : Plan C := ⟨fun f => lookup f retTab, fun f => (lookup f ntTab).getD 0, fun f => (lookup f modeTab).getD YtobfemcobakeoaaGreatEv.Mode.read, [], [], []⟩
end
end Go.Proofs.YtobfemcobakeoaaGreat.Ev
