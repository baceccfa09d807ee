/- The program's types for the evaluator, looked up, and the table of calls. No conditions. -/
import Derived.Test.YtpndhhellhfegaaGreatDoorLibC
import Derived.WalkKit
import Derived.Test.YtpndhhellhfegaaGreatDoorProg
import Derived.Test.YtpndhhellhfegaaGreatDoorShelf
import Derived.Lib.SmallJoins
import Derived.Lib.AppendIntMem
namespace Go.Proofs.YtpndhhellhfegaaGreatDoor.Ev
open Go.Proofs.YtpndhhellhfegaaGreatDoorEv Go.RowKit
set_option linter.unusedVariables false
set_option maxRecDepth 100000
noncomputable section
structure S85 where
 f0 : Int
 f1 : Int
 f2 : Int
def z85 : S85 := ⟨(0 : Int), (0 : Int), (0 : Int)⟩
structure S121 where
 f0 : Int
 f1 : Int
 f2 : Int
 f3 : S85
def z121 : S121 := ⟨(0 : Int), (0 : Int), (0 : Int), z85⟩
structure S87 where
 f0 : List S121
 f1 : S85
def z87 : S87 := ⟨([] : List S121), z85⟩
structure S174 where
 f0 : Int
 f1 : Int
 f2 : Int
 f3 : S85
def z174 : S174 := ⟨(0 : Int), (0 : Int), (0 : Int), z85⟩
structure S126 where
 f0 : List S174
 f1 : S85
def z126 : S126 := ⟨([] : List S174), z85⟩
structure S23 where
 f0 : List S126
def z23 : S23 := ⟨([] : List S126)⟩
structure S26 where
 f0 : Int
 f1 : Int
 f2 : Int
 f3 : Int
def z26 : S26 := ⟨(0 : Int), (0 : Int), (0 : Int), (0 : Int)⟩
structure S28 where
 f0 : Int
 f1 : Int
def z28 : S28 := ⟨(0 : Int), (0 : Int)⟩
structure S30 where
 f0 : List Int
def z30 : S30 := ⟨([] : List Int)⟩
structure S32 where
 f0 : Int
 f1 : S30
def z32 : S32 := ⟨(0 : Int), z30⟩
structure S34 where
 f0 : S23
 f1 : List Int
 f2 : List Int
 f3 : Int
 f4 : S26
 f5 : S28
 f6 : S32
 f7 : Int
def z34 : S34 := ⟨z23, ([] : List Int), ([] : List Int), (0 : Int), z26, z28, z32, (0 : Int)⟩
abbrev wr (n : Int) : Int := IntKind.wrap .i64 n
abbrev rdI (xs : List Int) (i : Int) : Int := xs.getD i.toNat (0 : Int)
abbrev rdY (xs : List ByteArray) (i : Int) : ByteArray := xs.getD i.toNat ByteArray.empty
abbrev rdS121 (xs : List S121) (i : Int) : S121 := xs.getD i.toNat z121
abbrev rdS87 (xs : List S87) (i : Int) : S87 := xs.getD i.toNat z87
abbrev rdS174 (xs : List S174) (i : Int) : S174 := xs.getD i.toNat z174
abbrev rdS126 (xs : List S126) (i : Int) : S126 := xs.getD i.toNat z126
def elTab : List (Nat × (Σ T : Type, T)) := [
 (3, ⟨Int, (0 : Int)⟩),
 (5, ⟨Int, (0 : Int)⟩),
 (9, ⟨ByteArray, ByteArray.empty⟩),
 (122, ⟨S121, z121⟩),
 (88, ⟨S87, z87⟩),
 (175, ⟨S174, z174⟩),
 (127, ⟨S126, z126⟩)]
def U : Uni := ⟨fun e => (elAt elTab e).1, fun e => (elAt elTab e).2⟩
def elE : List (Σ e, ElE U e) := [
 ⟨3, ⟨fun (x : Int) => .int .i64 x, fun v => (match v with | .int .i64 y1 => some (y1 : Int) | _ => none : Option Int)⟩⟩,
 ⟨5, ⟨fun (x : Int) => .int .u8 x, fun v => (match v with | .int .u8 y1 => some (y1 : Int) | _ => none : Option Int)⟩⟩,
 ⟨9, ⟨fun (x : ByteArray) => .str x, fun v => (match v with | .str y1 => some (y1 : ByteArray) | _ => none : Option ByteArray)⟩⟩,
 ⟨122, ⟨fun (x : S121) => .agg [.int .i64 x.f0, .int .i64 x.f1, .int .i64 x.f2, .int .i64 x.f3.f0, .int .i64 x.f3.f1, .int .i64 x.f3.f2], fun v => (match v with | .agg [.int .i64 y1, .int .i64 y2, .int .i64 y3, .int .i64 y4, .int .i64 y5, .int .i64 y6] => some ((⟨y1, y2, y3, (⟨y4, y5, y6⟩ : S85)⟩ : S121) : S121) | _ => none : Option S121)⟩⟩,
 ⟨88, ⟨fun (x : S87) => .agg [.sl 122 x.f0, .int .i64 x.f1.f0, .int .i64 x.f1.f1, .int .i64 x.f1.f2], fun v => (match v with | .agg [.sl 122 y1, .int .i64 y2, .int .i64 y3, .int .i64 y4] => some ((⟨y1, (⟨y2, y3, y4⟩ : S85)⟩ : S87) : S87) | _ => none : Option S87)⟩⟩,
 ⟨175, ⟨fun (x : S174) => .agg [.int .i64 x.f0, .int .i64 x.f1, .int .i64 x.f2, .int .i64 x.f3.f0, .int .i64 x.f3.f1, .int .i64 x.f3.f2], fun v => (match v with | .agg [.int .i64 y1, .int .i64 y2, .int .i64 y3, .int .i64 y4, .int .i64 y5, .int .i64 y6] => some ((⟨y1, y2, y3, (⟨y4, y5, y6⟩ : S85)⟩ : S174) : S174) | _ => none : Option S174)⟩⟩,
 ⟨127, ⟨fun (x : S126) => .agg [.sl 175 x.f0, .int .i64 x.f1.f0, .int .i64 x.f1.f1, .int .i64 x.f1.f2], fun v => (match v with | .agg [.sl 175 y1, .int .i64 y2, .int .i64 y3, .int .i64 y4] => some ((⟨y1, (⟨y2, y3, y4⟩ : S85)⟩ : S126) : S126) | _ => none : Option S126)⟩⟩]
def tyTab : List (Nat × Ty U) := [
 (3, .int .i64),
 (4, .bool),
 (5, .int .u8),
 (9, .str),
 (22, .slice 127),
 (24, .struct [(0, 22)] [.own true 127 ([] : List S126)]),
 (25, .slice 3),
 (27, .struct [(0, 3), (1, 3), (2, 3), (3, 3)] [.int .i64 (0 : Int), .int .i64 (0 : Int), .int .i64 (0 : Int), .int .i64 (0 : Int)]),
 (29, .struct [(0, 3), (1, 3)] [.int .i64 (0 : Int), .int .i64 (0 : Int)]),
 (31, .struct [(0, 25)] [.own true 3 ([] : List Int)]),
 (33, .struct [(0, 3), (1, 31)] [.int .i64 (0 : Int), .own true 3 ([] : List Int)]),
 (35, .struct [(0, 24), (1, 25), (2, 25), (3, 3), (4, 27), (8, 29), (10, 33), (12, 3)] [.own true 127 ([] : List S126), .own true 3 ([] : List Int), .own true 3 ([] : List Int), .int .i64 (0 : Int), .int .i64 (0 : Int), .int .i64 (0 : Int), .int .i64 (0 : Int), .int .i64 (0 : Int), .int .i64 (0 : Int), .int .i64 (0 : Int), .int .i64 (0 : Int), .own true 3 ([] : List Int), .int .i64 (0 : Int)]),
 (37, .slice 9),
 (39, .slice 88),
 (41, .struct [(0, 39)] [.own true 88 ([] : List S87)]),
 (42, .struct [(0, 3), (1, 3), (2, 3), (3, 3)] [.int .i64 (0 : Int), .int .i64 (0 : Int), .int .i64 (0 : Int), .int .i64 (0 : Int)]),
 (43, .struct [(0, 3), (1, 3)] [.int .i64 (0 : Int), .int .i64 (0 : Int)]),
 (44, .struct [(0, 25)] [.own true 3 ([] : List Int)]),
 (46, .struct [(0, 3), (1, 44)] [.int .i64 (0 : Int), .own true 3 ([] : List Int)]),
 (48, .struct [(0, 41), (1, 25), (2, 25), (3, 3), (4, 42), (8, 43), (10, 46), (12, 3)] [.own true 88 ([] : List S87), .own true 3 ([] : List Int), .own true 3 ([] : List Int), .int .i64 (0 : Int), .int .i64 (0 : Int), .int .i64 (0 : Int), .int .i64 (0 : Int), .int .i64 (0 : Int), .int .i64 (0 : Int), .int .i64 (0 : Int), .int .i64 (0 : Int), .own true 3 ([] : List Int), .int .i64 (0 : Int)]),
 (55, .slice 5),
 (84, .slice 122),
 (86, .struct [(0, 3), (1, 3), (2, 3)] [.int .i64 (0 : Int), .int .i64 (0 : Int), .int .i64 (0 : Int)]),
 (88, .struct [(0, 84), (1, 86)] [.own true 122 ([] : List S121), .int .i64 (0 : Int), .int .i64 (0 : Int), .int .i64 (0 : Int)]),
 (122, .struct [(0, 3), (1, 3), (2, 3), (3, 86)] [.int .i64 (0 : Int), .int .i64 (0 : Int), .int .i64 (0 : Int), .int .i64 (0 : Int), .int .i64 (0 : Int), .int .i64 (0 : Int)]),
 (124, .slice 175),
 (125, .struct [(0, 3), (1, 3), (2, 3)] [.int .i64 (0 : Int), .int .i64 (0 : Int), .int .i64 (0 : Int)]),
 (127, .struct [(0, 124), (1, 125)] [.own true 175 ([] : List S174), .int .i64 (0 : Int), .int .i64 (0 : Int), .int .i64 (0 : Int)]),
 (175, .struct [(0, 3), (1, 3), (2, 3), (3, 125)] [.int .i64 (0 : Int), .int .i64 (0 : Int), .int .i64 (0 : Int), .int .i64 (0 : Int), .int .i64 (0 : Int), .int .i64 (0 : Int)])]
def bytesTab : List (Nat × Nat) := [(3, 8), (5, 1), (9, 16), (122, 48), (88, 48), (175, 48), (127, 48)]
def eqTab : List (Nat × Nat) := [(86, 3), (122, 6)]
/-- What the library's tables and errors hold. -/
structure TabW (w : World) : Prop where
  pow : Lib.TabIs Tryz.prog w "internal/strconv.uint64pow10" .u64 Lib.pow10Tab
theorem tabSame (w w' : World) (h : TabW w) (hw : ∀ g, g ∈ [0] → w'.heap[g]? = w.heap[g]?) : TabW w' := ⟨(var_same (P := Tryz.prog) (n := "internal/strconv.uint64pow10") (g := 0) (by kernel_rfl) (hw 0 (by simp))).trans h.pow⟩
theorem tabLt (w : World) (h : TabW w) (g : Nat) (hg : g ∈ [0]) : g < w.heap.size := by
  simp only [List.mem_cons, List.not_mem_nil, or_false] at hg
  rcases hg with rfl
  · exact var_lt (P := Tryz.prog) (n := "internal/strconv.uint64pow10") (g := 0) (by kernel_rfl) h.pow
def C : Ctx := ⟨U, fun e => (sel (noEl U) elE e).enc, fun e => (sel (noEl U) elE e).dec, fun t => lookup t tyTab, fun e => (lookup e bytesTab).getD 0, fun t => lookup t eqTab, [0], TabW⟩
theorem elOk : AllL (fun p : Σ e, ElE U e => ElOk p.1 p.2) elE := ⟨⟨fun _ => rfl, fun _ => rfl, fun _ => rfl, fun v y h => by dsimp only at h; split at h <;> first | (cases h; rfl) | cases h⟩,
 ⟨fun _ => rfl, fun _ => rfl, fun _ => rfl, fun v y h => by dsimp only at h; split at h <;> first | (cases h; rfl) | cases h⟩,
 ⟨fun _ => rfl, fun _ => rfl, fun _ => rfl, fun v y h => by dsimp only at h; split at h <;> first | (cases h; rfl) | cases h⟩,
 ⟨fun _ => rfl, fun _ => rfl, fun _ => rfl, fun v y h => by dsimp only at h; split at h <;> first | (cases h; rfl) | cases h⟩,
 ⟨fun _ => rfl, fun _ => rfl, fun _ => rfl, fun v y h => by dsimp only at h; split at h <;> first | (cases h; rfl) | cases h⟩,
 ⟨fun _ => rfl, fun _ => rfl, fun _ => rfl, fun v y h => by dsimp only at h; split at h <;> first | (cases h; rfl) | cases h⟩,
 ⟨fun _ => rfl, fun _ => rfl, fun _ => rfl, fun v y h => by dsimp only at h; split at h <;> first | (cases h; rfl) | cases h⟩, trivial⟩
theorem tyOk : AllL (fun p : Nat × Ty U => TyOk Tryz.prog C p.1 p.2) tyTab := ⟨tyOk_int (by kernel_rfl) (by kernel_rfl),
 tyOk_bool (by kernel_rfl) (by kernel_rfl),
 tyOk_int (by kernel_rfl) (by kernel_rfl),
 tyOk_str (by kernel_rfl) (by kernel_rfl),
 tyOk_slice (by kernel_rfl) (by kernel_rfl),
 tyOk_struct #[.slice none 0 0] (by kernel_rfl) (by kernel_rfl) (by kernel_rfl) (by kernel_rfl) (by kernel_rfl),
 tyOk_slice (by kernel_rfl) (by kernel_rfl),
 tyOk_struct #[.int .i64 0, .int .i64 0, .int .i64 0, .int .i64 0] (by kernel_rfl) (by kernel_rfl) (by kernel_rfl) (by kernel_rfl) (by kernel_rfl),
 tyOk_struct #[.int .i64 0, .int .i64 0] (by kernel_rfl) (by kernel_rfl) (by kernel_rfl) (by kernel_rfl) (by kernel_rfl),
 tyOk_struct #[.slice none 0 0] (by kernel_rfl) (by kernel_rfl) (by kernel_rfl) (by kernel_rfl) (by kernel_rfl),
 tyOk_struct #[.int .i64 0, .slice none 0 0] (by kernel_rfl) (by kernel_rfl) (by kernel_rfl) (by kernel_rfl) (by kernel_rfl),
 tyOk_struct #[.slice none 0 0, .slice none 0 0, .slice none 0 0, .int .i64 0, .int .i64 0, .int .i64 0, .int .i64 0, .int .i64 0, .int .i64 0, .int .i64 0, .int .i64 0, .slice none 0 0, .int .i64 0] (by kernel_rfl) (by kernel_rfl) (by kernel_rfl) (by kernel_rfl) (by kernel_rfl),
 tyOk_slice (by kernel_rfl) (by kernel_rfl),
 tyOk_slice (by kernel_rfl) (by kernel_rfl),
 tyOk_struct #[.slice none 0 0] (by kernel_rfl) (by kernel_rfl) (by kernel_rfl) (by kernel_rfl) (by kernel_rfl),
 tyOk_struct #[.int .i64 0, .int .i64 0, .int .i64 0, .int .i64 0] (by kernel_rfl) (by kernel_rfl) (by kernel_rfl) (by kernel_rfl) (by kernel_rfl),
 tyOk_struct #[.int .i64 0, .int .i64 0] (by kernel_rfl) (by kernel_rfl) (by kernel_rfl) (by kernel_rfl) (by kernel_rfl),
 tyOk_struct #[.slice none 0 0] (by kernel_rfl) (by kernel_rfl) (by kernel_rfl) (by kernel_rfl) (by kernel_rfl),
 tyOk_struct #[.int .i64 0, .slice none 0 0] (by kernel_rfl) (by kernel_rfl) (by kernel_rfl) (by kernel_rfl) (by kernel_rfl),
 tyOk_struct #[.slice none 0 0, .slice none 0 0, .slice none 0 0, .int .i64 0, .int .i64 0, .int .i64 0, .int .i64 0, .int .i64 0, .int .i64 0, .int .i64 0, .int .i64 0, .slice none 0 0, .int .i64 0] (by kernel_rfl) (by kernel_rfl) (by kernel_rfl) (by kernel_rfl) (by kernel_rfl),
 tyOk_slice (by kernel_rfl) (by kernel_rfl),
 tyOk_slice (by kernel_rfl) (by kernel_rfl),
 tyOk_struct #[.int .i64 0, .int .i64 0, .int .i64 0] (by kernel_rfl) (by kernel_rfl) (by kernel_rfl) (by kernel_rfl) (by kernel_rfl),
 tyOk_struct #[.slice none 0 0, .int .i64 0, .int .i64 0, .int .i64 0] (by kernel_rfl) (by kernel_rfl) (by kernel_rfl) (by kernel_rfl) (by kernel_rfl),
 tyOk_struct #[.int .i64 0, .int .i64 0, .int .i64 0, .int .i64 0, .int .i64 0, .int .i64 0] (by kernel_rfl) (by kernel_rfl) (by kernel_rfl) (by kernel_rfl) (by kernel_rfl),
 tyOk_slice (by kernel_rfl) (by kernel_rfl),
 tyOk_struct #[.int .i64 0, .int .i64 0, .int .i64 0] (by kernel_rfl) (by kernel_rfl) (by kernel_rfl) (by kernel_rfl) (by kernel_rfl),
 tyOk_struct #[.slice none 0 0, .int .i64 0, .int .i64 0, .int .i64 0] (by kernel_rfl) (by kernel_rfl) (by kernel_rfl) (by kernel_rfl) (by kernel_rfl),
 tyOk_struct #[.int .i64 0, .int .i64 0, .int .i64 0, .int .i64 0, .int .i64 0, .int .i64 0] (by kernel_rfl) (by kernel_rfl) (by kernel_rfl) (by kernel_rfl) (by kernel_rfl), trivial⟩
theorem sl3 : SliceOk Tryz.prog C 3 := sliceOk_of (.int .i64 0) 1 8 (fun x T h ha => by have h' : (some (.int .i64) : Option (Ty U)) = some T := h; cases h'; cases ha) (by kernel_rfl) (by kernel_rfl) (by kernel_rfl) (by decide) (by decide) (by kernel_rfl)
theorem sl5 : SliceOk Tryz.prog C 5 := sliceOk_of (.int .u8 0) 1 1 (fun x T h ha => by have h' : (some (.int .u8) : Option (Ty U)) = some T := h; cases h'; cases ha) (by kernel_rfl) (by kernel_rfl) (by kernel_rfl) (by decide) (by decide) (by kernel_rfl)
theorem sl9 : SliceOk Tryz.prog C 9 := sliceOk_of (.string .empty) 1 16 (fun x T h ha => by have h' : (some (.str) : Option (Ty U)) = some T := h; cases h'; cases ha) (by kernel_rfl) (by kernel_rfl) (by kernel_rfl) (by decide) (by decide) (by kernel_rfl)
theorem sl88 : SliceOk Tryz.prog C 88 := sliceOk_of (.agg #[.slice none 0 0, .int .i64 0, .int .i64 0, .int .i64 0]) 4 48 (fun x T _ _ => ⟨_, rfl⟩) (by kernel_rfl) (by kernel_rfl) (by kernel_rfl) (by decide) (by decide) (by kernel_rfl)
theorem sl122 : SliceOk Tryz.prog C 122 := sliceOk_of (.agg #[.int .i64 0, .int .i64 0, .int .i64 0, .int .i64 0, .int .i64 0, .int .i64 0]) 6 48 (fun x T _ _ => ⟨_, rfl⟩) (by kernel_rfl) (by kernel_rfl) (by kernel_rfl) (by decide) (by decide) (by kernel_rfl)
theorem sl127 : SliceOk Tryz.prog C 127 := sliceOk_of (.agg #[.slice none 0 0, .int .i64 0, .int .i64 0, .int .i64 0]) 4 48 (fun x T _ _ => ⟨_, rfl⟩) (by kernel_rfl) (by kernel_rfl) (by kernel_rfl) (by decide) (by decide) (by kernel_rfl)
theorem sl175 : SliceOk Tryz.prog C 175 := sliceOk_of (.agg #[.int .i64 0, .int .i64 0, .int .i64 0, .int .i64 0, .int .i64 0, .int .i64 0]) 6 48 (fun x T _ _ => ⟨_, rfl⟩) (by kernel_rfl) (by kernel_rfl) (by kernel_rfl) (by decide) (by decide) (by kernel_rfl)
theorem slOk : AllL (fun p : Nat × Ty U => ∀ e, p.2 = .slice e → SliceOk Tryz.prog C e) tyTab := ⟨(fun e h => by cases h), (fun e h => by cases h), (fun e h => by cases h), (fun e h => by cases h), (fun e h => by cases h; exact sl127), (fun e h => by cases h), (fun e h => by cases h; exact sl3), (fun e h => by cases h), (fun e h => by cases h), (fun e h => by cases h), (fun e h => by cases h), (fun e h => by cases h), (fun e h => by cases h; exact sl9), (fun e h => by cases h; exact sl88), (fun e h => by cases h), (fun e h => by cases h), (fun e h => by cases h), (fun e h => by cases h), (fun e h => by cases h), (fun e h => by cases h), (fun e h => by cases h; exact sl5), (fun e h => by cases h; exact sl122), (fun e h => by cases h), (fun e h => by cases h), (fun e h => by cases h), (fun e h => by cases h; exact sl175), (fun e h => by cases h), (fun e h => by cases h), (fun e h => by cases h), trivial⟩
def eqB86 (x0 x1 x2 y0 y1 y2 : Int) : Bool := (x0 == y0) && ((x1 == y1) && ((x2 == y2) && true))
theorem eqA86 (d : Nat) (w : World) (k0 k1 k2 : IntKind) (x0 x1 x2 y0 y1 y2 : Int) : (Op.equalIn (d + 2) 86 (.agg #[.int k0 x0, .int k1 x1, .int k2 x2]) (.agg #[.int k0 y0, .int k1 y1, .int k2 y2])).run Tryz.prog w = .ok (eqB86 x0 x1 x2 y0 y1 y2) w := by
 refine eq_struct Tryz.underlying86 (by kernel_rfl) ?_; refine eq_cons (by rfl) (by go_simp; rfl) (by go_simp; rfl) (by go_simp) ?_; refine eq_cons (by rfl) (by go_simp; rfl) (by go_simp; rfl) (by go_simp) ?_; refine eq_cons (by rfl) (by go_simp; rfl) (by go_simp; rfl) (by go_simp) ?_; exact eq_nil
theorem eq86 : EqOk Tryz.prog 86 3 := fun ps w h => match ps, h with
 | [p0, p1, p2], _ => ⟨by
  have e := eqA86 9998 w p0.1 p1.1 p2.1 p0.2.1 p1.2.1 p2.2.1 p0.2.2 p1.2.2 p2.2.2
  have hb : ∀ a b : Int, (a == b) = decide (a = b) := fun _ _ => rfl
  exact e.trans (by simp [eqB86, List.all, hb]), by kernel_rfl⟩
def eqB122 (x0 x1 x2 x3 x4 x5 y0 y1 y2 y3 y4 y5 : Int) : Bool := (x0 == y0) && ((x1 == y1) && ((x2 == y2) && ((eqB86 x3 x4 x5 y3 y4 y5) && true)))
theorem eqA122 (d : Nat) (w : World) (k0 k1 k2 k3 k4 k5 : IntKind) (x0 x1 x2 x3 x4 x5 y0 y1 y2 y3 y4 y5 : Int) : (Op.equalIn (d + 3) 122 (.agg #[.int k0 x0, .int k1 x1, .int k2 x2, .int k3 x3, .int k4 x4, .int k5 x5]) (.agg #[.int k0 y0, .int k1 y1, .int k2 y2, .int k3 y3, .int k4 y4, .int k5 y5])).run Tryz.prog w = .ok (eqB122 x0 x1 x2 x3 x4 x5 y0 y1 y2 y3 y4 y5) w := by
 refine eq_struct Tryz.underlying122 (by kernel_rfl) ?_; refine eq_cons (by rfl) (by go_simp; rfl) (by go_simp; rfl) (by go_simp) ?_; refine eq_cons (by rfl) (by go_simp; rfl) (by go_simp; rfl) (by go_simp) ?_; refine eq_cons (by rfl) (by go_simp; rfl) (by go_simp; rfl) (by go_simp) ?_; refine eq_cons (a := .agg #[.int k3 x3, .int k4 x4, .int k5 x5]) (b := .agg #[.int k3 y3, .int k4 y4, .int k5 y5]) (by rfl) (by go_simp) (by go_simp) (eqA86 d w k3 k4 k5 x3 x4 x5 y3 y4 y5) ?_; exact eq_nil
theorem eq122 : EqOk Tryz.prog 122 6 := fun ps w h => match ps, h with
 | [p0, p1, p2, p3, p4, p5], _ => ⟨by
  have e := eqA122 9997 w p0.1 p1.1 p2.1 p3.1 p4.1 p5.1 p0.2.1 p1.2.1 p2.2.1 p3.2.1 p4.2.1 p5.2.1 p0.2.2 p1.2.2 p2.2.2 p3.2.2 p4.2.2 p5.2.2
  have hb : ∀ a b : Int, (a == b) = decide (a = b) := fun _ _ => rfl
  exact e.trans (by simp [eqB86, eqB122, List.all, hb]), by kernel_rfl⟩
theorem eqOk : AllL (fun p : Nat × Nat => EqOk Tryz.prog p.1 p.2) eqTab := ⟨eq86, eq122, trivial⟩
theorem G : YtpndhhellhfegaaGreatDoorEv.Good Tryz.prog C := good_of (U := U) (tab := elE) (tyTab := tyTab) (bytesTab := bytesTab) (eqTab := eqTab) rfl elOk tyOk (fun t e h => slOk.mem _ (lookup_mem h) e rfl) eqOk (tabSame)
abbrev Pg : Program := Tryz.prog
theorem mixed : Pg.follows .mixedOrders = true := by kernel_rfl
abbrev laws_szStmtS.A := Int
def laws_szStmtS.v : laws_szStmtS.A → PV U := fun r => .int .i64 r
def laws_szStmtS.o : laws_szStmtS.A → List (PV U) := fun r => []
abbrev laws_szTask.A := Int
def laws_szTask.v : laws_szTask.A → PV U := fun r => .int .i64 r
def laws_szTask.o : laws_szTask.A → List (PV U) := fun r => []
abbrev laws_szTaskS.A := Int
def laws_szTaskS.v : laws_szTaskS.A → PV U := fun r => .int .i64 r
def laws_szTaskS.o : laws_szTaskS.A → List (PV U) := fun r => []
abbrev laws_szProgram.A := Int
def laws_szProgram.v : laws_szProgram.A → PV U := fun r => .int .i64 r
def laws_szProgram.o : laws_szProgram.A → List (PV U) := fun r => []
abbrev laws_szIntS.A := Int
def laws_szIntS.v : laws_szIntS.A → PV U := fun r => .int .i64 r
def laws_szIntS.o : laws_szIntS.A → List (PV U) := fun r => []
abbrev laws_szGateway.A := Int
def laws_szGateway.v : laws_szGateway.A → PV U := fun r => .int .i64 r
def laws_szGateway.o : laws_szGateway.A → List (PV U) := fun r => []
abbrev laws_szLink.A := Int
def laws_szLink.v : laws_szLink.A → PV U := fun r => .int .i64 r
def laws_szLink.o : laws_szLink.A → List (PV U) := fun r => []
abbrev laws_szNode.A := Int
def laws_szNode.v : laws_szNode.A → PV U := fun r => .int .i64 r
def laws_szNode.o : laws_szNode.A → List (PV U) := fun r => []
abbrev laws_toExpr.A := Int × Int × Int
def laws_toExpr.v : laws_toExpr.A → PV U := fun r => .agg [.int .i64 r.1, .int .i64 r.2.1, .int .i64 r.2.2]
def laws_toExpr.o : laws_toExpr.A → List (PV U) := fun r => []
abbrev laws_toStmt.A := Int × Int × Int × Int × Int × Int
def laws_toStmt.v : laws_toStmt.A → PV U := fun r => .agg [.int .i64 r.1, .int .i64 r.2.1, .int .i64 r.2.2.1, .int .i64 r.2.2.2.1, .int .i64 r.2.2.2.2.1, .int .i64 r.2.2.2.2.2]
def laws_toStmt.o : laws_toStmt.A → List (PV U) := fun r => []
abbrev laws_toStmtS.A := (List S121)
def laws_toStmtS.v : laws_toStmtS.A → PV U := fun r => .own true 122 r
def laws_toStmtS.o : laws_toStmtS.A → List (PV U) := fun r => []
abbrev laws_toTask.A := (List S121) × Int × Int × Int
def laws_toTask.v : laws_toTask.A → PV U := fun r => .agg [.own true 122 r.1, .int .i64 r.2.1, .int .i64 r.2.2.1, .int .i64 r.2.2.2]
def laws_toTask.o : laws_toTask.A → List (PV U) := fun r => []
abbrev laws_toTaskS.A := (List S87)
def laws_toTaskS.v : laws_toTaskS.A → PV U := fun r => .own true 88 r
def laws_toTaskS.o : laws_toTaskS.A → List (PV U) := fun r => []
abbrev laws_toProgram.A := (List S87)
def laws_toProgram.v : laws_toProgram.A → PV U := fun r => .agg [.own true 88 r]
def laws_toProgram.o : laws_toProgram.A → List (PV U) := fun r => []
abbrev laws_toIntS.A := (List Int)
def laws_toIntS.v : laws_toIntS.A → PV U := fun r => .own true 3 r
def laws_toIntS.o : laws_toIntS.A → List (PV U) := fun r => []
abbrev laws_toStore.A := Int × Int × Int × Int
def laws_toStore.v : laws_toStore.A → PV U := fun r => .agg [.int .i64 r.1, .int .i64 r.2.1, .int .i64 r.2.2.1, .int .i64 r.2.2.2]
def laws_toStore.o : laws_toStore.A → List (PV U) := fun r => []
abbrev laws_toSpan.A := Int × Int
def laws_toSpan.v : laws_toSpan.A → PV U := fun r => .agg [.int .i64 r.1, .int .i64 r.2]
def laws_toSpan.o : laws_toSpan.A → List (PV U) := fun r => []
abbrev laws_toGateway.A := (List Int)
def laws_toGateway.v : laws_toGateway.A → PV U := fun r => .agg [.own true 3 r]
def laws_toGateway.o : laws_toGateway.A → List (PV U) := fun r => []
abbrev laws_toLink.A := Int × (List Int)
def laws_toLink.v : laws_toLink.A → PV U := fun r => .agg [.int .i64 r.1, .own true 3 r.2]
def laws_toLink.o : laws_toLink.A → List (PV U) := fun r => []
abbrev laws_toNode.A := (List S87) × (List Int) × (List Int) × Int × Int × Int × Int × Int × Int × Int × Int × (List Int) × Int
def laws_toNode.v : laws_toNode.A → PV U := fun r => .agg [.own true 88 r.1, .own true 3 r.2.1, .own true 3 r.2.2.1, .int .i64 r.2.2.2.1, .int .i64 r.2.2.2.2.1, .int .i64 r.2.2.2.2.2.1, .int .i64 r.2.2.2.2.2.2.1, .int .i64 r.2.2.2.2.2.2.2.1, .int .i64 r.2.2.2.2.2.2.2.2.1, .int .i64 r.2.2.2.2.2.2.2.2.2.1, .int .i64 r.2.2.2.2.2.2.2.2.2.2.1, .own true 3 r.2.2.2.2.2.2.2.2.2.2.2.1, .int .i64 r.2.2.2.2.2.2.2.2.2.2.2.2]
def laws_toNode.o : laws_toNode.A → List (PV U) := fun r => []
abbrev spec_l04Plain.A := Int × Int × Int × Int × Int × Int
def spec_l04Plain.v : spec_l04Plain.A → PV U := fun r => .agg [.int .i64 r.1, .int .i64 r.2.1, .int .i64 r.2.2.1, .int .i64 r.2.2.2.1, .int .i64 r.2.2.2.2.1, .int .i64 r.2.2.2.2.2]
def spec_l04Plain.o : spec_l04Plain.A → List (PV U) := fun r => []
abbrev spec_l01In.A := Bool
def spec_l01In.v : spec_l01In.A → PV U := fun r => .bool r
def spec_l01In.o : spec_l01In.A → List (PV U) := fun r => []
abbrev spec_OperandOk.A := Bool
def spec_OperandOk.v : spec_OperandOk.A → PV U := fun r => .bool r
def spec_OperandOk.o : spec_OperandOk.A → List (PV U) := fun r => []
abbrev spec_ExprOk.A := Bool
def spec_ExprOk.v : spec_ExprOk.A → PV U := fun r => .bool r
def spec_ExprOk.o : spec_ExprOk.A → List (PV U) := fun r => []
abbrev spec_StmtOk.A := Bool
def spec_StmtOk.v : spec_StmtOk.A → PV U := fun r => .bool r
def spec_StmtOk.o : spec_StmtOk.A → List (PV U) := fun r => []
abbrev spec_BlockOk.A := Bool
def spec_BlockOk.v : spec_BlockOk.A → PV U := fun r => .bool r
def spec_BlockOk.o : spec_BlockOk.A → List (PV U) := fun r => []
abbrev spec_ProgramOk.A := Bool
def spec_ProgramOk.v : spec_ProgramOk.A → PV U := fun r => .bool r
def spec_ProgramOk.o : spec_ProgramOk.A → List (PV U) := fun r => []
abbrev spec_PackControl.A := Int
def spec_PackControl.v : spec_PackControl.A → PV U := fun r => .int .i64 r
def spec_PackControl.o : spec_PackControl.A → List (PV U) := fun r => []
abbrev spec_UnpackControl.A := Int × Int × Int
def spec_UnpackControl.v : spec_UnpackControl.A → PV U := fun r => .tup [.int .i64 r.1, .int .i64 r.2.1, .int .i64 r.2.2]
def spec_UnpackControl.o : spec_UnpackControl.A → List (PV U) := fun r => []
abbrev spec_IsValue.A := Bool
def spec_IsValue.v : spec_IsValue.A → PV U := fun r => .bool r
def spec_IsValue.o : spec_IsValue.A → List (PV U) := fun r => []
abbrev spec_l09Values.A := Bool
def spec_l09Values.v : spec_l09Values.A → PV U := fun r => .bool r
def spec_l09Values.o : spec_l09Values.A → List (PV U) := fun r => []
abbrev spec_MemOk.A := Bool
def spec_MemOk.v : spec_MemOk.A → PV U := fun r => .bool r
def spec_MemOk.o : spec_MemOk.A → List (PV U) := fun r => []
abbrev spec_StoreOk.A := Bool
def spec_StoreOk.v : spec_StoreOk.A → PV U := fun r => .bool r
def spec_StoreOk.o : spec_StoreOk.A → List (PV U) := fun r => []
abbrev spec_SpanOk.A := Bool
def spec_SpanOk.v : spec_SpanOk.A → PV U := fun r => .bool r
def spec_SpanOk.o : spec_SpanOk.A → List (PV U) := fun r => []
abbrev spec_MemSent.A := (List Int)
def spec_MemSent.v : spec_MemSent.A → PV U := fun r => .own true 3 r
def spec_MemSent.o : spec_MemSent.A → List (PV U) := fun r => []
abbrev spec_IsPrefixOf.A := Bool
def spec_IsPrefixOf.v : spec_IsPrefixOf.A → PV U := fun r => .bool r
def spec_IsPrefixOf.o : spec_IsPrefixOf.A → List (PV U) := fun r => []
abbrev spec_LinkOk.A := Bool
def spec_LinkOk.v : spec_LinkOk.A → PV U := fun r => .bool r
def spec_LinkOk.o : spec_LinkOk.A → List (PV U) := fun r => []
abbrev spec_NodeOk.A := Bool
def spec_NodeOk.v : spec_NodeOk.A → PV U := fun r => .bool r
def spec_NodeOk.o : spec_NodeOk.A → List (PV U) := fun r => []
abbrev spec_l01Figure.A := Int
def spec_l01Figure.v : spec_l01Figure.A → PV U := fun r => .int .u8 r
def spec_l01Figure.o : spec_l01Figure.A → List (PV U) := fun r => []
abbrev spec_FormatInt.A := ByteArray
def spec_FormatInt.v : spec_FormatInt.A → PV U := fun r => .str r
def spec_FormatInt.o : spec_FormatInt.A → List (PV U) := fun r => []
abbrev spec_FormatNode.A := (List ByteArray)
def spec_FormatNode.v : spec_FormatNode.A → PV U := fun r => .own true 9 r
def spec_FormatNode.o : spec_FormatNode.A → List (PV U) := fun r => []
abbrev impl_within.A := Bool
def impl_within.v : impl_within.A → PV U := fun r => .bool r
def impl_within.o : impl_within.A → List (PV U) := fun r => []
abbrev impl_hasVar.A := Bool
def impl_hasVar.v : impl_hasVar.A → PV U := fun r => .bool r
def impl_hasVar.o : impl_hasVar.A → List (PV U) := fun r => []
abbrev impl_isVar.A := Bool
def impl_isVar.v : impl_isVar.A → PV U := fun r => .bool r
def impl_isVar.o : impl_isVar.A → List (PV U) := fun r => []
abbrev impl_hasExpr.A := Bool
def impl_hasExpr.v : impl_hasExpr.A → PV U := fun r => .bool r
def impl_hasExpr.o : impl_hasExpr.A → List (PV U) := fun r => []
abbrev impl_OperandOk.A := Bool
def impl_OperandOk.v : impl_OperandOk.A → PV U := fun r => .bool r
def impl_OperandOk.o : impl_OperandOk.A → List (PV U) := fun r => []
abbrev impl_ExprOk.A := Bool
def impl_ExprOk.v : impl_ExprOk.A → PV U := fun r => .bool r
def impl_ExprOk.o : impl_ExprOk.A → List (PV U) := fun r => []
abbrev impl_isSensor.A := Bool
def impl_isSensor.v : impl_isSensor.A → PV U := fun r => .bool r
def impl_isSensor.o : impl_isSensor.A → List (PV U) := fun r => []
abbrev impl_StmtOk.A := Bool
def impl_StmtOk.v : impl_StmtOk.A → PV U := fun r => .bool r
def impl_StmtOk.o : impl_StmtOk.A → List (PV U) := fun r => []
abbrev impl_isOpening.A := Bool
def impl_isOpening.v : impl_isOpening.A → PV U := fun r => .bool r
def impl_isOpening.o : impl_isOpening.A → List (PV U) := fun r => []
abbrev impl_BlockOk.A := Bool
def impl_BlockOk.v : impl_BlockOk.A → PV U := fun r => .bool r
def impl_BlockOk.o : impl_BlockOk.A → List (PV U) := fun r => []
abbrev impl_taskOk.A := Bool
def impl_taskOk.v : impl_taskOk.A → PV U := fun r => .bool r
def impl_taskOk.o : impl_taskOk.A → List (PV U) := fun r => []
abbrev impl_ProgramOk_1.A := Bool
def impl_ProgramOk_1.v : impl_ProgramOk_1.A → PV U := fun r => .bool r
def impl_ProgramOk_1.o : impl_ProgramOk_1.A → List (PV U) := fun r => []
abbrev slices_IndexFunc_impl_Task_ProgramOk_1.A := Int
def slices_IndexFunc_impl_Task_ProgramOk_1.v : slices_IndexFunc_impl_Task_ProgramOk_1.A → PV U := fun r => .int .i64 r
def slices_IndexFunc_impl_Task_ProgramOk_1.o : slices_IndexFunc_impl_Task_ProgramOk_1.A → List (PV U) := fun r => []
abbrev slices_ContainsFunc_impl_Task_ProgramOk_1.A := Bool
def slices_ContainsFunc_impl_Task_ProgramOk_1.v : slices_ContainsFunc_impl_Task_ProgramOk_1.A → PV U := fun r => .bool r
def slices_ContainsFunc_impl_Task_ProgramOk_1.o : slices_ContainsFunc_impl_Task_ProgramOk_1.A → List (PV U) := fun r => []
abbrev impl_ProgramOk.A := Bool
def impl_ProgramOk.v : impl_ProgramOk.A → PV U := fun r => .bool r
def impl_ProgramOk.o : impl_ProgramOk.A → List (PV U) := fun r => []
abbrev impl_IsValue.A := Bool
def impl_IsValue.v : impl_IsValue.A → PV U := fun r => .bool r
def impl_IsValue.o : impl_IsValue.A → List (PV U) := fun r => []
abbrev impl_areValues_1.A := Bool
def impl_areValues_1.v : impl_areValues_1.A → PV U := fun r => .bool r
def impl_areValues_1.o : impl_areValues_1.A → List (PV U) := fun r => []
abbrev slices_IndexFunc_int_areValues_1.A := Int
def slices_IndexFunc_int_areValues_1.v : slices_IndexFunc_int_areValues_1.A → PV U := fun r => .int .i64 r
def slices_IndexFunc_int_areValues_1.o : slices_IndexFunc_int_areValues_1.A → List (PV U) := fun r => []
abbrev slices_ContainsFunc_int_areValues_1.A := Bool
def slices_ContainsFunc_int_areValues_1.v : slices_ContainsFunc_int_areValues_1.A → PV U := fun r => .bool r
def slices_ContainsFunc_int_areValues_1.o : slices_ContainsFunc_int_areValues_1.A → List (PV U) := fun r => []
abbrev impl_areValues.A := Bool
def impl_areValues.v : impl_areValues.A → PV U := fun r => .bool r
def impl_areValues.o : impl_areValues.A → List (PV U) := fun r => []
abbrev impl_PackControl.A := Int
def impl_PackControl.v : impl_PackControl.A → PV U := fun r => .int .i64 r
def impl_PackControl.o : impl_PackControl.A → List (PV U) := fun r => []
abbrev impl_UnpackControl.A := Int × Int × Int
def impl_UnpackControl.v : impl_UnpackControl.A → PV U := fun r => .tup [.int .i64 r.1, .int .i64 r.2.1, .int .i64 r.2.2]
def impl_UnpackControl.o : impl_UnpackControl.A → List (PV U) := fun r => []
abbrev impl_MemOk.A := Bool
def impl_MemOk.v : impl_MemOk.A → PV U := fun r => .bool r
def impl_MemOk.o : impl_MemOk.A → List (PV U) := fun r => []
abbrev impl_StoreOk.A := Bool
def impl_StoreOk.v : impl_StoreOk.A → PV U := fun r => .bool r
def impl_StoreOk.o : impl_StoreOk.A → List (PV U) := fun r => []
abbrev impl_SpanOk.A := Bool
def impl_SpanOk.v : impl_SpanOk.A → PV U := fun r => .bool r
def impl_SpanOk.o : impl_SpanOk.A → List (PV U) := fun r => []
abbrev slices_Clone_int.A := (List Int)
def slices_Clone_int.v : slices_Clone_int.A → PV U := fun r => .own true 3 r
def slices_Clone_int.o : slices_Clone_int.A → List (PV U) := fun r => []
abbrev impl_MemSent.A := (List Int)
def impl_MemSent.v : impl_MemSent.A → PV U := fun r => .own true 3 r
def impl_MemSent.o : impl_MemSent.A → List (PV U) := fun r => []
abbrev slices_Equal_int.A := Bool
def slices_Equal_int.v : slices_Equal_int.A → PV U := fun r => .bool r
def slices_Equal_int.o : slices_Equal_int.A → List (PV U) := fun r => []
abbrev impl_IsPrefixOf.A := Bool
def impl_IsPrefixOf.v : impl_IsPrefixOf.A → PV U := fun r => .bool r
def impl_IsPrefixOf.o : impl_IsPrefixOf.A → List (PV U) := fun r => []
abbrev impl_LinkOk.A := Bool
def impl_LinkOk.v : impl_LinkOk.A → PV U := fun r => .bool r
def impl_LinkOk.o : impl_LinkOk.A → List (PV U) := fun r => []
abbrev impl_NodeOk.A := Bool
def impl_NodeOk.v : impl_NodeOk.A → PV U := fun r => .bool r
def impl_NodeOk.o : impl_NodeOk.A → List (PV U) := fun r => []
abbrev strconv_Itoa.A := ByteArray
def strconv_Itoa.v : strconv_Itoa.A → PV U := fun r => .str r
def strconv_Itoa.o : strconv_Itoa.A → List (PV U) := fun r => []
abbrev impl_FormatInt.A := ByteArray
def impl_FormatInt.v : impl_FormatInt.A → PV U := fun r => .str r
def impl_FormatInt.o : impl_FormatInt.A → List (PV U) := fun r => []
abbrev impl_spaced.A := ByteArray
def impl_spaced.v : impl_spaced.A → PV U := fun r => .str r
def impl_spaced.o : impl_spaced.A → List (PV U) := fun r => []
abbrev impl_SentBy.A := (List Int)
def impl_SentBy.v : impl_SentBy.A → PV U := fun r => .own true 3 r
def impl_SentBy.o : impl_SentBy.A → List (PV U) := fun r => []
abbrev impl_FormatNode.A := (List ByteArray)
def impl_FormatNode.v : impl_FormatNode.A → PV U := fun r => .own true 9 r
def impl_FormatNode.o : impl_FormatNode.A → List (PV U) := fun r => []
abbrev laws_eqStringS.A := Bool
def laws_eqStringS.v : laws_eqStringS.A → PV U := fun r => .bool r
def laws_eqStringS.o : laws_eqStringS.A → List (PV U) := fun r => []
abbrev laws_eqExpr.A := Bool
def laws_eqExpr.v : laws_eqExpr.A → PV U := fun r => .bool r
def laws_eqExpr.o : laws_eqExpr.A → List (PV U) := fun r => []
abbrev laws_eqStmt.A := Bool
def laws_eqStmt.v : laws_eqStmt.A → PV U := fun r => .bool r
def laws_eqStmt.o : laws_eqStmt.A → List (PV U) := fun r => []
abbrev laws_eqStmtS.A := Bool
def laws_eqStmtS.v : laws_eqStmtS.A → PV U := fun r => .bool r
def laws_eqStmtS.o : laws_eqStmtS.A → List (PV U) := fun r => []
abbrev laws_eqTask.A := Bool
def laws_eqTask.v : laws_eqTask.A → PV U := fun r => .bool r
def laws_eqTask.o : laws_eqTask.A → List (PV U) := fun r => []
abbrev laws_eqTaskS.A := Bool
def laws_eqTaskS.v : laws_eqTaskS.A → PV U := fun r => .bool r
def laws_eqTaskS.o : laws_eqTaskS.A → List (PV U) := fun r => []
abbrev laws_eqProgram.A := Bool
def laws_eqProgram.v : laws_eqProgram.A → PV U := fun r => .bool r
def laws_eqProgram.o : laws_eqProgram.A → List (PV U) := fun r => []
abbrev laws_eqIntS.A := Bool
def laws_eqIntS.v : laws_eqIntS.A → PV U := fun r => .bool r
def laws_eqIntS.o : laws_eqIntS.A → List (PV U) := fun r => []
abbrev laws_eqStore.A := Bool
def laws_eqStore.v : laws_eqStore.A → PV U := fun r => .bool r
def laws_eqStore.o : laws_eqStore.A → List (PV U) := fun r => []
abbrev laws_eqSpan.A := Bool
def laws_eqSpan.v : laws_eqSpan.A → PV U := fun r => .bool r
def laws_eqSpan.o : laws_eqSpan.A → List (PV U) := fun r => []
abbrev laws_eqGateway.A := Bool
def laws_eqGateway.v : laws_eqGateway.A → PV U := fun r => .bool r
def laws_eqGateway.o : laws_eqGateway.A → List (PV U) := fun r => []
abbrev laws_eqLink.A := Bool
def laws_eqLink.v : laws_eqLink.A → PV U := fun r => .bool r
def laws_eqLink.o : laws_eqLink.A → List (PV U) := fun r => []
abbrev laws_eqNode.A := Bool
def laws_eqNode.v : laws_eqNode.A → PV U := fun r => .bool r
def laws_eqNode.o : laws_eqNode.A → List (PV U) := fun r => []
abbrev laws_markStmtS.A := Int × (List S121)
def laws_markStmtS.v : laws_markStmtS.A → PV U := fun r => .int .i64 r.1
def laws_markStmtS.o : laws_markStmtS.A → List (PV U) := fun r => [.own true 122 r.2]
abbrev laws_markTaskS.A := Int × (List S87)
def laws_markTaskS.v : laws_markTaskS.A → PV U := fun r => .int .i64 r.1
def laws_markTaskS.o : laws_markTaskS.A → List (PV U) := fun r => [.own true 88 r.2]
abbrev laws_markProgram.A := Int × (List S87)
def laws_markProgram.v : laws_markProgram.A → PV U := fun r => .int .i64 r.1
def laws_markProgram.o : laws_markProgram.A → List (PV U) := fun r => [.own true 88 r.2]
abbrev laws_markIntS.A := Int × (List Int)
def laws_markIntS.v : laws_markIntS.A → PV U := fun r => .int .i64 r.1
def laws_markIntS.o : laws_markIntS.A → List (PV U) := fun r => [.own true 3 r.2]
abbrev laws_markGateway.A := Int × (List Int)
def laws_markGateway.v : laws_markGateway.A → PV U := fun r => .int .i64 r.1
def laws_markGateway.o : laws_markGateway.A → List (PV U) := fun r => [.own true 3 r.2]
abbrev laws_markLink.A := Int × (List Int)
def laws_markLink.v : laws_markLink.A → PV U := fun r => .int .i64 r.1
def laws_markLink.o : laws_markLink.A → List (PV U) := fun r => [.own true 3 r.2]
abbrev laws_markNode.A := Int × (List S87) × (List Int) × (List Int) × (List Int)
def laws_markNode.v : laws_markNode.A → PV U := fun r => .int .i64 r.1
def laws_markNode.o : laws_markNode.A → List (PV U) := fun r => [.own true 88 r.2.1, .own true 3 r.2.2.1, .own true 3 r.2.2.2.1, .own true 3 r.2.2.2.2]
abbrev laws_markText.A := ByteArray
def laws_markText.v : laws_markText.A → PV U := fun r => .str r
def laws_markText.o : laws_markText.A → List (PV U) := fun r => []
abbrev laws_markStringS.A := Int × (List ByteArray)
def laws_markStringS.v : laws_markStringS.A → PV U := fun r => .int .i64 r.1
def laws_markStringS.o : laws_markStringS.A → List (PV U) := fun r => [.own true 9 r.2]
abbrev laws_heldStringS.A := Int
def laws_heldStringS.v : laws_heldStringS.A → PV U := fun r => .int .i64 r
def laws_heldStringS.o : laws_heldStringS.A → List (PV U) := fun r => []
abbrev laws_FnExactFormatNode.A := Bool
def laws_FnExactFormatNode.v : laws_FnExactFormatNode.A → PV U := fun r => .bool r
def laws_FnExactFormatNode.o : laws_FnExactFormatNode.A → List (PV U) := fun r => []
def retTab : List (Nat × Ret C) := [(111, ⟨laws_szStmtS.A, laws_szStmtS.v, laws_szStmtS.o⟩), (88, ⟨laws_szTask.A, laws_szTask.v, laws_szTask.o⟩), (52, ⟨laws_szTaskS.A, laws_szTaskS.v, laws_szTaskS.o⟩), (21, ⟨laws_szProgram.A, laws_szProgram.v, laws_szProgram.o⟩), (22, ⟨laws_szIntS.A, laws_szIntS.v, laws_szIntS.o⟩), (53, ⟨laws_szGateway.A, laws_szGateway.v, laws_szGateway.o⟩), (23, ⟨laws_szLink.A, laws_szLink.v, laws_szLink.o⟩), (5, ⟨laws_szNode.A, laws_szNode.v, laws_szNode.o⟩), (115, ⟨laws_toExpr.A, laws_toExpr.v, laws_toExpr.o⟩), (137, ⟨laws_toStmt.A, laws_toStmt.v, laws_toStmt.o⟩), (114, ⟨laws_toStmtS.A, laws_toStmtS.v, laws_toStmtS.o⟩), (93, ⟨laws_toTask.A, laws_toTask.v, laws_toTask.o⟩), (62, ⟨laws_toTaskS.A, laws_toTaskS.v, laws_toTaskS.o⟩), (27, ⟨laws_toProgram.A, laws_toProgram.v, laws_toProgram.o⟩), (28, ⟨laws_toIntS.A, laws_toIntS.v, laws_toIntS.o⟩), (29, ⟨laws_toStore.A, laws_toStore.v, laws_toStore.o⟩), (30, ⟨laws_toSpan.A, laws_toSpan.v, laws_toSpan.o⟩), (63, ⟨laws_toGateway.A, laws_toGateway.v, laws_toGateway.o⟩), (31, ⟨laws_toLink.A, laws_toLink.v, laws_toLink.o⟩), (7, ⟨laws_toNode.A, laws_toNode.v, laws_toNode.o⟩), (156, ⟨spec_l04Plain.A, spec_l04Plain.v, spec_l04Plain.o⟩), (57, ⟨spec_l01In.A, spec_l01In.v, spec_l01In.o⟩), (136, ⟨spec_OperandOk.A, spec_OperandOk.v, spec_OperandOk.o⟩), (113, ⟨spec_ExprOk.A, spec_ExprOk.v, spec_ExprOk.o⟩), (135, ⟨spec_StmtOk.A, spec_StmtOk.v, spec_StmtOk.o⟩), (112, ⟨spec_BlockOk.A, spec_BlockOk.v, spec_BlockOk.o⟩), (89, ⟨spec_ProgramOk.A, spec_ProgramOk.v, spec_ProgramOk.o⟩), (60, ⟨spec_PackControl.A, spec_PackControl.v, spec_PackControl.o⟩), (25, ⟨spec_UnpackControl.A, spec_UnpackControl.v, spec_UnpackControl.o⟩), (90, ⟨spec_IsValue.A, spec_IsValue.v, spec_IsValue.o⟩), (56, ⟨spec_l09Values.A, spec_l09Values.v, spec_l09Values.o⟩), (54, ⟨spec_MemOk.A, spec_MemOk.v, spec_MemOk.o⟩), (55, ⟨spec_StoreOk.A, spec_StoreOk.v, spec_StoreOk.o⟩), (58, ⟨spec_SpanOk.A, spec_SpanOk.v, spec_SpanOk.o⟩), (92, ⟨spec_MemSent.A, spec_MemSent.v, spec_MemSent.o⟩), (91, ⟨spec_IsPrefixOf.A, spec_IsPrefixOf.v, spec_IsPrefixOf.o⟩), (59, ⟨spec_LinkOk.A, spec_LinkOk.v, spec_LinkOk.o⟩), (24, ⟨spec_NodeOk.A, spec_NodeOk.v, spec_NodeOk.o⟩), (61, ⟨spec_l01Figure.A, spec_l01Figure.v, spec_l01Figure.o⟩), (26, ⟨spec_FormatInt.A, spec_FormatInt.v, spec_FormatInt.o⟩), (6, ⟨spec_FormatNode.A, spec_FormatNode.v, spec_FormatNode.o⟩), (67, ⟨impl_within.A, impl_within.v, impl_within.o⟩), (168, ⟨impl_hasVar.A, impl_hasVar.v, impl_hasVar.o⟩), (95, ⟨impl_isVar.A, impl_isVar.v, impl_isVar.o⟩), (169, ⟨impl_hasExpr.A, impl_hasExpr.v, impl_hasExpr.o⟩), (159, ⟨impl_OperandOk.A, impl_OperandOk.v, impl_OperandOk.o⟩), (140, ⟨impl_ExprOk.A, impl_ExprOk.v, impl_ExprOk.o⟩), (170, ⟨impl_isSensor.A, impl_isSensor.v, impl_isSensor.o⟩), (157, ⟨impl_StmtOk.A, impl_StmtOk.v, impl_StmtOk.o⟩), (158, ⟨impl_isOpening.A, impl_isOpening.v, impl_isOpening.o⟩), (139, ⟨impl_BlockOk.A, impl_BlockOk.v, impl_BlockOk.o⟩), (118, ⟨impl_taskOk.A, impl_taskOk.v, impl_taskOk.o⟩), (117, ⟨impl_ProgramOk_1.A, impl_ProgramOk_1.v, impl_ProgramOk_1.o⟩), (138, ⟨slices_IndexFunc_impl_Task_ProgramOk_1.A, slices_IndexFunc_impl_Task_ProgramOk_1.v, slices_IndexFunc_impl_Task_ProgramOk_1.o⟩), (116, ⟨slices_ContainsFunc_impl_Task_ProgramOk_1.A, slices_ContainsFunc_impl_Task_ProgramOk_1.v, slices_ContainsFunc_impl_Task_ProgramOk_1.o⟩), (94, ⟨impl_ProgramOk.A, impl_ProgramOk.v, impl_ProgramOk.o⟩), (96, ⟨impl_IsValue.A, impl_IsValue.v, impl_IsValue.o⟩), (98, ⟨impl_areValues_1.A, impl_areValues_1.v, impl_areValues_1.o⟩), (119, ⟨slices_IndexFunc_int_areValues_1.A, slices_IndexFunc_int_areValues_1.v, slices_IndexFunc_int_areValues_1.o⟩), (97, ⟨slices_ContainsFunc_int_areValues_1.A, slices_ContainsFunc_int_areValues_1.v, slices_ContainsFunc_int_areValues_1.o⟩), (66, ⟨impl_areValues.A, impl_areValues.v, impl_areValues.o⟩), (70, ⟨impl_PackControl.A, impl_PackControl.v, impl_PackControl.o⟩), (33, ⟨impl_UnpackControl.A, impl_UnpackControl.v, impl_UnpackControl.o⟩), (64, ⟨impl_MemOk.A, impl_MemOk.v, impl_MemOk.o⟩), (65, ⟨impl_StoreOk.A, impl_StoreOk.v, impl_StoreOk.o⟩), (68, ⟨impl_SpanOk.A, impl_SpanOk.v, impl_SpanOk.o⟩), (51, ⟨slices_Clone_int.A, slices_Clone_int.v, slices_Clone_int.o⟩), (47, ⟨impl_MemSent.A, impl_MemSent.v, impl_MemSent.o⟩), (50, ⟨slices_Equal_int.A, slices_Equal_int.v, slices_Equal_int.o⟩), (99, ⟨impl_IsPrefixOf.A, impl_IsPrefixOf.v, impl_IsPrefixOf.o⟩), (69, ⟨impl_LinkOk.A, impl_LinkOk.v, impl_LinkOk.o⟩), (32, ⟨impl_NodeOk.A, impl_NodeOk.v, impl_NodeOk.o⟩), (46, ⟨strconv_Itoa.A, strconv_Itoa.v, strconv_Itoa.o⟩), (16, ⟨impl_FormatInt.A, impl_FormatInt.v, impl_FormatInt.o⟩), (34, ⟨impl_spaced.A, impl_spaced.v, impl_spaced.o⟩), (17, ⟨impl_SentBy.A, impl_SentBy.v, impl_SentBy.o⟩), (8, ⟨impl_FormatNode.A, impl_FormatNode.v, impl_FormatNode.o⟩), (9, ⟨laws_eqStringS.A, laws_eqStringS.v, laws_eqStringS.o⟩), (121, ⟨laws_eqExpr.A, laws_eqExpr.v, laws_eqExpr.o⟩), (141, ⟨laws_eqStmt.A, laws_eqStmt.v, laws_eqStmt.o⟩), (120, ⟨laws_eqStmtS.A, laws_eqStmtS.v, laws_eqStmtS.o⟩), (100, ⟨laws_eqTask.A, laws_eqTask.v, laws_eqTask.o⟩), (71, ⟨laws_eqTaskS.A, laws_eqTaskS.v, laws_eqTaskS.o⟩), (35, ⟨laws_eqProgram.A, laws_eqProgram.v, laws_eqProgram.o⟩), (36, ⟨laws_eqIntS.A, laws_eqIntS.v, laws_eqIntS.o⟩), (37, ⟨laws_eqStore.A, laws_eqStore.v, laws_eqStore.o⟩), (38, ⟨laws_eqSpan.A, laws_eqSpan.v, laws_eqSpan.o⟩), (72, ⟨laws_eqGateway.A, laws_eqGateway.v, laws_eqGateway.o⟩), (39, ⟨laws_eqLink.A, laws_eqLink.v, laws_eqLink.o⟩), (10, ⟨laws_eqNode.A, laws_eqNode.v, laws_eqNode.o⟩), (101, ⟨laws_markStmtS.A, laws_markStmtS.v, laws_markStmtS.o⟩), (73, ⟨laws_markTaskS.A, laws_markTaskS.v, laws_markTaskS.o⟩), (40, ⟨laws_markProgram.A, laws_markProgram.v, laws_markProgram.o⟩), (41, ⟨laws_markIntS.A, laws_markIntS.v, laws_markIntS.o⟩), (74, ⟨laws_markGateway.A, laws_markGateway.v, laws_markGateway.o⟩), (42, ⟨laws_markLink.A, laws_markLink.v, laws_markLink.o⟩), (11, ⟨laws_markNode.A, laws_markNode.v, laws_markNode.o⟩), (43, ⟨laws_markText.A, laws_markText.v, laws_markText.o⟩), (12, ⟨laws_markStringS.A, laws_markStringS.v, laws_markStringS.o⟩), (13, ⟨laws_heldStringS.A, laws_heldStringS.v, laws_heldStringS.o⟩), (3, ⟨laws_FnExactFormatNode.A, laws_FnExactFormatNode.v, laws_FnExactFormatNode.o⟩)]
def ntTab : List (Nat × Nat) := [(111, 12), (88, 12), (52, 27), (21, 12), (22, 12), (53, 12), (23, 12), (5, 30), (115, 14), (137, 18), (114, 23), (93, 13), (62, 23), (27, 9), (28, 22), (29, 17), (30, 11), (63, 9), (31, 12), (7, 35), (156, 37), (57, 15), (136, 5), (113, 16), (135, 43), (112, 41), (89, 33), (60, 27), (25, 30), (90, 5), (56, 16), (54, 72), (55, 25), (58, 18), (92, 27), (91, 27), (59, 20), (24, 40), (61, 12), (26, 30), (6, 58), (67, 15), (168, 9), (95, 5), (169, 13), (159, 5), (140, 16), (170, 5), (157, 65), (158, 9), (139, 39), (118, 11), (117, 6), (138, 19), (116, 9), (94, 13), (96, 5), (98, 6), (119, 19), (97, 9), (66, 6), (70, 27), (33, 28), (64, 72), (65, 25), (68, 18), (51, 8), (47, 24), (50, 26), (99, 18), (69, 20), (32, 40), (46, 1), (16, 5), (34, 22), (17, 9), (8, 59), (9, 26), (121, 20), (141, 26), (120, 27), (100, 17), (71, 27), (35, 11), (36, 26), (37, 25), (38, 15), (72, 11), (39, 16), (10, 51), (101, 58), (73, 44), (40, 10), (41, 19), (74, 10), (42, 10), (11, 22), (43, 20), (12, 20), (13, 22), (3, 69)]
def modeTab : List (Nat × YtpndhhellhfegaaGreatDoorEv.Mode) := [(101, .edit), (73, .edit), (40, .edit), (41, .edit), (74, .edit), (42, .edit), (11, .edit), (43, .edit), (12, .edit)]
def PL : Plan C := ⟨fun f => lookup f retTab, fun f => (lookup f ntTab).getD 0, fun f => (lookup f modeTab).getD YtpndhhellhfegaaGreatDoorEv.Mode.read, [], [], []⟩
def noTree {A : Type} : Empty → Tr Empty A := fun _ => .fail
theorem sdCut {R : Type} (v : R → PV U) (o : R → List (PV U)) {Q : Plan C} {f : FuncId} {fn : Func} {c : Code} (hf : Pg.funcs[f]? = some fn) (hb : fn.body = some c) (hok : fnOk Q fn c = true) {S0 : List (PV U)} {no : Nat} (hl : S0.length = fn.ntmps + no) {X : Type} {id : X → Nat} {st : X → List (PV U)} (hno : ∀ r, (o r).length = no) {tr : X → Tr X R} (he : CutEq Pg C Q fn no id st v o tr) {bg : Tr X R} (hbg : BegEq Pg C Q fn no id st v o S0 bg) {r : R} (h : bg.run (lp tr) = some r) : SoundCall Pg C f S0 no (v r) (o r) := soundCall_of_tree G mixed Q hf hb hok hl id st v o hno tr he bg hbg h
theorem sdFlat {R : Type} (v : R → PV U) (o : R → List (PV U)) {Q : Plan C} {f : FuncId} {fn : Func} {c : Code} (hf : Pg.funcs[f]? = some fn) (hb : fn.body = some c) (hok : fnOk Q fn c = true) {S0 : List (PV U)} {no : Nat} (hl : S0.length = fn.ntmps + no) (hno : ∀ r, (o r).length = no) {bg : Tr Empty R} (hbg : BegEq Pg C Q fn no (fun _ => 0) (fun _ => []) v o S0 bg) {r : R} (h : bg.run (lp noTree) = some r) : SoundCall Pg C f S0 no (v r) (o r) := sdCut v o hf hb hok hl hno (fun _ _ x => x.elim) hbg h
end
end Go.Proofs.YtpndhhellhfegaaGreatDoor.Ev
