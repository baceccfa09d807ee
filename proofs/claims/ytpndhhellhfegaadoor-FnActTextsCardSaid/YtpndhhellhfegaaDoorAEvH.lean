/- The program's types for the evaluator, looked up, and the table of calls. No conditions. -/
import Derived.Test.YtpndhhellhfegaaDoorLibC
import Derived.WalkKit
import Derived.Test.YtpndhhellhfegaaDoorProg
import Derived.Test.YtpndhhellhfegaaDoorShelf
import Derived.Test.YtpndhhellhfegaaDoorText
import Derived.Lib.SmallJoins
import Derived.Lib.AppendIntMem
namespace Go.Proofs.YtpndhhellhfegaaDoor.Ev
open Go.Proofs.YtpndhhellhfegaaDoorEv Go.RowKit
set_option linter.unusedVariables false
set_option maxRecDepth 100000
noncomputable section
structure S43 where
 f0 : Int
 f1 : Int
 f2 : Int
def z43 : S43 := ⟨(0 : Int), (0 : Int), (0 : Int)⟩
structure S72 where
 f0 : Int
 f1 : Int
 f2 : Int
def z72 : S72 := ⟨(0 : Int), (0 : Int), (0 : Int)⟩
structure S115 where
 f0 : Int
 f1 : Int
 f2 : Int
 f3 : S72
def z115 : S115 := ⟨(0 : Int), (0 : Int), (0 : Int), z72⟩
structure S75 where
 f0 : List S115
 f1 : S72
def z75 : S75 := ⟨([] : List S115), z72⟩
abbrev wr (n : Int) : Int := IntKind.wrap .i64 n
abbrev rdI (xs : List Int) (i : Int) : Int := xs.getD i.toNat (0 : Int)
abbrev rdY (xs : List ByteArray) (i : Int) : ByteArray := xs.getD i.toNat ByteArray.empty
abbrev rdS43 (xs : List S43) (i : Int) : S43 := xs.getD i.toNat z43
abbrev rdS115 (xs : List S115) (i : Int) : S115 := xs.getD i.toNat z115
abbrev rdS75 (xs : List S75) (i : Int) : S75 := xs.getD i.toNat z75
def elTab : List (Nat × (Σ T : Type, T)) := [
 (3, ⟨Int, (0 : Int)⟩),
 (5, ⟨Int, (0 : Int)⟩),
 (9, ⟨ByteArray, ByteArray.empty⟩),
 (44, ⟨S43, z43⟩),
 (116, ⟨S115, z115⟩),
 (76, ⟨S75, z75⟩)]
def U : Uni := ⟨fun e => (elAt elTab e).1, fun e => (elAt elTab e).2⟩
def elE : List (Σ e, ElE U e) := [
 ⟨3, ⟨fun (x : Int) => .int .i64 x, fun v => (match v with | .int .i64 y1 => some (y1 : Int) | _ => none : Option Int)⟩⟩,
 ⟨5, ⟨fun (x : Int) => .int .u8 x, fun v => (match v with | .int .u8 y1 => some (y1 : Int) | _ => none : Option Int)⟩⟩,
 ⟨9, ⟨fun (x : ByteArray) => .str x, fun v => (match v with | .str y1 => some (y1 : ByteArray) | _ => none : Option ByteArray)⟩⟩,
 ⟨44, ⟨fun (x : S43) => .agg [.int .i64 x.f0, .int .i64 x.f1, .int .i64 x.f2], fun v => (match v with | .agg [.int .i64 y1, .int .i64 y2, .int .i64 y3] => some ((⟨y1, y2, y3⟩ : S43) : S43) | _ => none : Option S43)⟩⟩,
 ⟨116, ⟨fun (x : S115) => .agg [.int .i64 x.f0, .int .i64 x.f1, .int .i64 x.f2, .int .i64 x.f3.f0, .int .i64 x.f3.f1, .int .i64 x.f3.f2], fun v => (match v with | .agg [.int .i64 y1, .int .i64 y2, .int .i64 y3, .int .i64 y4, .int .i64 y5, .int .i64 y6] => some ((⟨y1, y2, y3, (⟨y4, y5, y6⟩ : S72)⟩ : S115) : S115) | _ => none : Option S115)⟩⟩,
 ⟨76, ⟨fun (x : S75) => .agg [.sl 116 x.f0, .int .i64 x.f1.f0, .int .i64 x.f1.f1, .int .i64 x.f1.f2], fun v => (match v with | .agg [.sl 116 y1, .int .i64 y2, .int .i64 y3, .int .i64 y4] => some ((⟨y1, (⟨y2, y3, y4⟩ : S72)⟩ : S75) : S75) | _ => none : Option S75)⟩⟩]
def tyTab : List (Nat × Ty U) := [
 (3, .int .i64),
 (4, .bool),
 (5, .int .u8),
 (9, .str),
 (22, .slice 5),
 (24, .slice 76),
 (26, .struct [(0, 24)] [.own true 76 ([] : List S75)]),
 (27, .slice 3),
 (29, .struct [(0, 3), (1, 3), (2, 3), (3, 3)] [.int .i64 (0 : Int), .int .i64 (0 : Int), .int .i64 (0 : Int), .int .i64 (0 : Int)]),
 (31, .struct [(0, 3), (1, 3)] [.int .i64 (0 : Int), .int .i64 (0 : Int)]),
 (33, .struct [(0, 27)] [.own true 3 ([] : List Int)]),
 (35, .struct [(0, 3), (1, 33)] [.int .i64 (0 : Int), .own true 3 ([] : List Int)]),
 (37, .struct [(0, 26), (1, 27), (2, 27), (3, 3), (4, 29), (8, 31), (10, 35), (12, 3)] [.own true 76 ([] : List S75), .own true 3 ([] : List Int), .own true 3 ([] : List Int), .int .i64 (0 : Int), .int .i64 (0 : Int), .int .i64 (0 : Int), .int .i64 (0 : Int), .int .i64 (0 : Int), .int .i64 (0 : Int), .int .i64 (0 : Int), .int .i64 (0 : Int), .own true 3 ([] : List Int), .int .i64 (0 : Int)]),
 (38, .slice 44),
 (44, .struct [(0, 3), (1, 3), (2, 3)] [.int .i64 (0 : Int), .int .i64 (0 : Int), .int .i64 (0 : Int)]),
 (47, .ptr),
 (57, .slice 9),
 (68, .struct [(0, 22), (1, 3), (2, 3)] [.own true 5 ([] : List Int), .int .i64 (0 : Int), .int .i64 (0 : Int)]),
 (70, .slice 116),
 (73, .struct [(0, 3), (1, 3), (2, 3)] [.int .i64 (0 : Int), .int .i64 (0 : Int), .int .i64 (0 : Int)]),
 (76, .struct [(0, 70), (1, 73)] [.own true 116 ([] : List S115), .int .i64 (0 : Int), .int .i64 (0 : Int), .int .i64 (0 : Int)]),
 (113, .int .u64),
 (116, .struct [(0, 3), (1, 3), (2, 3), (3, 73)] [.int .i64 (0 : Int), .int .i64 (0 : Int), .int .i64 (0 : Int), .int .i64 (0 : Int), .int .i64 (0 : Int), .int .i64 (0 : Int)])]
def bytesTab : List (Nat × Nat) := [(3, 8), (5, 1), (9, 16), (44, 24), (116, 48), (76, 48)]
def eqTab : List (Nat × Nat) := [(44, 3), (116, 6)]
/-- What the library's tables and errors hold. -/
structure TabW (w : World) : Prop where
  pow : Lib.TabIs Tryd.prog w "internal/strconv.uint64pow10" .u64 Lib.pow10Tab
  space : Lib.TabIs Tryd.prog w "strings.asciiSpace" .u8 Lib.asciiSpaceTab
  syn : ∃ tp p, w.var? Tryd.prog "strconv.ErrSyntax" = some #[.iface tp p]
  rng : ∃ tp p, w.var? Tryd.prog "strconv.ErrRange" = some #[.iface tp p]
theorem tabSame (w w' : World) (h : TabW w) (hw : ∀ g, g ∈ [5, 0, 2, 3] → w'.heap[g]? = w.heap[g]?) : TabW w' := ⟨(var_same (P := Tryd.prog) (n := "internal/strconv.uint64pow10") (g := 5) (by kernel_rfl) (hw 5 (by simp))).trans h.pow, (var_same (P := Tryd.prog) (n := "strings.asciiSpace") (g := 0) (by kernel_rfl) (hw 0 (by simp))).trans h.space, (by obtain ⟨tp, p, e⟩ := h.syn; exact ⟨tp, p, (var_same (P := Tryd.prog) (n := "strconv.ErrSyntax") (g := 2) (by kernel_rfl) (hw 2 (by simp))).trans e⟩), (by obtain ⟨tp, p, e⟩ := h.rng; exact ⟨tp, p, (var_same (P := Tryd.prog) (n := "strconv.ErrRange") (g := 3) (by kernel_rfl) (hw 3 (by simp))).trans e⟩)⟩
theorem tabLt (w : World) (h : TabW w) (g : Nat) (hg : g ∈ [5, 0, 2, 3]) : g < w.heap.size := by
  simp only [List.mem_cons, List.not_mem_nil, or_false] at hg
  rcases hg with rfl | rfl | rfl | rfl
  · exact var_lt (P := Tryd.prog) (n := "internal/strconv.uint64pow10") (g := 5) (by kernel_rfl) h.pow
  · exact var_lt (P := Tryd.prog) (n := "strings.asciiSpace") (g := 0) (by kernel_rfl) h.space
  · obtain ⟨tp, p, e⟩ := h.syn; exact var_lt (P := Tryd.prog) (n := "strconv.ErrSyntax") (g := 2) (by kernel_rfl) e
  · obtain ⟨tp, p, e⟩ := h.rng; exact var_lt (P := Tryd.prog) (n := "strconv.ErrRange") (g := 3) (by kernel_rfl) e
def C : Ctx := ⟨U, fun e => (sel (noEl U) elE e).enc, fun e => (sel (noEl U) elE e).dec, fun t => lookup t tyTab, fun e => (lookup e bytesTab).getD 0, fun t => lookup t eqTab, [5, 0, 2, 3], TabW⟩
theorem elOk : AllL (fun p : Σ e, ElE U e => ElOk p.1 p.2) elE := ⟨⟨fun _ => rfl, fun _ => rfl, fun _ => rfl, fun v y h => by dsimp only at h; split at h <;> first | (cases h; rfl) | cases h⟩,
 ⟨fun _ => rfl, fun _ => rfl, fun _ => rfl, fun v y h => by dsimp only at h; split at h <;> first | (cases h; rfl) | cases h⟩,
 ⟨fun _ => rfl, fun _ => rfl, fun _ => rfl, fun v y h => by dsimp only at h; split at h <;> first | (cases h; rfl) | cases h⟩,
 ⟨fun _ => rfl, fun _ => rfl, fun _ => rfl, fun v y h => by dsimp only at h; split at h <;> first | (cases h; rfl) | cases h⟩,
 ⟨fun _ => rfl, fun _ => rfl, fun _ => rfl, fun v y h => by dsimp only at h; split at h <;> first | (cases h; rfl) | cases h⟩,
 ⟨fun _ => rfl, fun _ => rfl, fun _ => rfl, fun v y h => by dsimp only at h; split at h <;> first | (cases h; rfl) | cases h⟩, trivial⟩
theorem tyOk : AllL (fun p : Nat × Ty U => TyOk Tryd.prog C p.1 p.2) tyTab := ⟨tyOk_int (by kernel_rfl) (by kernel_rfl),
 tyOk_bool (by kernel_rfl) (by kernel_rfl),
 tyOk_int (by kernel_rfl) (by kernel_rfl),
 tyOk_str (by kernel_rfl) (by kernel_rfl),
 tyOk_slice (by kernel_rfl) (by kernel_rfl),
 tyOk_slice (by kernel_rfl) (by kernel_rfl),
 tyOk_struct #[.slice none 0 0] (by kernel_rfl) (by kernel_rfl) (by kernel_rfl) (by kernel_rfl) (by kernel_rfl),
 tyOk_slice (by kernel_rfl) (by kernel_rfl),
 tyOk_struct #[.int .i64 0, .int .i64 0, .int .i64 0, .int .i64 0] (by kernel_rfl) (by kernel_rfl) (by kernel_rfl) (by kernel_rfl) (by kernel_rfl),
 tyOk_struct #[.int .i64 0, .int .i64 0] (by kernel_rfl) (by kernel_rfl) (by kernel_rfl) (by kernel_rfl) (by kernel_rfl),
 tyOk_struct #[.slice none 0 0] (by kernel_rfl) (by kernel_rfl) (by kernel_rfl) (by kernel_rfl) (by kernel_rfl),
 tyOk_struct #[.int .i64 0, .slice none 0 0] (by kernel_rfl) (by kernel_rfl) (by kernel_rfl) (by kernel_rfl) (by kernel_rfl),
 tyOk_struct #[.slice none 0 0, .slice none 0 0, .slice none 0 0, .int .i64 0, .int .i64 0, .int .i64 0, .int .i64 0, .int .i64 0, .int .i64 0, .int .i64 0, .int .i64 0, .slice none 0 0, .int .i64 0] (by kernel_rfl) (by kernel_rfl) (by kernel_rfl) (by kernel_rfl) (by kernel_rfl),
 tyOk_slice (by kernel_rfl) (by kernel_rfl),
 tyOk_struct #[.int .i64 0, .int .i64 0, .int .i64 0] (by kernel_rfl) (by kernel_rfl) (by kernel_rfl) (by kernel_rfl) (by kernel_rfl),
 tyOk_ptr (e := 68) (by kernel_rfl) (by kernel_rfl),
 tyOk_slice (by kernel_rfl) (by kernel_rfl),
 tyOk_struct #[.slice none 0 0, .int .i64 0, .int .i64 0] (by kernel_rfl) (by kernel_rfl) (by kernel_rfl) (by kernel_rfl) (by kernel_rfl),
 tyOk_slice (by kernel_rfl) (by kernel_rfl),
 tyOk_struct #[.int .i64 0, .int .i64 0, .int .i64 0] (by kernel_rfl) (by kernel_rfl) (by kernel_rfl) (by kernel_rfl) (by kernel_rfl),
 tyOk_struct #[.slice none 0 0, .int .i64 0, .int .i64 0, .int .i64 0] (by kernel_rfl) (by kernel_rfl) (by kernel_rfl) (by kernel_rfl) (by kernel_rfl),
 tyOk_int (by kernel_rfl) (by kernel_rfl),
 tyOk_struct #[.int .i64 0, .int .i64 0, .int .i64 0, .int .i64 0, .int .i64 0, .int .i64 0] (by kernel_rfl) (by kernel_rfl) (by kernel_rfl) (by kernel_rfl) (by kernel_rfl), trivial⟩
theorem sl3 : SliceOk Tryd.prog C 3 := sliceOk_of (.int .i64 0) 1 8 (fun x T h ha => by have h' : (some (.int .i64) : Option (Ty U)) = some T := h; cases h'; cases ha) (by kernel_rfl) (by kernel_rfl) (by kernel_rfl) (by decide) (by decide) (by kernel_rfl)
theorem sl5 : SliceOk Tryd.prog C 5 := sliceOk_of (.int .u8 0) 1 1 (fun x T h ha => by have h' : (some (.int .u8) : Option (Ty U)) = some T := h; cases h'; cases ha) (by kernel_rfl) (by kernel_rfl) (by kernel_rfl) (by decide) (by decide) (by kernel_rfl)
theorem sl9 : SliceOk Tryd.prog C 9 := sliceOk_of (.string .empty) 1 16 (fun x T h ha => by have h' : (some (.str) : Option (Ty U)) = some T := h; cases h'; cases ha) (by kernel_rfl) (by kernel_rfl) (by kernel_rfl) (by decide) (by decide) (by kernel_rfl)
theorem sl44 : SliceOk Tryd.prog C 44 := sliceOk_of (.agg #[.int .i64 0, .int .i64 0, .int .i64 0]) 3 24 (fun x T _ _ => ⟨_, rfl⟩) (by kernel_rfl) (by kernel_rfl) (by kernel_rfl) (by decide) (by decide) (by kernel_rfl)
theorem sl76 : SliceOk Tryd.prog C 76 := sliceOk_of (.agg #[.slice none 0 0, .int .i64 0, .int .i64 0, .int .i64 0]) 4 48 (fun x T _ _ => ⟨_, rfl⟩) (by kernel_rfl) (by kernel_rfl) (by kernel_rfl) (by decide) (by decide) (by kernel_rfl)
theorem sl116 : SliceOk Tryd.prog C 116 := sliceOk_of (.agg #[.int .i64 0, .int .i64 0, .int .i64 0, .int .i64 0, .int .i64 0, .int .i64 0]) 6 48 (fun x T _ _ => ⟨_, rfl⟩) (by kernel_rfl) (by kernel_rfl) (by kernel_rfl) (by decide) (by decide) (by kernel_rfl)
theorem slOk : AllL (fun p : Nat × Ty U => ∀ e, p.2 = .slice e → SliceOk Tryd.prog C e) tyTab := ⟨(fun e h => by cases h), (fun e h => by cases h), (fun e h => by cases h), (fun e h => by cases h), (fun e h => by cases h; exact sl5), (fun e h => by cases h; exact sl76), (fun e h => by cases h), (fun e h => by cases h; exact sl3), (fun e h => by cases h), (fun e h => by cases h), (fun e h => by cases h), (fun e h => by cases h), (fun e h => by cases h), (fun e h => by cases h; exact sl44), (fun e h => by cases h), (fun e h => by cases h), (fun e h => by cases h; exact sl9), (fun e h => by cases h), (fun e h => by cases h; exact sl116), (fun e h => by cases h), (fun e h => by cases h), (fun e h => by cases h), (fun e h => by cases h), trivial⟩
def eqB44 (x0 x1 x2 y0 y1 y2 : Int) : Bool := (x0 == y0) && ((x1 == y1) && ((x2 == y2) && true))
theorem eqA44 (d : Nat) (w : World) (k0 k1 k2 : IntKind) (x0 x1 x2 y0 y1 y2 : Int) : (Op.equalIn (d + 2) 44 (.agg #[.int k0 x0, .int k1 x1, .int k2 x2]) (.agg #[.int k0 y0, .int k1 y1, .int k2 y2])).run Tryd.prog w = .ok (eqB44 x0 x1 x2 y0 y1 y2) w := by
 refine eq_struct Tryd.underlying44 (by kernel_rfl) ?_; refine eq_cons (by rfl) (by go_simp; rfl) (by go_simp; rfl) (by go_simp) ?_; refine eq_cons (by rfl) (by go_simp; rfl) (by go_simp; rfl) (by go_simp) ?_; refine eq_cons (by rfl) (by go_simp; rfl) (by go_simp; rfl) (by go_simp) ?_; exact eq_nil
theorem eq44 : EqOk Tryd.prog 44 3 := fun ps w h => match ps, h with
 | [p0, p1, p2], _ => ⟨by
  have e := eqA44 9998 w p0.1 p1.1 p2.1 p0.2.1 p1.2.1 p2.2.1 p0.2.2 p1.2.2 p2.2.2
  have hb : ∀ a b : Int, (a == b) = decide (a = b) := fun _ _ => rfl
  exact e.trans (by simp [eqB44, List.all, hb]), by kernel_rfl⟩
def eqB73 (x0 x1 x2 y0 y1 y2 : Int) : Bool := (x0 == y0) && ((x1 == y1) && ((x2 == y2) && true))
theorem eqA73 (d : Nat) (w : World) (k0 k1 k2 : IntKind) (x0 x1 x2 y0 y1 y2 : Int) : (Op.equalIn (d + 2) 73 (.agg #[.int k0 x0, .int k1 x1, .int k2 x2]) (.agg #[.int k0 y0, .int k1 y1, .int k2 y2])).run Tryd.prog w = .ok (eqB73 x0 x1 x2 y0 y1 y2) w := by
 refine eq_struct Tryd.underlying73 (by kernel_rfl) ?_; refine eq_cons (by rfl) (by go_simp; rfl) (by go_simp; rfl) (by go_simp) ?_; refine eq_cons (by rfl) (by go_simp; rfl) (by go_simp; rfl) (by go_simp) ?_; refine eq_cons (by rfl) (by go_simp; rfl) (by go_simp; rfl) (by go_simp) ?_; exact eq_nil
def eqB116 (x0 x1 x2 x3 x4 x5 y0 y1 y2 y3 y4 y5 : Int) : Bool := (x0 == y0) && ((x1 == y1) && ((x2 == y2) && ((eqB73 x3 x4 x5 y3 y4 y5) && true)))
theorem eqA116 (d : Nat) (w : World) (k0 k1 k2 k3 k4 k5 : IntKind) (x0 x1 x2 x3 x4 x5 y0 y1 y2 y3 y4 y5 : Int) : (Op.equalIn (d + 3) 116 (.agg #[.int k0 x0, .int k1 x1, .int k2 x2, .int k3 x3, .int k4 x4, .int k5 x5]) (.agg #[.int k0 y0, .int k1 y1, .int k2 y2, .int k3 y3, .int k4 y4, .int k5 y5])).run Tryd.prog w = .ok (eqB116 x0 x1 x2 x3 x4 x5 y0 y1 y2 y3 y4 y5) w := by
 refine eq_struct Tryd.underlying116 (by kernel_rfl) ?_; refine eq_cons (by rfl) (by go_simp; rfl) (by go_simp; rfl) (by go_simp) ?_; refine eq_cons (by rfl) (by go_simp; rfl) (by go_simp; rfl) (by go_simp) ?_; refine eq_cons (by rfl) (by go_simp; rfl) (by go_simp; rfl) (by go_simp) ?_; refine eq_cons (a := .agg #[.int k3 x3, .int k4 x4, .int k5 x5]) (b := .agg #[.int k3 y3, .int k4 y4, .int k5 y5]) (by rfl) (by go_simp) (by go_simp) (eqA73 d w k3 k4 k5 x3 x4 x5 y3 y4 y5) ?_; exact eq_nil
theorem eq116 : EqOk Tryd.prog 116 6 := fun ps w h => match ps, h with
 | [p0, p1, p2, p3, p4, p5], _ => ⟨by
  have e := eqA116 9997 w p0.1 p1.1 p2.1 p3.1 p4.1 p5.1 p0.2.1 p1.2.1 p2.2.1 p3.2.1 p4.2.1 p5.2.1 p0.2.2 p1.2.2 p2.2.2 p3.2.2 p4.2.2 p5.2.2
  have hb : ∀ a b : Int, (a == b) = decide (a = b) := fun _ _ => rfl
  exact e.trans (by simp [eqB44, eqB116, eqB73, List.all, hb]), by kernel_rfl⟩
theorem eqOk : AllL (fun p : Nat × Nat => EqOk Tryd.prog p.1 p.2) eqTab := ⟨eq44, eq116, trivial⟩
theorem G : YtpndhhellhfegaaDoorEv.Good Tryd.prog C := good_of (U := U) (tab := elE) (tyTab := tyTab) (bytesTab := bytesTab) (eqTab := eqTab) rfl elOk tyOk (fun t e h => slOk.mem _ (lookup_mem h) e rfl) eqOk (tabSame)
abbrev Pg : Program := Tryd.prog
theorem mixed : Pg.follows .mixedOrders = true := by kernel_rfl
abbrev laws_big.A := Bool
def laws_big.v : laws_big.A → PV U := fun r => .bool r
def laws_big.o : laws_big.A → List (PV U) := fun r => []
abbrev spec_l01New.A := (List Int) × Int × Int
def spec_l01New.v : spec_l01New.A → PV U := fun r => .box [.sl 5 r.1, .int .i64 r.2.1, .int .i64 r.2.2]
def spec_l01New.o : spec_l01New.A → List (PV U) := fun r => []
abbrev spec_l01Byte.A := Int × (List Int) × Int × Int
def spec_l01Byte.v : spec_l01Byte.A → PV U := fun r => .int .i64 r.1
def spec_l01Byte.o : spec_l01Byte.A → List (PV U) := fun r => [.box [.sl 5 r.2.1, .int .i64 r.2.2.1, .int .i64 r.2.2.2]]
abbrev spec_l01Below.A := Int × (List Int) × Int × Int
def spec_l01Below.v : spec_l01Below.A → PV U := fun r => .int .i64 r.1
def spec_l01Below.o : spec_l01Below.A → List (PV U) := fun r => [.box [.sl 5 r.2.1, .int .i64 r.2.2.1, .int .i64 r.2.2.2]]
abbrev spec_l01Once.A := Bool × (List Int) × Int × Int
def spec_l01Once.v : spec_l01Once.A → PV U := fun r => .bool r.1
def spec_l01Once.o : spec_l01Once.A → List (PV U) := fun r => [.box [.sl 5 r.2.1, .int .i64 r.2.2.1, .int .i64 r.2.2.2]]
abbrev spec_l01PickInt.A := Int × (List Int) × Int × Int
def spec_l01PickInt.v : spec_l01PickInt.A → PV U := fun r => .int .i64 r.1
def spec_l01PickInt.o : spec_l01PickInt.A → List (PV U) := fun r => [.box [.sl 5 r.2.1, .int .i64 r.2.2.1, .int .i64 r.2.2.2]]
abbrev spec_l03Operand.A := Int × (List Int) × Int × Int
def spec_l03Operand.v : spec_l03Operand.A → PV U := fun r => .int .i64 r.1
def spec_l03Operand.o : spec_l03Operand.A → List (PV U) := fun r => [.box [.sl 5 r.2.1, .int .i64 r.2.2.1, .int .i64 r.2.2.2]]
abbrev spec_l03Expr.A := Int × Int × Int × (List Int) × Int × Int
def spec_l03Expr.v : spec_l03Expr.A → PV U := fun r => .agg [.int .i64 r.1, .int .i64 r.2.1, .int .i64 r.2.2.1]
def spec_l03Expr.o : spec_l03Expr.A → List (PV U) := fun r => [.box [.sl 5 r.2.2.2.1, .int .i64 r.2.2.2.2.1, .int .i64 r.2.2.2.2.2]]
abbrev spec_l04Stmt.A := Int × Int × Int × Int × Int × Int × (List Int) × Int × Int
def spec_l04Stmt.v : spec_l04Stmt.A → PV U := fun r => .agg [.int .i64 r.1, .int .i64 r.2.1, .int .i64 r.2.2.1, .int .i64 r.2.2.2.1, .int .i64 r.2.2.2.2.1, .int .i64 r.2.2.2.2.2.1]
def spec_l04Stmt.o : spec_l04Stmt.A → List (PV U) := fun r => [.box [.sl 5 r.2.2.2.2.2.2.1, .int .i64 r.2.2.2.2.2.2.2.1, .int .i64 r.2.2.2.2.2.2.2.2]]
abbrev spec_l05Block.A := (List S115) × (List Int) × Int × Int
def spec_l05Block.v : spec_l05Block.A → PV U := fun r => .own true 116 r.1
def spec_l05Block.o : spec_l05Block.A → List (PV U) := fun r => [.box [.sl 5 r.2.1, .int .i64 r.2.2.1, .int .i64 r.2.2.2]]
abbrev spec_l05Case.A := (List S115) × (List Int) × Int × Int
def spec_l05Case.v : spec_l05Case.A → PV U := fun r => .own true 116 r.1
def spec_l05Case.o : spec_l05Case.A → List (PV U) := fun r => [.box [.sl 5 r.2.1, .int .i64 r.2.2.1, .int .i64 r.2.2.2]]
abbrev spec_l06Program.A := (List S75) × (List Int) × Int × Int
def spec_l06Program.v : spec_l06Program.A → PV U := fun r => .agg [.own true 76 r.1]
def spec_l06Program.o : spec_l06Program.A → List (PV U) := fun r => [.box [.sl 5 r.2.1, .int .i64 r.2.2.1, .int .i64 r.2.2.2]]
abbrev spec_l03Vars.A := (List Int) × (List Int) × Int × Int
def spec_l03Vars.v : spec_l03Vars.A → PV U := fun r => .own true 3 r.1
def spec_l03Vars.o : spec_l03Vars.A → List (PV U) := fun r => [.box [.sl 5 r.2.1, .int .i64 r.2.2.1, .int .i64 r.2.2.2]]
abbrev spec_l12Readings.A := (List Int) × (List Int) × Int × Int
def spec_l12Readings.v : spec_l12Readings.A → PV U := fun r => .own true 3 r.1
def spec_l12Readings.o : spec_l12Readings.A → List (PV U) := fun r => [.box [.sl 5 r.2.1, .int .i64 r.2.2.1, .int .i64 r.2.2.2]]
abbrev spec_l19Store.A := Int × Int × Int × Int × (List Int) × Int × Int
def spec_l19Store.v : spec_l19Store.A → PV U := fun r => .agg [.int .i64 r.1, .int .i64 r.2.1, .int .i64 r.2.2.1, .int .i64 r.2.2.2.1]
def spec_l19Store.o : spec_l19Store.A → List (PV U) := fun r => [.box [.sl 5 r.2.2.2.2.1, .int .i64 r.2.2.2.2.2.1, .int .i64 r.2.2.2.2.2.2]]
abbrev spec_l01In.A := Bool
def spec_l01In.v : spec_l01In.A → PV U := fun r => .bool r
def spec_l01In.o : spec_l01In.A → List (PV U) := fun r => []
abbrev spec_IsValue.A := Bool
def spec_IsValue.v : spec_IsValue.A → PV U := fun r => .bool r
def spec_IsValue.o : spec_IsValue.A → List (PV U) := fun r => []
abbrev spec_VarsOk.A := Bool
def spec_VarsOk.v : spec_VarsOk.A → PV U := fun r => .bool r
def spec_VarsOk.o : spec_VarsOk.A → List (PV U) := fun r => []
abbrev spec_MemNew.A := (List Int) × Bool
def spec_MemNew.v : spec_MemNew.A → PV U := fun r => .tup [.own true 3 r.1, .bool r.2]
def spec_MemNew.o : spec_MemNew.A → List (PV U) := fun r => []
abbrev spec_l04Plain.A := Int × Int × Int × Int × Int × Int
def spec_l04Plain.v : spec_l04Plain.A → PV U := fun r => .agg [.int .i64 r.1, .int .i64 r.2.1, .int .i64 r.2.2.1, .int .i64 r.2.2.2.1, .int .i64 r.2.2.2.2.1, .int .i64 r.2.2.2.2.2]
def spec_l04Plain.o : spec_l04Plain.A → List (PV U) := fun r => []
abbrev spec_OperandOk.A := Bool
def spec_OperandOk.v : spec_OperandOk.A → PV U := fun r => .bool r
def spec_OperandOk.o : spec_OperandOk.A → List (PV U) := fun r => []
abbrev spec_ExprOk.A := Bool
def spec_ExprOk.v : spec_ExprOk.A → PV U := fun r => .bool r
def spec_ExprOk.o : spec_ExprOk.A → List (PV U) := fun r => []
abbrev spec_StmtOk.A := Bool
def spec_StmtOk.v : spec_StmtOk.A → PV U := fun r => .bool r
def spec_StmtOk.o : spec_StmtOk.A → List (PV U) := fun r => []
abbrev spec_BlockOk.A := Bool
def spec_BlockOk.v : spec_BlockOk.A → PV U := fun r => .bool r
def spec_BlockOk.o : spec_BlockOk.A → List (PV U) := fun r => []
abbrev spec_ProgramOk.A := Bool
def spec_ProgramOk.v : spec_ProgramOk.A → PV U := fun r => .bool r
def spec_ProgramOk.o : spec_ProgramOk.A → List (PV U) := fun r => []
abbrev spec_StoreOk.A := Bool
def spec_StoreOk.v : spec_StoreOk.A → PV U := fun r => .bool r
def spec_StoreOk.o : spec_StoreOk.A → List (PV U) := fun r => []
abbrev spec_l09Values.A := Bool
def spec_l09Values.v : spec_l09Values.A → PV U := fun r => .bool r
def spec_l09Values.o : spec_l09Values.A → List (PV U) := fun r => []
abbrev spec_l06Copy.A := (List S75)
def spec_l06Copy.v : spec_l06Copy.A → PV U := fun r => .agg [.own true 76 r]
def spec_l06Copy.o : spec_l06Copy.A → List (PV U) := fun r => []
abbrev spec_NodeNew.A := (List S75) × (List Int) × (List Int) × Int × Int × Int × Int × Int × Int × Int × Int × (List Int) × Int × Bool
def spec_NodeNew.v : spec_NodeNew.A → PV U := fun r => .tup [.agg [.own true 76 r.1, .own true 3 r.2.1, .own true 3 r.2.2.1, .int .i64 r.2.2.2.1, .int .i64 r.2.2.2.2.1, .int .i64 r.2.2.2.2.2.1, .int .i64 r.2.2.2.2.2.2.1, .int .i64 r.2.2.2.2.2.2.2.1, .int .i64 r.2.2.2.2.2.2.2.2.1, .int .i64 r.2.2.2.2.2.2.2.2.2.1, .int .i64 r.2.2.2.2.2.2.2.2.2.2.1, .own true 3 r.2.2.2.2.2.2.2.2.2.2.2.1, .int .i64 r.2.2.2.2.2.2.2.2.2.2.2.2.1], .bool r.2.2.2.2.2.2.2.2.2.2.2.2.2]
def spec_NodeNew.o : spec_NodeNew.A → List (PV U) := fun r => []
abbrev spec_l38Act.A := Int × Int × Int × (List Int) × Int × Int
def spec_l38Act.v : spec_l38Act.A → PV U := fun r => .agg [.int .i64 r.1, .int .i64 r.2.1, .int .i64 r.2.2.1]
def spec_l38Act.o : spec_l38Act.A → List (PV U) := fun r => [.box [.sl 5 r.2.2.2.1, .int .i64 r.2.2.2.2.1, .int .i64 r.2.2.2.2.2]]
abbrev spec_l38Acts.A := (List S43) × (List Int) × Int × Int
def spec_l38Acts.v : spec_l38Acts.A → PV U := fun r => .own true 44 r.1
def spec_l38Acts.o : spec_l38Acts.A → List (PV U) := fun r => [.box [.sl 5 r.2.1, .int .i64 r.2.2.1, .int .i64 r.2.2.2]]
abbrev spec_DrawActs.A := (List S75) × (List Int) × (List Int) × Int × Int × Int × Int × Int × Int × Int × Int × (List Int) × Int × (List S43)
def spec_DrawActs.v : spec_DrawActs.A → PV U := fun r => .tup [.agg [.own true 76 r.1, .own true 3 r.2.1, .own true 3 r.2.2.1, .int .i64 r.2.2.2.1, .int .i64 r.2.2.2.2.1, .int .i64 r.2.2.2.2.2.1, .int .i64 r.2.2.2.2.2.2.1, .int .i64 r.2.2.2.2.2.2.2.1, .int .i64 r.2.2.2.2.2.2.2.2.1, .int .i64 r.2.2.2.2.2.2.2.2.2.1, .int .i64 r.2.2.2.2.2.2.2.2.2.2.1, .own true 3 r.2.2.2.2.2.2.2.2.2.2.2.1, .int .i64 r.2.2.2.2.2.2.2.2.2.2.2.2.1], .own true 44 r.2.2.2.2.2.2.2.2.2.2.2.2.2]
def spec_DrawActs.o : spec_DrawActs.A → List (PV U) := fun r => []
abbrev impl_within.A := Bool
def impl_within.v : impl_within.A → PV U := fun r => .bool r
def impl_within.o : impl_within.A → List (PV U) := fun r => []
abbrev impl_isHarvest.A := Bool
def impl_isHarvest.v : impl_isHarvest.A → PV U := fun r => .bool r
def impl_isHarvest.o : impl_isHarvest.A → List (PV U) := fun r => []
abbrev impl_SpanOk.A := Bool
def impl_SpanOk.v : impl_SpanOk.A → PV U := fun r => .bool r
def impl_SpanOk.o : impl_SpanOk.A → List (PV U) := fun r => []
abbrev impl_IsValue.A := Bool
def impl_IsValue.v : impl_IsValue.A → PV U := fun r => .bool r
def impl_IsValue.o : impl_IsValue.A → List (PV U) := fun r => []
abbrev impl_ActOk.A := Bool
def impl_ActOk.v : impl_ActOk.A → PV U := fun r => .bool r
def impl_ActOk.o : impl_ActOk.A → List (PV U) := fun r => []
abbrev strconv_Itoa.A := ByteArray
def strconv_Itoa.v : strconv_Itoa.A → PV U := fun r => .str r
def strconv_Itoa.o : strconv_Itoa.A → List (PV U) := fun r => []
abbrev impl_FormatInt.A := ByteArray
def impl_FormatInt.v : impl_FormatInt.A → PV U := fun r => .str r
def impl_FormatInt.o : impl_FormatInt.A → List (PV U) := fun r => []
abbrev impl_spaced.A := ByteArray
def impl_spaced.v : impl_spaced.A → PV U := fun r => .str r
def impl_spaced.o : impl_spaced.A → List (PV U) := fun r => []
abbrev impl_actNames.A := (List ByteArray)
def impl_actNames.v : impl_actNames.A → PV U := fun r => .own true 9 r
def impl_actNames.o : impl_actNames.A → List (PV U) := fun r => []
abbrev impl_FormatAct.A := ByteArray × Bool
def impl_FormatAct.v : impl_FormatAct.A → PV U := fun r => .tup [.str r.1, .bool r.2]
def impl_FormatAct.o : impl_FormatAct.A → List (PV U) := fun r => []
abbrev impl_SplitFields.A := (List ByteArray) × Bool
def impl_SplitFields.v : impl_SplitFields.A → PV U := fun r => .tup [.own true 9 r.1, .bool r.2]
def impl_SplitFields.o : impl_SplitFields.A → List (PV U) := fun r => []
abbrev slices_Index_string.A := Int
def slices_Index_string.v : slices_Index_string.A → PV U := fun r => .int .i64 r
def slices_Index_string.o : slices_Index_string.A → List (PV U) := fun r => []
abbrev strconv_Atoi.A := Int
def strconv_Atoi.v : strconv_Atoi.A → PV U := fun r => .tup [.int .i64 r, .undef]
def strconv_Atoi.o : strconv_Atoi.A → List (PV U) := fun r => []
abbrev strings_Join.A := ByteArray
def strings_Join.v : strings_Join.A → PV U := fun r => .str r
def strings_Join.o : strings_Join.A → List (PV U) := fun r => []
abbrev impl_ParseAct.A := Int × Int × Int × Bool
def impl_ParseAct.v : impl_ParseAct.A → PV U := fun r => .tup [.agg [.int .i64 r.1, .int .i64 r.2.1, .int .i64 r.2.2.1], .bool r.2.2.2]
def impl_ParseAct.o : impl_ParseAct.A → List (PV U) := fun r => []
abbrev laws_FnActTexts.A := Bool
def laws_FnActTexts.v : laws_FnActTexts.A → PV U := fun r => .bool r
def laws_FnActTexts.o : laws_FnActTexts.A → List (PV U) := fun r => []
def retTab : List (Nat × Ret C) := [(4, ⟨laws_big.A, laws_big.v, laws_big.o⟩), (8, ⟨spec_l01New.A, spec_l01New.v, spec_l01New.o⟩), (45, ⟨spec_l01Byte.A, spec_l01Byte.v, spec_l01Byte.o⟩), (22, ⟨spec_l01Below.A, spec_l01Below.v, spec_l01Below.o⟩), (64, ⟨spec_l01Once.A, spec_l01Once.v, spec_l01Once.o⟩), (30, ⟨spec_l01PickInt.A, spec_l01PickInt.v, spec_l01PickInt.o⟩), (47, ⟨spec_l03Operand.A, spec_l03Operand.v, spec_l03Operand.o⟩), (24, ⟨spec_l03Expr.A, spec_l03Expr.v, spec_l03Expr.o⟩), (65, ⟨spec_l04Stmt.A, spec_l04Stmt.v, spec_l04Stmt.o⟩), (46, ⟨spec_l05Block.A, spec_l05Block.v, spec_l05Block.o⟩), (23, ⟨spec_l05Case.A, spec_l05Case.v, spec_l05Case.o⟩), (9, ⟨spec_l06Program.A, spec_l06Program.v, spec_l06Program.o⟩), (11, ⟨spec_l03Vars.A, spec_l03Vars.v, spec_l03Vars.o⟩), (12, ⟨spec_l12Readings.A, spec_l12Readings.v, spec_l12Readings.o⟩), (13, ⟨spec_l19Store.A, spec_l19Store.v, spec_l19Store.o⟩), (51, ⟨spec_l01In.A, spec_l01In.v, spec_l01In.o⟩), (52, ⟨spec_IsValue.A, spec_IsValue.v, spec_IsValue.o⟩), (48, ⟨spec_VarsOk.A, spec_VarsOk.v, spec_VarsOk.o⟩), (25, ⟨spec_MemNew.A, spec_MemNew.v, spec_MemNew.o⟩), (75, ⟨spec_l04Plain.A, spec_l04Plain.v, spec_l04Plain.o⟩), (67, ⟨spec_OperandOk.A, spec_OperandOk.v, spec_OperandOk.o⟩), (50, ⟨spec_ExprOk.A, spec_ExprOk.v, spec_ExprOk.o⟩), (66, ⟨spec_StmtOk.A, spec_StmtOk.v, spec_StmtOk.o⟩), (49, ⟨spec_BlockOk.A, spec_BlockOk.v, spec_BlockOk.o⟩), (26, ⟨spec_ProgramOk.A, spec_ProgramOk.v, spec_ProgramOk.o⟩), (27, ⟨spec_StoreOk.A, spec_StoreOk.v, spec_StoreOk.o⟩), (28, ⟨spec_l09Values.A, spec_l09Values.v, spec_l09Values.o⟩), (29, ⟨spec_l06Copy.A, spec_l06Copy.v, spec_l06Copy.o⟩), (10, ⟨spec_NodeNew.A, spec_NodeNew.v, spec_NodeNew.o⟩), (31, ⟨spec_l38Act.A, spec_l38Act.v, spec_l38Act.o⟩), (14, ⟨spec_l38Acts.A, spec_l38Acts.v, spec_l38Acts.o⟩), (5, ⟨spec_DrawActs.A, spec_DrawActs.v, spec_DrawActs.o⟩), (32, ⟨impl_within.A, impl_within.v, impl_within.o⟩), (33, ⟨impl_isHarvest.A, impl_isHarvest.v, impl_isHarvest.o⟩), (34, ⟨impl_SpanOk.A, impl_SpanOk.v, impl_SpanOk.o⟩), (35, ⟨impl_IsValue.A, impl_IsValue.v, impl_IsValue.o⟩), (15, ⟨impl_ActOk.A, impl_ActOk.v, impl_ActOk.o⟩), (53, ⟨strconv_Itoa.A, strconv_Itoa.v, strconv_Itoa.o⟩), (36, ⟨impl_FormatInt.A, impl_FormatInt.v, impl_FormatInt.o⟩), (16, ⟨impl_spaced.A, impl_spaced.v, impl_spaced.o⟩), (17, ⟨impl_actNames.A, impl_actNames.v, impl_actNames.o⟩), (6, ⟨impl_FormatAct.A, impl_FormatAct.v, impl_FormatAct.o⟩), (18, ⟨impl_SplitFields.A, impl_SplitFields.v, impl_SplitFields.o⟩), (19, ⟨slices_Index_string.A, slices_Index_string.v, slices_Index_string.o⟩), (20, ⟨strconv_Atoi.A, strconv_Atoi.v, strconv_Atoi.o⟩), (21, ⟨strings_Join.A, strings_Join.v, strings_Join.o⟩), (7, ⟨impl_ParseAct.A, impl_ParseAct.v, impl_ParseAct.o⟩), (3, ⟨laws_FnActTexts.A, laws_FnActTexts.v, laws_FnActTexts.o⟩)]
def ntTab : List (Nat × Nat) := [(4, 6), (8, 32), (45, 58), (22, 37), (64, 9), (30, 12), (47, 11), (24, 11), (65, 23), (46, 59), (23, 7), (9, 24), (11, 20), (12, 20), (13, 23), (51, 15), (52, 5), (48, 19), (25, 14), (75, 37), (67, 5), (50, 16), (66, 43), (49, 41), (26, 33), (27, 25), (28, 16), (29, 34), (10, 43), (31, 48), (14, 18), (5, 26), (32, 15), (33, 5), (34, 18), (35, 5), (15, 60), (53, 1), (36, 5), (16, 22), (17, 2), (6, 27), (18, 1), (19, 19), (20, 1), (21, 2), (7, 62), (3, 52)]
def modeTab : List (Nat × YtpndhhellhfegaaDoorEv.Mode) := []
def PL : Plan C := ⟨fun f => lookup f retTab, fun f => (lookup f ntTab).getD 0, fun f => (lookup f modeTab).getD YtpndhhellhfegaaDoorEv.Mode.read, [], [], []⟩
def noTree {A : Type} : Empty → Tr Empty A := fun _ => .fail
theorem sdCut {R : Type} (v : R → PV U) (o : R → List (PV U)) {Q : Plan C} {f : FuncId} {fn : Func} {c : Code} (hf : Pg.funcs[f]? = some fn) (hb : fn.body = some c) (hok : fnOk Q fn c = true) {S0 : List (PV U)} {no : Nat} (hl : S0.length = fn.ntmps + no) {X : Type} {id : X → Nat} {st : X → List (PV U)} (hno : ∀ r, (o r).length = no) {tr : X → Tr X R} (he : CutEq Pg C Q fn no id st v o tr) {bg : Tr X R} (hbg : BegEq Pg C Q fn no id st v o S0 bg) {r : R} (h : bg.run (lp tr) = some r) : SoundCall Pg C f S0 no (v r) (o r) := soundCall_of_tree G mixed Q hf hb hok hl id st v o hno tr he bg hbg h
theorem sdFlat {R : Type} (v : R → PV U) (o : R → List (PV U)) {Q : Plan C} {f : FuncId} {fn : Func} {c : Code} (hf : Pg.funcs[f]? = some fn) (hb : fn.body = some c) (hok : fnOk Q fn c = true) {S0 : List (PV U)} {no : Nat} (hl : S0.length = fn.ntmps + no) (hno : ∀ r, (o r).length = no) {bg : Tr Empty R} (hbg : BegEq Pg C Q fn no (fun _ => 0) (fun _ => []) v o S0 bg) {r : R} (h : bg.run (lp noTree) = some r) : SoundCall Pg C f S0 no (v r) (o r) := sdCut v o hf hb hok hl hno (fun _ _ x => x.elim) hbg h
end
end Go.Proofs.YtpndhhellhfegaaDoor.Ev
