/- Contracts over texts: the fields of a line, the number of a text, the lines of a text. Conditions: the library's tables and errors, as they are named. -/
import Derived.Test.YtpndhhellhfegaaDoorShelf
import Derived.Test.YtpndhhellhfegaaDoorLibC
import Derived.WalkKit
import Derived.Below
import Derived.Tactics
import Derived.KernelRfl
import Derived.RowKit
import Derived.RowKit3
import Derived.Lib.ConvBytes
import Derived.Lib.SmallJoins
import Derived.Lib.AppendIntMem
import Derived.Lib.Fields
import Derived.Lib.Join
import Derived.Lib.Hide
import Derived.Laws.Slices
import Derived.Lib.SliceRun
import Derived.OwnWalk
namespace Go.Proofs.YtpndhhellhfegaaDoor.Ev
open Go.Shelf Go.RowKit Go.Proofs.YtpndhhellhfegaaDoorEv
set_option linter.unusedVariables false
set_option linter.unusedSimpArgs false
/-- A byte that a line may hold. -/
def okByte (b : UInt8) : Bool := decide (32 ≤ b.toNat) && decide (b.toNat ≤ 126)
/-- How a line ends, its fields found. -/
def splitDone (ok : Bool) (fs : List (List UInt8)) : List ByteArray × Bool := if ok then (if fs.length > 24 then ([], false) else (fs.map bs, true)) else ([], false)
/-- What SplitFields finds. -/
def splitRes (l : List UInt8) : List ByteArray × Bool := if l.length > 600 then ([], false) else splitDone (l.all okByte) (Lib.fields l)
theorem cntF_le : ∀ (l : List UInt8) (ws : Bool), Lib.cntF ws l ≤ l.length
  | [], _ => Nat.le_refl _
  | b :: t, ws => by
    have := cntF_le t (Lib.isSp b)
    simp only [Lib.cntF, List.length_cons]
    split <;> omega
theorem below_drew {b : Nat} {w w' : World} (h : Below b w w') (q : Nat) : Below b w (w'.drewN q) := ⟨h.os, h.tape, h.output, h.size, h.block⟩
set_option maxRecDepth 100000 in
theorem bad_pred (w : World) : PredAt Tryd.prog 38 #[] (fun b : UInt8 => Value.int .u8 b.toNat) (fun b => !okByte b) w := fun W x hb => by
  show Calls Tryd.prog 38 #[.int .u8 x.toNat] W fun e w' => e = .returned (.bool (!okByte x)) ∧ ∃ q, w' = W.drewN q
  have hr : (!okByte x) = decide ((x.toNat : Int) < 32 ∨ 126 < (x.toNat : Int)) := by
    unfold okByte
    rw [Bool.eq_iff_iff]
    simp
    omega
  rw [hr]
  clear hr
  generalize (x.toNat : Int) = n
  by_cases h1 : n < 32
  · have e : decide (n < 32 ∨ 126 < n) = true := decide_eq_true (Or.inl h1)
    rw [e]; clear e
    go_enter Tryd.func38, Tryd.ntmps38
    go_wp2
    go_ret
    exact ⟨rfl, 0, rfl⟩
  · by_cases h2 : 126 < n
    · have e : decide (n < 32 ∨ 126 < n) = true := decide_eq_true (Or.inr h2)
      rw [e]; clear e
      go_enter Tryd.func38, Tryd.ntmps38
      go_wp2
      go_ret
      exact ⟨by simp_all, 0, rfl⟩
    · have e : decide (n < 32 ∨ 126 < n) = false := decide_eq_false (by omega)
      rw [e]; clear e
      go_enter Tryd.func38, Tryd.ntmps38
      go_wp2
      go_ret
      exact ⟨by simp_all, 0, rfl⟩
set_option maxRecDepth 100000 in
theorem contains_bad (a0 : ByteArray) (c : Nat) (w : World) (hs : a0.size ≤ 600) (hc : ∀ j, j < a0.size → w.cell? ⟨w.heap.size - 1, j, none⟩ = some (.int .u8 (a0.data.toList.getD j 0).toNat)) :
    Calls Tryd.prog 37 #[.slice (some ⟨w.heap.size - 1, 0, none⟩) a0.size c, .func (.func 38) #[] #[]] w fun e w' => e = .returned (.bool (!a0.data.toList.all okByte)) ∧ ∃ q, w' = w.drewN q := by
  have eg : ∀ args w, (callFunc 38 args).run Tryd.prog w = .ok (.enter 38 args) w := enters_of Tryd.func38 (by kernel_rfl) rfl
  have hl : a0.data.toList.length = a0.size := Array.length_toList
  have hcon := AnyE.slices_ContainsFunc Tryd.layContains (fun b : UInt8 => Value.int .u8 b.toNat) (fun b => !okByte b) 38 #[] eg (w.heap.size - 1) 0 a0.size c a0.data.toList w (bad_pred w) (by omega) (by omega) (fun j hj => by
    rw [Nat.zero_add, hc j (by omega), List.getD_eq_getElem?_getD, getElem!_def]
    cases h : a0.data.toList[j]? with
    | none => exact absurd hj (by rw [List.getElem?_eq_none_iff] at h; omega)
    | some b => rfl)
  have e : (List.take a0.size a0.data.toList).any (fun b => !okByte b) = !a0.data.toList.all okByte := by
    rw [List.take_of_length_le (by omega), List.not_all_eq_any_not]
  rw [e] at hcon
  exact hcon
set_option maxHeartbeats 8000000 in
set_option maxRecDepth 100000 in
theorem impl_SplitFields_call (a0 : ByteArray) (w : World) (hsp : Lib.TabIs Tryd.prog w "strings.asciiSpace" .u8 Lib.asciiSpaceTab) :
  Calls Tryd.prog 18 #[.string a0] w fun e w' => ∃ v0_ : Value, e = .returned (.tuple #[v0_, .bool (splitRes a0.data.toList).2]) ∧ TextRow w' w.heap.size 9 v0_ (splitRes a0.data.toList).1 ∧ Below w.heap.size w w' := by
  have hl : a0.data.toList.length = a0.size := Array.length_toList
  obtain ⟨r1, r2, h⟩ : ∃ r1 r2, splitRes a0.data.toList = (r1, r2) := ⟨_, _, rfl⟩
  rw [h]
  unfold splitRes at h
  by_cases c6 : a0.data.toList.length > 600
  · rw [if_pos c6] at h
    obtain ⟨rfl, rfl⟩ := Prod.mk.inj h
    have c6 : 600 < (a0.size : Int) := by omega
    clear h hsp hl
    go_enter Tryd.func18, Tryd.ntmps18
    go_wp2
    go_ret2
    exact ⟨_, rfl, .inl ⟨rfl, rfl⟩, Below.refl _ _⟩
  · rw [if_neg c6] at h
    have hs : a0.size ≤ 600 := by omega
    have c6' : ¬ 600 < (a0.size : Int) := by omega
    clear c6
    have hcon := fun c => contains_bad a0 c (Lib.bytesWorld w 5 a0) hs (fun j hj => by rw [Lib.bytesWorld_size]; exact Lib.bytesWorld_cell w 5 a0 j hj)
    have hz : (Lib.bytesWorld w 5 a0).heap.size - 1 = w.heap.size := by rw [Lib.bytesWorld_size]; rfl
    rw [hz] at hcon
    have HB0 : ∀ q, Below w.heap.size w ((Lib.bytesWorld w 5 a0).drewN q) := fun q => below_drew (Lib.bytesWorld_below _ _ _) q
    have hcv : (convert 9 22 (.string a0)).run Tryd.prog w = .ok (.slice (some ⟨w.heap.size, 0, none⟩) a0.size (grownCap w a0.size 0 5)) (Lib.bytesWorld w 5 a0) := Lib.run_convert_string_bytes w 9 22 5 a0 Tryd.underlying9 Tryd.underlying22 Tryd.underlying5
    unfold splitDone at h
    cases hok : a0.data.toList.all okByte with
    | false =>
      rw [hok] at h
      obtain ⟨rfl, rfl⟩ := Prod.mk.inj h
      rw [hok] at hcon
      have hcon : ∀ c, Calls Tryd.prog 37 #[.slice (some ⟨w.heap.size, 0, none⟩) a0.size c, .func (.func 38) #[] #[]] (Lib.bytesWorld w 5 a0) fun e w' => e = .returned (.bool true) ∧ ∃ q, w' = (Lib.bytesWorld w 5 a0).drewN q := hcon
      clear h hsp hl hok hz hs
      go_enter Tryd.func18, Tryd.ntmps18
      go_wp2_with (go_at_call 37; refine (hcon _).mono ?_; rintro e w' ⟨rfl, q, rfl⟩)
      go_ret2
      exact ⟨_, rfl, .inl ⟨rfl, rfl⟩, HB0 _⟩
    | true =>
      rw [hok] at h
      rw [hok] at hcon
      have hcon : ∀ c, Calls Tryd.prog 37 #[.slice (some ⟨w.heap.size, 0, none⟩) a0.size c, .func (.func 38) #[] #[]] (Lib.bytesWorld w 5 a0) fun e w' => e = .returned (.bool false) ∧ ∃ q, w' = (Lib.bytesWorld w 5 a0).drewN q := hcon
      have hall : ∀ (j : Nat) b, a0.data.toList[j]? = some b → b.toNat < 128 := fun j b hb => by
        have := List.all_eq_true.1 hok b (List.mem_of_getElem? hb)
        unfold okByte at this
        simp at this
        omega
      have hF := fun q => Tryd.strings_Fields a0 ((Lib.bytesWorld w 5 a0).drewN q) (by omega) hall (Go.Joins.tab_stays (g := 0) (by kernel_rfl) hsp (HB0 q) (Nat.le_refl _))
      have hlen : (Lib.fields a0.data.toList).length ≤ a0.size := by rw [Lib.fields_length, Lib.size_eq]; exact cntF_le _ _
      have hmap : (Lib.fields a0.data.toList).map (fun l => Value.string ⟨l.toArray⟩) = ((Lib.fields a0.data.toList).map bs).map Value.string := by rw [List.map_map]; rfl
      rw [hmap] at hF
      generalize (Lib.fields a0.data.toList) = fs at h hF hlen
      have hml : (fs.map bs).length = fs.length := List.length_map _
      have hrow : ∀ W : World, w.heap.size ≤ W.heap.size → TextRow (W.alloc (.cells ((fs.map bs).map Value.string).toArray 9)) w.heap.size 9 (.slice (some ⟨W.heap.size, 0, none⟩) fs.length fs.length) (fs.map bs) := fun W hW => by
        rw [← hml]
        refine .inr ⟨W.heap.size, rfl, by unfold maxLen; omega, hW, ?_⟩
        exact Array.getElem?_push_size
      have hsz : ∀ q, w.heap.size ≤ ((Lib.bytesWorld w 5 a0).drewN q).heap.size := fun q => (HB0 q).size
      have hrow2 : ∀ q, Hid (TextRow (((Lib.bytesWorld w 5 a0).drewN q).alloc (.cells ((fs.map bs).map Value.string).toArray 9)) w.heap.size 9 (.slice (some ⟨((Lib.bytesWorld w 5 a0).drewN q).heap.size, 0, none⟩) fs.length fs.length) (fs.map bs)) := fun q => Lib.hid (hrow _ (hsz q))
      have HB1 : ∀ q, Hid (Below w.heap.size w (((Lib.bytesWorld w 5 a0).drewN q).alloc (.cells ((fs.map bs).map Value.string).toArray 9))) := fun q => Lib.hid ((HB0 q).alloc (hsz q) _)
      clear hok hz hsp hall hmap hrow hml HB0 hsz hl
      generalize ((fs.map bs).map Value.string).toArray = C at hF hrow2 HB1
      by_cases h24 : fs.length > 24
      · rw [if_pos rfl, if_pos h24] at h
        obtain ⟨rfl, rfl⟩ := Prod.mk.inj h
        have h24 : 24 < (fs.length : Int) := by omega
        clear h hlen hs
        go_enter Tryd.func18, Tryd.ntmps18
        go_wp2_with (first | (go_at_call 37; refine (hcon _).mono ?_; rintro e w' ⟨rfl, q, rfl⟩) | (go_at_call 39; refine (hF _).mono ?_; rintro e w' ⟨rfl, rfl⟩))
        go_ret2
        exact ⟨_, rfl, .inl ⟨rfl, rfl⟩, (HB1 _).out⟩
      · rw [if_pos rfl, if_neg h24] at h
        obtain ⟨rfl, rfl⟩ := Prod.mk.inj h
        have h24 : ¬ 24 < (fs.length : Int) := by omega
        clear h hlen hs
        go_enter Tryd.func18, Tryd.ntmps18
        go_wp2_with (first | (go_at_call 37; refine (hcon _).mono ?_; rintro e w' ⟨rfl, q, rfl⟩) | (go_at_call 39; refine (hF _).mono ?_; rintro e w' ⟨rfl, rfl⟩))
        go_ret2
        exact ⟨_, rfl, (hrow2 _).out, (HB1 _).out⟩
/-- The number that Atoi hands back. -/
def atoiNum (l : List UInt8) : Int := match Lib.atoiAll l with | .ok v => v | .«syntax» => 0 | .range => Lib.atoiSat l
theorem strconv_Atoi_call (a0 : ByteArray) (hs : a0.size ≤ 281474976710656) (w : World) (syn : ∃ tp p, w.var? Tryd.prog "strconv.ErrSyntax" = some #[.iface tp p]) (rng : ∃ tp p, w.var? Tryd.prog "strconv.ErrRange" = some #[.iface tp p]) :
  Calls Tryd.prog 20 #[.string a0] w fun e w' => ∃ u : Value, e = .returned (.tuple #[.int .i64 (atoiNum a0.data.toList), u]) ∧ Below w.heap.size w w' := by
  unfold atoiNum
  cases ha : Lib.atoiAll a0.data.toList with
  | ok v =>
    have h := Any.strconv_Atoi_ok Tryd.laysC172 a0 (by omega) v ha w
    refine (show Calls Tryd.prog 20 #[.string a0] w _ from h).mono ?_
    rintro e w' ⟨rfl, hw⟩
    refine ⟨_, rfl, ?_⟩
    rcases hw with rfl | ⟨t, rfl⟩
    · exact Below.refl _ _
    · exact Lib.bytesWorld_below _ _ _
  | «syntax» =>
    obtain ⟨tp, p, hv⟩ := syn
    have h := Any.strconv_Atoi_syntax_var Tryd.laysC172 a0 hs ha tp p w hv
    refine (show Calls Tryd.prog 20 #[.string a0] w _ from h).mono ?_
    rintro e w' ⟨N, rfl, _, _, hb⟩
    exact ⟨_, rfl, hb⟩
  | range =>
    obtain ⟨tp, p, hv⟩ := rng
    have h := Any.strconv_Atoi_range_var Tryd.laysC172 a0 hs ha tp p w hv
    refine (show Calls Tryd.prog 20 #[.string a0] w _ from h).mono ?_
    rintro e w' ⟨N, rfl, _, _, hb⟩
    exact ⟨_, rfl, hb⟩
end Go.Proofs.YtpndhhellhfegaaDoor.Ev
