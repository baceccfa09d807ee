-- written by xprint.py for this seat
import Derived.Test.YtefbmfgifjphfaaDoorPFnExactParseActx0
namespace Go.Proofs.YtefbmfgifjphfaaDoor.PFnExactParseAct
open Go.RowKit Go.Proofs.YtefbmfgifjphfaaDoorW.PrintWords Go.Proofs.YtefbmfgifjphfaaDoorW.PrintLast Go.Proofs.YtefbmfgifjphfaaDoorW.PrintMore
attribute [local go_sem] max2_int min2_int max_two min_two max_three min_three max_four min_four   -- for this text's walks alone
set_option linter.unusedVariables false
set_option linter.unusedSimpArgs false

/-! ### impl_SplitFields: function 31 -/
def impl_SplitFields.f (k : Nat) (a0 : ByteArray) : Option (List ByteArray × Bool) := some (splitRes a0.data.toList)
theorem impl_SplitFields.mono : ∀ a0 k, LeO (impl_SplitFields.f k a0) (impl_SplitFields.f (k + 1) a0) := fun _ _ => LeO.refl _
theorem cntF_le : ∀ (l : List UInt8) (ws : Bool), Lib.cntF ws l ≤ l.length
  | [], _ => Nat.le_refl _
  | b :: t, ws => by
    have := cntF_le t (Lib.isSp b)
    simp only [Lib.cntF, List.length_cons]
    split <;> omega
set_option maxRecDepth 100000 in
theorem bad_pred (w : World) : PredAt Tryd.prog 44 #[] (fun b : UInt8 => Value.int .u8 b.toNat) (fun b => !okByte b) w := fun W x hb => by
  show Calls Tryd.prog 44 #[.int .u8 x.toNat] W fun e w' => e = .returned (.bool (!okByte x)) ∧ ∃ q, w' = W.drewN q
  have hr : (!okByte x) = decide ((x.toNat : Int) < 32 ∨ 126 < (x.toNat : Int)) := by
    unfold okByte
    rw [Bool.eq_iff_iff]
    simp
    omega
  rw [hr]
  clear hr
  generalize (x.toNat : Int) = n
  by_cases h1 : n < 32
  · have e : decide (n < 32 ∨ 126 < n) = true := decide_eq_true (Or.inl h1)
    rw [e]; clear e
    go_enter Tryd.func44, Tryd.ntmps44
    go_wp2
    go_ret
    exact ⟨rfl, 0, rfl⟩
  · by_cases h2 : 126 < n
    · have e : decide (n < 32 ∨ 126 < n) = true := decide_eq_true (Or.inr h2)
      rw [e]; clear e
      go_enter Tryd.func44, Tryd.ntmps44
      go_wp2
      go_ret
      exact ⟨by simp_all, 0, rfl⟩
    · have e : decide (n < 32 ∨ 126 < n) = false := decide_eq_false (by omega)
      rw [e]; clear e
      go_enter Tryd.func44, Tryd.ntmps44
      go_wp2
      go_ret
      exact ⟨by simp_all, 0, rfl⟩
set_option maxRecDepth 100000 in
theorem contains_bad (a0 : ByteArray) (c : Nat) (w : World) (hs : a0.size ≤ 600) (hc : ∀ j, j < a0.size → w.cell? ⟨w.heap.size - 1, j, none⟩ = some (.int .u8 (a0.data.toList.getD j 0).toNat)) :
    Calls Tryd.prog 43 #[.slice (some ⟨w.heap.size - 1, 0, none⟩) a0.size c, .func (.func 44) #[] #[]] w fun e w' => e = .returned (.bool (!a0.data.toList.all okByte)) ∧ ∃ q, w' = w.drewN q := by
  have eg : ∀ args w, (callFunc 44 args).run Tryd.prog w = .ok (.enter 44 args) w := enters_of Tryd.func44 (by kernel_rfl) rfl
  have hl : a0.data.toList.length = a0.size := Array.length_toList
  have hcon := AnyE.slices_ContainsFunc Tryd.l43 (fun b : UInt8 => Value.int .u8 b.toNat) (fun b => !okByte b) 44 #[] eg (w.heap.size - 1) 0 a0.size c a0.data.toList w (bad_pred w) (by omega) (by omega) (fun j hj => by
    rw [Nat.zero_add, hc j (by omega), List.getD_eq_getElem?_getD, getElem!_def]
    cases h : a0.data.toList[j]? with
    | none => exact absurd hj (by rw [List.getElem?_eq_none_iff] at h; omega)
    | some b => rfl)
  have e : (List.take a0.size a0.data.toList).any (fun b => !okByte b) = !a0.data.toList.all okByte := by
    rw [List.take_of_length_le (by omega), List.not_all_eq_any_not]
  rw [e] at hcon
  exact hcon
set_option maxHeartbeats 8000000 in
set_option maxRecDepth 100000 in
theorem impl_SplitFields.calls (k : Nat) (a0 : ByteArray) (r1 : List ByteArray) (r2 : Bool) (w : World) (h : impl_SplitFields.f k a0 = some (r1, r2)) (htab0 : TabW w) :
  Calls Tryd.prog 31 #[.string a0] w fun e w' => ∃ v0_ : Value, e = .returned (.tuple #[v0_, .bool r2]) ∧ Kd.R Kd.string 9 w' w.heap.size (fun _ => True) v0_ r1 ∧ Below w.heap.size w w' := by
  have hl : a0.data.toList.length = a0.size := Array.length_toList
  have h := Option.some.inj h
  unfold splitRes at h
  by_cases c6 : a0.data.toList.length > 600
  · rw [if_pos c6] at h
    obtain ⟨rfl, rfl⟩ := Prod.mk.inj h
    have c6 : 600 < (a0.size : Int) := by omega
    clear h htab0 hl
    go_enter Tryd.func31, Tryd.ntmps31
    go_wp2
    go_ret2
    exact ⟨_, rfl, Kd.R_nil _ _ _ _ _, Below.refl _ _⟩
  · rw [if_neg c6] at h
    have hs : a0.size ≤ 600 := by omega
    have c6' : ¬ 600 < (a0.size : Int) := by omega
    clear c6
    have hcon := fun c => contains_bad a0 c (Lib.bytesWorld w 5 a0) hs (fun j hj => by rw [Lib.bytesWorld_size]; exact Lib.bytesWorld_cell w 5 a0 j hj)
    have hz : (Lib.bytesWorld w 5 a0).heap.size - 1 = w.heap.size := by rw [Lib.bytesWorld_size]; rfl
    rw [hz] at hcon
    have HB0 : ∀ q, Below w.heap.size w ((Lib.bytesWorld w 5 a0).drewN q) := fun q => below_drewN' (Lib.bytesWorld_below _ _ _) q
    have hcv : (convert 9 45 (.string a0)).run Tryd.prog w = .ok (.slice (some ⟨w.heap.size, 0, none⟩) a0.size (grownCap w a0.size 0 5)) (Lib.bytesWorld w 5 a0) := Lib.run_convert_string_bytes w 9 45 5 a0 Tryd.underlying9 Tryd.underlying45 Tryd.underlying5
    unfold splitDone at h
    cases hok : a0.data.toList.all okByte with
    | false =>
      rw [hok] at h
      obtain ⟨rfl, rfl⟩ := Prod.mk.inj h
      rw [hok] at hcon
      have hcon : ∀ c, Calls Tryd.prog 43 #[.slice (some ⟨w.heap.size, 0, none⟩) a0.size c, .func (.func 44) #[] #[]] (Lib.bytesWorld w 5 a0) fun e w' => e = .returned (.bool true) ∧ ∃ q, w' = (Lib.bytesWorld w 5 a0).drewN q := hcon
      clear h htab0 hl hok hz hs
      go_enter Tryd.func31, Tryd.ntmps31
      go_wp2_with (go_at_call 43; refine (hcon _).mono ?_; rintro e w' ⟨rfl, q, rfl⟩)
      go_ret2
      exact ⟨_, rfl, Kd.R_nil _ _ _ _ _, HB0 _⟩
    | true =>
      rw [hok] at h
      rw [hok] at hcon
      have hcon : ∀ c, Calls Tryd.prog 43 #[.slice (some ⟨w.heap.size, 0, none⟩) a0.size c, .func (.func 44) #[] #[]] (Lib.bytesWorld w 5 a0) fun e w' => e = .returned (.bool false) ∧ ∃ q, w' = (Lib.bytesWorld w 5 a0).drewN q := hcon
      have hall : ∀ (j : Nat) b, a0.data.toList[j]? = some b → b.toNat < 128 := fun j b hb => by
        have := List.all_eq_true.1 hok b (List.mem_of_getElem? hb)
        unfold okByte at this
        simp at this
        omega
      have hF := fun q => Tryd.strings_Fields a0 ((Lib.bytesWorld w 5 a0).drewN q) (by omega) hall (htab0.below (HB0 q)).space
      have hlen : (Lib.fields a0.data.toList).length ≤ a0.size := by rw [Lib.fields_length, Lib.size_eq]; exact cntF_le _ _
      have hmap : (Lib.fields a0.data.toList).map (fun l => Value.string ⟨l.toArray⟩) = ((Lib.fields a0.data.toList).map bs).map Value.string := by rw [List.map_map]; rfl
      rw [hmap] at hF
      generalize (Lib.fields a0.data.toList) = fs at h hF hlen
      have hml : (fs.map bs).length = fs.length := List.length_map _
      have hrow : ∀ W : World, w.heap.size ≤ W.heap.size → Kd.R Kd.string 9 (W.alloc (.cells ((fs.map bs).map Value.string).toArray 9)) w.heap.size (fun _ => True) (.slice (some ⟨W.heap.size, 0, none⟩) fs.length fs.length) (fs.map bs) := fun W hW => by
        rw [← hml]
        refine ⟨fun _ _ => trivial, (fs.map bs).map Value.string, ?_, ?_⟩
        · have ho := World.ownsRow_lit (base := w.heap.size) (e := 9) (size := 1) W ((fs.map bs).map Value.string).toArray (fs.map bs).length hW (by unfold maxLen; omega) (by simp)
          simpa [Kd.string, Kd.scalar] using ho
        · exact Kd.reps_scalar _
      have hsz : ∀ q, w.heap.size ≤ ((Lib.bytesWorld w 5 a0).drewN q).heap.size := fun q => (HB0 q).size
      have hrow2 : ∀ q, Hid (Kd.R Kd.string 9 (((Lib.bytesWorld w 5 a0).drewN q).alloc (.cells ((fs.map bs).map Value.string).toArray 9)) w.heap.size (fun _ => True) (.slice (some ⟨((Lib.bytesWorld w 5 a0).drewN q).heap.size, 0, none⟩) fs.length fs.length) (fs.map bs)) := fun q => Lib.hid (hrow _ (hsz q))
      have HB1 : ∀ q, Hid (Below w.heap.size w (((Lib.bytesWorld w 5 a0).drewN q).alloc (.cells ((fs.map bs).map Value.string).toArray 9))) := fun q => Lib.hid ((HB0 q).alloc (hsz q) _)
      have HB0' : ∀ q, Hid (Below w.heap.size w ((Lib.bytesWorld w 5 a0).drewN q)) := fun q => Lib.hid (HB0 q)
      clear hok hz htab0 hall hmap hrow hml HB0 hsz hl
      generalize ((fs.map bs).map Value.string).toArray = C at hF hrow2 HB1
      by_cases h24 : fs.length > 24
      · rw [if_pos rfl, if_pos h24] at h
        obtain ⟨rfl, rfl⟩ := Prod.mk.inj h
        have h24 : 24 < (fs.length : Int) := by omega
        clear h hlen hs
        go_enter Tryd.func31, Tryd.ntmps31
        go_wp2_with (first | (go_at_call 43; refine (hcon _).mono ?_; rintro e w' ⟨rfl, q, rfl⟩) | (go_at_call 45; refine (hF _).mono ?_; rintro e w' ⟨rfl, rfl⟩))
        go_ret2
        exact ⟨_, rfl, Kd.R_nil _ _ _ _ _, (HB1 _).out⟩
      · rw [if_pos rfl, if_neg h24] at h
        obtain ⟨rfl, rfl⟩ := Prod.mk.inj h
        have h24 : ¬ 24 < (fs.length : Int) := by omega
        clear h hlen hs
        go_enter Tryd.func31, Tryd.ntmps31
        go_wp2_with (first | (go_at_call 43; refine (hcon _).mono ?_; rintro e w' ⟨rfl, q, rfl⟩) | (go_at_call 45; refine (hF _).mono ?_; rintro e w' ⟨rfl, rfl⟩))
        go_ret2
        exact ⟨_, rfl, (hrow2 _).out, (HB1 _).out⟩

/-! ### slices_Index_string_string: function 32 -/
def slices_Index_string_string.l0 : Nat → List ByteArray → ByteArray → Int → Int → Option (Int)
 | 0, _, _, _, _ => none
 | k + 1, x0, x1, x7, x8 => if x8 < x7 then (if 0 ≤ x8 then (if x8 < (x0.length : Int) then (if x1.toList = (rdOf ByteArray.empty x0 x8).toList then (some x8) else (slices_Index_string_string.l0 k x0 x1 x7 (wrap64 (x8 + 1)))) else (none)) else (none)) else (some (-1))
def slices_Index_string_string.f (k : Nat) (l0 : List ByteArray) (a1 : ByteArray) : Option (Int) := slices_Index_string_string.l0 k l0 a1 (l0.length : Int) 0
theorem slices_Index_string_string.mono_l : ∀ k, (∀ y0 y1 y2 y3, LeO (slices_Index_string_string.l0 k y0 y1 y2 y3) (slices_Index_string_string.l0 (k + 1) y0 y1 y2 y3))
 | 0 => fun _ _ _ _ r h => by simp [slices_Index_string_string.l0] at h
 | k + 1 => by
  have ih0 := slices_Index_string_string.mono_l k
  ·intro y0 y1 y2 y3
   unfold slices_Index_string_string.l0
   repeat' first
   | (with_reducible exact ih0 _ _ _ _)
   | (with_reducible exact LeO.refl _)
   | (with_reducible exact LeO.none _)
   | (with_reducible refine LeO.ite ?_ ?_)
   | (with_reducible refine LeO.bind ?_ (fun _ => ?_))
   | exact ih0 _ _ _ _
   | exact LeO.none _
   | refine LeO.ite ?_ ?_
   | refine LeO.bind ?_ (fun _ => ?_)
theorem slices_Index_string_string.mono : ∀ a0 a1 k, LeO (slices_Index_string_string.f k a0 a1) (slices_Index_string_string.f (k + 1) a0 a1) := by
 intro a0 a1 k; have ih0 := slices_Index_string_string.mono_l k; unfold slices_Index_string_string.f
 repeat' first
   | (with_reducible exact ih0 _ _ _ _)
   | (with_reducible exact LeO.refl _)
   | (with_reducible exact LeO.none _)
   | (with_reducible refine LeO.ite ?_ ?_)
   | (with_reducible refine LeO.bind ?_ (fun _ => ?_))
   | exact ih0 _ _ _ _
   | exact LeO.none _
   | refine LeO.ite ?_ ?_
   | refine LeO.bind ?_ (fun _ => ?_)
set_option maxHeartbeats 8000000 in
set_option maxRecDepth 100000 in
theorem slices_Index_string_string.calls (k : Nat) (A0 : Option Addr) (c0 : Nat) (l0 : List ByteArray) (a1 : ByteArray) (r : Int) (w : World) (hr0 : Kd.C Kd.string w A0 l0.length l0) (hc0 : l0.length ≤ c0) (h : slices_Index_string_string.f k l0 a1 = some r) :
  Calls Tryd.prog 32 #[.slice A0 l0.length c0, .string a1] w fun e w' => e = .returned (.int .i64 r) ∧ Drawn0 w w' := by
 have HR0 := am hr0; have HC0 := am hc0; clear hr0 hc0; have H : (slices_Index_string_string.l0 k l0 a1 (l0.length : Int) 0) = some r := h; clear h; have H' := am H; clear H; go_enter Tryd.func32, Tryd.ntmps32
 go_wp2
 go_loopg [8] k (fun kq v8 w' => ∃ (x8_1 : Int), v8 = .int .i64 x8_1 ∧ Aside0 (slices_Index_string_string.l0 kq l0 a1 (l0.length : Int) x8_1 = some r) ∧ Aside0 (kq ≤ k) ∧ Drawn0 w w')
 case atStart => exact ⟨(0), (by first | rfl | (simp; done) | (simp [*]; done)), H', ⟨Nat.le_refl _⟩, by repeat (first | exact Drawn0.refl _ | apply Drawn0.step)⟩
 case round =>
  clear H'; (try clear p2); obtain ⟨x8_1, rfl, HA, HK1, ⟨m1, rfl⟩⟩ := hrel; cases gk with
  | zero => exact absurd HA.out (by simp [slices_Index_string_string.l0])
  | succ k1 =>
   have H := HA.out; clear HA; simp only [slices_Index_string_string.l0] at H
   by_cases c3 : x8_1 < (l0.length : Int)
   ·rw [if_pos c3] at H
    have c3b0 : decide (x8_1 < (l0.length : Int)) = true := decide_eq_true c3; clear c3
    by_cases c4 : 0 ≤ x8_1
    ·rw [if_pos c4] at H
     have c4b0 : decide (0 ≤ x8_1) = true := decide_eq_true c4; clear c4
     by_cases c5 : x8_1 < (l0.length : Int)
     ·rw [if_pos c5] at H
      have c5b0 : decide (x8_1 < (l0.length : Int)) = true := decide_eq_true c5; clear c5
      by_cases c6 : a1.toList = (rdOf ByteArray.empty l0 x8_1).toList
      ·rw [if_pos c6] at H
       have c6b0 : (a1.toList == (rdOf ByteArray.empty l0 x8_1).toList) = true := beq_iff_eq.mpr c6; have c6b1 : (a1.toList != (rdOf ByteArray.empty l0 x8_1).toList) = false := bne_eq_false_iff_eq.mpr c6; clear c6; obtain rfl := Option.some.inj H; have p234 : 0 ≤ (x8_1 : Int) := of_decide_eq_true (by first | (with_reducible assumption) | assumption); have q234 : x8_1 < (l0.length : Int) := of_decide_eq_true (by first | (with_reducible assumption) | assumption); obtain ⟨ad234, e234, hx234_0⟩ := Kd.at_string HR0.out x8_1 p234 q234; cases e234; replace p234 := eq_true p234; replace q234 := eq_true q234
       go_wp2
       go_ret
       exact ⟨by first | rfl | (simp; done) | (simp [*]; done), by repeat (first | exact Drawn0.refl _ | apply Drawn0.step)⟩
      ·rw [if_neg c6] at H
       have c6b0 : (a1.toList == (rdOf ByteArray.empty l0 x8_1).toList) = false := beq_eq_false_iff_ne.mpr c6; have c6b1 : (a1.toList != (rdOf ByteArray.empty l0 x8_1).toList) = true := bne_iff_ne.mpr c6; have H' := am H; clear H; have p234 : 0 ≤ (x8_1 : Int) := of_decide_eq_true (by first | (with_reducible assumption) | assumption); have q234 : x8_1 < (l0.length : Int) := of_decide_eq_true (by first | (with_reducible assumption) | assumption); obtain ⟨ad234, e234, hx234_0⟩ := Kd.at_string HR0.out x8_1 p234 q234; cases e234; replace p234 := eq_true p234; replace q234 := eq_true q234
       go_wp2
       go_roundg k1
       case measure => have := HK1.out; omega
       case rel => exact ⟨(wrap64 (x8_1 + 1)), (by first | rfl | (simp; done) | (simp [*]; done)), H', ⟨by have := HK1.out; omega⟩, by repeat (first | exact Drawn0.refl _ | apply Drawn0.step)⟩
     ·rw [if_neg c5] at H
      exact absurd H (by simp)
    ·rw [if_neg c4] at H
     exact absurd H (by simp)
   ·rw [if_neg c3] at H
    have c3b0 : decide (x8_1 < (l0.length : Int)) = false := decide_eq_false c3; clear c3; obtain rfl := Option.some.inj H
    go_wp2
    go_ret
    exact ⟨by first | rfl | (simp; done) | (simp [*]; done), by repeat (first | exact Drawn0.refl _ | apply Drawn0.step)⟩

