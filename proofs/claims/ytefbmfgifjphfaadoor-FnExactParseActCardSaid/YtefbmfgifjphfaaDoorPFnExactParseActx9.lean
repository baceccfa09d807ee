-- written by xprint.py for this seat
import Derived.Test.YtefbmfgifjphfaaDoorPFnExactParseActx0
import Derived.Test.YtefbmfgifjphfaaDoorPFnExactParseActx6
import Derived.Test.YtefbmfgifjphfaaDoorPFnExactParseActx7
namespace Go.Proofs.YtefbmfgifjphfaaDoor.PFnExactParseAct
open Go.RowKit Go.Proofs.YtefbmfgifjphfaaDoorW.PrintWords Go.Proofs.YtefbmfgifjphfaaDoorW.PrintLast Go.Proofs.YtefbmfgifjphfaaDoorW.PrintMore
attribute [local go_sem] max2_int min2_int max_two min_two max_three min_three max_four min_four   -- for this text's walks alone
set_option linter.unusedVariables false
set_option linter.unusedSimpArgs false

/-! ### strconv_Atoi_33: function 33 -/
def strconv_Atoi_33.f (a0 : ByteArray) : Option (Int × Option Int) := if a0.size ≤ 281474976710656 then some (atoiNum a0.data.toList, none) else none
theorem strconv_Atoi_33.calls (a0 : ByteArray) (r1 : Int) (r2 : Option Int) (w : World) (h : strconv_Atoi_33.f a0 = some (r1, r2)) (htab0 : TabW w) :
  Calls Tryd.prog 33 #[.string a0] w fun e w' => ∃ ev : Value, e = .returned (.tuple #[.int .i64 r1, ev]) ∧ Below w.heap.size w w' := by
  unfold strconv_Atoi_33.f at h
  split at h
  · rename_i hs
    obtain ⟨rfl, _⟩ := Prod.mk.inj (Option.some.inj h)
    unfold atoiNum
    cases ha : Lib.atoiAll a0.data.toList with
    | ok v =>
      refine (Tryd.strconv_Atoi_ok a0 (by omega) v ha w).mono ?_
      rintro e w' ⟨rfl, hw⟩
      refine ⟨_, rfl, ?_⟩
      rcases hw with rfl | ⟨t, rfl⟩
      · exact Below.refl _ _
      · exact Lib.bytesWorld_below _ _ _
    | «syntax» =>
      obtain ⟨tp, p, hv⟩ := htab0.syn
      refine (Tryd.strconv_Atoi_syntax_var a0 hs ha tp p w hv).mono ?_
      rintro e w' ⟨N, rfl, _, _, hb⟩
      exact ⟨_, rfl, hb⟩
    | range =>
      obtain ⟨tp, p, hv⟩ := htab0.rng
      refine (Tryd.strconv_Atoi_range_var a0 hs ha tp p w hv).mono ?_
      rintro e w' ⟨N, rfl, _, _, hb⟩
      exact ⟨_, rfl, hb⟩
  · cases h

/-! ### strings_Join: function 34 -/
def strings_Join.f (l0 : List ByteArray) (a1 : ByteArray) : Option (ByteArray) := if l0.length ≤ 140737488355328 ∧ (Lib.join (l0.map (·.data.toList)) a1.data.toList).length ≤ 140737488355328 then some (bs (Lib.join (l0.map (·.data.toList)) a1.data.toList)) else none
theorem strings_Join.calls (A0 : Option Addr) (c0 : Nat) (l0 : List ByteArray) (a1 : ByteArray) (r : ByteArray) (w : World) (hr0 : Kd.C Kd.string w A0 l0.length l0) (hc0 : l0.length ≤ c0) (h : strings_Join.f l0 a1 = some r) :
  Calls Tryd.prog 34 #[.slice A0 l0.length c0, .string a1] w fun e w' => e = .returned (.string r) ∧ Below w.heap.size w w' := by
  unfold strings_Join.f at h
  split at h
  · rename_i hc
    obtain rfl := Option.some.inj h
    by_cases h0 : l0 = []
    · subst h0
      refine (Tryd.strings_Join_none A0 c0 a1 w).mono ?_
      rintro e w' ⟨rfl, rfl⟩
      exact ⟨rfl, Below.refl _ _⟩
    · have hp : 0 < l0.length := List.length_pos_iff.mpr h0
      obtain ⟨ad, rfl, hcell⟩ := hr0.2.2 hp
      have hat : ∀ (j : Nat) x, l0[j]? = some x → w.cell? (ad.add j) = some (.string x) := fun j x hx => by
        obtain ⟨c, _, hk, hh⟩ := hcell j x hx
        have := hh 0 (.string x) (by rw [show c = [Value.string x] from hk]; rfl)
        simpa [Kd.string, Kd.scalar] using this
      obtain ⟨x0, hx0⟩ : ∃ x, l0[0]? = some x := ⟨l0[0], List.getElem?_eq_getElem hp⟩
      have h00 : w.cell? ad = some (.string x0) := hat 0 x0 hx0
      obtain ⟨bk, o, sp⟩ := ad
      have hsp : sp = none := by
        cases sp with
        | none => rfl
        | some n =>
          unfold World.cell? at h00
          split at h00 <;> simp at h00
      subst hsp
      refine (Tryd.strings_Join bk o c0 l0 a1 w (fun j x hx => ?_) (World.block_lt_of_cell? w _ h00) hc.1 hc0 hc.2).mono ?_
      · have := hat j x hx
        unfold Addr.add at this
        split at this
        · rename_i hj
          subst hj
          exact this
        · exact this
      · rintro e w' ⟨rfl, hb⟩
        exact ⟨rfl, hb⟩
  · cases h

/-! ### impl_ParseAct: function 20 -/
mutual
def impl_ParseAct.j0 : Nat → List ByteArray → Bool → Option (Int × Int × Int × Bool)
 | 0, _, _ => none
 | k + 1, x4, x20 => if x20 = true then (some (0, 0, 0, false)) else ((impl_actNames.f).bind fun t261 => (if 0 < (x4.length : Int) then ((slices_Index_string_string.f k t261 (rdOf ByteArray.empty x4 0)).bind fun t265 => (if 1 < (x4.length : Int) then ((strconv_Atoi_33.f (rdOf ByteArray.empty x4 1)).bind fun bt268 => (if (x4.length : Int) > 2 then (if 2 < (x4.length : Int) then ((strconv_Atoi_33.f (rdOf ByteArray.empty x4 2)).bind fun bt271 => (impl_ParseAct.j1 k x4 t265 bt268.1 bt271.1)) else (none)) else (impl_ParseAct.j1 k x4 t265 bt268.1 0))) else (none))) else (none)))
def impl_ParseAct.j1 : Nat → List ByteArray → Int → Int → Int → Option (Int × Int × Int × Bool)
 | 0, _, _, _, _ => none
 | k + 1, x4, x267000, x267001, x267002 => (impl_FormatAct.f k x267000 x267001 x267002).bind fun bt273 => (if bt273.2 = true then ((strings_Join.f x4 (⟨#[32]⟩ : ByteArray)).bind fun t275 => (if bt273.1.toList = t275.toList then (some (x267000, x267001, x267002, true)) else (some (0, 0, 0, false)))) else (some (0, 0, 0, false)))
end
def impl_ParseAct.f (k : Nat) (a0 : ByteArray) : Option (Int × Int × Int × Bool) := (impl_SplitFields.f k a0).bind fun bt257 => (if bt257.2 = true then (impl_ParseAct.j0 k bt257.1 (decide ((bt257.1.length : Int) < 2))) else (impl_ParseAct.j0 k bt257.1 true))
theorem impl_ParseAct.mono_l : ∀ k, (∀ y0 y1, LeO (impl_ParseAct.j0 k y0 y1) (impl_ParseAct.j0 (k + 1) y0 y1)) ∧ (∀ y0 y1 y2 y3, LeO (impl_ParseAct.j1 k y0 y1 y2 y3) (impl_ParseAct.j1 (k + 1) y0 y1 y2 y3))
 | 0 => ⟨fun _ _ r h => by simp [impl_ParseAct.j0] at h, fun _ _ _ _ r h => by simp [impl_ParseAct.j1] at h⟩
 | k + 1 => by
  obtain ⟨ih0, ih1⟩ := impl_ParseAct.mono_l k; refine ⟨?_, ?_⟩
  ·intro y0 y1
   unfold impl_ParseAct.j0
   repeat' first
   | (with_reducible exact ih0 _ _)
   | (with_reducible exact ih1 _ _ _ _)
   | (with_reducible exact impl_FormatAct.mono _ _ _ _)
   | (with_reducible exact impl_SplitFields.mono _ _)
   | (with_reducible exact slices_Index_string_string.mono _ _ _)
   | (with_reducible exact LeO.refl _)
   | (with_reducible exact LeO.none _)
   | (with_reducible refine LeO.ite ?_ ?_)
   | (with_reducible refine LeO.bind ?_ (fun _ => ?_))
   | exact ih0 _ _
   | exact ih1 _ _ _ _
   | exact impl_FormatAct.mono _ _ _ _
   | exact impl_SplitFields.mono _ _
   | exact slices_Index_string_string.mono _ _ _
   | exact LeO.none _
   | refine LeO.ite ?_ ?_
   | refine LeO.bind ?_ (fun _ => ?_)
  ·intro y0 y1 y2 y3
   unfold impl_ParseAct.j1
   repeat' first
   | (with_reducible exact ih0 _ _)
   | (with_reducible exact ih1 _ _ _ _)
   | (with_reducible exact impl_FormatAct.mono _ _ _ _)
   | (with_reducible exact impl_SplitFields.mono _ _)
   | (with_reducible exact slices_Index_string_string.mono _ _ _)
   | (with_reducible exact LeO.refl _)
   | (with_reducible exact LeO.none _)
   | (with_reducible refine LeO.ite ?_ ?_)
   | (with_reducible refine LeO.bind ?_ (fun _ => ?_))
   | exact ih0 _ _
   | exact ih1 _ _ _ _
   | exact impl_FormatAct.mono _ _ _ _
   | exact impl_SplitFields.mono _ _
   | exact slices_Index_string_string.mono _ _ _
   | exact LeO.none _
   | refine LeO.ite ?_ ?_
   | refine LeO.bind ?_ (fun _ => ?_)
theorem impl_ParseAct.mono : ∀ a0 k, LeO (impl_ParseAct.f k a0) (impl_ParseAct.f (k + 1) a0) := by
 intro a0 k; obtain ⟨ih0, ih1⟩ := impl_ParseAct.mono_l k; unfold impl_ParseAct.f
 repeat' first
   | (with_reducible exact ih0 _ _)
   | (with_reducible exact ih1 _ _ _ _)
   | (with_reducible exact impl_FormatAct.mono _ _ _ _)
   | (with_reducible exact impl_SplitFields.mono _ _)
   | (with_reducible exact slices_Index_string_string.mono _ _ _)
   | (with_reducible exact LeO.refl _)
   | (with_reducible exact LeO.none _)
   | (with_reducible refine LeO.ite ?_ ?_)
   | (with_reducible refine LeO.bind ?_ (fun _ => ?_))
   | exact ih0 _ _
   | exact ih1 _ _ _ _
   | exact impl_FormatAct.mono _ _ _ _
   | exact impl_SplitFields.mono _ _
   | exact slices_Index_string_string.mono _ _ _
   | exact LeO.none _
   | refine LeO.ite ?_ ?_
   | refine LeO.bind ?_ (fun _ => ?_)
def impl_ParseAct.T4 : Bool × List (List Nat × List Nat) := (true, [([], []), ([], []), ([1], [1]), ([2], [2]), ([0, 3, 0], [0, 3]), ([4], [4]), ([], []), ([6, 5, 4, 0, 1, 2, 3, 4, 5, 6], [5, 6])])
def impl_ParseAct.B4 : List Nat := [0, 0, 2, 6, 15, 31, 0, 127]
theorem impl_ParseAct.tab4 : rtab .any (opsOf Tryd.f20 4) = impl_ParseAct.T4 := by kernel_rfl
theorem impl_ParseAct.bits4 : waitsOk impl_ParseAct.T4.2 impl_ParseAct.B4 = true := by kernel_rfl
set_option maxHeartbeats 8000000 in
set_option maxRecDepth 100000 in
theorem impl_ParseAct.calls (k : Nat) (a0 : ByteArray) (r1 : Int) (r2 : Int) (r3 : Int) (r4 : Bool) (w : World) (h : impl_ParseAct.f k a0 = some (r1, r2, r3, r4)) (htab0 : TabW w) :
  Calls Tryd.prog 20 #[.string a0] w fun e w' => e = .returned (.tuple #[.agg #[.int .i64 r1, .int .i64 r2, .int .i64 r3], .bool r4]) ∧ Below w.heap.size w w' := by
 have hu31 := Tryd.underlying31; have HB := am (Below.refl w.heap.size w); have H : ((impl_SplitFields.f k a0).bind fun bt257 => (if bt257.2 = true then (impl_ParseAct.j0 k bt257.1 (decide ((bt257.1.length : Int) < 2))) else (impl_ParseAct.j0 k bt257.1 true))) = some (r1, r2, r3, r4) := h; clear h; replace H := Option.bind_eq_some_iff.mp H; obtain ⟨⟨t257, t258⟩, A20, H⟩ := H; replace H : (if t258 = true then (impl_ParseAct.j0 k t257 (decide ((t257.length : Int) < 2))) else (impl_ParseAct.j0 k t257 true)) = some (r1, r2, r3, r4) := H; have A2 := am A20; clear A20; have HC3 := am H; clear H; go_enter Tryd.func20, Tryd.ntmps20
 go_upto_region 2 with (first | ((with_reducible refine gate_dst (N := 2) rfl ?_); (try (refine gate_guard (by rfl) ?_; dsimp only)); refine box_event ?hg (N := 2) ?hd (cs := #[.int .i64 0, .int .i64 0, .int .i64 0]) (t := 31) ?hr ?_; (case hd => rfl); (case hg => rfl); (case hr => first | (go_simp; done) | (go_simp; rfl)); intro gb256 hg w4 hbox hb; have BK256 := am (hbox); have GW256 := am ((by rw [hg]; exact (below_size (by repeat (first | (with_reducible first | exact HB.out | apply bA | apply bN | apply b1) | exact HB.out))) : w.heap.size ≤ gb256)); replace HB := am (below_step (by repeat (first | (with_reducible first | exact HB.out | apply bA | apply bN | apply b1) | exact HB.out)) hb); have GE256 := GW256; clear hb hbox hg) | ((with_reducible refine gate_callee (f := 31) rfl ?_); refine goesL_ (some 11) rfl rfl Tryd.func31 (by kernel_rfl) rfl #[.string a0] rfl (by (try simp only [List.map_toArray, List.map_cons, List.map_nil]); first | done | rfl | (simp only [List.length_drop, List.length_take]; rfl)) ?_; (with_reducible refine (impl_SplitFields.calls k a0 t257 t258 _ A2.out (TabW.below htab0 (by repeat (first | (with_reducible first | exact HB.out | apply bA | apply bN | apply b1 | refine bS ?_ (by assumption)) | exact HB.out)))).mono ?_); rintro e w5 ⟨v259, rfl, ho0, hb⟩; refine ⟨_, rfl, ?_⟩; have HO260 := am (Kd.R_lower ho0 (below_size (by repeat (first | (with_reducible first | exact HB.out | apply bA | apply bN | apply b1 | refine bS ?_ (by assumption)) | exact HB.out)))); replace BK256 := am (blk_below (pkb BK256.out) hb); replace HB := am (below_step (by repeat (first | (with_reducible first | exact HB.out | apply bA | apply bN | apply b1 | refine bS ?_ (by assumption)) | exact HB.out)) hb); (try clear hb); (try clear hb2); (try clear hk); (try clear hi); (try clear ho0)))
 (try simp only [Act.put, sa, s0, s1])
 go_cut [20] (fun v20 wc => ∃ (kq : Nat) (x20_2 : Bool), v20 = .bool x20_2 ∧ Aside0 (impl_ParseAct.j0 kq t257 x20_2 = some (r1, r2, r3, r4)) ∧ Aside0 (kq ≤ k) ∧ Aside0 (Kd.R Kd.string 9 wc w.heap.size (fun _ => True) v259 t257) ∧ Aside0 (wc.heap[gb256]? = some (.cells #[.int .i64 0, .int .i64 0, .int .i64 0] 31 (0, 0))) ∧ Aside0 (Below w.heap.size w wc))
 case first =>
  have H := HC3.out; clear HC3
  by_cases c6 : t258 = true
  ·subst c6
   have H1 : (impl_ParseAct.j0 k t257 (decide ((t257.length : Int) < 2))) = some (r1, r2, r3, r4) := by rw [if_pos rfl] at H; exact H
   clear H; have H := H1; clear H1; have H' := am H; clear H; obtain ⟨Ao7, co7, eo7⟩ := Kd.R_slice HO260.out; subst eo7
   go_wp2
   go_meet
   case rel => exact ⟨_, (decide ((t257.length : Int) < 2)), (by first | rfl | (simp; done) | (simp [*]; done)), H', ⟨by first | omega | exact Nat.le_refl _⟩, ⟨by (with_reducible repeat (first | apply Kd.R_alloc | apply Kd.R_drewN | apply Kd.R_drew)); exact HO260.out⟩, ⟨by (with_reducible repeat (first | apply kN | apply k1 | apply kA)); exact BK256.out⟩, ⟨by repeat (first | (with_reducible first | exact HB.out | apply bA | apply bN | apply b1 | refine bS ?_ (by assumption)) | exact HB.out)⟩⟩
  ·replace c6 := Bool.eq_false_iff.mpr c6
   subst c6
   have H1 : (impl_ParseAct.j0 k t257 true) = some (r1, r2, r3, r4) := by rw [if_neg (show ¬ (false = true) by decide)] at H; exact H
   clear H; have H := H1; clear H1; have H' := am H; clear H
   go_wp2
   go_meet
   case rel => exact ⟨_, (true), (by first | rfl | (simp; done) | (simp [*]; done)), H', ⟨by first | omega | exact Nat.le_refl _⟩, ⟨by (with_reducible repeat (first | apply Kd.R_alloc | apply Kd.R_drewN | apply Kd.R_drew)); exact HO260.out⟩, ⟨by (with_reducible repeat (first | apply kN | apply k1 | apply kA)); exact BK256.out⟩, ⟨by repeat (first | (with_reducible first | exact HB.out | apply bA | apply bN | apply b1 | refine bS ?_ (by assumption)) | exact HB.out)⟩⟩
 case rest =>
  clear HC3; (try clear c2); (try clear p2); (try clear c3); (try clear c6); obtain ⟨kq, x20_2, rfl, HA, HJ2, HO_4, BK256, HB⟩ := hcut; cases kq with
  | zero => exact absurd HA.out (by simp [impl_ParseAct.j0])
  | succ kj2 =>
   have H := HA.out; clear HA; simp only [impl_ParseAct.j0] at H
   by_cases c8 : x20_2 = true
   ·subst c8
    have H1 : (some (0, 0, 0, false)) = some (r1, r2, r3, r4) := by rw [if_pos rfl] at H; exact H
    clear H; have H := H1; clear H1; simp only [Option.some.injEq, Prod.mk.injEq] at H; obtain ⟨rfl, rfl, rfl, rfl⟩ := H; obtain ⟨hcz9_0, hcz9_1, hcz9_2, hfz9_0, hfz9_1, hfz9_2⟩ := pq3 BK256.out
    go_wp2
    refine bodyPost_ret (results_ct rfl _ _ gb256 31 #[.int .i64 0, .int .i64 0, .int .i64 0] (0, 0) _ rfl (by (with_reducible repeat (first | apply kN | apply k1 | apply kA)); refine blk_put (cs := #[.int .i64 0, .int .i64 0, .int .i64 0]) ?_ 2 _ rfl; (with_reducible repeat (first | apply kN | apply k1 | apply kA)); refine blk_put (cs := #[.int .i64 0, .int .i64 0, .int .i64 0]) ?_ 1 _ rfl; (with_reducible repeat (first | apply kN | apply k1 | apply kA)); refine blk_put (cs := #[.int .i64 0, .int .i64 0, .int .i64 0]) ?_ 0 _ rfl; (with_reducible repeat (first | apply kN | apply k1 | apply kA)); exact BK256.out) Tryd.underlying31 rfl (by kernel_rfl)) rfl ?_; exact ⟨by first | rfl | (simp [errW_none, errW_some] <;> rfl) | (simp [*, errW_none, errW_some] <;> rfl), by repeat (first | (with_reducible first | exact HB.out | apply bA | apply bN | apply b1 | refine bS ?_ (by assumption)) | exact HB.out)⟩
   ·replace c8 := Bool.eq_false_iff.mpr c8
    subst c8
    have H1 : ((impl_actNames.f).bind fun t261 => (if 0 < (t257.length : Int) then ((slices_Index_string_string.f kj2 t261 (rdOf ByteArray.empty t257 0)).bind fun t265 => (if 1 < (t257.length : Int) then ((strconv_Atoi_33.f (rdOf ByteArray.empty t257 1)).bind fun bt268 => (if (t257.length : Int) > 2 then (if 2 < (t257.length : Int) then ((strconv_Atoi_33.f (rdOf ByteArray.empty t257 2)).bind fun bt271 => (impl_ParseAct.j1 kj2 t257 t265 bt268.1 bt271.1)) else (none)) else (impl_ParseAct.j1 kj2 t257 t265 bt268.1 0))) else (none))) else (none))) = some (r1, r2, r3, r4) := by rw [if_neg (show ¬ (false = true) by decide)] at H; exact H
    clear H; have H := H1; clear H1; replace H := Option.bind_eq_some_iff.mp H; obtain ⟨t261, A100, H⟩ := H; replace H : (if 0 < (t257.length : Int) then ((slices_Index_string_string.f kj2 t261 (rdOf ByteArray.empty t257 0)).bind fun t265 => (if 1 < (t257.length : Int) then ((strconv_Atoi_33.f (rdOf ByteArray.empty t257 1)).bind fun bt268 => (if (t257.length : Int) > 2 then (if 2 < (t257.length : Int) then ((strconv_Atoi_33.f (rdOf ByteArray.empty t257 2)).bind fun bt271 => (impl_ParseAct.j1 kj2 t257 t265 bt268.1 bt271.1)) else (none)) else (impl_ParseAct.j1 kj2 t257 t265 bt268.1 0))) else (none))) else (none)) = some (r1, r2, r3, r4) := H; have A10 := am A100; clear A100
    by_cases c11 : 0 < (t257.length : Int)
    ·rw [if_pos c11] at H
     have c11b0 : decide (0 < (t257.length : Int)) = true := decide_eq_true c11; have c11b1 : decide (0 < t257.length) = true := decide_eq_true (by omega); clear c11; replace H := Option.bind_eq_some_iff.mp H; obtain ⟨t265, A120, H⟩ := H; replace H : (if 1 < (t257.length : Int) then ((strconv_Atoi_33.f (rdOf ByteArray.empty t257 1)).bind fun bt268 => (if (t257.length : Int) > 2 then (if 2 < (t257.length : Int) then ((strconv_Atoi_33.f (rdOf ByteArray.empty t257 2)).bind fun bt271 => (impl_ParseAct.j1 kj2 t257 t265 bt268.1 bt271.1)) else (none)) else (impl_ParseAct.j1 kj2 t257 t265 bt268.1 0))) else (none)) = some (r1, r2, r3, r4) := H; have A12 := am A120; clear A120
     by_cases c13 : 1 < (t257.length : Int)
     ·rw [if_pos c13] at H
      have c13b0 : decide (1 < (t257.length : Int)) = true := decide_eq_true c13; have c13b1 : decide (1 < t257.length) = true := decide_eq_true (by omega); clear c13; replace H := Option.bind_eq_some_iff.mp H; obtain ⟨⟨t268, t269⟩, A140, H⟩ := H; replace H : (if (t257.length : Int) > 2 then (if 2 < (t257.length : Int) then ((strconv_Atoi_33.f (rdOf ByteArray.empty t257 2)).bind fun bt271 => (impl_ParseAct.j1 kj2 t257 t265 t268 bt271.1)) else (none)) else (impl_ParseAct.j1 kj2 t257 t265 t268 0)) = some (r1, r2, r3, r4) := H; have A14 := am A140; clear A140; have HC15 := am H; clear H; (try go_wp2); replace HO_4 := am (Kd.R_drew HO_4.out); replace BK256 := am (blk_drew BK256.out); replace HB := am (below_drew1 HB.out); obtain ⟨Ao17, co17, eo17⟩ := Kd.R_slice HO_4.out; (first | subst eo17 | (injection eo17 with f1_ f2_ f3_; have f4_ := f1_.symm; have f5_ := f3_.symm; clear f1_ f2_ f3_; subst f4_; subst f5_)); have p264 : 0 ≤ (0 : Int) := (by omega); have q264 : 0 < (t257.length : Int) := of_decide_eq_true (by first | (with_reducible assumption) | assumption); obtain ⟨ad264, e264, hx264_0⟩ := Kd.at_string (Kd.R_reads' HO_4.out).2.2 0 p264 q264; cases e264; have qi264 : (0 < t257.length) = True := eq_true (by omega); (try rw [show ((0 : Int)).toNat = 0 from rfl] at hx264_0); (try rw [Addr.add_zero'] at hx264_0); replace p264 := eq_true p264; replace q264 := eq_true q264; refine start_ (n := 8) (S := fun w' => w'.cell? ad264 = some (.string (rdOf ByteArray.empty t257 0))) (ds := []) #[false, false, false, false, false, false, false, false] (by kernel_rfl) rfl rfl (hx264_0) (fun hHeld => ?_); refine with_tabW impl_ParseAct.tab4 impl_ParseAct.bits4 (fun HT_ HW_ => ?_); generalize wc.drew = w16 at HO_4 BK256 HB hx264_0 hHeld ⊢; refine pure_ (i := 1) (N := some 23) (v := ?_) (a' := ?_) #[false, true, false, false, false, false, false, false] rfl rfl (any_of HT_.out (by kernel_rfl)) (fun _ _ _ h => h) (Or.inl ⟨by rfl, ?_⟩) ?_ ?_; rotate_left
      ·intro w'
       go_simp; with_reducible rfl
      rotate_left
      ·simp only [Act.put, sa, s0, s1, i64_w, i32_w]
       rfl
      refine pure_ (i := 2) (N := some 24) (v := ?_) (a' := ?_) #[false, true, true, false, false, false, false, false] rfl rfl (any_of HT_.out (by kernel_rfl)) (fun _ _ _ h => h) (Or.inl ⟨by rfl, ?_⟩) ?_ ?_; rotate_left
      ·intro w'
       go_simp; with_reducible rfl
      rotate_left
      ·simp only [Act.put, sa, s0, s1, i64_w, i32_w]
       rfl
      refine take_ (i := 3) (N := some 25) (v := ?_) (a' := ?_) #[false, true, true, true, false, false, false, false] rfl rfl (take_ofW HT_.out HW_.out (by kernel_rfl)) (fun _ _ _ h => h) (Or.inl ⟨by rfl, ?_⟩) hHeld ?_ ?_; rotate_left
      ·intro w' s0
       go_simp; with_reducible rfl
      rotate_left
      ·simp only [Act.put, sa, s0, s1, i64_w, i32_w]
       rfl
      refine join_ (σ := Value × Nat) 1 #[true, true, true, true, true, true, true, false] (fun s_ => [(22, s_.1), (26, .int .i64 t265), (6, .pointer (some ⟨s_.2, 0, none⟩)), (27, .agg #[.int .i64 t265, .int .i64 0, .int .i64 0])]) (fun s_ w' => (w'.cell? ad264 = some (.string (rdOf ByteArray.empty t257 0))) ∧ (Kd.R Kd.string 9 w' w.heap.size (fun k_ => some k_ ≠ (.slice (some ad264) t257.length co17 : Value).ownBlock) s_.1 t261) ∧ (Kd.R Kd.string 9 w' w.heap.size (fun k_ => some k_ ≠ (s_.1 : Value).ownBlock) (.slice (some ad264) t257.length co17) t257) ∧ (w'.heap[gb256]? = some (.cells #[.int .i64 0, .int .i64 0, .int .i64 0] 31 (0, 0))) ∧ (w'.heap[s_.2]? = some (.cells #[.int .i64 0, .int .i64 0, .int .i64 0] 31 (0, 0))) ∧ (w.heap.size ≤ s_.2) ∧ (w.heap.size ≤ s_.2) ∧ (gb256 ≠ s_.2) ∧ (s_.2 ≠ gb256) ∧ (Below w.heap.size w w')) ?_ ?_; rotate_left
      ·intro hCont
       refine two_ (i := 0) (j := 6) (Ni := some 22) (Nj := some 6) #[true, true, true, true, false, false, false, false] #[false, true, true, true, false, false, true, false] rfl rfl rfl rfl (two_of HT_.out (by kernel_rfl)) (by decide) (by decide) (fun K hK => ?_) (fun K hK => ?_)
       ·skip
        refine goes_ Tryd.func27 (by kernel_rfl) rfl #[] (by rfl) rfl rfl (by (try simp only [List.map_toArray, List.map_cons, List.map_nil]); first | done | rfl | (simp only [List.length_drop, List.length_take]; rfl)) ?_; (with_reducible refine (impl_actNames.calls  t261 _ A10.out).mono ?_); rintro e w18 ⟨v262, rfl, ho0, hb⟩; have HS0_ := (hb.cell (World.block_lt_of_cell? _ _ (hHeld))).trans (hHeld); refine ⟨_, rfl, ?_⟩; have HO263 := am (Kd.R_lower (Kd.R_new' ho0 (Kd.R_lt (pkr HO_4.out))) (below_size (by repeat (first | (with_reducible first | exact HB.out | apply bA | apply bN | apply b1 | refine bS ?_ (by assumption)) | exact HB.out)))); replace HO_4 := am (Kd.R_elder' (pkr HO_4.out) (Kd.R_base ho0) hb); replace BK256 := am (blk_below (pkb BK256.out) hb); replace HB := am (below_step (by repeat (first | (with_reducible first | exact HB.out | apply bA | apply bN | apply b1 | refine bS ?_ (by assumption)) | exact HB.out)) hb); (try clear hb); (try clear hb2); (try clear hk); (try clear hi); (try clear ho0); obtain ⟨Ao19, co19, eo19⟩ := Kd.R_slice HO263.out; (first | subst eo19 | (injection eo19 with f1_ f2_ f3_; have f4_ := f1_.symm; have f5_ := f3_.symm; clear f1_ f2_ f3_; subst f4_; subst f5_)); refine hK.out _ _ (HS0_) (fun hHeld => ?_); clear hK K; refine norm_ (a' := ?_) ?_ ?_; rotate_left
        ·show Act.put _ (some 22) _ = _
         simp only [Act.put, sa, s0, s1, i64_w, i32_w]; rfl
        refine two_ (i := 4) (j := 6) (Ni := some 26) (Nj := some 6) #[true, true, true, true, true, false, false, false] #[true, true, true, true, false, false, true, false] rfl rfl rfl rfl (two_of HT_.out (by kernel_rfl)) (by decide) (by decide) (fun K hK => ?_) (fun K hK => ?_)
        ·skip
         refine goes_ Tryd.func32 (by kernel_rfl) rfl #[.slice Ao19 t261.length co19, .string (rdOf ByteArray.empty t257 0)] (by rfl) rfl rfl (by (try simp only [List.map_toArray, List.map_cons, List.map_nil]); first | done | rfl | (simp only [List.length_drop, List.length_take]; rfl)) ?_; (with_reducible refine (slices_Index_string_string.calls kj2 _ _ t261 (rdOf ByteArray.empty t257 0) t265 _ ?side1 ?side2 A12.out).mono ?_); (case side1 => exact pkc (Kd.R_reads' HO263.out).2.2); (case side2 => exact (Kd.R_reads' HO263.out).2.1); rintro e w' ⟨rfl, ⟨nd, rfl⟩⟩; refine ⟨_, rfl, ?_⟩; refine hK.out _ _ (hHeld) (fun hHeld => ?_); clear hK K; refine norm_ (a' := ?_) ?_ ?_; rotate_left
         ·show Act.put _ (some 26) _ = _
          simp only [Act.put, sa, s0, s1, i64_w, i32_w]; rfl
         refine pure_ (i := 5) (N := some 27) (v := ?_) (a' := ?_) #[true, true, true, true, true, true, false, false] rfl rfl (any_of HT_.out (by kernel_rfl)) (fun _ _ _ h => h) (Or.inl ⟨by rfl, ?_⟩) ?_ ?_; rotate_left
         ·intro w'
          go_simp; with_reducible rfl
         rotate_left
         ·simp only [Act.put, sa, s0, s1, i64_w, i32_w]
          rfl
         refine one_ (i := 6) (N := some 6) #[true, true, true, true, true, true, true, false] rfl rfl (one_of HT_.out (by kernel_rfl)) (by decide) (fun K hK => ?_); refine box_step ?hg (N := 6) ?hd (cs := #[.int .i64 0, .int .i64 0, .int .i64 0]) (t := 31) ?hr ?_; (case hd => rfl); (case hg => rfl); (case hr => first | (go_simp; done) | (go_simp; rfl)); intro gb266 hg w20 hbox hb; have HS0_ := (hb.cell (World.block_lt_of_cell? _ _ (hHeld))).trans (hHeld); replace HO_4 := am (Kd.R_below (pkr HO_4.out) hb); replace HO263 := am (Kd.R_below (pkr HO263.out) hb); have BK266 := am (hbox); have GW266 := am ((by rw [hg]; exact (below_size (by repeat (first | (with_reducible first | exact HB.out | apply bA | apply bN | apply b1 | refine bS ?_ (by assumption)) | exact HB.out))) : w.heap.size ≤ gb266)); replace HB := am (below_step (by repeat (first | (with_reducible first | exact HB.out | apply bA | apply bN | apply b1 | refine bS ?_ (by assumption)) | exact HB.out)) hb); have GE266 := GW266; have NB256_266 := am ((by rw [hg]; exact Nat.ne_of_lt (blk_lt (pkb BK256.out)) : gb256 ≠ gb266)); replace BK256 := am (blk_below (pkb BK256.out) hb); have NB266_256 := am NB256_266.out.symm; clear hb hbox hg; refine hK.out _ _ (HS0_) (fun hHeld => ?_); clear hK K; refine norm_ (a' := ?_) ?_ ?_; rotate_left
         ·show Act.put _ (some 6) _ = _
          simp only [Act.put, sa, s0, s1, i64_w, i32_w]; rfl
         exact norm_ (by simp only [putAll, Act.put, sa, s0, s1]) (hCont (.slice Ao19 t261.length co19, gb266) _ ⟨hHeld, (pkr (Kd.R_mono HO263.out (fun _ hk => by first | exact hk.2 | simp_all))), (pkr (Kd.R_mono HO_4.out (fun _ hk => by first | exact hk.2 | simp_all))), (pkb BK256.out), (pkb BK266.out), GW266.out, GE266.out, NB256_266.out, NB266_256.out, (by repeat (first | (with_reducible first | exact HB.out | apply bA | apply bN | apply b1 | refine bS ?_ (by assumption)) | exact HB.out))⟩)
        ·skip
         refine box_step ?hg (N := 6) ?hd (cs := #[.int .i64 0, .int .i64 0, .int .i64 0]) (t := 31) ?hr ?_; (case hd => rfl); (case hg => rfl); (case hr => first | (go_simp; done) | (go_simp; rfl)); intro gb266 hg w19 hbox hb; have HS0_ := (hb.cell (World.block_lt_of_cell? _ _ (hHeld))).trans (hHeld); replace HO_4 := am (Kd.R_below (pkr HO_4.out) hb); replace HO263 := am (Kd.R_below (pkr HO263.out) hb); have BK266 := am (hbox); have GW266 := am ((by rw [hg]; exact (below_size (by repeat (first | (with_reducible first | exact HB.out | apply bA | apply bN | apply b1 | refine bS ?_ (by assumption)) | exact HB.out))) : w.heap.size ≤ gb266)); replace HB := am (below_step (by repeat (first | (with_reducible first | exact HB.out | apply bA | apply bN | apply b1 | refine bS ?_ (by assumption)) | exact HB.out)) hb); have GE266 := GW266; have NB256_266 := am ((by rw [hg]; exact Nat.ne_of_lt (blk_lt (pkb BK256.out)) : gb256 ≠ gb266)); replace BK256 := am (blk_below (pkb BK256.out) hb); have NB266_256 := am NB256_266.out.symm; clear hb hbox hg; obtain ⟨Ao20, co20, eo20⟩ := Kd.R_slice HO263.out; (first | subst eo20 | (injection eo20 with f1_ f2_ f3_; have f4_ := f1_.symm; have f5_ := f3_.symm; clear f1_ f2_ f3_; subst f4_; subst f5_)); refine hK.out _ _ (HS0_) (fun hHeld => ?_); clear hK K; refine norm_ (a' := ?_) ?_ ?_; rotate_left
         ·show Act.put _ (some 6) _ = _
          simp only [Act.put, sa, s0, s1, i64_w, i32_w]; rfl
         refine one_ (i := 4) (N := some 26) #[true, true, true, true, true, false, true, false] rfl rfl (one_of HT_.out (by kernel_rfl)) (by decide) (fun K hK => ?_); refine goes_ Tryd.func32 (by kernel_rfl) rfl #[.slice Ao20 t261.length co20, .string (rdOf ByteArray.empty t257 0)] (by rfl) rfl rfl (by (try simp only [List.map_toArray, List.map_cons, List.map_nil]); first | done | rfl | (simp only [List.length_drop, List.length_take]; rfl)) ?_; (with_reducible refine (slices_Index_string_string.calls kj2 _ _ t261 (rdOf ByteArray.empty t257 0) t265 _ ?side1 ?side2 A12.out).mono ?_); (case side1 => exact pkc (Kd.R_reads' HO263.out).2.2); (case side2 => exact (Kd.R_reads' HO263.out).2.1); rintro e w' ⟨rfl, ⟨nd, rfl⟩⟩; refine ⟨_, rfl, ?_⟩; refine hK.out _ _ (hHeld) (fun hHeld => ?_); clear hK K; refine norm_ (a' := ?_) ?_ ?_; rotate_left
         ·show Act.put _ (some 26) _ = _
          simp only [Act.put, sa, s0, s1, i64_w, i32_w]; rfl
         refine pure_ (i := 5) (N := some 27) (v := ?_) (a' := ?_) #[true, true, true, true, true, true, true, false] rfl rfl (any_of HT_.out (by kernel_rfl)) (fun _ _ _ h => h) (Or.inl ⟨by rfl, ?_⟩) ?_ ?_; rotate_left
         ·intro w'
          go_simp; with_reducible rfl
         rotate_left
         ·simp only [Act.put, sa, s0, s1, i64_w, i32_w]
          rfl
         exact norm_ (by simp only [putAll, Act.put, sa, s0, s1]) (hCont (.slice Ao20 t261.length co20, gb266) _ ⟨hHeld, (pkr (Kd.R_mono HO263.out (fun _ hk => by first | exact hk.2 | simp_all))), (pkr (Kd.R_mono HO_4.out (fun _ hk => by first | exact hk.2 | simp_all))), (pkb BK256.out), (pkb BK266.out), GW266.out, GE266.out, NB256_266.out, NB266_256.out, (by repeat (first | (with_reducible first | exact HB.out | apply bA | apply bN | apply b1 | refine bS ?_ (by assumption)) | exact HB.out))⟩)
       ·skip
        refine box_step ?hg (N := 6) ?hd (cs := #[.int .i64 0, .int .i64 0, .int .i64 0]) (t := 31) ?hr ?_; (case hd => rfl); (case hg => rfl); (case hr => first | (go_simp; done) | (go_simp; rfl)); intro gb266 hg w18 hbox hb; have HS0_ := (hb.cell (World.block_lt_of_cell? _ _ (hHeld))).trans (hHeld); replace HO_4 := am (Kd.R_below (pkr HO_4.out) hb); have BK266 := am (hbox); have GW266 := am ((by rw [hg]; exact (below_size (by repeat (first | (with_reducible first | exact HB.out | apply bA | apply bN | apply b1 | refine bS ?_ (by assumption)) | exact HB.out))) : w.heap.size ≤ gb266)); replace HB := am (below_step (by repeat (first | (with_reducible first | exact HB.out | apply bA | apply bN | apply b1 | refine bS ?_ (by assumption)) | exact HB.out)) hb); have GE266 := GW266; have NB256_266 := am ((by rw [hg]; exact Nat.ne_of_lt (blk_lt (pkb BK256.out)) : gb256 ≠ gb266)); replace BK256 := am (blk_below (pkb BK256.out) hb); have NB266_256 := am NB256_266.out.symm; clear hb hbox hg; refine hK.out _ _ (HS0_) (fun hHeld => ?_); clear hK K; refine norm_ (a' := ?_) ?_ ?_; rotate_left
        ·show Act.put _ (some 6) _ = _
         simp only [Act.put, sa, s0, s1, i64_w, i32_w]; rfl
        refine one_ (i := 0) (N := some 22) #[true, true, true, true, false, false, true, false] rfl rfl (one_of HT_.out (by kernel_rfl)) (by decide) (fun K hK => ?_); refine goes_ Tryd.func27 (by kernel_rfl) rfl #[] (by rfl) rfl rfl (by (try simp only [List.map_toArray, List.map_cons, List.map_nil]); first | done | rfl | (simp only [List.length_drop, List.length_take]; rfl)) ?_; (with_reducible refine (impl_actNames.calls  t261 _ A10.out).mono ?_); rintro e w19 ⟨v262, rfl, ho0, hb⟩; have HS0_ := (hb.cell (World.block_lt_of_cell? _ _ (hHeld))).trans (hHeld); refine ⟨_, rfl, ?_⟩; have HO263 := am (Kd.R_lower (Kd.R_new' ho0 (Kd.R_lt (pkr HO_4.out))) (below_size (by repeat (first | (with_reducible first | exact HB.out | apply bA | apply bN | apply b1 | refine bS ?_ (by assumption)) | exact HB.out)))); replace HO_4 := am (Kd.R_elder' (pkr HO_4.out) (Kd.R_base ho0) hb); replace BK256 := am (blk_below (pkb BK256.out) hb); replace BK266 := am (blk_below (pkb BK266.out) hb); replace HB := am (below_step (by repeat (first | (with_reducible first | exact HB.out | apply bA | apply bN | apply b1 | refine bS ?_ (by assumption)) | exact HB.out)) hb); (try clear hb); (try clear hb2); (try clear hk); (try clear hi); (try clear ho0); obtain ⟨Ao20, co20, eo20⟩ := Kd.R_slice HO263.out; (first | subst eo20 | (injection eo20 with f1_ f2_ f3_; have f4_ := f1_.symm; have f5_ := f3_.symm; clear f1_ f2_ f3_; subst f4_; subst f5_)); refine hK.out _ _ (HS0_) (fun hHeld => ?_); clear hK K; refine norm_ (a' := ?_) ?_ ?_; rotate_left
        ·show Act.put _ (some 22) _ = _
         simp only [Act.put, sa, s0, s1, i64_w, i32_w]; rfl
        refine one_ (i := 4) (N := some 26) #[true, true, true, true, true, false, true, false] rfl rfl (one_of HT_.out (by kernel_rfl)) (by decide) (fun K hK => ?_); refine goes_ Tryd.func32 (by kernel_rfl) rfl #[.slice Ao20 t261.length co20, .string (rdOf ByteArray.empty t257 0)] (by rfl) rfl rfl (by (try simp only [List.map_toArray, List.map_cons, List.map_nil]); first | done | rfl | (simp only [List.length_drop, List.length_take]; rfl)) ?_; (with_reducible refine (slices_Index_string_string.calls kj2 _ _ t261 (rdOf ByteArray.empty t257 0) t265 _ ?side1 ?side2 A12.out).mono ?_); (case side1 => exact pkc (Kd.R_reads' HO263.out).2.2); (case side2 => exact (Kd.R_reads' HO263.out).2.1); rintro e w' ⟨rfl, ⟨nd, rfl⟩⟩; refine ⟨_, rfl, ?_⟩; refine hK.out _ _ (hHeld) (fun hHeld => ?_); clear hK K; refine norm_ (a' := ?_) ?_ ?_; rotate_left
        ·show Act.put _ (some 26) _ = _
         simp only [Act.put, sa, s0, s1, i64_w, i32_w]; rfl
        refine pure_ (i := 5) (N := some 27) (v := ?_) (a' := ?_) #[true, true, true, true, true, true, true, false] rfl rfl (any_of HT_.out (by kernel_rfl)) (fun _ _ _ h => h) (Or.inl ⟨by rfl, ?_⟩) ?_ ?_; rotate_left
        ·intro w'
         go_simp; with_reducible rfl
        rotate_left
        ·simp only [Act.put, sa, s0, s1, i64_w, i32_w]
         rfl
        exact norm_ (by simp only [putAll, Act.put, sa, s0, s1]) (hCont (.slice Ao20 t261.length co20, gb266) _ ⟨hHeld, (pkr (Kd.R_mono HO263.out (fun _ hk => by first | exact hk.2 | simp_all))), (pkr (Kd.R_mono HO_4.out (fun _ hk => by first | exact hk.2 | simp_all))), (pkb BK256.out), (pkb BK266.out), GW266.out, GE266.out, NB256_266.out, NB266_256.out, (by repeat (first | (with_reducible first | exact HB.out | apply bA | apply bN | apply b1 | refine bS ?_ (by assumption)) | exact HB.out))⟩)
      rintro ⟨v262, gb266⟩ w21 ⟨hS_, h0_, h1_, h2_, h3_, h4_, h5_, h6_, h7_, h8_⟩; have n0_ : Aside0 (Kd.R Kd.string 9 w21 w.heap.size (fun k_ => some k_ ≠ (.slice (some ad264) t257.length co17 : Value).ownBlock) v262 t261) := ⟨h0_⟩; have n1_ : Aside0 (Kd.R Kd.string 9 w21 w.heap.size (fun k_ => some k_ ≠ (v262 : Value).ownBlock) (.slice (some ad264) t257.length co17) t257) := ⟨h1_⟩; have n2_ : Aside0 (w21.heap[gb256]? = some (.cells #[.int .i64 0, .int .i64 0, .int .i64 0] 31 (0, 0))) := ⟨h2_⟩; have n3_ : Aside0 (w21.heap[gb266]? = some (.cells #[.int .i64 0, .int .i64 0, .int .i64 0] 31 (0, 0))) := ⟨h3_⟩; have n4_ : Aside0 (w.heap.size ≤ gb266) := ⟨h4_⟩; have n5_ : Aside0 (w.heap.size ≤ gb266) := ⟨h5_⟩; have n6_ : Aside0 (gb256 ≠ gb266) := ⟨h6_⟩; have n7_ : Aside0 (gb266 ≠ gb256) := ⟨h7_⟩; have n8_ : Aside0 (Below w.heap.size w w21) := ⟨h8_⟩; clear HO_4; clear BK256; clear HB; clear h0_ h1_ h2_ h3_ h4_ h5_ h6_ h7_ h8_; have HO263 := n0_; have HO_4 := n1_; have BK256 := n2_; have BK266 := n3_; have GW266 := n4_; have GE266 := n5_; have NB256_266 := n6_; have NB266_256 := n7_; have HB := n8_; clear n0_ n1_ n2_ n3_ n4_ n5_ n6_ n7_ n8_; have hHeld : w21.cell? ad264 = some (.string (rdOf ByteArray.empty t257 0)) := hS_; refine norm_ (a' := ?_) ?_ ?_; rotate_left
      ·simp only [putAll, Act.put, sa, s0, s1]
       rfl
      refine one_ (i := 7) (N := none) #[true, true, true, true, true, true, true, true] rfl rfl (one_of HT_.out (by kernel_rfl)) (by decide) (fun K hK => ?_); have hs22 : w21.cell? ⟨gb266, 0, none⟩ = some (.int .i64 0) := (blk_cell BK266.out 0).trans rfl; have hfs22 := blk_frozen BK266.out 0; have hns22_0 := NB256_266.out; have hms22_0 := NB266_256.out; have hs23 : w21.cell? ⟨gb266, 1, none⟩ = some (.int .i64 0) := (blk_cell BK266.out 1).trans rfl; have hfs23 := blk_frozen BK266.out 1; have hns23_0 := NB256_266.out; have hms23_0 := NB266_256.out; have hs24 : w21.cell? ⟨gb266, 2, none⟩ = some (.int .i64 0) := (blk_cell BK266.out 2).trans rfl; have hfs24 := blk_frozen BK266.out 2; have hns24_0 := NB256_266.out; have hms24_0 := NB266_256.out; refine skip_ (w1 := ?_) (by rfl) rfl ?_ ?_; rotate_left
      ·go_simp
       rfl
      refine hK.out _ _ (((cell_far (p := ⟨gb266, _, none⟩) (by first | exact Kd.own_blk (Kd.R_ne HO_4.out BK266.out (by decide)) | (rw [add_block]; exact Kd.own_blk (Kd.R_ne HO_4.out BK266.out (by decide))) | (show (Addr.add _ _).block ≠ _; rw [add_block]; exact Kd.own_blk (Kd.R_ne HO_4.out BK266.out (by decide))) | (dsimp only; exact Kd.own_blk (Kd.R_ne HO_4.out BK266.out (by decide)))) _).trans (((cell_far (p := ⟨gb266, _, none⟩) (by first | exact Kd.own_blk (Kd.R_ne HO_4.out BK266.out (by decide)) | (rw [add_block]; exact Kd.own_blk (Kd.R_ne HO_4.out BK266.out (by decide))) | (show (Addr.add _ _).block ≠ _; rw [add_block]; exact Kd.own_blk (Kd.R_ne HO_4.out BK266.out (by decide))) | (dsimp only; exact Kd.own_blk (Kd.R_ne HO_4.out BK266.out (by decide)))) _).trans (((cell_far (p := ⟨gb266, _, none⟩) (by first | exact Kd.own_blk (Kd.R_ne HO_4.out BK266.out (by decide)) | (rw [add_block]; exact Kd.own_blk (Kd.R_ne HO_4.out BK266.out (by decide))) | (show (Addr.add _ _).block ≠ _; rw [add_block]; exact Kd.own_blk (Kd.R_ne HO_4.out BK266.out (by decide))) | (dsimp only; exact Kd.own_blk (Kd.R_ne HO_4.out BK266.out (by decide)))) _).trans (hHeld))))))) (fun hHeld => ?_); clear hK K; refine done_ (done_of HT_.out (by kernel_rfl)) ?_; have p267 : 0 ≤ (1 : Int) := (by omega); have q267 : 1 < (t257.length : Int) := of_decide_eq_true (by first | (with_reducible assumption) | assumption); obtain ⟨ad267, e267, hx267_0⟩ := Kd.at_string (Kd.R_reads' HO_4.out).2.2 1 p267 q267; obtain rfl : ad264 = ad267 := (by injection e267); (try simp only [show (1 : Int).toNat = 1 from rfl, Nat.reduceMul, Nat.reduceEqDiff, Go.Addr.add, ↓reduceIte] at hx267_0); have qi267 : (1 < t257.length) = True := eq_true (by omega); (try rw [show ((1 : Int)).toNat = 1 from rfl] at hx267_0); have hn267_0 : ad264.block ≠ gb266 := Kd.own_blk (Kd.R_ne HO_4.out BK266.out (by decide)); have hn267_1 : ad264.block ≠ gb266 := Kd.own_blk (Kd.R_ne HO_4.out BK266.out (by decide)); have hn267_2 : ad264.block ≠ gb266 := Kd.own_blk (Kd.R_ne HO_4.out BK266.out (by decide)); replace hx267_0 := (cell_far (p := ⟨gb266, 0, none⟩) (by first | (rw [add_block]; exact hn267_0) | (show (Addr.add _ _).block ≠ _; rw [add_block]; exact hn267_0) | exact hn267_0) (.int .i64 t265)).trans hx267_0; replace hx267_0 := (cell_far (p := ⟨gb266, 1, none⟩) (by first | (rw [add_block]; exact hn267_1) | (show (Addr.add _ _).block ≠ _; rw [add_block]; exact hn267_1) | exact hn267_1) (.int .i64 0)).trans hx267_0; replace hx267_0 := (cell_far (p := ⟨gb266, 2, none⟩) (by first | (rw [add_block]; exact hn267_2) | (show (Addr.add _ _).block ≠ _; rw [add_block]; exact hn267_2) | exact hn267_2) (.int .i64 0)).trans hx267_0; clear hn267_0; clear hn267_1; clear hn267_2; replace p267 := eq_true p267; replace q267 := eq_true q267
      go_upto_if 38 with (first | ((with_reducible refine gate_callee (f := 33) rfl ?_); refine goesL_ (some 32) rfl rfl Tryd.func33 (by kernel_rfl) rfl #[.string (rdOf ByteArray.empty t257 1)] rfl (by (try simp only [List.map_toArray, List.map_cons, List.map_nil]); first | done | rfl | (simp only [List.length_drop, List.length_take]; rfl)) ?_; (with_reducible refine (strconv_Atoi_33.calls (rdOf ByteArray.empty t257 1) t268 t269 _ A14.out (TabW.below htab0 (by repeat (first | (with_reducible first | exact HB.out | apply bA | apply bN | apply b1 | refine bS ?_ (by assumption)) | exact HB.out)))).mono ?_); rintro e w25 ⟨ev_, rfl, hb⟩; refine ⟨_, rfl, ?_⟩; replace HO_4 := am (Kd.R_below (pkr ((pkf3 0 1 2 HO_4.out BK266.out (by decide) (.int .i64 t265) (.int .i64 0) (.int .i64 0)))) hb); replace HO263 := am (Kd.R_below (pkr ((pkf3 0 1 2 HO263.out BK266.out (by decide) (.int .i64 t265) (.int .i64 0) (.int .i64 0)))) hb); replace BK256 := am (blk_below (g := gb256) (o := .cells #[.int .i64 0, .int .i64 0, .int .i64 0] 31 (0, 0)) (by (with_reducible repeat (first | apply kN | apply k1 | apply kA)); refine blk_far ?_ NB256_266.out _; (with_reducible repeat (first | apply kN | apply k1 | apply kA)); refine blk_far ?_ NB256_266.out _; (with_reducible repeat (first | apply kN | apply k1 | apply kA)); refine blk_far ?_ NB256_266.out _; (with_reducible repeat (first | apply kN | apply k1 | apply kA)); exact BK256.out) hb); replace BK266 := am (blk_below (g := gb266) (o := .cells #[.int .i64 t265, .int .i64 0, .int .i64 0] 31 (0, 0)) (by (with_reducible repeat (first | apply kN | apply k1 | apply kA)); refine blk_put (cs := #[.int .i64 t265, .int .i64 0, .int .i64 0]) ?_ 2 _ rfl; (with_reducible repeat (first | apply kN | apply k1 | apply kA)); refine blk_put (cs := #[.int .i64 t265, .int .i64 0, .int .i64 0]) ?_ 1 _ rfl; (with_reducible repeat (first | apply kN | apply k1 | apply kA)); refine blk_put (cs := #[.int .i64 0, .int .i64 0, .int .i64 0]) ?_ 0 _ rfl; (with_reducible repeat (first | apply kN | apply k1 | apply kA)); exact BK266.out) hb); replace HB := am (below_step (by repeat (first | (with_reducible first | exact HB.out | apply bA | apply bN | apply b1 | refine bS ?_ (by assumption)) | exact HB.out)) hb); (try clear hb); (try clear hb2); (try clear hk); (try clear hi); (try simp only [errW_none, errW_some]); have hnb26 := NB266_256.out; have hnc26 := NB256_266.out; obtain ⟨hcz27_0, hcz27_1, hcz27_2, hfz27_0, hfz27_1, hfz27_2⟩ := pq3 BK266.out))
      (try simp only [Act.put, sa, s0, s1])
      go_cut [] (fun wc => ∃ (kq : Nat) (x267002_14 : Int), Aside0 (impl_ParseAct.j1 kq t257 t265 t268 x267002_14 = some (r1, r2, r3, r4)) ∧ Aside0 (kq ≤ kj2) ∧ Aside0 (Kd.R Kd.string 9 wc w.heap.size (fun _ => True) (.slice (some ad264) t257.length co17) t257) ∧ Aside0 (wc.heap[gb256]? = some (.cells #[.int .i64 0, .int .i64 0, .int .i64 0] 31 (0, 0))) ∧ Aside0 (wc.heap[gb266]? = some (.cells #[.int .i64 t265, .int .i64 t268, .int .i64 x267002_14] 31 (0, 0))) ∧ Aside0 (Below w.heap.size w wc))
      case first =>
       have H := HC15.out; clear HC15
       by_cases c28 : (t257.length : Int) > 2
       ·rw [if_pos c28] at H
        have c28b0 : decide (2 < (t257.length : Int)) = true := decide_eq_true c28; have c28b1 : decide (2 < t257.length) = true := decide_eq_true (by omega); clear c28; (first | rw [c28b0] | (simp only [i64_w, i32_w]; rw [c28b0]) | skip)
        by_cases c29 : 2 < (t257.length : Int)
        ·rw [if_pos c29] at H
         have c29b0 : decide (2 < (t257.length : Int)) = true := decide_eq_true c29; have c29b1 : decide (2 < t257.length) = true := decide_eq_true (by omega); clear c29; replace H := Option.bind_eq_some_iff.mp H; obtain ⟨⟨t271, t272⟩, A300, H⟩ := H; replace H : (impl_ParseAct.j1 kj2 t257 t265 t268 t271) = some (r1, r2, r3, r4) := H; have A30 := am A300; clear A300; have H' := am H; clear H; have p270 : 0 ≤ (2 : Int) := (by omega); have q270 : 2 < (t257.length : Int) := of_decide_eq_true (by first | (with_reducible assumption) | assumption); obtain ⟨ad270, e270, hx270_0⟩ := Kd.at_string (Kd.R_reads' HO_4.out).2.2 2 p270 q270; obtain rfl : ad264 = ad270 := (by injection e270); (try simp only [show (2 : Int).toNat = 2 from rfl, Nat.reduceMul, Nat.reduceEqDiff, Go.Addr.add, ↓reduceIte] at hx270_0); have qi270 : (2 < t257.length) = True := eq_true (by omega); (try rw [show ((2 : Int)).toNat = 2 from rfl] at hx270_0); have hn270_0 : ad264.block ≠ gb266 := Kd.own_blk (Kd.R_ne HO_4.out BK266.out (by decide)); replace hx270_0 := (cell_far (p := ⟨gb266, 1, none⟩) (by first | (rw [add_block]; exact hn270_0) | (show (Addr.add _ _).block ≠ _; rw [add_block]; exact hn270_0) | exact hn270_0) (.int .i64 t268)).trans hx270_0; clear hn270_0; replace p270 := eq_true p270; replace q270 := eq_true q270
         go_wp2_with (first | ((with_reducible refine gate_callee (f := 33) rfl ?_); refine goesL_ (some 43) rfl rfl Tryd.func33 (by kernel_rfl) rfl #[.string (rdOf ByteArray.empty t257 2)] rfl (by (try simp only [List.map_toArray, List.map_cons, List.map_nil]); first | done | rfl | (simp only [List.length_drop, List.length_take]; rfl)) ?_; (with_reducible refine (strconv_Atoi_33.calls (rdOf ByteArray.empty t257 2) t271 t272 _ A30.out (TabW.below htab0 (by repeat (first | (with_reducible first | exact HB.out | apply bA | apply bN | apply b1 | refine bS ?_ (by assumption)) | exact HB.out)))).mono ?_); rintro e w31 ⟨ev_, rfl, hb⟩; refine ⟨_, rfl, ?_⟩; replace HO_4 := am (Kd.R_below (pkr ((pkf1 1 HO_4.out BK266.out (by decide) (.int .i64 t268)))) hb); replace HO263 := am (Kd.R_below (pkr ((pkf1 1 HO263.out BK266.out (by decide) (.int .i64 t268)))) hb); replace BK256 := am (blk_below (g := gb256) (o := .cells #[.int .i64 0, .int .i64 0, .int .i64 0] 31 (0, 0)) (by (with_reducible repeat (first | apply kN | apply k1 | apply kA)); refine blk_far ?_ NB256_266.out _; (with_reducible repeat (first | apply kN | apply k1 | apply kA)); exact BK256.out) hb); replace BK266 := am (blk_below (g := gb266) (o := .cells #[.int .i64 t265, .int .i64 t268, .int .i64 0] 31 (0, 0)) (by (with_reducible repeat (first | apply kN | apply k1 | apply kA)); refine blk_put (cs := #[.int .i64 t265, .int .i64 0, .int .i64 0]) ?_ 1 _ rfl; (with_reducible repeat (first | apply kN | apply k1 | apply kA)); exact BK266.out) hb); replace HB := am (below_step (by repeat (first | (with_reducible first | exact HB.out | apply bA | apply bN | apply b1 | refine bS ?_ (by assumption)) | exact HB.out)) hb); (try clear hb); (try clear hb2); (try clear hk); (try clear hi); (try simp only [errW_none, errW_some]); have hnb32 := NB266_256.out; have hnc32 := NB256_266.out; obtain ⟨hcz33_0, hcz33_1, hcz33_2, hfz33_0, hfz33_1, hfz33_2⟩ := pq3 BK266.out))
         go_meet
         case rel => exact ⟨_, (t271), H', ⟨by have := HJ2.out; first | omega | exact Nat.le_refl _⟩, ⟨by (with_reducible repeat (first | apply Kd.R_alloc | apply Kd.R_drewN | apply Kd.R_drew)); exact Kd.R_mono (Kd.R_far (p := ⟨gb266, 2, none⟩) (Kd.R_types HO_4.out BK266.out (by decide)) (fun _ hk => by first | exact hk.2 | simp_all) (.int .i64 t271)) (fun _ hk => trivial)⟩, ⟨by (with_reducible repeat (first | apply kN | apply k1 | apply kA)); refine blk_far ?_ NB256_266.out _; (with_reducible repeat (first | apply kN | apply k1 | apply kA)); exact BK256.out⟩, ⟨by (with_reducible repeat (first | apply kN | apply k1 | apply kA)); refine blk_put (cs := #[.int .i64 t265, .int .i64 t268, .int .i64 0]) ?_ 2 _ rfl; (with_reducible repeat (first | apply kN | apply k1 | apply kA)); exact BK266.out⟩, ⟨by repeat (first | (with_reducible first | exact HB.out | apply bA | apply bN | apply b1 | refine bS ?_ (by assumption)) | exact HB.out)⟩⟩
        ·rw [if_neg c29] at H
         exact absurd H (by simp)
       ·rw [if_neg c28] at H
        have c28b0 : decide (2 < (t257.length : Int)) = false := decide_eq_false c28; have c28b1 : decide (2 < t257.length) = false := decide_eq_false (by omega); clear c28; (first | rw [c28b0] | (simp only [i64_w, i32_w]; rw [c28b0]) | skip); have H' := am H; clear H
        go_wp2
        go_meet
        case rel => exact ⟨_, (0), H', ⟨by have := HJ2.out; first | omega | exact Nat.le_refl _⟩, ⟨by (with_reducible repeat (first | apply Kd.R_alloc | apply Kd.R_drewN | apply Kd.R_drew)); exact Kd.R_mono (Kd.R_far (p := ⟨gb266, 1, none⟩) (Kd.R_types HO_4.out BK266.out (by decide)) (fun _ hk => by first | exact hk.2 | simp_all) (.int .i64 t268)) (fun _ hk => trivial)⟩, ⟨by (with_reducible repeat (first | apply kN | apply k1 | apply kA)); refine blk_far ?_ NB256_266.out _; (with_reducible repeat (first | apply kN | apply k1 | apply kA)); exact BK256.out⟩, ⟨by (with_reducible repeat (first | apply kN | apply k1 | apply kA)); refine blk_put (cs := #[.int .i64 t265, .int .i64 0, .int .i64 0]) ?_ 1 _ rfl; (with_reducible repeat (first | apply kN | apply k1 | apply kA)); exact BK266.out⟩, ⟨by repeat (first | (with_reducible first | exact HB.out | apply bA | apply bN | apply b1 | refine bS ?_ (by assumption)) | exact HB.out)⟩⟩
      case rest =>
       clear HC15; (try clear c1); (try clear c2); (try clear p2); (try clear q2); (try clear hx2); (try clear qi2); (try clear c3); (try clear c6); (try clear c8); (try clear c11); (try clear c11b0); (try clear c11b1); (try clear c13); (try clear c13b0); (try clear c13b1); (try clear c20); (try clear c26); (try clear p26); (try clear q26); (try clear hx26); (try clear qi26); (try clear c27); (try clear p27); (try clear q27); (try clear hx27); (try clear qi27); (try clear c28); (try clear c28b0); (try clear c28b1); (try clear c29); (try clear c29b0); (try clear c29b1); (try clear c31); (try clear c32); (try clear c33); (try clear hcz27_0); (try clear hcz27_1); (try clear hcz27_2); (try clear hcz33_0); (try clear hcz33_1); (try clear hcz33_2); (try clear hcz9_0); (try clear hcz9_1); (try clear hcz9_2); (try clear hfz27_0); (try clear hfz27_1); (try clear hfz27_2); (try clear hfz33_0); (try clear hfz33_1); (try clear hfz33_2); (try clear hfz9_0); (try clear hfz9_1); (try clear hfz9_2); (try clear hx264_0); (try clear hx267_0); (try clear hx270_0); (try clear p2); (try clear p264); (try clear p267); (try clear p270); (try clear q264); (try clear q267); (try clear q270); obtain ⟨kq, x267002_14, HA, HJ14, HO_4, BK256, BK266, HB⟩ := hcut; cases kq with
       | zero => exact absurd HA.out (by simp [impl_ParseAct.j1])
       | succ kj14 =>
        have H := HA.out; clear HA; simp only [impl_ParseAct.j1] at H; replace H := Option.bind_eq_some_iff.mp H; obtain ⟨⟨t273, t274⟩, A340, H⟩ := H; replace H : (if t274 = true then ((strings_Join.f t257 (⟨#[32]⟩ : ByteArray)).bind fun t275 => (if t273.toList = t275.toList then (some (t265, t268, x267002_14, true)) else (some (0, 0, 0, false)))) else (some (0, 0, 0, false))) = some (r1, r2, r3, r4) := H; have A34 := am A340; clear A340
        by_cases c35 : t274 = true
        ·subst c35
         have H1 : ((strings_Join.f t257 (⟨#[32]⟩ : ByteArray)).bind fun t275 => (if t273.toList = t275.toList then (some (t265, t268, x267002_14, true)) else (some (0, 0, 0, false)))) = some (r1, r2, r3, r4) := by rw [if_pos rfl] at H; exact H
         clear H; have H := H1; clear H1; replace H := Option.bind_eq_some_iff.mp H; obtain ⟨t275, A360, H⟩ := H; replace H : (if t273.toList = t275.toList then (some (t265, t268, x267002_14, true)) else (some (0, 0, 0, false))) = some (r1, r2, r3, r4) := H; have A36 := am A360; clear A360
         by_cases c37 : t273.toList = t275.toList
         ·rw [if_pos c37] at H
          have c37b0 : (t273.toList == t275.toList) = true := beq_iff_eq.mpr c37; have c37b1 : (t273.toList != t275.toList) = false := bne_eq_false_iff_eq.mpr c37; clear c37; simp only [Option.some.injEq, Prod.mk.injEq] at H; obtain ⟨rfl, rfl, rfl, rfl⟩ := H; have hnb38 := NB266_256.out; have hnc38 := NB256_266.out; obtain ⟨hcz39_0, hcz39_1, hcz39_2, hfz39_0, hfz39_1, hfz39_2⟩ := pq3 BK266.out
          go_wp2_with (first | ((with_reducible refine gate_callee (f := 13) rfl ?_); refine goesL_ (some 49) rfl rfl Tryd.func13 (by kernel_rfl) rfl #[.agg #[.int .i64 t265, .int .i64 t268, .int .i64 x267002_14]] rfl (by (try simp only [List.map_toArray, List.map_cons, List.map_nil]); first | done | rfl | (simp only [List.length_drop, List.length_take]; rfl)) ?_; (with_reducible refine (impl_FormatAct.calls kj14 t265 t268 x267002_14 t273 true _ A34.out (TabW.below htab0 (by repeat (first | (with_reducible first | exact HB.out | apply bA | apply bN | apply b1 | refine bS ?_ (by assumption)) | exact HB.out)))).mono ?_); rintro e w40 ⟨rfl, hb⟩; refine ⟨_, rfl, ?_⟩; replace HO_4 := am (Kd.R_below (pkr HO_4.out) hb); replace BK256 := am (blk_below (pkb BK256.out) hb); replace BK266 := am (blk_below (pkb BK266.out) hb); replace HB := am (below_step (by repeat (first | (with_reducible first | exact HB.out | apply bA | apply bN | apply b1 | refine bS ?_ (by assumption)) | exact HB.out)) hb); (try clear hb); (try clear hb2); (try clear hk); (try clear hi)) | (go_at_call 34; (with_reducible refine (strings_Join.calls _ _ t257 (⟨#[32]⟩ : ByteArray) t275 _ ?side1 ?side2 A36.out).mono ?_); (case side1 => exact pkc (Kd.R_reads' HO_4.out).2.2); (case side2 => exact (Kd.R_reads' HO_4.out).2.1); rintro e w41 ⟨rfl, hb⟩; replace HO_4 := am (Kd.R_below (pkr HO_4.out) hb); replace BK256 := am (blk_below (pkb BK256.out) hb); replace BK266 := am (blk_below (pkb BK266.out) hb); replace HB := am (below_step (by repeat (first | (with_reducible first | exact HB.out | apply bA | apply bN | apply b1 | refine bS ?_ (by assumption)) | exact HB.out)) hb); (try clear hb); (try clear hb2); (try clear hk); (try clear hi); obtain ⟨hcz42_0, hcz42_1, hcz42_2, hfz42_0, hfz42_1, hfz42_2⟩ := pq3 BK266.out; obtain ⟨hcz43_0, hcz43_1, hcz43_2, hfz43_0, hfz43_1, hfz43_2⟩ := pq3 BK256.out))
          refine bodyPost_ret (results_ct rfl _ _ gb256 31 #[.int .i64 t265, .int .i64 t268, .int .i64 x267002_14] (0, 0) _ rfl (by (with_reducible repeat (first | apply kN | apply k1 | apply kA)); refine blk_put (cs := #[.int .i64 t265, .int .i64 t268, .int .i64 0]) ?_ 2 _ rfl; (with_reducible repeat (first | apply kN | apply k1 | apply kA)); refine blk_put (cs := #[.int .i64 t265, .int .i64 0, .int .i64 0]) ?_ 1 _ rfl; (with_reducible repeat (first | apply kN | apply k1 | apply kA)); refine blk_put (cs := #[.int .i64 0, .int .i64 0, .int .i64 0]) ?_ 0 _ rfl; (with_reducible repeat (first | apply kN | apply k1 | apply kA)); exact BK256.out) Tryd.underlying31 rfl (by kernel_rfl)) rfl ?_; exact ⟨by first | rfl | (simp [errW_none, errW_some] <;> rfl) | (simp [*, errW_none, errW_some] <;> rfl), by repeat (first | (with_reducible first | exact HB.out | apply bA | apply bN | apply b1 | refine bS ?_ (by assumption)) | exact HB.out)⟩
         ·rw [if_neg c37] at H
          have c37b0 : (t273.toList == t275.toList) = false := beq_eq_false_iff_ne.mpr c37; have c37b1 : (t273.toList != t275.toList) = true := bne_iff_ne.mpr c37; simp only [Option.some.injEq, Prod.mk.injEq] at H; obtain ⟨rfl, rfl, rfl, rfl⟩ := H; have hnb44 := NB266_256.out; have hnc44 := NB256_266.out; obtain ⟨hcz45_0, hcz45_1, hcz45_2, hfz45_0, hfz45_1, hfz45_2⟩ := pq3 BK266.out
          go_wp2_with (first | ((with_reducible refine gate_callee (f := 13) rfl ?_); refine goesL_ (some 49) rfl rfl Tryd.func13 (by kernel_rfl) rfl #[.agg #[.int .i64 t265, .int .i64 t268, .int .i64 x267002_14]] rfl (by (try simp only [List.map_toArray, List.map_cons, List.map_nil]); first | done | rfl | (simp only [List.length_drop, List.length_take]; rfl)) ?_; (with_reducible refine (impl_FormatAct.calls kj14 t265 t268 x267002_14 t273 true _ A34.out (TabW.below htab0 (by repeat (first | (with_reducible first | exact HB.out | apply bA | apply bN | apply b1 | refine bS ?_ (by assumption)) | exact HB.out)))).mono ?_); rintro e w46 ⟨rfl, hb⟩; refine ⟨_, rfl, ?_⟩; replace HO_4 := am (Kd.R_below (pkr HO_4.out) hb); replace BK256 := am (blk_below (pkb BK256.out) hb); replace BK266 := am (blk_below (pkb BK266.out) hb); replace HB := am (below_step (by repeat (first | (with_reducible first | exact HB.out | apply bA | apply bN | apply b1 | refine bS ?_ (by assumption)) | exact HB.out)) hb); (try clear hb); (try clear hb2); (try clear hk); (try clear hi)) | (go_at_call 34; (with_reducible refine (strings_Join.calls _ _ t257 (⟨#[32]⟩ : ByteArray) t275 _ ?side1 ?side2 A36.out).mono ?_); (case side1 => exact pkc (Kd.R_reads' HO_4.out).2.2); (case side2 => exact (Kd.R_reads' HO_4.out).2.1); rintro e w47 ⟨rfl, hb⟩; replace HO_4 := am (Kd.R_below (pkr HO_4.out) hb); replace BK256 := am (blk_below (pkb BK256.out) hb); replace BK266 := am (blk_below (pkb BK266.out) hb); replace HB := am (below_step (by repeat (first | (with_reducible first | exact HB.out | apply bA | apply bN | apply b1 | refine bS ?_ (by assumption)) | exact HB.out)) hb); (try clear hb); (try clear hb2); (try clear hk); (try clear hi); obtain ⟨hcz48_0, hcz48_1, hcz48_2, hfz48_0, hfz48_1, hfz48_2⟩ := pq3 BK256.out))
          refine bodyPost_ret (results_ct rfl _ _ gb256 31 #[.int .i64 0, .int .i64 0, .int .i64 0] (0, 0) _ rfl (by (with_reducible repeat (first | apply kN | apply k1 | apply kA)); refine blk_put (cs := #[.int .i64 0, .int .i64 0, .int .i64 0]) ?_ 2 _ rfl; (with_reducible repeat (first | apply kN | apply k1 | apply kA)); refine blk_put (cs := #[.int .i64 0, .int .i64 0, .int .i64 0]) ?_ 1 _ rfl; (with_reducible repeat (first | apply kN | apply k1 | apply kA)); refine blk_put (cs := #[.int .i64 0, .int .i64 0, .int .i64 0]) ?_ 0 _ rfl; (with_reducible repeat (first | apply kN | apply k1 | apply kA)); exact BK256.out) Tryd.underlying31 rfl (by kernel_rfl)) rfl ?_; exact ⟨by first | rfl | (simp [errW_none, errW_some] <;> rfl) | (simp [*, errW_none, errW_some] <;> rfl), by repeat (first | (with_reducible first | exact HB.out | apply bA | apply bN | apply b1 | refine bS ?_ (by assumption)) | exact HB.out)⟩
        ·replace c35 := Bool.eq_false_iff.mpr c35
         subst c35
         have H1 : (some (0, 0, 0, false)) = some (r1, r2, r3, r4) := by rw [if_neg (show ¬ (false = true) by decide)] at H; exact H
         clear H; have H := H1; clear H1; simp only [Option.some.injEq, Prod.mk.injEq] at H; obtain ⟨rfl, rfl, rfl, rfl⟩ := H; have hnb49 := NB266_256.out; have hnc49 := NB256_266.out; obtain ⟨hcz50_0, hcz50_1, hcz50_2, hfz50_0, hfz50_1, hfz50_2⟩ := pq3 BK266.out
         go_wp2_with (first | ((with_reducible refine gate_callee (f := 13) rfl ?_); refine goesL_ (some 49) rfl rfl Tryd.func13 (by kernel_rfl) rfl #[.agg #[.int .i64 t265, .int .i64 t268, .int .i64 x267002_14]] rfl (by (try simp only [List.map_toArray, List.map_cons, List.map_nil]); first | done | rfl | (simp only [List.length_drop, List.length_take]; rfl)) ?_; (with_reducible refine (impl_FormatAct.calls kj14 t265 t268 x267002_14 t273 false _ A34.out (TabW.below htab0 (by repeat (first | (with_reducible first | exact HB.out | apply bA | apply bN | apply b1 | refine bS ?_ (by assumption)) | exact HB.out)))).mono ?_); rintro e w51 ⟨rfl, hb⟩; refine ⟨_, rfl, ?_⟩; replace HO_4 := am (Kd.R_below (pkr HO_4.out) hb); replace BK256 := am (blk_below (pkb BK256.out) hb); replace BK266 := am (blk_below (pkb BK266.out) hb); replace HB := am (below_step (by repeat (first | (with_reducible first | exact HB.out | apply bA | apply bN | apply b1 | refine bS ?_ (by assumption)) | exact HB.out)) hb); (try clear hb); (try clear hb2); (try clear hk); (try clear hi); obtain ⟨hcz52_0, hcz52_1, hcz52_2, hfz52_0, hfz52_1, hfz52_2⟩ := pq3 BK256.out))
         refine bodyPost_ret (results_ct rfl _ _ gb256 31 #[.int .i64 0, .int .i64 0, .int .i64 0] (0, 0) _ rfl (by (with_reducible repeat (first | apply kN | apply k1 | apply kA)); refine blk_put (cs := #[.int .i64 0, .int .i64 0, .int .i64 0]) ?_ 2 _ rfl; (with_reducible repeat (first | apply kN | apply k1 | apply kA)); refine blk_put (cs := #[.int .i64 0, .int .i64 0, .int .i64 0]) ?_ 1 _ rfl; (with_reducible repeat (first | apply kN | apply k1 | apply kA)); refine blk_put (cs := #[.int .i64 0, .int .i64 0, .int .i64 0]) ?_ 0 _ rfl; (with_reducible repeat (first | apply kN | apply k1 | apply kA)); exact BK256.out) Tryd.underlying31 rfl (by kernel_rfl)) rfl ?_; exact ⟨by first | rfl | (simp [errW_none, errW_some] <;> rfl) | (simp [*, errW_none, errW_some] <;> rfl), by repeat (first | (with_reducible first | exact HB.out | apply bA | apply bN | apply b1 | refine bS ?_ (by assumption)) | exact HB.out)⟩
     ·rw [if_neg c13] at H
      exact absurd H (by simp)
    ·rw [if_neg c11] at H
     exact absurd H (by simp)

/-! ### laws_eqAct: function 21 -/
def laws_eqAct.f (a0_0 : Int) (a0_1 : Int) (a0_2 : Int) (a1_0 : Int) (a1_1 : Int) (a1_2 : Int) : Option (Bool) := if a0_0 = a1_0 then (if a0_1 = a1_1 then (if a0_2 = a1_2 then (some true) else (some false)) else (some false)) else (some false)
set_option maxHeartbeats 8000000 in
set_option maxRecDepth 100000 in
theorem laws_eqAct.calls (a0_0 : Int) (a0_1 : Int) (a0_2 : Int) (a1_0 : Int) (a1_1 : Int) (a1_2 : Int) (r : Bool) (w : World) (h : laws_eqAct.f a0_0 a0_1 a0_2 a1_0 a1_1 a1_2 = some r) :
  Calls Tryd.prog 21 #[.agg #[.int .i64 a0_0, .int .i64 a0_1, .int .i64 a0_2], .agg #[.int .i64 a1_0, .int .i64 a1_1, .int .i64 a1_2]] w fun e w' => e = .returned (.bool r) ∧ Below w.heap.size w w' := by
 have hu31 := Tryd.underlying31; have HB := am (Below.refl w.heap.size w); have H : (if a0_0 = a1_0 then (if a0_1 = a1_1 then (if a0_2 = a1_2 then (some true) else (some false)) else (some false)) else (some false)) = some r := h; clear h
 by_cases c3 : a0_0 = a1_0
 ·rw [if_pos c3] at H
  have c3b0 : (a0_0 == a1_0) = true := beq_iff_eq.mpr c3; have c3b1 : (a0_0 != a1_0) = false := bne_eq_false_iff_eq.mpr c3; clear c3
  by_cases c4 : a0_1 = a1_1
  ·rw [if_pos c4] at H
   have c4b0 : (a0_1 == a1_1) = true := beq_iff_eq.mpr c4; have c4b1 : (a0_1 != a1_1) = false := bne_eq_false_iff_eq.mpr c4; clear c4
   by_cases c5 : a0_2 = a1_2
   ·rw [if_pos c5] at H
    have c5b0 : (a0_2 == a1_2) = true := beq_iff_eq.mpr c5; have c5b1 : (a0_2 != a1_2) = false := bne_eq_false_iff_eq.mpr c5; clear c5; obtain rfl := Option.some.inj H; go_enter Tryd.func21, Tryd.ntmps21
    go_wp2_with (first | ((with_reducible refine gate_dst (N := 2) rfl ?_); refine box_event ?hg (N := 2) ?hd (cs := #[.int .i64 a0_0, .int .i64 a0_1, .int .i64 a0_2]) (t := 31) ?hr ?_; (case hd => rfl); (case hg => rfl); (case hr => first | (go_simp; done) | (go_simp; rfl)); intro gb276 hg w6 hbox hb; have BK276 := am (hbox); have GW276 := am ((by rw [hg]; exact (below_size (pkh HB.out)) : w.heap.size ≤ gb276)); replace HB := am (below_step (pkh HB.out) hb); have GE276 := GW276; clear hb hbox hg) | ((with_reducible refine gate_dst (N := 3) rfl ?_); refine box_event ?hg (N := 3) ?hd (cs := #[.int .i64 a1_0, .int .i64 a1_1, .int .i64 a1_2]) (t := 31) ?hr ?_; (case hd => rfl); (case hg => rfl); (case hr => first | (go_simp; done) | (go_simp; rfl)); intro gb277 hg w7 hbox hb; have BK277 := am (hbox); have GW277 := am ((by rw [hg]; exact (below_size (pkh HB.out)) : w.heap.size ≤ gb277)); replace HB := am (below_step (pkh HB.out) hb); have GE277 := GW277; have NB276_277 := am ((by rw [hg]; exact Nat.ne_of_lt (blk_lt (pkb BK276.out)) : gb276 ≠ gb277)); replace BK276 := am (blk_below (pkb BK276.out) hb); have NB277_276 := am NB276_277.out.symm; clear hb hbox hg; have hnb8 := NB276_277.out; have hnc8 := NB277_276.out; obtain ⟨hcz9_0, hcz9_1, hcz9_2, hfz9_0, hfz9_1, hfz9_2⟩ := pq3 BK276.out; obtain ⟨hcz10_0, hcz10_1, hcz10_2, hfz10_0, hfz10_1, hfz10_2⟩ := pq3 BK277.out))
    go_ret
    exact ⟨by first | rfl | (simp [errW_none, errW_some] <;> rfl) | (simp [*, errW_none, errW_some] <;> rfl), by repeat (first | (with_reducible first | exact HB.out | apply bA | apply bN | apply b1 | refine bS ?_ (by assumption)) | exact HB.out)⟩
   ·rw [if_neg c5] at H
    have c5b0 : (a0_2 == a1_2) = false := beq_eq_false_iff_ne.mpr c5; have c5b1 : (a0_2 != a1_2) = true := bne_iff_ne.mpr c5; obtain rfl := Option.some.inj H; go_enter Tryd.func21, Tryd.ntmps21
    go_wp2_with (first | ((with_reducible refine gate_dst (N := 2) rfl ?_); refine box_event ?hg (N := 2) ?hd (cs := #[.int .i64 a0_0, .int .i64 a0_1, .int .i64 a0_2]) (t := 31) ?hr ?_; (case hd => rfl); (case hg => rfl); (case hr => first | (go_simp; done) | (go_simp; rfl)); intro gb276 hg w11 hbox hb; have BK276 := am (hbox); have GW276 := am ((by rw [hg]; exact (below_size (pkh HB.out)) : w.heap.size ≤ gb276)); replace HB := am (below_step (pkh HB.out) hb); have GE276 := GW276; clear hb hbox hg) | ((with_reducible refine gate_dst (N := 3) rfl ?_); refine box_event ?hg (N := 3) ?hd (cs := #[.int .i64 a1_0, .int .i64 a1_1, .int .i64 a1_2]) (t := 31) ?hr ?_; (case hd => rfl); (case hg => rfl); (case hr => first | (go_simp; done) | (go_simp; rfl)); intro gb277 hg w12 hbox hb; have BK277 := am (hbox); have GW277 := am ((by rw [hg]; exact (below_size (pkh HB.out)) : w.heap.size ≤ gb277)); replace HB := am (below_step (pkh HB.out) hb); have GE277 := GW277; have NB276_277 := am ((by rw [hg]; exact Nat.ne_of_lt (blk_lt (pkb BK276.out)) : gb276 ≠ gb277)); replace BK276 := am (blk_below (pkb BK276.out) hb); have NB277_276 := am NB276_277.out.symm; clear hb hbox hg; have hnb13 := NB276_277.out; have hnc13 := NB277_276.out; obtain ⟨hcz14_0, hcz14_1, hcz14_2, hfz14_0, hfz14_1, hfz14_2⟩ := pq3 BK276.out; obtain ⟨hcz15_0, hcz15_1, hcz15_2, hfz15_0, hfz15_1, hfz15_2⟩ := pq3 BK277.out))
    go_ret
    exact ⟨by first | rfl | (simp [errW_none, errW_some] <;> rfl) | (simp [*, errW_none, errW_some] <;> rfl), by repeat (first | (with_reducible first | exact HB.out | apply bA | apply bN | apply b1 | refine bS ?_ (by assumption)) | exact HB.out)⟩
  ·rw [if_neg c4] at H
   have c4b0 : (a0_1 == a1_1) = false := beq_eq_false_iff_ne.mpr c4; have c4b1 : (a0_1 != a1_1) = true := bne_iff_ne.mpr c4; obtain rfl := Option.some.inj H; go_enter Tryd.func21, Tryd.ntmps21
   go_wp2_with (first | ((with_reducible refine gate_dst (N := 2) rfl ?_); refine box_event ?hg (N := 2) ?hd (cs := #[.int .i64 a0_0, .int .i64 a0_1, .int .i64 a0_2]) (t := 31) ?hr ?_; (case hd => rfl); (case hg => rfl); (case hr => first | (go_simp; done) | (go_simp; rfl)); intro gb276 hg w16 hbox hb; have BK276 := am (hbox); have GW276 := am ((by rw [hg]; exact (below_size (pkh HB.out)) : w.heap.size ≤ gb276)); replace HB := am (below_step (pkh HB.out) hb); have GE276 := GW276; clear hb hbox hg) | ((with_reducible refine gate_dst (N := 3) rfl ?_); refine box_event ?hg (N := 3) ?hd (cs := #[.int .i64 a1_0, .int .i64 a1_1, .int .i64 a1_2]) (t := 31) ?hr ?_; (case hd => rfl); (case hg => rfl); (case hr => first | (go_simp; done) | (go_simp; rfl)); intro gb277 hg w17 hbox hb; have BK277 := am (hbox); have GW277 := am ((by rw [hg]; exact (below_size (pkh HB.out)) : w.heap.size ≤ gb277)); replace HB := am (below_step (pkh HB.out) hb); have GE277 := GW277; have NB276_277 := am ((by rw [hg]; exact Nat.ne_of_lt (blk_lt (pkb BK276.out)) : gb276 ≠ gb277)); replace BK276 := am (blk_below (pkb BK276.out) hb); have NB277_276 := am NB276_277.out.symm; clear hb hbox hg; have hnb18 := NB276_277.out; have hnc18 := NB277_276.out; obtain ⟨hcz19_0, hcz19_1, hcz19_2, hfz19_0, hfz19_1, hfz19_2⟩ := pq3 BK276.out; obtain ⟨hcz20_0, hcz20_1, hcz20_2, hfz20_0, hfz20_1, hfz20_2⟩ := pq3 BK277.out))
   go_ret
   exact ⟨by first | rfl | (simp [errW_none, errW_some] <;> rfl) | (simp [*, errW_none, errW_some] <;> rfl), by repeat (first | (with_reducible first | exact HB.out | apply bA | apply bN | apply b1 | refine bS ?_ (by assumption)) | exact HB.out)⟩
 ·rw [if_neg c3] at H
  have c3b0 : (a0_0 == a1_0) = false := beq_eq_false_iff_ne.mpr c3; have c3b1 : (a0_0 != a1_0) = true := bne_iff_ne.mpr c3; obtain rfl := Option.some.inj H; go_enter Tryd.func21, Tryd.ntmps21
  go_wp2_with (first | ((with_reducible refine gate_dst (N := 2) rfl ?_); refine box_event ?hg (N := 2) ?hd (cs := #[.int .i64 a0_0, .int .i64 a0_1, .int .i64 a0_2]) (t := 31) ?hr ?_; (case hd => rfl); (case hg => rfl); (case hr => first | (go_simp; done) | (go_simp; rfl)); intro gb276 hg w21 hbox hb; have BK276 := am (hbox); have GW276 := am ((by rw [hg]; exact (below_size (pkh HB.out)) : w.heap.size ≤ gb276)); replace HB := am (below_step (pkh HB.out) hb); have GE276 := GW276; clear hb hbox hg) | ((with_reducible refine gate_dst (N := 3) rfl ?_); refine box_event ?hg (N := 3) ?hd (cs := #[.int .i64 a1_0, .int .i64 a1_1, .int .i64 a1_2]) (t := 31) ?hr ?_; (case hd => rfl); (case hg => rfl); (case hr => first | (go_simp; done) | (go_simp; rfl)); intro gb277 hg w22 hbox hb; have BK277 := am (hbox); have GW277 := am ((by rw [hg]; exact (below_size (pkh HB.out)) : w.heap.size ≤ gb277)); replace HB := am (below_step (pkh HB.out) hb); have GE277 := GW277; have NB276_277 := am ((by rw [hg]; exact Nat.ne_of_lt (blk_lt (pkb BK276.out)) : gb276 ≠ gb277)); replace BK276 := am (blk_below (pkb BK276.out) hb); have NB277_276 := am NB276_277.out.symm; clear hb hbox hg; have hnb23 := NB276_277.out; have hnc23 := NB277_276.out; obtain ⟨hcz24_0, hcz24_1, hcz24_2, hfz24_0, hfz24_1, hfz24_2⟩ := pq3 BK276.out; obtain ⟨hcz25_0, hcz25_1, hcz25_2, hfz25_0, hfz25_1, hfz25_2⟩ := pq3 BK277.out))
  go_ret
  exact ⟨by first | rfl | (simp [errW_none, errW_some] <;> rfl) | (simp [*, errW_none, errW_some] <;> rfl), by repeat (first | (with_reducible first | exact HB.out | apply bA | apply bN | apply b1 | refine bS ?_ (by assumption)) | exact HB.out)⟩

end Go.Proofs.YtefbmfgifjphfaaDoor.PFnExactParseAct
