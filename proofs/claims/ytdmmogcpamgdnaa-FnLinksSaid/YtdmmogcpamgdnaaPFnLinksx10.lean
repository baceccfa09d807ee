-- written by xprint.py for this seat
import Derived.Test.YtdmmogcpamgdnaaPFnLinksx0
import Derived.Test.YtdmmogcpamgdnaaPFnLinksx1
import Derived.Test.YtdmmogcpamgdnaaPFnLinksx5
import Derived.Test.YtdmmogcpamgdnaaPFnLinksx6
import Derived.Test.YtdmmogcpamgdnaaPFnLinksx8
import Derived.Test.YtdmmogcpamgdnaaPFnLinksx9
namespace Go.Proofs.Ytdmmogcpamgdnaa.PFnLinks
set_option maxHeartbeats 8000000
set_option maxRecDepth 100000
open Go.RowKit Go.Proofs.YtdmmogcpamgdnaaW.PrintWords Go.Proofs.YtdmmogcpamgdnaaW.PrintLast Go.Proofs.YtdmmogcpamgdnaaW.PrintMore
attribute [local go_sem] max2_int min2_int max_two min_two max_three min_three max_four min_four   -- for this text's walks alone
set_option linter.unusedVariables false
set_option linter.unusedSimpArgs false

/-! ### laws_FnLinks: function 5 -/
def laws_FnLinks.l0 : Nat → List Int → List Int → List Bool → Int → Int → List Int → Option (Bool)
 | 0, _, _, _, _, _, _ => none
 | k + 1, x3, x5, x6, x7, x501000, x501001 => if x7 < 6 then (if 0 ≤ x7 then (if x7 < (x5.length : Int) then (if x6.length < 140737488355328 then (laws_FnLinks.l0 k x3 x5 (x6 ++ [((Int.tmod (rd x5 x7) 2) == 0)]) (wrap64 (x7 + 1)) x501000 x501001) else (none)) else (none)) else (none)) else (if 7 < (x5.length : Int) then ((impl_SendRound.f k x3 x501000 x501001 x6 ((Int.tmod (rd x5 7) 2) == 0)).bind fun bt512 => (if bt512.2.2 = true then ((impl_LinkOk.f k x3 bt512.1 bt512.2.1).bind fun t518 => (if t518 = true then ((impl_Delivered.f x501000 x501001).bind fun t519 => ((impl_Delivered.f bt512.1 bt512.2.1).bind fun t522 => ((impl_IsPrefixOf.f k t519 t522).bind fun t525 => (if t525 = true then (some (decide (bt512.1 ≥ x501000))) else (none))))) else (none))) else (none))) else (none))
def laws_FnLinks.f (k : Nat) (l0 : List Int) : Option (Bool) := (laws_big.f l0).bind fun t492 => (if t492 = true then (some true) else ((spec_DrawLink.f k l0).bind fun bt493 => ((spec_DrawPlaces.f k l0).bind fun t501 => (laws_FnLinks.l0 k bt493.1 t501 (([] : List Bool)) 0 bt493.2.1 bt493.2.2))))
theorem laws_FnLinks.mono_l : ∀ k, (∀ y0 y1 y2 y3 y4 y5, LeO (laws_FnLinks.l0 k y0 y1 y2 y3 y4 y5) (laws_FnLinks.l0 (k + 1) y0 y1 y2 y3 y4 y5))
 | 0 => fun _ _ _ _ _ _ r h => by simp [laws_FnLinks.l0] at h
 | k + 1 => by
  have ih0 := laws_FnLinks.mono_l k
  ·intro y0 y1 y2 y3 y4 y5
   unfold laws_FnLinks.l0
   repeat' first
   | (with_reducible exact ih0 _ _ _ _ _ _)
   | (with_reducible exact impl_IsPrefixOf.mono _ _ _)
   | (with_reducible exact impl_LinkOk.mono _ _ _ _)
   | (with_reducible exact impl_SendRound.mono _ _ _ _ _ _)
   | (with_reducible exact spec_DrawLink.mono _ _)
   | (with_reducible exact spec_DrawPlaces.mono _ _)
   | (with_reducible exact LeO.refl _)
   | (with_reducible exact LeO.none _)
   | (with_reducible refine LeO.ite ?_ ?_)
   | (with_reducible refine LeO.bind ?_ (fun _ => ?_))
   | exact ih0 _ _ _ _ _ _
   | exact impl_IsPrefixOf.mono _ _ _
   | exact impl_LinkOk.mono _ _ _ _
   | exact impl_SendRound.mono _ _ _ _ _ _
   | exact spec_DrawLink.mono _ _
   | exact spec_DrawPlaces.mono _ _
   | exact LeO.none _
   | refine LeO.ite ?_ ?_
   | refine LeO.bind ?_ (fun _ => ?_)
theorem laws_FnLinks.mono : ∀ a0 k, LeO (laws_FnLinks.f k a0) (laws_FnLinks.f (k + 1) a0) := by
 intro a0 k; have ih0 := laws_FnLinks.mono_l k; unfold laws_FnLinks.f
 repeat' first
   | (with_reducible exact ih0 _ _ _ _ _ _)
   | (with_reducible exact impl_IsPrefixOf.mono _ _ _)
   | (with_reducible exact impl_LinkOk.mono _ _ _ _)
   | (with_reducible exact impl_SendRound.mono _ _ _ _ _ _)
   | (with_reducible exact spec_DrawLink.mono _ _)
   | (with_reducible exact spec_DrawPlaces.mono _ _)
   | (with_reducible exact LeO.refl _)
   | (with_reducible exact LeO.none _)
   | (with_reducible refine LeO.ite ?_ ?_)
   | (with_reducible refine LeO.bind ?_ (fun _ => ?_))
   | exact ih0 _ _ _ _ _ _
   | exact impl_IsPrefixOf.mono _ _ _
   | exact impl_LinkOk.mono _ _ _ _
   | exact impl_SendRound.mono _ _ _ _ _ _
   | exact spec_DrawLink.mono _ _
   | exact spec_DrawPlaces.mono _ _
   | exact LeO.none _
   | refine LeO.ite ?_ ?_
   | refine LeO.bind ?_ (fun _ => ?_)
def laws_FnLinks.T10 : Bool × List (List Nat × List Nat) := (true, [([], []), ([], []), ([], []), ([], []), ([3], [3]), ([4], [4]), ([5], [5]), ([6], [6]), ([0, 1, 2, 7], [0, 1, 2, 7]), ([8], [8]), ([9], [9]), ([9], [9]), ([], []), ([12, 10, 8, 0, 1, 2, 3, 4, 5, 6, 7, 8, 9, 10, 12], [10, 12]), ([11, 13, 0, 1, 2, 3, 4, 5, 6, 7, 8, 9, 10, 11, 12, 13], [11])])
def laws_FnLinks.B10 : List Nat := [0, 0, 0, 0, 8, 24, 56, 120, 255, 511, 1023, 1023, 0, 6143, 16383]
theorem laws_FnLinks.tab10 : rtab .any (opsOf Try.f5 10) = laws_FnLinks.T10 := by kernel_rfl
theorem laws_FnLinks.bits10 : waitsOk laws_FnLinks.T10.2 laws_FnLinks.B10 = true := by kernel_rfl
def laws_FnLinks.T11 : Bool × List (List Nat × List Nat) := (true, [([], []), ([0], [0]), ([1], [1]), ([1], [1]), ([2, 3, 1, 1], [1, 2, 3]), ([1, 4], [1, 4]), ([5, 4], [5]), ([6], [6]), ([7, 6, 6], [6, 7]), ([6], [6]), ([9, 8, 6], [6, 9]), ([8, 10, 10, 6], [6, 8, 10]), ([6, 11], [6, 11]), ([12, 11], [12]), ([13], [13]), ([14, 13], [13, 14]), ([13], [13]), ([16, 13], [13, 16]), ([15, 17, 13], [13, 15, 17]), ([13, 18], [13, 18]), ([19, 13, 0, 1, 2, 3, 4, 5, 6, 7, 8, 9, 10, 11, 12, 13, 14, 15, 16, 17, 18, 19], [19])])
def laws_FnLinks.B11 : List Nat := [0, 1, 3, 3, 15, 31, 63, 127, 255, 127, 1023, 2047, 4095, 8191, 16383, 32767, 16383, 81919, 262143, 524287, 1048575]
theorem laws_FnLinks.tab11 : rtab .any (opsOf Try.f5 11) = laws_FnLinks.T11 := by kernel_rfl
theorem laws_FnLinks.bits11 : waitsOk laws_FnLinks.T11.2 laws_FnLinks.B11 = true := by kernel_rfl
theorem laws_FnLinks.calls (k : Nat) (A0 : Option Addr) (c0 : Nat) (l0 : List Int) (r : Bool) (w : World) (hr0 : Kd.C (Kd.int .u8) w A0 l0.length l0) (hc0 : l0.length ≤ c0) (h : laws_FnLinks.f k l0 = some r) :
  Calls Try.prog 5 #[.slice A0 l0.length c0] w fun e w' => e = .returned (.bool r) ∧ Below w.heap.size w w' := by
 have hu28 := Try.underlying28; have HR0 := am hr0; have HC0 := am hc0; clear hr0 hc0; have HB := am (Below.refl w.heap.size w); have H : ((laws_big.f l0).bind fun t492 => (if t492 = true then (some true) else ((spec_DrawLink.f k l0).bind fun bt493 => ((spec_DrawPlaces.f k l0).bind fun t501 => (laws_FnLinks.l0 k bt493.1 t501 (([] : List Bool)) 0 bt493.2.1 bt493.2.2))))) = some r := h; clear h; replace H := Option.bind_eq_some_iff.mp H; obtain ⟨t492, A20, H⟩ := H; replace H : (if t492 = true then (some true) else ((spec_DrawLink.f k l0).bind fun bt493 => ((spec_DrawPlaces.f k l0).bind fun t501 => (laws_FnLinks.l0 k bt493.1 t501 (([] : List Bool)) 0 bt493.2.1 bt493.2.2)))) = some r := H; have A2 := am A20; clear A20
 by_cases c3 : t492 = true
 ·subst c3
  have H1 : (some true) = some r := by rw [if_pos rfl] at H; exact H
  clear H; have H := H1; clear H1; obtain rfl := Option.some.inj H; go_enter Try.func5, Try.ntmps5
  go_wp2_with (first | ((with_reducible refine gate_callee (f := 8) rfl ?_); refine goesL_ (some 11) rfl rfl Try.func8 (by kernel_rfl) rfl #[.slice A0 l0.length c0] rfl (by (try simp only [List.map_toArray, List.map_cons, List.map_nil]); first | done | rfl | (simp only [List.length_drop, List.length_take]; rfl)) ?_; (with_reducible refine (laws_big.calls _ _ l0 true _ ?side1 ?side2 A2.out).mono ?_); (case side1 => repeat (first | exact HR0.out | (with_reducible refine Kd.C_alloc ?_ _) | (with_reducible refine Kd.C_drewN ?_ _) | (with_reducible refine Kd.C_drew ?_))); (case side2 => exact HC0.out); rintro e w' ⟨rfl, ⟨nd, rfl⟩⟩; refine ⟨_, rfl, ?_⟩))
  go_ret
  exact ⟨by first | rfl | (simp [errW_none, errW_some] <;> rfl) | (simp [*, errW_none, errW_some] <;> rfl), by repeat (first | (with_reducible first | exact HB.out | apply bA | apply bN | apply b1) | exact HB.out)⟩
 ·replace c3 := Bool.eq_false_iff.mpr c3
  subst c3
  have H1 : ((spec_DrawLink.f k l0).bind fun bt493 => ((spec_DrawPlaces.f k l0).bind fun t501 => (laws_FnLinks.l0 k bt493.1 t501 (([] : List Bool)) 0 bt493.2.1 bt493.2.2))) = some r := by rw [if_neg (show ¬ (false = true) by decide)] at H; exact H
  clear H; have H := H1; clear H1; replace H := Option.bind_eq_some_iff.mp H; obtain ⟨⟨t493, t496, t497⟩, A40, H⟩ := H; replace H : ((spec_DrawPlaces.f k l0).bind fun t501 => (laws_FnLinks.l0 k t493 t501 (([] : List Bool)) 0 t496 t497)) = some r := H; have A4 := am A40; clear A40; replace H := Option.bind_eq_some_iff.mp H; obtain ⟨t501, A50, H⟩ := H; replace H : (laws_FnLinks.l0 k t493 t501 (([] : List Bool)) 0 t496 t497) = some r := H; have A5 := am A50; clear A50; obtain ⟨y504, hy504⟩ : ∃ y_ : List Bool, y_ = (([] : List Bool)) := ⟨_, rfl⟩
  replace H : (laws_FnLinks.l0 k t493 t501 y504 0 t496 t497) = some r := by first | (rw [hy504]; with_reducible exact H) | (have H2_ := (Option.bind_some _ _).symm.trans H; rw [hy504]; with_reducible exact H2_) | (have H2_ := (Option.bind_some _ _).symm.trans H; with_reducible exact H2_) | with_reducible exact H | (rw [hy504]; exact H) | exact H
  have Ny504 := am hy504; clear hy504; have H' := am H; clear H; go_enter Try.func5, Try.ntmps5
  go_wp2_with (first | ((with_reducible refine gate_callee (f := 8) rfl ?_); refine goesL_ (some 11) rfl rfl Try.func8 (by kernel_rfl) rfl #[.slice A0 l0.length c0] rfl (by (try simp only [List.map_toArray, List.map_cons, List.map_nil]); first | done | rfl | (simp only [List.length_drop, List.length_take]; rfl)) ?_; (with_reducible refine (laws_big.calls _ _ l0 false _ ?side1 ?side2 A2.out).mono ?_); (case side1 => repeat (first | exact HR0.out | (with_reducible refine Kd.C_alloc ?_ _) | (with_reducible refine Kd.C_drewN ?_ _) | (with_reducible refine Kd.C_drew ?_))); (case side2 => exact HC0.out); rintro e w' ⟨rfl, ⟨nd, rfl⟩⟩; refine ⟨_, rfl, ?_⟩) | ((with_reducible refine gate_callee (f := 9) rfl ?_); refine goesL_ (some 14) rfl rfl Try.func9 (by kernel_rfl) rfl #[.slice A0 l0.length c0] rfl (by (try simp only [List.map_toArray, List.map_cons, List.map_nil]); first | done | rfl | (simp only [List.length_drop, List.length_take]; rfl)) ?_; (with_reducible refine (spec_DrawLink.calls k _ _ l0 t493 t496 t497 _ ?side1 ?side2 A4.out).mono ?_); (case side1 => repeat (first | exact HR0.out | (with_reducible refine Kd.C_alloc ?_ _) | (with_reducible refine Kd.C_drewN ?_ _) | (with_reducible refine Kd.C_drew ?_))); (case side2 => exact HC0.out); rintro e w6 ⟨v494, v498, rfl, ho0, ho1, hb⟩; refine ⟨_, rfl, ?_⟩; have HO495 := am (Kd.R_lower ho0 (below_size (by repeat (first | (with_reducible first | exact HB.out | apply bA | apply bN | apply b1) | exact HB.out)))); have HO499 := am (Kd.R_lower ho1 (below_size (by repeat (first | (with_reducible first | exact HB.out | apply bA | apply bN | apply b1) | exact HB.out)))); replace HB := am (below_step (by repeat (first | (with_reducible first | exact HB.out | apply bA | apply bN | apply b1) | exact HB.out)) hb); (try clear hb); (try clear hb2); (try clear hk); (try clear hi); (try clear ho0); (try clear ho1)) | ((with_reducible refine gate_dst (N := 4) rfl ?_); refine box_event ?hg (N := 4) ?hd (cs := #[.int .i64 0, .slice none 0 0]) (t := 28) ?hr ?_; (case hd => rfl); (case hg => rfl); (case hr => first | (go_simp; done) | (go_simp; rfl)); intro gb500 hg w7 hbox hb; replace HO495 := am (Kd.R_below (pkr HO495.out) hb); replace HO499 := am (Kd.R_below (pkr HO499.out) hb); have BK500 := am (hbox); have GW500 := am ((by rw [hg]; exact (below_size (by repeat (first | (with_reducible first | exact HB.out | apply bA | apply bN | apply b1) | exact HB.out))) : w.heap.size ≤ gb500)); replace HB := am (below_step (by repeat (first | (with_reducible first | exact HB.out | apply bA | apply bN | apply b1) | exact HB.out)) hb); have GE500 := GW500; clear hb hbox hg; have hcz8_0 := pc0 BK500.out; have hcz8_1 := pc1 BK500.out; have hfz8_0 := blk_frozen BK500.out 0; have hfz8_1 := blk_frozen BK500.out 1; obtain ⟨Ao9, co9, eo9⟩ := Kd.R_slice HO499.out; subst eo9) | ((with_reducible refine gate_callee (f := 10) rfl ?_); refine goesL_ (some 18) rfl rfl Try.func10 (by kernel_rfl) rfl #[.slice A0 l0.length c0] rfl (by (try simp only [List.map_toArray, List.map_cons, List.map_nil]); first | done | rfl | (simp only [List.length_drop, List.length_take]; rfl)) ?_; (with_reducible refine (spec_DrawPlaces.calls k _ _ l0 t501 _ ?side1 ?side2 A5.out).mono ?_); (case side1 => exact Kd.C_below HR0.out (by repeat (first | (with_reducible first | exact HB.out | apply bA | apply bN | apply b1 | refine bS ?_ (by assumption)) | exact HB.out))); (case side2 => exact HC0.out); rintro e w10 ⟨v502, rfl, ho0, hb⟩; refine ⟨_, rfl, ?_⟩; have HO503 := am (Kd.R_lower (Kd.R_new' (Kd.R_new' ho0 (Kd.R_lt (pkr ((pkf2 0 1 HO495.out BK500.out (by decide) (.int .i64 t496) (.slice Ao9 t497.length co9)))))) (Kd.R_lt (pkr ((pkf2 0 1 HO499.out BK500.out (by decide) (.int .i64 t496) (.slice Ao9 t497.length co9)))))) (below_size (by repeat (first | (with_reducible first | exact HB.out | apply bA | apply bN | apply b1 | refine bS ?_ (by assumption)) | exact HB.out)))); replace HO495 := am (Kd.R_elder' (pkr ((pkf2 0 1 HO495.out BK500.out (by decide) (.int .i64 t496) (.slice Ao9 t497.length co9)))) (Kd.R_base ho0) hb); replace HO499 := am (Kd.R_elder' (pkr ((pkf2 0 1 HO499.out BK500.out (by decide) (.int .i64 t496) (.slice Ao9 t497.length co9)))) (Kd.R_base ho0) hb); replace BK500 := am (blk_below (g := gb500) (o := .cells #[.int .i64 t496, .slice Ao9 t497.length co9] 28 (0, 0)) (by (with_reducible repeat (first | apply kN | apply k1 | apply kA)); refine blk_put (cs := #[.int .i64 t496, .slice none 0 0]) ?_ 1 _ rfl; (with_reducible repeat (first | apply kN | apply k1 | apply kA)); refine blk_put (cs := #[.int .i64 0, .slice none 0 0]) ?_ 0 _ rfl; (with_reducible repeat (first | apply kN | apply k1 | apply kA)); exact BK500.out) hb); replace HB := am (below_step (by repeat (first | (with_reducible first | exact HB.out | apply bA | apply bN | apply b1 | refine bS ?_ (by assumption)) | exact HB.out)) hb); (try clear hb); (try clear hb2); (try clear hk); (try clear hi); (try clear ho0)) | ((with_reducible refine gate_dst (N := 19) rfl ?_); refine Kd.R_lit Kd.bool _ 4 ?hg (N := 19) ?hd (xs := ([] : List Bool)) (inner := []) (ok := fun _ => True) (okp := fun _ => True) ?hr ?hp (fun _ hk => hk) trivial (Below.refl _ _) (Nat.le_refl _) (by simp) ?_; (case hd => rfl); (case hg => rfl); (case hr => first | (go_simp; done) | (go_simp; rfl)); (case hp => exact (Reps.none _ _)); intro v505 w11 ho12 hb hg_ hnew_; clear hg_ hnew_; (first | rw [← Ny504.out] at ho12 | (simp only [Int.reduceToNat] at ho12; rw [← Ny504.out] at ho12)); replace HO495 := am (Kd.R_below (pkr HO495.out) hb); replace HO499 := am (Kd.R_below (pkr HO499.out) hb); replace HO503 := am (Kd.R_below (pkr HO503.out) hb); have HO506 := am (Kd.R_lower ho12 (below_size (by repeat (first | (with_reducible first | exact HB.out | apply bA | apply bN | apply b1 | refine bS ?_ (by assumption)) | exact HB.out)))); replace BK500 := am (blk_below (pkb BK500.out) hb); replace HB := am (below_step (by repeat (first | (with_reducible first | exact HB.out | apply bA | apply bN | apply b1 | refine bS ?_ (by assumption)) | exact HB.out)) hb); clear hb ho12))
  go_loopg [6, 7] k (fun kq v6 v7 w' => ∃ (x6_1 : List Bool) (x7_1 : Int), v7 = .int .i64 x7_1 ∧ Aside0 (laws_FnLinks.l0 kq t493 t501 x6_1 x7_1 t496 t497 = some r) ∧ Aside0 (kq ≤ k) ∧ Aside0 (Kd.R (Kd.int .i64) 3 w' w.heap.size (fun k_ => some k_ ≠ (v502 : Value).ownBlock ∧ some k_ ≠ ((.slice Ao9 t497.length co9) : Value).ownBlock) v494 t493) ∧ Aside0 (Kd.R (Kd.int .i64) 3 w' w.heap.size (fun k_ => some k_ ≠ (v494 : Value).ownBlock ∧ some k_ ≠ ((.slice Ao9 t497.length co9) : Value).ownBlock) v502 t501) ∧ Aside0 (Kd.R Kd.bool 4 w' w.heap.size (fun _ => True) v6 x6_1) ∧ Aside0 (Kd.R (Kd.int .i64) 3 w' w.heap.size (fun k_ => some k_ ≠ (v494 : Value).ownBlock ∧ some k_ ≠ (v502 : Value).ownBlock) (.slice Ao9 t497.length co9) t497) ∧ Aside0 (w'.heap[gb500]? = some (.cells #[.int .i64 t496, (.slice Ao9 t497.length co9)] 28 (0, 0))) ∧ Aside0 (Below w.heap.size w w'))
  case atStart => exact ⟨(y504), (0), (by first | rfl | (simp; done) | (simp [*]; done)), H', ⟨Nat.le_refl _⟩, ⟨by (with_reducible repeat (first | apply Kd.R_alloc | apply Kd.R_drewN | apply Kd.R_drew)); exact Kd.R_mono HO495.out (fun _ hk => by first | exact ⟨hk.2, hk.1⟩ | simp_all)⟩, ⟨by (with_reducible repeat (first | apply Kd.R_alloc | apply Kd.R_drewN | apply Kd.R_drew)); exact Kd.R_mono HO503.out (fun _ hk => by first | exact ⟨hk.1.2, hk.2⟩ | simp_all)⟩, ⟨by (with_reducible repeat (first | apply Kd.R_alloc | apply Kd.R_drewN | apply Kd.R_drew)); exact HO506.out⟩, ⟨by (with_reducible repeat (first | apply Kd.R_alloc | apply Kd.R_drewN | apply Kd.R_drew)); exact HO499.out⟩, ⟨by (with_reducible repeat (first | apply kN | apply k1 | apply kA)); exact BK500.out⟩, ⟨by repeat (first | (with_reducible first | exact HB.out | apply bA | apply bN | apply b1 | refine bS ?_ (by assumption)) | exact HB.out)⟩⟩
  case round =>
   clear H'; (try clear p2); (try clear hcz8_0); (try clear hcz8_1); (try clear hfz8_0); (try clear hfz8_1); obtain ⟨x6_1, x7_1, rfl, HA, HK1, HO_3, HO_5, HO_6, HO_501001, BK500, HB⟩ := hrel; cases gk with
   | zero => exact absurd HA.out (by simp [laws_FnLinks.l0])
   | succ k1 =>
    have H := HA.out; clear HA; simp only [laws_FnLinks.l0] at H
    by_cases c13 : x7_1 < 6
    ·rw [if_pos c13] at H
     have c13b0 : decide (x7_1 < 6) = true := decide_eq_true c13; clear c13
     by_cases c14 : 0 ≤ x7_1
     ·rw [if_pos c14] at H
      have c14b0 : decide (0 ≤ x7_1) = true := decide_eq_true c14; clear c14
      by_cases c15 : x7_1 < (t501.length : Int)
      ·rw [if_pos c15] at H
       have c15b0 : decide (x7_1 < (t501.length : Int)) = true := decide_eq_true c15; clear c15
       by_cases c16 : x6_1.length < 140737488355328
       ·rw [if_pos c16] at H
        have LMc16 := am c16; clear c16; obtain ⟨y508, hy508⟩ : ∃ y_ : List Bool, y_ = (x6_1 ++ [((Int.tmod (rd t501 x7_1) 2) == 0)]) := ⟨_, rfl⟩
        replace H : (laws_FnLinks.l0 k1 t493 t501 y508 (wrap64 (x7_1 + 1)) t496 t497) = some r := by first | (rw [hy508]; with_reducible exact H) | (have H2_ := (Option.bind_some _ _).symm.trans H; rw [hy508]; with_reducible exact H2_) | (have H2_ := (Option.bind_some _ _).symm.trans H; with_reducible exact H2_) | with_reducible exact H | (rw [hy508]; exact H) | exact H
        have Ny508 := am hy508; clear hy508; have H' := am H; clear H; obtain ⟨Ao17, co17, eo17⟩ := Kd.R_slice HO_5.out; subst eo17; have p507 : 0 ≤ (x7_1 : Int) := of_decide_eq_true (by first | (with_reducible assumption) | assumption); have q507 : x7_1 < (t501.length : Int) := of_decide_eq_true (by first | (with_reducible assumption) | assumption); obtain ⟨ad507, e507, hx507_0⟩ := Kd.at_int (Kd.R_reads' HO_5.out).2.2 x7_1 p507 q507; cases e507; replace p507 := eq_true p507; replace q507 := eq_true q507
        go_wp2_with (first | ((with_reducible refine gate_builtin (b := .append) (xs := #[.tmp 24, .tmp 31]) rfl ?_); at_builtin; refine Kd.R_append Kd.bool (w0 := w) w.heap.size rfl (.tmp 24) (.tmp 31) 40 4 (.bool false) 1 rfl Try.underlying40 info4 rfl (by decide) (by omega) u6 x6_1 ((Int.tmod (rd t501 x7_1) 2) == 0) [.bool ((Int.tmod (rd t501 x7_1) 2) == 0)] (fun _ => True) (fun _ => False) rfl rfl ?aP (fun _ hk => hk.elim) ?aF ?aO ?aB ?aS ?aL ?_; (case aP => exact rfl); (case aB => exact (by repeat (first | (with_reducible first | exact HB.out | apply bA | apply bN | apply b1 | refine bS ?_ (by assumption)) | exact HB.out))); (case aF => exact (fun _ _ => trivial)); (case aO => exact (pkr HO_6.out)); (case aS => exact (below_size (by repeat (first | (with_reducible first | exact HB.out | apply bA | apply bN | apply b1 | refine bS ?_ (by assumption)) | exact HB.out)))); (case aL => have := LMc16.out; omega); intro v509 w18 ho hb hg hat; rw [← Ny508.out] at ho; replace HO_3 := am (Kd.R_over' (pkr HO_3.out) (Kd.R_typed (pkr HO_6.out)) (by decide) hg); replace HO_5 := am (Kd.R_over' (pkr HO_5.out) (Kd.R_typed (pkr HO_6.out)) (by decide) hg); replace HO_501001 := am (Kd.R_over' (pkr HO_501001.out) (Kd.R_typed (pkr HO_6.out)) (by decide) hg); replace BK500 := am (blk_grown (pkb BK500.out) hg (Kd.R_ne HO_6.out BK500.out (by decide))); replace HB := am (hb); have HO510 := am (ho); clear HO_6; clear ho hb hg hat))
        go_roundg k1
        case measure => have := HK1.out; omega
        case rel => exact ⟨(y508), (wrap64 (x7_1 + 1)), (by first | rfl | (simp; done) | (simp [*]; done)), H', ⟨by have := HK1.out; omega⟩, ⟨by (with_reducible repeat (first | apply Kd.R_alloc | apply Kd.R_drewN | apply Kd.R_drew)); exact HO_3.out⟩, ⟨by (with_reducible repeat (first | apply Kd.R_alloc | apply Kd.R_drewN | apply Kd.R_drew)); exact HO_5.out⟩, ⟨by (with_reducible repeat (first | apply Kd.R_alloc | apply Kd.R_drewN | apply Kd.R_drew)); exact HO510.out⟩, ⟨by (with_reducible repeat (first | apply Kd.R_alloc | apply Kd.R_drewN | apply Kd.R_drew)); exact HO_501001.out⟩, ⟨by (with_reducible repeat (first | apply kN | apply k1 | apply kA)); exact BK500.out⟩, ⟨by repeat (first | (with_reducible first | exact HB.out | apply bA | apply bN | apply b1 | refine bS ?_ (by assumption)) | exact HB.out)⟩⟩
       ·rw [if_neg c16] at H
        exact absurd H (by simp)
      ·rw [if_neg c15] at H
       exact absurd H (by simp)
     ·rw [if_neg c14] at H
      exact absurd H (by simp)
    ·rw [if_neg c13] at H
     have c13b0 : decide (x7_1 < 6) = false := decide_eq_false c13; clear c13
     by_cases c19 : 7 < (t501.length : Int)
     ·rw [if_pos c19] at H
      have c19b0 : decide (7 < (t501.length : Int)) = true := decide_eq_true c19; have c19b1 : decide (7 < t501.length) = true := decide_eq_true (by omega); clear c19; replace H := Option.bind_eq_some_iff.mp H; obtain ⟨⟨t512, t513, t516⟩, A200, H⟩ := H; replace H : (if t516 = true then ((impl_LinkOk.f k1 t493 t512 t513).bind fun t518 => (if t518 = true then ((impl_Delivered.f t496 t497).bind fun t519 => ((impl_Delivered.f t512 t513).bind fun t522 => ((impl_IsPrefixOf.f k1 t519 t522).bind fun t525 => (if t525 = true then (some (decide (t512 ≥ t496))) else (none))))) else (none))) else (none)) = some r := H; have A20 := am A200; clear A200
      by_cases c21 : t516 = true
      ·subst c21
       have H1 : ((impl_LinkOk.f k1 t493 t512 t513).bind fun t518 => (if t518 = true then ((impl_Delivered.f t496 t497).bind fun t519 => ((impl_Delivered.f t512 t513).bind fun t522 => ((impl_IsPrefixOf.f k1 t519 t522).bind fun t525 => (if t525 = true then (some (decide (t512 ≥ t496))) else (none))))) else (none))) = some r := by rw [if_pos rfl] at H; exact H
       clear H; have H := H1; clear H1; replace H := Option.bind_eq_some_iff.mp H; obtain ⟨t518, A220, H⟩ := H; replace H : (if t518 = true then ((impl_Delivered.f t496 t497).bind fun t519 => ((impl_Delivered.f t512 t513).bind fun t522 => ((impl_IsPrefixOf.f k1 t519 t522).bind fun t525 => (if t525 = true then (some (decide (t512 ≥ t496))) else (none))))) else (none)) = some r := H; have A22 := am A220; clear A220
       by_cases c23 : t518 = true
       ·subst c23
        have H1 : ((impl_Delivered.f t496 t497).bind fun t519 => ((impl_Delivered.f t512 t513).bind fun t522 => ((impl_IsPrefixOf.f k1 t519 t522).bind fun t525 => (if t525 = true then (some (decide (t512 ≥ t496))) else (none))))) = some r := by rw [if_pos rfl] at H; exact H
        clear H; have H := H1; clear H1; replace H := Option.bind_eq_some_iff.mp H; obtain ⟨t519, A240, H⟩ := H; replace H : ((impl_Delivered.f t512 t513).bind fun t522 => ((impl_IsPrefixOf.f k1 t519 t522).bind fun t525 => (if t525 = true then (some (decide (t512 ≥ t496))) else (none)))) = some r := H; have A24 := am A240; clear A240; replace H := Option.bind_eq_some_iff.mp H; obtain ⟨t522, A250, H⟩ := H; replace H : ((impl_IsPrefixOf.f k1 t519 t522).bind fun t525 => (if t525 = true then (some (decide (t512 ≥ t496))) else (none))) = some r := H; have A25 := am A250; clear A250; replace H := Option.bind_eq_some_iff.mp H; obtain ⟨t525, A260, H⟩ := H; replace H : (if t525 = true then (some (decide (t512 ≥ t496))) else (none)) = some r := H; have A26 := am A260; clear A260
        by_cases c27 : t525 = true
        ·subst c27
         have H1 : (some (decide (t512 ≥ t496))) = some r := by rw [if_pos rfl] at H; exact H
         clear H; have H := H1; clear H1; obtain rfl := Option.some.inj H; obtain ⟨Ao28, co28, eo28⟩ := Kd.R_slice HO_3.out; subst eo28; obtain ⟨Ao29, co29, eo29⟩ := Kd.R_slice HO_6.out; subst eo29; (try go_wp2); replace HO_3 := am (Kd.R_drew HO_3.out); replace HO_5 := am (Kd.R_drew HO_5.out); replace HO_6 := am (Kd.R_drew HO_6.out); replace HO_501001 := am (Kd.R_drew HO_501001.out); replace BK500 := am (blk_drew BK500.out); replace HB := am (below_drew1 HB.out); obtain ⟨Ao31, co31, eo31⟩ := Kd.R_slice HO_5.out; (first | subst eo31 | (injection eo31 with f1_ f2_ f3_; have f4_ := f1_.symm; have f5_ := f3_.symm; clear f1_ f2_ f3_; subst f4_; subst f5_)); have p511 : 0 ≤ (7 : Int) := (by omega); have q511 : 7 < (t501.length : Int) := of_decide_eq_true (by first | (with_reducible assumption) | assumption); obtain ⟨ad511, e511, hx511_0⟩ := Kd.at_int (Kd.R_reads' HO_5.out).2.2 7 p511 q511; cases e511; (try simp only [show (7 : Int).toNat = 7 from rfl, Nat.reduceMul, Nat.reduceEqDiff, Go.Addr.add, ↓reduceIte] at hx511_0); have qi511 : (7 < t501.length) = True := eq_true (by omega); (try rw [show ((7 : Int)).toNat = 7 from rfl] at hx511_0); replace p511 := eq_true p511; replace q511 := eq_true q511; refine start_ (n := 15) (S := fun w' => w'.cell? ⟨gb500, 0, none⟩ = some (.int .i64 t496) ∧ w'.cell? ⟨gb500, 1, none⟩ = some (.slice Ao9 t497.length co9) ∧ w'.cell? ⟨ad511.block, ad511.off + 7, none⟩ = some (.int .i64 (rd t501 7))) (ds := []) #[false, false, false, false, false, false, false, false, false, false, false, false, false, false, false] (by kernel_rfl) rfl rfl ⟨(blk_cell BK500.out 0).trans rfl, (blk_cell BK500.out 1).trans rfl, hx511_0⟩ (fun hHeld => ?_); refine with_tabW laws_FnLinks.tab10 laws_FnLinks.bits10 (fun HT_ HW_ => ?_); generalize wr.drew = w30 at HO_3 HO_5 HO_6 HO_501001 BK500 HB hx511_0 hHeld ⊢; refine pure_ (i := 0) (N := some 34) (v := ?_) (a' := ?_) #[true, false, false, false, false, false, false, false, false, false, false, false, false, false, false] rfl rfl (any_of HT_.out (by kernel_rfl)) (fun _ _ _ h => h) (Or.inl ⟨by rfl, ?_⟩) ?_ ?_; rotate_left
         ·intro w'
          go_simp; with_reducible rfl
         rotate_left
         ·simp only [Act.put, sa, s0, s1, i64_w, i32_w]
          rfl
         refine pure_ (i := 2) (N := some 36) (v := ?_) (a' := ?_) #[true, false, true, false, false, false, false, false, false, false, false, false, false, false, false] rfl rfl (any_of HT_.out (by kernel_rfl)) (fun _ _ _ h => h) (Or.inl ⟨by rfl, ?_⟩) ?_ ?_; rotate_left
         ·intro w'
          go_simp; with_reducible rfl
         rotate_left
         ·simp only [Act.put, sa, s0, s1, i64_w, i32_w]
          rfl
         refine pure_ (i := 3) (N := some 37) (v := ?_) (a' := ?_) #[true, false, true, true, false, false, false, false, false, false, false, false, false, false, false] rfl rfl (any_of HT_.out (by kernel_rfl)) (fun _ _ _ h => h) (Or.inl ⟨by rfl, ?_⟩) ?_ ?_; rotate_left
         ·intro w'
          go_simp; with_reducible rfl
         rotate_left
         ·simp only [Act.put, sa, s0, s1, i64_w, i32_w]
          rfl
         refine pure_ (i := 4) (N := some 38) (v := ?_) (a' := ?_) #[true, false, true, true, true, false, false, false, false, false, false, false, false, false, false] rfl rfl (any_of HT_.out (by kernel_rfl)) (fun _ _ _ h => h) (Or.inl ⟨by rfl, ?_⟩) ?_ ?_; rotate_left
         ·intro w'
          go_simp; with_reducible rfl
         rotate_left
         ·simp only [Act.put, sa, s0, s1, i64_w, i32_w]
          rfl
         refine take_ (i := 1) (N := some 35) (v := ?_) (a' := ?_) #[true, true, true, true, true, false, false, false, false, false, false, false, false, false, false] rfl rfl (take_ofW HT_.out HW_.out (by kernel_rfl)) (fun _ _ _ h => h) (Or.inl ⟨by rfl, ?_⟩) hHeld ?_ ?_; rotate_left
         ·rintro w' ⟨s0, s1, s2⟩
          go_simp; with_reducible rfl
         rotate_left
         ·simp only [Act.put, sa, s0, s1, i64_w, i32_w]
          rfl
         refine take_ (i := 5) (N := some 39) (v := ?_) (a' := ?_) #[true, true, true, true, true, true, false, false, false, false, false, false, false, false, false] rfl rfl (take_ofW HT_.out HW_.out (by kernel_rfl)) (fun _ _ _ h => h) (Or.inl ⟨by rfl, ?_⟩) hHeld ?_ ?_; rotate_left
         ·rintro w' ⟨s0, s1, s2⟩
          go_simp; with_reducible rfl
         rotate_left
         ·simp only [Act.put, sa, s0, s1, i64_w, i32_w]
          rfl
         refine pure_ (i := 6) (N := some 40) (v := ?_) (a' := ?_) #[true, true, true, true, true, true, true, false, false, false, false, false, false, false, false] rfl rfl (any_of HT_.out (by kernel_rfl)) (fun _ _ _ h => h) (Or.inl ⟨by rfl, ?_⟩) ?_ ?_; rotate_left
         ·intro w'
          go_simp; with_reducible rfl
         rotate_left
         ·simp only [Act.put, sa, s0, s1, i64_w, i32_w]
          rfl
         refine pure_ (i := 7) (N := some 41) (v := ?_) (a' := ?_) #[true, true, true, true, true, true, true, true, false, false, false, false, false, false, false] rfl rfl (any_of HT_.out (by kernel_rfl)) (fun _ _ _ h => h) (Or.inl ⟨by rfl, ?_⟩) ?_ ?_; rotate_left
         ·intro w'
          go_simp; with_reducible rfl
         rotate_left
         ·simp only [Act.put, sa, s0, s1, i64_w, i32_w]
          rfl
         refine join_ (σ := Value × Nat) 2 #[true, true, true, true, true, true, true, true, true, true, true, true, true, false, false] (fun s_ => [(42, .tuple #[.agg #[.int .i64 t512, s_.1], .bool true]), (8, .pointer (some ⟨s_.2, 0, none⟩)), (33, .tuple #[.agg #[.int .i64 t512, s_.1], .bool true]), (43, .agg #[.int .i64 t512, s_.1]), (44, .bool true)]) (fun s_ w' => (w'.cell? ⟨gb500, 0, none⟩ = some (.int .i64 t496) ∧ w'.cell? ⟨gb500, 1, none⟩ = some (.slice Ao9 t497.length co9) ∧ w'.cell? ⟨ad511.block, ad511.off + 7, none⟩ = some (.int .i64 (rd t501 7))) ∧ (Kd.R (Kd.int .i64) 3 w' w.heap.size (fun k_ => some k_ ≠ (.slice Ao28 t493.length co28 : Value).ownBlock ∧ some k_ ≠ (.slice (some ad511) t501.length co31 : Value).ownBlock ∧ some k_ ≠ (.slice Ao9 t497.length co9 : Value).ownBlock) s_.1 t513) ∧ (Kd.R (Kd.int .i64) 3 w' w.heap.size (fun k_ => some k_ ≠ (s_.1 : Value).ownBlock ∧ some k_ ≠ (.slice (some ad511) t501.length co31 : Value).ownBlock ∧ some k_ ≠ (.slice Ao9 t497.length co9 : Value).ownBlock) (.slice Ao28 t493.length co28) t493) ∧ (Kd.R (Kd.int .i64) 3 w' w.heap.size (fun k_ => some k_ ≠ (s_.1 : Value).ownBlock ∧ some k_ ≠ (.slice Ao28 t493.length co28 : Value).ownBlock ∧ some k_ ≠ (.slice Ao9 t497.length co9 : Value).ownBlock) (.slice (some ad511) t501.length co31) t501) ∧ (Kd.R (Kd.int .i64) 3 w' w.heap.size (fun k_ => some k_ ≠ (s_.1 : Value).ownBlock ∧ some k_ ≠ (.slice Ao28 t493.length co28 : Value).ownBlock ∧ some k_ ≠ (.slice (some ad511) t501.length co31 : Value).ownBlock) (.slice Ao9 t497.length co9) t497) ∧ (Kd.R Kd.bool 4 w' w.heap.size (fun _ => True) (.slice Ao29 x6_1.length co29) x6_1) ∧ (w'.heap[gb500]? = some (.cells #[.int .i64 t496, .slice Ao9 t497.length co9] 28 (0, 0))) ∧ (w'.heap[s_.2]? = some (.cells #[.int .i64 0, .slice none 0 0] 28 (0, 0))) ∧ (w.heap.size ≤ s_.2) ∧ (w.heap.size ≤ s_.2) ∧ (gb500 ≠ s_.2) ∧ (s_.2 ≠ gb500) ∧ (Below w.heap.size w w')) ?_ ?_; rotate_left
         ·intro hCont
          refine two_ (i := 8) (j := 12) (Ni := some 42) (Nj := some 8) #[true, true, true, true, true, true, true, true, true, false, false, false, false, false, false] #[true, true, true, true, true, true, true, true, false, false, false, false, true, false, false] rfl rfl rfl rfl (two_of HT_.out (by kernel_rfl)) (by decide) (by decide) (fun K hK => ?_) (fun K hK => ?_)
          ·skip
           refine goes_ Try.func19 (by kernel_rfl) rfl #[.slice Ao28 t493.length co28, .agg #[.int .i64 t496, .slice Ao9 t497.length co9], .slice Ao29 x6_1.length co29, .bool ((Int.tmod (rd t501 7) 2) == 0)] (by rfl) rfl rfl (by (try simp only [List.map_toArray, List.map_cons, List.map_nil]); first | done | rfl | (simp only [List.length_drop, List.length_take]; rfl)) ?_; (with_reducible refine (impl_SendRound.calls k1 _ _ t493 t496 _ _ t497 _ _ x6_1 ((Int.tmod (rd t501 7) 2) == 0) t512 t513 true _ ?side1 ?side2 ?side3 ?side4 ?side5 ?side6 A20.out).mono ?_); (case side1 => exact pkc (Kd.R_reads' HO_3.out).2.2); (case side2 => exact (Kd.R_reads' HO_3.out).2.1); (case side3 => exact pkc (Kd.R_reads' HO_501001.out).2.2); (case side4 => exact (Kd.R_reads' HO_501001.out).2.1); (case side5 => exact pkc (Kd.R_reads' HO_6.out).2.2); (case side6 => exact (Kd.R_reads' HO_6.out).2.1); rintro e w32 ⟨v514, rfl, ho0, hb⟩; have HS2_ := (hb.cell (World.block_lt_of_cell? _ _ (hHeld.2.2))).trans (hHeld.2.2); refine ⟨_, rfl, ?_⟩; replace HO_6 := am (Kd.R_below (pkr HO_6.out) hb); have HO515 := am (Kd.R_lower (Kd.R_new' (Kd.R_new' (Kd.R_new' ho0 (Kd.R_lt (pkr HO_3.out))) (Kd.R_lt (pkr HO_5.out))) (Kd.R_lt (pkr HO_501001.out))) (below_size (by repeat (first | (with_reducible first | exact HB.out | apply bA | apply bN | apply b1 | refine bS ?_ (by assumption)) | exact HB.out)))); replace HO_3 := am (Kd.R_elder' (pkr HO_3.out) (Kd.R_base ho0) hb); replace HO_5 := am (Kd.R_elder' (pkr HO_5.out) (Kd.R_base ho0) hb); replace HO_501001 := am (Kd.R_elder' (pkr HO_501001.out) (Kd.R_base ho0) hb); replace BK500 := am (blk_below (pkb BK500.out) hb); replace HB := am (below_step (by repeat (first | (with_reducible first | exact HB.out | apply bA | apply bN | apply b1 | refine bS ?_ (by assumption)) | exact HB.out)) hb); (try clear hb); (try clear hb2); (try clear hk); (try clear hi); (try clear ho0); refine hK.out _ _ ⟨(blk_cell BK500.out 0).trans rfl, (blk_cell BK500.out 1).trans rfl, HS2_⟩ (fun hHeld => ?_); clear hK K; refine norm_ (a' := ?_) ?_ ?_; rotate_left
           ·show Act.put _ (some 42) _ = _
            simp only [Act.put, sa, s0, s1, i64_w, i32_w]; rfl
           refine pure_ (i := 9) (N := some 33) (v := ?_) (a' := ?_) #[true, true, true, true, true, true, true, true, true, true, false, false, false, false, false] rfl rfl (any_of HT_.out (by kernel_rfl)) (fun _ _ _ h => h) (Or.inl ⟨by rfl, ?_⟩) ?_ ?_; rotate_left
           ·intro w'
            go_simp; with_reducible rfl
           rotate_left
           ·simp only [Act.put, sa, s0, s1, i64_w, i32_w]
            rfl
           refine pure_ (i := 10) (N := some 43) (v := ?_) (a' := ?_) #[true, true, true, true, true, true, true, true, true, true, true, false, false, false, false] rfl rfl (any_of HT_.out (by kernel_rfl)) (fun _ _ _ h => h) (Or.inl ⟨by rfl, ?_⟩) ?_ ?_; rotate_left
           ·intro w'
            go_simp; with_reducible rfl
           rotate_left
           ·simp only [Act.put, sa, s0, s1, i64_w, i32_w]
            rfl
           refine pure_ (i := 11) (N := some 44) (v := ?_) (a' := ?_) #[true, true, true, true, true, true, true, true, true, true, true, true, false, false, false] rfl rfl (any_of HT_.out (by kernel_rfl)) (fun _ _ _ h => h) (Or.inl ⟨by rfl, ?_⟩) ?_ ?_; rotate_left
           ·intro w'
            go_simp; with_reducible rfl
           rotate_left
           ·simp only [Act.put, sa, s0, s1, i64_w, i32_w]
            rfl
           refine one_ (i := 12) (N := some 8) #[true, true, true, true, true, true, true, true, true, true, true, true, true, false, false] rfl rfl (one_of HT_.out (by kernel_rfl)) (by decide) (fun K hK => ?_); refine box_step ?hg (N := 8) ?hd (cs := #[.int .i64 0, .slice none 0 0]) (t := 28) ?hr ?_; (case hd => rfl); (case hg => rfl); (case hr => first | (go_simp; done) | (go_simp; rfl)); intro gb517 hg w33 hbox hb; have HS2_ := (hb.cell (World.block_lt_of_cell? _ _ (hHeld.2.2))).trans (hHeld.2.2); replace HO_3 := am (Kd.R_below (pkr HO_3.out) hb); replace HO_5 := am (Kd.R_below (pkr HO_5.out) hb); replace HO_6 := am (Kd.R_below (pkr HO_6.out) hb); replace HO_501001 := am (Kd.R_below (pkr HO_501001.out) hb); replace HO515 := am (Kd.R_below (pkr HO515.out) hb); have BK517 := am (hbox); have GW517 := am ((by rw [hg]; exact (below_size (by repeat (first | (with_reducible first | exact HB.out | apply bA | apply bN | apply b1 | refine bS ?_ (by assumption)) | exact HB.out))) : w.heap.size ≤ gb517)); replace HB := am (below_step (by repeat (first | (with_reducible first | exact HB.out | apply bA | apply bN | apply b1 | refine bS ?_ (by assumption)) | exact HB.out)) hb); have GE517 := GW517; have NB500_517 := am ((by rw [hg]; exact Nat.ne_of_lt (blk_lt (pkb BK500.out)) : gb500 ≠ gb517)); replace BK500 := am (blk_below (pkb BK500.out) hb); have NB517_500 := am NB500_517.out.symm; clear hb hbox hg; refine hK.out _ _ ⟨(blk_cell BK500.out 0).trans rfl, (blk_cell BK500.out 1).trans rfl, HS2_⟩ (fun hHeld => ?_); clear hK K; refine norm_ (a' := ?_) ?_ ?_; rotate_left
           ·show Act.put _ (some 8) _ = _
            simp only [Act.put, sa, s0, s1, i64_w, i32_w]; rfl
           exact norm_ (by simp only [putAll, Act.put, sa, s0, s1]) (hCont (v514, gb517) _ ⟨hHeld, (pkr (Kd.R_mono HO515.out (fun _ hk => ⟨hk.1.1.2, ⟨hk.1.2, hk.2⟩⟩))), (pkr (Kd.R_mono HO_3.out (fun _ hk => ⟨hk.2, ⟨hk.1.1, hk.1.2⟩⟩))), (pkr (Kd.R_mono HO_5.out (fun _ hk => ⟨hk.2, ⟨hk.1.1, hk.1.2⟩⟩))), (pkr (Kd.R_mono HO_501001.out (fun _ hk => ⟨hk.2, ⟨hk.1.1, hk.1.2⟩⟩))), (pkr HO_6.out), (pkb BK500.out), (pkb BK517.out), GW517.out, GE517.out, NB500_517.out, NB517_500.out, (by repeat (first | (with_reducible first | exact HB.out | apply bA | apply bN | apply b1 | refine bS ?_ (by assumption)) | exact HB.out))⟩)
          ·skip
           refine box_step ?hg (N := 8) ?hd (cs := #[.int .i64 0, .slice none 0 0]) (t := 28) ?hr ?_; (case hd => rfl); (case hg => rfl); (case hr => first | (go_simp; done) | (go_simp; rfl)); intro gb517 hg w32 hbox hb; have HS2_ := (hb.cell (World.block_lt_of_cell? _ _ (hHeld.2.2))).trans (hHeld.2.2); replace HO_3 := am (Kd.R_below (pkr HO_3.out) hb); replace HO_5 := am (Kd.R_below (pkr HO_5.out) hb); replace HO_6 := am (Kd.R_below (pkr HO_6.out) hb); replace HO_501001 := am (Kd.R_below (pkr HO_501001.out) hb); have BK517 := am (hbox); have GW517 := am ((by rw [hg]; exact (below_size (by repeat (first | (with_reducible first | exact HB.out | apply bA | apply bN | apply b1 | refine bS ?_ (by assumption)) | exact HB.out))) : w.heap.size ≤ gb517)); replace HB := am (below_step (by repeat (first | (with_reducible first | exact HB.out | apply bA | apply bN | apply b1 | refine bS ?_ (by assumption)) | exact HB.out)) hb); have GE517 := GW517; have NB500_517 := am ((by rw [hg]; exact Nat.ne_of_lt (blk_lt (pkb BK500.out)) : gb500 ≠ gb517)); replace BK500 := am (blk_below (pkb BK500.out) hb); have NB517_500 := am NB500_517.out.symm; clear hb hbox hg; refine hK.out _ _ ⟨(blk_cell BK500.out 0).trans rfl, (blk_cell BK500.out 1).trans rfl, HS2_⟩ (fun hHeld => ?_); clear hK K; refine norm_ (a' := ?_) ?_ ?_; rotate_left
           ·show Act.put _ (some 8) _ = _
            simp only [Act.put, sa, s0, s1, i64_w, i32_w]; rfl
           refine one_ (i := 8) (N := some 42) #[true, true, true, true, true, true, true, true, true, false, false, false, true, false, false] rfl rfl (one_of HT_.out (by kernel_rfl)) (by decide) (fun K hK => ?_); refine goes_ Try.func19 (by kernel_rfl) rfl #[.slice Ao28 t493.length co28, .agg #[.int .i64 t496, .slice Ao9 t497.length co9], .slice Ao29 x6_1.length co29, .bool ((Int.tmod (rd t501 7) 2) == 0)] (by rfl) rfl rfl (by (try simp only [List.map_toArray, List.map_cons, List.map_nil]); first | done | rfl | (simp only [List.length_drop, List.length_take]; rfl)) ?_; (with_reducible refine (impl_SendRound.calls k1 _ _ t493 t496 _ _ t497 _ _ x6_1 ((Int.tmod (rd t501 7) 2) == 0) t512 t513 true _ ?side1 ?side2 ?side3 ?side4 ?side5 ?side6 A20.out).mono ?_); (case side1 => exact pkc (Kd.R_reads' HO_3.out).2.2); (case side2 => exact (Kd.R_reads' HO_3.out).2.1); (case side3 => exact pkc (Kd.R_reads' HO_501001.out).2.2); (case side4 => exact (Kd.R_reads' HO_501001.out).2.1); (case side5 => exact pkc (Kd.R_reads' HO_6.out).2.2); (case side6 => exact (Kd.R_reads' HO_6.out).2.1); rintro e w33 ⟨v514, rfl, ho0, hb⟩; have HS2_ := (hb.cell (World.block_lt_of_cell? _ _ (hHeld.2.2))).trans (hHeld.2.2); refine ⟨_, rfl, ?_⟩; replace HO_6 := am (Kd.R_below (pkr HO_6.out) hb); have HO515 := am (Kd.R_lower (Kd.R_new' (Kd.R_new' (Kd.R_new' ho0 (Kd.R_lt (pkr HO_3.out))) (Kd.R_lt (pkr HO_5.out))) (Kd.R_lt (pkr HO_501001.out))) (below_size (by repeat (first | (with_reducible first | exact HB.out | apply bA | apply bN | apply b1 | refine bS ?_ (by assumption)) | exact HB.out)))); replace HO_3 := am (Kd.R_elder' (pkr HO_3.out) (Kd.R_base ho0) hb); replace HO_5 := am (Kd.R_elder' (pkr HO_5.out) (Kd.R_base ho0) hb); replace HO_501001 := am (Kd.R_elder' (pkr HO_501001.out) (Kd.R_base ho0) hb); replace BK500 := am (blk_below (pkb BK500.out) hb); replace BK517 := am (blk_below (pkb BK517.out) hb); replace HB := am (below_step (by repeat (first | (with_reducible first | exact HB.out | apply bA | apply bN | apply b1 | refine bS ?_ (by assumption)) | exact HB.out)) hb); (try clear hb); (try clear hb2); (try clear hk); (try clear hi); (try clear ho0); refine hK.out _ _ ⟨(blk_cell BK500.out 0).trans rfl, (blk_cell BK500.out 1).trans rfl, HS2_⟩ (fun hHeld => ?_); clear hK K; refine norm_ (a' := ?_) ?_ ?_; rotate_left
           ·show Act.put _ (some 42) _ = _
            simp only [Act.put, sa, s0, s1, i64_w, i32_w]; rfl
           refine pure_ (i := 9) (N := some 33) (v := ?_) (a' := ?_) #[true, true, true, true, true, true, true, true, true, true, false, false, true, false, false] rfl rfl (any_of HT_.out (by kernel_rfl)) (fun _ _ _ h => h) (Or.inl ⟨by rfl, ?_⟩) ?_ ?_; rotate_left
           ·intro w'
            go_simp; with_reducible rfl
           rotate_left
           ·simp only [Act.put, sa, s0, s1, i64_w, i32_w]
            rfl
           refine pure_ (i := 10) (N := some 43) (v := ?_) (a' := ?_) #[true, true, true, true, true, true, true, true, true, true, true, false, true, false, false] rfl rfl (any_of HT_.out (by kernel_rfl)) (fun _ _ _ h => h) (Or.inl ⟨by rfl, ?_⟩) ?_ ?_; rotate_left
           ·intro w'
            go_simp; with_reducible rfl
           rotate_left
           ·simp only [Act.put, sa, s0, s1, i64_w, i32_w]
            rfl
           refine pure_ (i := 11) (N := some 44) (v := ?_) (a' := ?_) #[true, true, true, true, true, true, true, true, true, true, true, true, true, false, false] rfl rfl (any_of HT_.out (by kernel_rfl)) (fun _ _ _ h => h) (Or.inl ⟨by rfl, ?_⟩) ?_ ?_; rotate_left
           ·intro w'
            go_simp; with_reducible rfl
           rotate_left
           ·simp only [Act.put, sa, s0, s1, i64_w, i32_w]
            rfl
           exact norm_ (by simp only [putAll, Act.put, sa, s0, s1]) (hCont (v514, gb517) _ ⟨hHeld, (pkr (Kd.R_mono HO515.out (fun _ hk => ⟨hk.1.1.2, ⟨hk.1.2, hk.2⟩⟩))), (pkr (Kd.R_mono HO_3.out (fun _ hk => ⟨hk.2, ⟨hk.1.1, hk.1.2⟩⟩))), (pkr (Kd.R_mono HO_5.out (fun _ hk => ⟨hk.2, ⟨hk.1.1, hk.1.2⟩⟩))), (pkr (Kd.R_mono HO_501001.out (fun _ hk => ⟨hk.2, ⟨hk.1.1, hk.1.2⟩⟩))), (pkr HO_6.out), (pkb BK500.out), (pkb BK517.out), GW517.out, GE517.out, NB500_517.out, NB517_500.out, (by repeat (first | (with_reducible first | exact HB.out | apply bA | apply bN | apply b1 | refine bS ?_ (by assumption)) | exact HB.out))⟩)
         rintro ⟨v514, gb517⟩ w34 ⟨hS_, h0_, h1_, h2_, h3_, h4_, h5_, h6_, h7_, h8_, h9_, h10_, h11_⟩; have n0_ : Aside0 (Kd.R (Kd.int .i64) 3 w34 w.heap.size (fun k_ => some k_ ≠ (.slice Ao28 t493.length co28 : Value).ownBlock ∧ some k_ ≠ (.slice (some ad511) t501.length co31 : Value).ownBlock ∧ some k_ ≠ (.slice Ao9 t497.length co9 : Value).ownBlock) v514 t513) := ⟨h0_⟩; have n1_ : Aside0 (Kd.R (Kd.int .i64) 3 w34 w.heap.size (fun k_ => some k_ ≠ (v514 : Value).ownBlock ∧ some k_ ≠ (.slice (some ad511) t501.length co31 : Value).ownBlock ∧ some k_ ≠ (.slice Ao9 t497.length co9 : Value).ownBlock) (.slice Ao28 t493.length co28) t493) := ⟨h1_⟩; have n2_ : Aside0 (Kd.R (Kd.int .i64) 3 w34 w.heap.size (fun k_ => some k_ ≠ (v514 : Value).ownBlock ∧ some k_ ≠ (.slice Ao28 t493.length co28 : Value).ownBlock ∧ some k_ ≠ (.slice Ao9 t497.length co9 : Value).ownBlock) (.slice (some ad511) t501.length co31) t501) := ⟨h2_⟩; have n3_ : Aside0 (Kd.R (Kd.int .i64) 3 w34 w.heap.size (fun k_ => some k_ ≠ (v514 : Value).ownBlock ∧ some k_ ≠ (.slice Ao28 t493.length co28 : Value).ownBlock ∧ some k_ ≠ (.slice (some ad511) t501.length co31 : Value).ownBlock) (.slice Ao9 t497.length co9) t497) := ⟨h3_⟩; have n4_ : Aside0 (Kd.R Kd.bool 4 w34 w.heap.size (fun _ => True) (.slice Ao29 x6_1.length co29) x6_1) := ⟨h4_⟩; have n5_ : Aside0 (w34.heap[gb500]? = some (.cells #[.int .i64 t496, .slice Ao9 t497.length co9] 28 (0, 0))) := ⟨h5_⟩; have n6_ : Aside0 (w34.heap[gb517]? = some (.cells #[.int .i64 0, .slice none 0 0] 28 (0, 0))) := ⟨h6_⟩; have n7_ : Aside0 (w.heap.size ≤ gb517) := ⟨h7_⟩; have n8_ : Aside0 (w.heap.size ≤ gb517) := ⟨h8_⟩; have n9_ : Aside0 (gb500 ≠ gb517) := ⟨h9_⟩; have n10_ : Aside0 (gb517 ≠ gb500) := ⟨h10_⟩; have n11_ : Aside0 (Below w.heap.size w w34) := ⟨h11_⟩; clear HO_3; clear HO_5; clear HO_6; clear HO_501001; clear BK500; clear HB; clear h0_ h1_ h2_ h3_ h4_ h5_ h6_ h7_ h8_ h9_ h10_ h11_; have HO515 := n0_; have HO_3 := n1_; have HO_5 := n2_; have HO_501001 := n3_; have HO_6 := n4_; have BK500 := n5_; have BK517 := n6_; have GW517 := n7_; have GE517 := n8_; have NB500_517 := n9_; have NB517_500 := n10_; have HB := n11_; clear n0_ n1_ n2_ n3_ n4_ n5_ n6_ n7_ n8_ n9_ n10_ n11_; have hHeld : w34.cell? ⟨gb500, 0, none⟩ = some (.int .i64 t496) ∧ w34.cell? ⟨gb500, 1, none⟩ = some (.slice Ao9 t497.length co9) ∧ w34.cell? ⟨ad511.block, ad511.off + 7, none⟩ = some (.int .i64 (rd t501 7)) := hS_; obtain ⟨Ao36, co36, eo36⟩ := Kd.R_slice HO515.out; (first | subst eo36 | (injection eo36 with f1_ f2_ f3_; have f4_ := f1_.symm; have f5_ := f3_.symm; clear f1_ f2_ f3_; subst f4_; subst f5_)); refine norm_ (a' := ?_) ?_ ?_; rotate_left
         ·simp only [putAll, Act.put, sa, s0, s1]
          rfl
         refine one_ (i := 13) (N := none) #[true, true, true, true, true, true, true, true, true, true, true, true, true, true, false] rfl rfl (one_of HT_.out (by kernel_rfl)) (by decide) (fun K hK => ?_); have hs35 : w34.cell? ⟨gb517, 0, none⟩ = some (.int .i64 0) := (blk_cell BK517.out 0).trans rfl; have hfs35 := blk_frozen BK517.out 0; have hns35_0 := NB500_517.out; have hms35_0 := NB517_500.out; have hs37 : w34.cell? ⟨gb517, 1, none⟩ = some (.slice none 0 0) := (blk_cell BK517.out 1).trans rfl; have hfs37 := blk_frozen BK517.out 1; have hns37_0 := NB500_517.out; have hms37_0 := NB517_500.out; refine skip_ (w1 := ?_) (by rfl) rfl ?_ ?_; rotate_left
         ·go_simp
          rfl
         refine hK.out _ _ ⟨((cell_far (p := ⟨gb517, _, none⟩) NB500_517.out _).trans (((cell_far (p := ⟨gb517, _, none⟩) NB500_517.out _).trans (hHeld.1)))), ((cell_far (p := ⟨gb517, _, none⟩) NB500_517.out _).trans (((cell_far (p := ⟨gb517, _, none⟩) NB500_517.out _).trans (hHeld.2.1)))), ((cell_far (p := ⟨gb517, _, none⟩) (by first | exact Kd.own_blk (Kd.R_ne HO_5.out BK517.out (by decide)) | (rw [add_block]; exact Kd.own_blk (Kd.R_ne HO_5.out BK517.out (by decide))) | (show (Addr.add _ _).block ≠ _; rw [add_block]; exact Kd.own_blk (Kd.R_ne HO_5.out BK517.out (by decide))) | (dsimp only; exact Kd.own_blk (Kd.R_ne HO_5.out BK517.out (by decide)))) _).trans (((cell_far (p := ⟨gb517, _, none⟩) (by first | exact Kd.own_blk (Kd.R_ne HO_5.out BK517.out (by decide)) | (rw [add_block]; exact Kd.own_blk (Kd.R_ne HO_5.out BK517.out (by decide))) | (show (Addr.add _ _).block ≠ _; rw [add_block]; exact Kd.own_blk (Kd.R_ne HO_5.out BK517.out (by decide))) | (dsimp only; exact Kd.own_blk (Kd.R_ne HO_5.out BK517.out (by decide)))) _).trans (hHeld.2.2))))⟩ (fun hHeld => ?_); clear hK K; refine pure_ (i := 14) (N := some 9) (v := ?_) (a' := ?_) #[true, true, true, true, true, true, true, true, true, true, true, true, true, true, true] rfl rfl (any_of HT_.out (by kernel_rfl)) (fun _ _ _ h => h) (Or.inl ⟨by rfl, ?_⟩) ?_ ?_; rotate_left
         ·intro w'
          go_simp; with_reducible rfl
         rotate_left
         ·simp only [Act.put, sa, s0, s1, i64_w, i32_w]
          rfl
         refine done_ (done_of HT_.out (by kernel_rfl)) ?_; (try go_wp2); have n0_ : Aside0 (Kd.R (Kd.int .i64) 3 ((w34.setCell ⟨gb517, 0, none⟩ (.int .i64 t512)).setCell ⟨gb517, 1, none⟩ (.slice Ao36 t513.length co36)) w.heap.size (fun k_ => some k_ ≠ (.slice (some ad511) t501.length co31 : Value).ownBlock ∧ some k_ ≠ (.slice Ao9 t497.length co9 : Value).ownBlock ∧ some k_ ≠ (.slice Ao36 t513.length co36 : Value).ownBlock) (.slice Ao28 t493.length co28) t493) := ⟨by (with_reducible repeat (first | apply Kd.R_alloc | apply Kd.R_drewN | apply Kd.R_drew)); exact Kd.R_mono (Kd.R_far (p := ⟨gb517, 1, none⟩) (Kd.R_far (p := ⟨gb517, 0, none⟩) (Kd.R_types HO_3.out BK517.out (by decide)) (fun _ hk => by first | exact hk.2 | simp_all) (.int .i64 t512)) (fun _ hk => by first | exact hk.2 | simp_all) (.slice Ao36 t513.length co36)) (fun _ hk => ⟨hk.1.2.1, ⟨hk.1.2.2, hk.1.1⟩⟩)⟩; have n1_ : Aside0 (Kd.R (Kd.int .i64) 3 ((w34.setCell ⟨gb517, 0, none⟩ (.int .i64 t512)).setCell ⟨gb517, 1, none⟩ (.slice Ao36 t513.length co36)) w.heap.size (fun k_ => some k_ ≠ (.slice Ao28 t493.length co28 : Value).ownBlock ∧ some k_ ≠ (.slice Ao9 t497.length co9 : Value).ownBlock ∧ some k_ ≠ (.slice Ao36 t513.length co36 : Value).ownBlock) (.slice (some ad511) t501.length co31) t501) := ⟨by (with_reducible repeat (first | apply Kd.R_alloc | apply Kd.R_drewN | apply Kd.R_drew)); exact Kd.R_mono (Kd.R_far (p := ⟨gb517, 1, none⟩) (Kd.R_far (p := ⟨gb517, 0, none⟩) (Kd.R_types HO_5.out BK517.out (by decide)) (fun _ hk => by first | exact hk.2 | simp_all) (.int .i64 t512)) (fun _ hk => by first | exact hk.2 | simp_all) (.slice Ao36 t513.length co36)) (fun _ hk => ⟨hk.1.2.1, ⟨hk.1.2.2, hk.1.1⟩⟩)⟩; have n2_ : Aside0 (Kd.R Kd.bool 4 ((w34.setCell ⟨gb517, 0, none⟩ (.int .i64 t512)).setCell ⟨gb517, 1, none⟩ (.slice Ao36 t513.length co36)) w.heap.size (fun _ => True) (.slice Ao29 x6_1.length co29) x6_1) := ⟨by (with_reducible repeat (first | apply Kd.R_alloc | apply Kd.R_drewN | apply Kd.R_drew)); exact Kd.R_mono (Kd.R_far (p := ⟨gb517, 1, none⟩) (Kd.R_far (p := ⟨gb517, 0, none⟩) (Kd.R_types HO_6.out BK517.out (by decide)) (fun _ hk => by first | exact hk.2 | simp_all) (.int .i64 t512)) (fun _ hk => by first | exact hk.2 | simp_all) (.slice Ao36 t513.length co36)) (fun _ hk => trivial)⟩; have n3_ : Aside0 (Kd.R (Kd.int .i64) 3 ((w34.setCell ⟨gb517, 0, none⟩ (.int .i64 t512)).setCell ⟨gb517, 1, none⟩ (.slice Ao36 t513.length co36)) w.heap.size (fun k_ => some k_ ≠ (.slice Ao28 t493.length co28 : Value).ownBlock ∧ some k_ ≠ (.slice (some ad511) t501.length co31 : Value).ownBlock ∧ some k_ ≠ (.slice Ao36 t513.length co36 : Value).ownBlock) (.slice Ao9 t497.length co9) t497) := ⟨by (with_reducible repeat (first | apply Kd.R_alloc | apply Kd.R_drewN | apply Kd.R_drew)); exact Kd.R_mono (Kd.R_far (p := ⟨gb517, 1, none⟩) (Kd.R_far (p := ⟨gb517, 0, none⟩) (Kd.R_types HO_501001.out BK517.out (by decide)) (fun _ hk => by first | exact hk.2 | simp_all) (.int .i64 t512)) (fun _ hk => by first | exact hk.2 | simp_all) (.slice Ao36 t513.length co36)) (fun _ hk => ⟨hk.1.2.1, ⟨hk.1.2.2, hk.1.1⟩⟩)⟩; have n4_ : Aside0 (Kd.R (Kd.int .i64) 3 ((w34.setCell ⟨gb517, 0, none⟩ (.int .i64 t512)).setCell ⟨gb517, 1, none⟩ (.slice Ao36 t513.length co36)) w.heap.size (fun k_ => some k_ ≠ (.slice Ao28 t493.length co28 : Value).ownBlock ∧ some k_ ≠ (.slice (some ad511) t501.length co31 : Value).ownBlock ∧ some k_ ≠ (.slice Ao9 t497.length co9 : Value).ownBlock) (.slice Ao36 t513.length co36) t513) := ⟨by (with_reducible repeat (first | apply Kd.R_alloc | apply Kd.R_drewN | apply Kd.R_drew)); exact Kd.R_mono (Kd.R_far (p := ⟨gb517, 1, none⟩) (Kd.R_far (p := ⟨gb517, 0, none⟩) (Kd.R_types HO515.out BK517.out (by decide)) (fun _ hk => by first | exact hk.2 | simp_all) (.int .i64 t512)) (fun _ hk => by first | exact hk.2 | simp_all) (.slice Ao36 t513.length co36)) (fun _ hk => ⟨hk.1.1, ⟨hk.1.2.1, hk.1.2.2⟩⟩)⟩; have n5_ : Aside0 (((w34.setCell ⟨gb517, 0, none⟩ (.int .i64 t512)).setCell ⟨gb517, 1, none⟩ (.slice Ao36 t513.length co36)).heap[gb500]? = some (.cells #[.int .i64 t496, .slice Ao9 t497.length co9] 28 (0, 0))) := ⟨by (with_reducible repeat (first | apply kN | apply k1 | apply kA)); refine blk_far ?_ NB500_517.out _; (with_reducible repeat (first | apply kN | apply k1 | apply kA)); refine blk_far ?_ NB500_517.out _; (with_reducible repeat (first | apply kN | apply k1 | apply kA)); exact BK500.out⟩; have n6_ : Aside0 (((w34.setCell ⟨gb517, 0, none⟩ (.int .i64 t512)).setCell ⟨gb517, 1, none⟩ (.slice Ao36 t513.length co36)).heap[gb517]? = some (.cells #[.int .i64 t512, .slice Ao36 t513.length co36] 28 (0, 0))) := ⟨by (with_reducible repeat (first | apply kN | apply k1 | apply kA)); refine blk_put (cs := #[.int .i64 t512, .slice none 0 0]) ?_ 1 _ rfl; (with_reducible repeat (first | apply kN | apply k1 | apply kA)); refine blk_put (cs := #[.int .i64 0, .slice none 0 0]) ?_ 0 _ rfl; (with_reducible repeat (first | apply kN | apply k1 | apply kA)); exact BK517.out⟩; have n7_ : Aside0 (Below w.heap.size w ((w34.setCell ⟨gb517, 0, none⟩ (.int .i64 t512)).setCell ⟨gb517, 1, none⟩ (.slice Ao36 t513.length co36))) := ⟨by repeat (first | (with_reducible first | exact HB.out | apply bA | apply bN | apply b1 | refine bS ?_ (by assumption)) | exact HB.out)⟩; (try clear HO_3); (try clear HO_5); (try clear HO_6); (try clear HO_501001); (try clear HO515); (try clear BK500); (try clear BK517); (try clear HB); generalize ((w34.setCell ⟨gb517, 0, none⟩ (.int .i64 t512)).setCell ⟨gb517, 1, none⟩ (.slice Ao36 t513.length co36)) = w38 at n0_ n1_ n2_ n3_ n4_ n5_ n6_ n7_ ⊢; have HO_3 := n0_; have HO_5 := n1_; have HO_6 := n2_; have HO_501001 := n3_; have HO515 := n4_; have BK500 := n5_; have BK517 := n6_; have HB := n7_; clear n0_ n1_ n2_ n3_ n4_ n5_ n6_ n7_; replace HO_3 := am (Kd.R_drew HO_3.out); replace HO_5 := am (Kd.R_drew HO_5.out); replace HO_6 := am (Kd.R_drew HO_6.out); replace HO_501001 := am (Kd.R_drew HO_501001.out); replace HO515 := am (Kd.R_drew HO515.out); replace BK500 := am (blk_drew BK500.out); replace BK517 := am (blk_drew BK517.out); replace HB := am (below_drew1 HB.out); refine start_ (n := 21) (S := fun w' => w'.cell? ⟨gb517, 0, none⟩ = some (.int .i64 t512) ∧ w'.cell? ⟨gb517, 1, none⟩ = some (.slice Ao36 t513.length co36) ∧ w'.cell? ⟨gb500, 0, none⟩ = some (.int .i64 t496) ∧ w'.cell? ⟨gb500, 1, none⟩ = some (.slice Ao9 t497.length co9)) (ds := []) #[false, false, false, false, false, false, false, false, false, false, false, false, false, false, false, false, false, false, false, false, false] (by kernel_rfl) rfl rfl ⟨(blk_cell BK517.out 0).trans rfl, (blk_cell BK517.out 1).trans rfl, (blk_cell BK500.out 0).trans rfl, (blk_cell BK500.out 1).trans rfl⟩ (fun hHeld => ?_); refine with_tabW laws_FnLinks.tab11 laws_FnLinks.bits11 (fun HT_ HW_ => ?_); generalize w38.drew = w39 at HO_3 HO_5 HO_6 HO_501001 HO515 BK500 BK517 HB hHeld ⊢; refine pure_ (i := 0) (N := some 45) (v := ?_) (a' := ?_) #[true, false, false, false, false, false, false, false, false, false, false, false, false, false, false, false, false, false, false, false, false] rfl rfl (any_of HT_.out (by kernel_rfl)) (fun _ _ _ h => h) (Or.inl ⟨by rfl, ?_⟩) ?_ ?_; rotate_left
         ·intro w'
          go_simp; with_reducible rfl
         rotate_left
         ·simp only [Act.put, sa, s0, s1, i64_w, i32_w]
          rfl
         refine pure_ (i := 1) (N := some 46) (v := ?_) (a' := ?_) #[true, true, false, false, false, false, false, false, false, false, false, false, false, false, false, false, false, false, false, false, false] rfl rfl (any_of HT_.out (by kernel_rfl)) (fun _ _ _ h => h) (Or.inl ⟨by rfl, ?_⟩) ?_ ?_; rotate_left
         ·intro w'
          go_simp; with_reducible rfl
         rotate_left
         ·simp only [Act.put, sa, s0, s1, i64_w, i32_w]
          rfl
         refine pure_ (i := 2) (N := some 47) (v := ?_) (a' := ?_) #[true, true, true, false, false, false, false, false, false, false, false, false, false, false, false, false, false, false, false, false, false] rfl rfl (any_of HT_.out (by kernel_rfl)) (fun _ _ _ h => h) (Or.inl ⟨by rfl, ?_⟩) ?_ ?_; rotate_left
         ·intro w'
          go_simp; with_reducible rfl
         rotate_left
         ·simp only [Act.put, sa, s0, s1, i64_w, i32_w]
          rfl
         refine take_ (i := 3) (N := some 48) (v := ?_) (a' := ?_) #[true, true, true, true, false, false, false, false, false, false, false, false, false, false, false, false, false, false, false, false, false] rfl rfl (take_ofW HT_.out HW_.out (by kernel_rfl)) (fun _ _ _ h => h) (Or.inl ⟨by rfl, ?_⟩) hHeld ?_ ?_; rotate_left
         ·rintro w' ⟨s0, s1, s2, s3⟩
          go_simp; with_reducible rfl
         rotate_left
         ·simp only [Act.put, sa, s0, s1, i64_w, i32_w]
          rfl
         refine one_ (i := 4) (N := some 49) #[true, true, true, true, true, false, false, false, false, false, false, false, false, false, false, false, false, false, false, false, false] rfl rfl (one_of HT_.out (by kernel_rfl)) (by decide) (fun K hK => ?_); refine goes_ Try.func13 (by kernel_rfl) rfl #[.slice Ao28 t493.length co28, .agg #[.int .i64 t512, .slice Ao36 t513.length co36]] (by rfl) rfl rfl (by (try simp only [List.map_toArray, List.map_cons, List.map_nil]); first | done | rfl | (simp only [List.length_drop, List.length_take]; rfl)) ?_; (with_reducible refine (impl_LinkOk.calls k1 _ _ t493 t512 _ _ t513 true _ ?side1 ?side2 ?side3 ?side4 A22.out).mono ?_); (case side1 => exact pkc (Kd.R_reads' HO_3.out).2.2); (case side2 => exact (Kd.R_reads' HO_3.out).2.1); (case side3 => exact pkc (Kd.R_reads' HO515.out).2.2); (case side4 => exact (Kd.R_reads' HO515.out).2.1); rintro e w40 ⟨rfl, hb⟩; refine ⟨_, rfl, ?_⟩; replace HO_3 := am (Kd.R_below (pkr HO_3.out) hb); replace HO_5 := am (Kd.R_below (pkr HO_5.out) hb); replace HO_6 := am (Kd.R_below (pkr HO_6.out) hb); replace HO_501001 := am (Kd.R_below (pkr HO_501001.out) hb); replace HO515 := am (Kd.R_below (pkr HO515.out) hb); replace BK500 := am (blk_below (pkb BK500.out) hb); replace BK517 := am (blk_below (pkb BK517.out) hb); replace HB := am (below_step (by repeat (first | (with_reducible first | exact HB.out | apply bA | apply bN | apply b1 | refine bS ?_ (by assumption)) | exact HB.out)) hb); (try clear hb); (try clear hb2); (try clear hk); (try clear hi); refine hK.out _ _ ⟨(blk_cell BK517.out 0).trans rfl, (blk_cell BK517.out 1).trans rfl, (blk_cell BK500.out 0).trans rfl, (blk_cell BK500.out 1).trans rfl⟩ (fun hHeld => ?_); clear hK K; refine norm_ (a' := ?_) ?_ ?_; rotate_left
         ·show Act.put _ (some 49) _ = _
          simp only [Act.put, sa, s0, s1, i64_w, i32_w]; rfl
         refine pure_ (i := 5) (N := some 50) (v := ?_) (a' := ?_) #[true, true, true, true, true, true, false, false, false, false, false, false, false, false, false, false, false, false, false, false, false] rfl rfl (any_of HT_.out (by kernel_rfl)) (fun _ _ _ h => h) (Or.inl ⟨by rfl, ?_⟩) ?_ ?_; rotate_left
         ·intro w'
          go_simp; with_reducible rfl
         rotate_left
         ·simp only [Act.put, sa, s0, s1, i64_w, i32_w]
          rfl
         refine pure_ (i := 6) (N := some 51) (v := ?_) (a' := ?_) #[true, true, true, true, true, true, true, false, false, false, false, false, false, false, false, false, false, false, false, false, false] rfl rfl (any_of HT_.out (by kernel_rfl)) (fun _ _ _ h => h) (Or.inl ⟨by rfl, ?_⟩) ?_ ?_; rotate_left
         ·intro w'
          go_simp; with_reducible rfl
         rotate_left
         ·simp only [Act.put, sa, s0, s1, i64_w, i32_w]
          rfl
         refine take_ (i := 7) (N := some 52) (v := ?_) (a' := ?_) #[true, true, true, true, true, true, true, true, false, false, false, false, false, false, false, false, false, false, false, false, false] rfl rfl (take_ofW HT_.out HW_.out (by kernel_rfl)) (fun _ _ _ h => h) (Or.inl ⟨by rfl, ?_⟩) hHeld ?_ ?_; rotate_left
         ·rintro w' ⟨s0, s1, s2, s3⟩
          go_simp; with_reducible rfl
         rotate_left
         ·simp only [Act.put, sa, s0, s1, i64_w, i32_w]
          rfl
         refine take_ (i := 9) (N := some 54) (v := ?_) (a' := ?_) #[true, true, true, true, true, true, true, true, false, true, false, false, false, false, false, false, false, false, false, false, false] rfl rfl (take_ofW HT_.out HW_.out (by kernel_rfl)) (fun _ _ _ h => h) (Or.inl ⟨by rfl, ?_⟩) hHeld ?_ ?_; rotate_left
         ·rintro w' ⟨s0, s1, s2, s3⟩
          go_simp; with_reducible rfl
         rotate_left
         ·simp only [Act.put, sa, s0, s1, i64_w, i32_w]
          rfl
         refine one_ (i := 8) (N := some 53) #[true, true, true, true, true, true, true, true, true, true, false, false, false, false, false, false, false, false, false, false, false] rfl rfl (one_of HT_.out (by kernel_rfl)) (by decide) (fun K hK => ?_); refine goes_ Try.func20 (by kernel_rfl) rfl #[.agg #[.int .i64 t496, .slice Ao9 t497.length co9]] (by rfl) rfl rfl (by (try simp only [List.map_toArray, List.map_cons, List.map_nil]); first | done | rfl | (simp only [List.length_drop, List.length_take]; rfl)) ?_; (with_reducible refine (impl_Delivered.calls t496 _ _ t497 t519 _ ?side1 ?side2 A24.out).mono ?_); (case side1 => exact pkc (Kd.R_reads' HO_501001.out).2.2); (case side2 => exact (Kd.R_reads' HO_501001.out).2.1); rintro e w41 ⟨v520, rfl, ho0, hb⟩; refine ⟨_, rfl, ?_⟩; replace HO_6 := am (Kd.R_below (pkr HO_6.out) hb); have HO521 := am (Kd.R_lower (Kd.R_new' (Kd.R_new' (Kd.R_new' (Kd.R_new' ho0 (Kd.R_lt (pkr HO_3.out))) (Kd.R_lt (pkr HO_5.out))) (Kd.R_lt (pkr HO_501001.out))) (Kd.R_lt (pkr HO515.out))) (below_size (by repeat (first | (with_reducible first | exact HB.out | apply bA | apply bN | apply b1 | refine bS ?_ (by assumption)) | exact HB.out)))); replace HO_3 := am (Kd.R_elder' (pkr HO_3.out) (Kd.R_base ho0) hb); replace HO_5 := am (Kd.R_elder' (pkr HO_5.out) (Kd.R_base ho0) hb); replace HO_501001 := am (Kd.R_elder' (pkr HO_501001.out) (Kd.R_base ho0) hb); replace HO515 := am (Kd.R_elder' (pkr HO515.out) (Kd.R_base ho0) hb); replace BK500 := am (blk_below (pkb BK500.out) hb); replace BK517 := am (blk_below (pkb BK517.out) hb); replace HB := am (below_step (by repeat (first | (with_reducible first | exact HB.out | apply bA | apply bN | apply b1 | refine bS ?_ (by assumption)) | exact HB.out)) hb); (try clear hb); (try clear hb2); (try clear hk); (try clear hi); (try clear ho0); refine hK.out _ _ ⟨(blk_cell BK517.out 0).trans rfl, (blk_cell BK517.out 1).trans rfl, (blk_cell BK500.out 0).trans rfl, (blk_cell BK500.out 1).trans rfl⟩ (fun hHeld => ?_); clear hK K; refine norm_ (a' := ?_) ?_ ?_; rotate_left
         ·show Act.put _ (some 53) _ = _
          simp only [Act.put, sa, s0, s1, i64_w, i32_w]; rfl
         refine one_ (i := 10) (N := some 55) #[true, true, true, true, true, true, true, true, true, true, true, false, false, false, false, false, false, false, false, false, false] rfl rfl (one_of HT_.out (by kernel_rfl)) (by decide) (fun K hK => ?_); refine goes_ Try.func20 (by kernel_rfl) rfl #[.agg #[.int .i64 t512, .slice Ao36 t513.length co36]] (by rfl) rfl rfl (by (try simp only [List.map_toArray, List.map_cons, List.map_nil]); first | done | rfl | (simp only [List.length_drop, List.length_take]; rfl)) ?_; (with_reducible refine (impl_Delivered.calls t512 _ _ t513 t522 _ ?side1 ?side2 A25.out).mono ?_); (case side1 => exact pkc (Kd.R_reads' HO515.out).2.2); (case side2 => exact (Kd.R_reads' HO515.out).2.1); rintro e w42 ⟨v523, rfl, ho0, hb⟩; refine ⟨_, rfl, ?_⟩; replace HO_6 := am (Kd.R_below (pkr HO_6.out) hb); have HO524 := am (Kd.R_lower (Kd.R_new' (Kd.R_new' (Kd.R_new' (Kd.R_new' (Kd.R_new' ho0 (Kd.R_lt (pkr HO_3.out))) (Kd.R_lt (pkr HO_5.out))) (Kd.R_lt (pkr HO_501001.out))) (Kd.R_lt (pkr HO515.out))) (Kd.R_lt (pkr HO521.out))) (below_size (by repeat (first | (with_reducible first | exact HB.out | apply bA | apply bN | apply b1 | refine bS ?_ (by assumption)) | exact HB.out)))); replace HO_3 := am (Kd.R_elder' (pkr HO_3.out) (Kd.R_base ho0) hb); replace HO_5 := am (Kd.R_elder' (pkr HO_5.out) (Kd.R_base ho0) hb); replace HO_501001 := am (Kd.R_elder' (pkr HO_501001.out) (Kd.R_base ho0) hb); replace HO515 := am (Kd.R_elder' (pkr HO515.out) (Kd.R_base ho0) hb); replace HO521 := am (Kd.R_elder' (pkr HO521.out) (Kd.R_base ho0) hb); replace BK500 := am (blk_below (pkb BK500.out) hb); replace BK517 := am (blk_below (pkb BK517.out) hb); replace HB := am (below_step (by repeat (first | (with_reducible first | exact HB.out | apply bA | apply bN | apply b1 | refine bS ?_ (by assumption)) | exact HB.out)) hb); (try clear hb); (try clear hb2); (try clear hk); (try clear hi); (try clear ho0); obtain ⟨Ao43, co43, eo43⟩ := Kd.R_slice HO521.out; (first | subst eo43 | (injection eo43 with f1_ f2_ f3_; have f4_ := f1_.symm; have f5_ := f3_.symm; clear f1_ f2_ f3_; subst f4_; subst f5_)); obtain ⟨Ao44, co44, eo44⟩ := Kd.R_slice HO524.out; (first | subst eo44 | (injection eo44 with f1_ f2_ f3_; have f4_ := f1_.symm; have f5_ := f3_.symm; clear f1_ f2_ f3_; subst f4_; subst f5_)); refine hK.out _ _ ⟨(blk_cell BK517.out 0).trans rfl, (blk_cell BK517.out 1).trans rfl, (blk_cell BK500.out 0).trans rfl, (blk_cell BK500.out 1).trans rfl⟩ (fun hHeld => ?_); clear hK K; refine norm_ (a' := ?_) ?_ ?_; rotate_left
         ·show Act.put _ (some 55) _ = _
          simp only [Act.put, sa, s0, s1, i64_w, i32_w]; rfl
         refine one_ (i := 11) (N := some 56) #[true, true, true, true, true, true, true, true, true, true, true, true, false, false, false, false, false, false, false, false, false] rfl rfl (one_of HT_.out (by kernel_rfl)) (by decide) (fun K hK => ?_); refine goes_ Try.func16 (by kernel_rfl) rfl #[.slice Ao43 t519.length co43, .slice Ao44 t522.length co44] (by rfl) rfl rfl (by (try simp only [List.map_toArray, List.map_cons, List.map_nil]); first | done | rfl | (simp only [List.length_drop, List.length_take]; rfl)) ?_; (with_reducible refine (impl_IsPrefixOf.calls k1 _ _ t519 _ _ t522 true _ ?side1 ?side2 ?side3 ?side4 A26.out).mono ?_); (case side1 => exact pkc (Kd.R_reads' HO521.out).2.2); (case side2 => exact (Kd.R_reads' HO521.out).2.1); (case side3 => exact pkc (Kd.R_reads' HO524.out).2.2); (case side4 => exact (Kd.R_reads' HO524.out).2.1); rintro e w' ⟨rfl, ⟨nd, rfl⟩⟩; refine ⟨_, rfl, ?_⟩; refine hK.out _ _ ⟨(blk_cell BK517.out 0).trans rfl, (blk_cell BK517.out 1).trans rfl, (blk_cell BK500.out 0).trans rfl, (blk_cell BK500.out 1).trans rfl⟩ (fun hHeld => ?_); clear hK K; refine norm_ (a' := ?_) ?_ ?_; rotate_left
         ·show Act.put _ (some 56) _ = _
          simp only [Act.put, sa, s0, s1, i64_w, i32_w]; rfl
         refine pure_ (i := 12) (N := some 57) (v := ?_) (a' := ?_) #[true, true, true, true, true, true, true, true, true, true, true, true, true, false, false, false, false, false, false, false, false] rfl rfl (any_of HT_.out (by kernel_rfl)) (fun _ _ _ h => h) (Or.inl ⟨by rfl, ?_⟩) ?_ ?_; rotate_left
         ·intro w'
          go_simp; with_reducible rfl
         rotate_left
         ·simp only [Act.put, sa, s0, s1, i64_w, i32_w]
          rfl
         refine pure_ (i := 13) (N := some 58) (v := ?_) (a' := ?_) #[true, true, true, true, true, true, true, true, true, true, true, true, true, true, false, false, false, false, false, false, false] rfl rfl (any_of HT_.out (by kernel_rfl)) (fun _ _ _ h => h) (Or.inl ⟨by rfl, ?_⟩) ?_ ?_; rotate_left
         ·intro w'
          go_simp; with_reducible rfl
         rotate_left
         ·simp only [Act.put, sa, s0, s1, i64_w, i32_w]
          rfl
         refine pure_ (i := 14) (N := some 59) (v := ?_) (a' := ?_) #[true, true, true, true, true, true, true, true, true, true, true, true, true, true, true, false, false, false, false, false, false] rfl rfl (any_of HT_.out (by kernel_rfl)) (fun _ _ _ h => h) (Or.inl ⟨by rfl, ?_⟩) ?_ ?_; rotate_left
         ·intro w'
          go_simp; with_reducible rfl
         rotate_left
         ·simp only [Act.put, sa, s0, s1, i64_w, i32_w]
          rfl
         refine pure_ (i := 16) (N := some 61) (v := ?_) (a' := ?_) #[true, true, true, true, true, true, true, true, true, true, true, true, true, true, true, false, true, false, false, false, false] rfl rfl (any_of HT_.out (by kernel_rfl)) (fun _ _ _ h => h) (Or.inl ⟨by rfl, ?_⟩) ?_ ?_; rotate_left
         ·intro w'
          go_simp; with_reducible rfl
         rotate_left
         ·simp only [Act.put, sa, s0, s1, i64_w, i32_w]
          rfl
         refine take_ (i := 15) (N := some 60) (v := ?_) (a' := ?_) #[true, true, true, true, true, true, true, true, true, true, true, true, true, true, true, true, true, false, false, false, false] rfl rfl (take_ofW HT_.out HW_.out (by kernel_rfl)) (fun _ _ _ h => h) (Or.inl ⟨by rfl, ?_⟩) hHeld ?_ ?_; rotate_left
         ·rintro w' ⟨s0, s1, s2, s3⟩
          go_simp; with_reducible rfl
         rotate_left
         ·simp only [Act.put, sa, s0, s1, i64_w, i32_w]
          rfl
         refine take_ (i := 17) (N := some 62) (v := ?_) (a' := ?_) #[true, true, true, true, true, true, true, true, true, true, true, true, true, true, true, true, true, true, false, false, false] rfl rfl (take_ofW HT_.out HW_.out (by kernel_rfl)) (fun _ _ _ h => h) (Or.inl ⟨by rfl, ?_⟩) hHeld ?_ ?_; rotate_left
         ·rintro w' ⟨s0, s1, s2, s3⟩
          go_simp; with_reducible rfl
         rotate_left
         ·simp only [Act.put, sa, s0, s1, i64_w, i32_w]
          rfl
         refine pure_ (i := 18) (N := some 63) (v := ?_) (a' := ?_) #[true, true, true, true, true, true, true, true, true, true, true, true, true, true, true, true, true, true, true, false, false] rfl rfl (any_of HT_.out (by kernel_rfl)) (fun _ _ _ h => h) (Or.inl ⟨by rfl, ?_⟩) ?_ ?_; rotate_left
         ·intro w'
          go_simp; with_reducible rfl
         rotate_left
         ·simp only [Act.put, sa, s0, s1, i64_w, i32_w]
          rfl
         refine pure_ (i := 19) (N := some 64) (v := ?_) (a' := ?_) #[true, true, true, true, true, true, true, true, true, true, true, true, true, true, true, true, true, true, true, true, false] rfl rfl (any_of HT_.out (by kernel_rfl)) (fun _ _ _ h => h) (Or.inl ⟨by rfl, ?_⟩) ?_ ?_; rotate_left
         ·intro w'
          go_simp; with_reducible rfl
         rotate_left
         ·simp only [Act.put, sa, s0, s1, i64_w, i32_w]
          rfl
         refine pure_ (i := 20) (N := some 2) (v := ?_) (a' := ?_) #[true, true, true, true, true, true, true, true, true, true, true, true, true, true, true, true, true, true, true, true, true] rfl rfl (any_of HT_.out (by kernel_rfl)) (fun _ _ _ h => h) (Or.inl ⟨by rfl, ?_⟩) ?_ ?_; rotate_left
         ·intro w'
          go_simp; with_reducible rfl
         rotate_left
         ·simp only [Act.put, sa, s0, s1, i64_w, i32_w]
          rfl
         refine done_ (done_of HT_.out (by kernel_rfl)) ?_; try go_wp2
         go_ret
         exact ⟨by first | rfl | (simp [errW_none, errW_some] <;> rfl) | (simp [*, errW_none, errW_some] <;> rfl), by repeat (first | (with_reducible first | exact HB.out | apply bA | apply bN | apply b1 | refine bS ?_ (by assumption)) | exact HB.out)⟩
        ·replace c27 := Bool.eq_false_iff.mpr c27
         subst c27
         have H1 : (none) = some r := by rw [if_neg (show ¬ (false = true) by decide)] at H; exact H
         clear H; have H := H1; clear H1; exact absurd H (by simp)
       ·replace c23 := Bool.eq_false_iff.mpr c23
        subst c23
        have H1 : (none) = some r := by rw [if_neg (show ¬ (false = true) by decide)] at H; exact H
        clear H; have H := H1; clear H1; exact absurd H (by simp)
      ·replace c21 := Bool.eq_false_iff.mpr c21
       subst c21
       have H1 : (none) = some r := by rw [if_neg (show ¬ (false = true) by decide)] at H; exact H
       clear H; have H := H1; clear H1; exact absurd H (by simp)
     ·rw [if_neg c19] at H
      exact absurd H (by simp)

end Go.Proofs.Ytdmmogcpamgdnaa.PFnLinks
