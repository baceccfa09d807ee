-- written by xprint.py for this seat
import Derived.Test.YtdmmogcpamgdnaaPFnInOrderx0
import Derived.Test.YtdmmogcpamgdnaaPFnInOrderx1
import Derived.Test.YtdmmogcpamgdnaaPFnInOrderx5
import Derived.Test.YtdmmogcpamgdnaaPFnInOrderx6
import Derived.Test.YtdmmogcpamgdnaaPFnInOrderx7
namespace Go.Proofs.Ytdmmogcpamgdnaa.PFnInOrder
set_option maxHeartbeats 8000000
set_option maxRecDepth 100000
open Go.RowKit Go.Proofs.YtdmmogcpamgdnaaW.PrintWords Go.Proofs.YtdmmogcpamgdnaaW.PrintLast Go.Proofs.YtdmmogcpamgdnaaW.PrintMore
attribute [local go_sem] max2_int min2_int max_two min_two max_three min_three max_four min_four   -- for this text's walks alone
set_option linter.unusedVariables false
set_option linter.unusedSimpArgs false

/-! ### laws_FnInOrder: function 4 -/
def laws_FnInOrder.l0 : Nat → List Int → List Int → List (S33) → List Bool → Int → Int → List Int → Option (Bool)
 | 0, _, _, _, _, _, _, _ => none
 | k + 1, x3, x5, x6, x7, x8, x478000, x478001 => if x8 < (x6.length : Int) then (if 0 ≤ (Int.tmod x8 12) then (if (Int.tmod x8 12) < (x5.length : Int) then (if x7.length < 140737488355328 then (laws_FnInOrder.l0 k x3 x5 x6 (x7 ++ [decide ((Int.tmod (rd x5 (Int.tmod x8 12)) 3) > 0)]) (wrap64 (x8 + 1)) x478000 x478001) else (none)) else (none)) else (none)) else ((impl_ReceiveAll.f k x478001 x6 x7).bind fun bt491 => (if bt491.2 = (bt491.1.length : Int) then (if bt491.2 ≥ (x478001.length : Int) then ((impl_MemSent.f x3).bind fun t496 => ((impl_IsPrefixOf.f k bt491.1 t496).bind fun t499 => (if t499 = true then (if (x6.length : Int) = 0 then (some true) else (if 0 < (x6.length : Int) then (if ((rd_T33 x6 0).f0) = 0 then ((impl_Gaps.f k x6).bind fun t501 => (some ((t501.length : Int) == 0))) else (some true)) else (none))) else (none)))) else (none)) else (none)))
def laws_FnInOrder.f (k : Nat) (l0 : List Int) : Option (Bool) := (laws_big.f l0).bind fun t469 => (if t469 = true then (some true) else ((spec_DrawLink.f k l0).bind fun bt470 => ((spec_DrawPlaces.f k l0).bind fun t478 => ((impl_PacketsOf.f k bt470.1 bt470.2.1).bind fun t481 => (laws_FnInOrder.l0 k bt470.1 t478 t481 (([] : List Bool)) 0 bt470.2.1 bt470.2.2)))))
theorem laws_FnInOrder.mono_l : ∀ k, (∀ y0 y1 y2 y3 y4 y5 y6, LeO (laws_FnInOrder.l0 k y0 y1 y2 y3 y4 y5 y6) (laws_FnInOrder.l0 (k + 1) y0 y1 y2 y3 y4 y5 y6))
 | 0 => fun _ _ _ _ _ _ _ r h => by simp [laws_FnInOrder.l0] at h
 | k + 1 => by
  have ih0 := laws_FnInOrder.mono_l k
  ·intro y0 y1 y2 y3 y4 y5 y6
   unfold laws_FnInOrder.l0
   repeat' first
   | (with_reducible exact ih0 _ _ _ _ _ _ _)
   | (with_reducible exact impl_Gaps.mono _ _)
   | (with_reducible exact impl_IsPrefixOf.mono _ _ _)
   | (with_reducible exact impl_PacketsOf.mono _ _ _)
   | (with_reducible exact impl_ReceiveAll.mono _ _ _ _)
   | (with_reducible exact spec_DrawLink.mono _ _)
   | (with_reducible exact spec_DrawPlaces.mono _ _)
   | (with_reducible exact LeO.refl _)
   | (with_reducible exact LeO.none _)
   | (with_reducible refine LeO.ite ?_ ?_)
   | (with_reducible refine LeO.bind ?_ (fun _ => ?_))
   | exact ih0 _ _ _ _ _ _ _
   | exact impl_Gaps.mono _ _
   | exact impl_IsPrefixOf.mono _ _ _
   | exact impl_PacketsOf.mono _ _ _
   | exact impl_ReceiveAll.mono _ _ _ _
   | exact spec_DrawLink.mono _ _
   | exact spec_DrawPlaces.mono _ _
   | exact LeO.none _
   | refine LeO.ite ?_ ?_
   | refine LeO.bind ?_ (fun _ => ?_)
theorem laws_FnInOrder.mono : ∀ a0 k, LeO (laws_FnInOrder.f k a0) (laws_FnInOrder.f (k + 1) a0) := by
 intro a0 k; have ih0 := laws_FnInOrder.mono_l k; unfold laws_FnInOrder.f
 repeat' first
   | (with_reducible exact ih0 _ _ _ _ _ _ _)
   | (with_reducible exact impl_Gaps.mono _ _)
   | (with_reducible exact impl_IsPrefixOf.mono _ _ _)
   | (with_reducible exact impl_PacketsOf.mono _ _ _)
   | (with_reducible exact impl_ReceiveAll.mono _ _ _ _)
   | (with_reducible exact spec_DrawLink.mono _ _)
   | (with_reducible exact spec_DrawPlaces.mono _ _)
   | (with_reducible exact LeO.refl _)
   | (with_reducible exact LeO.none _)
   | (with_reducible refine LeO.ite ?_ ?_)
   | (with_reducible refine LeO.bind ?_ (fun _ => ?_))
   | exact ih0 _ _ _ _ _ _ _
   | exact impl_Gaps.mono _ _
   | exact impl_IsPrefixOf.mono _ _ _
   | exact impl_PacketsOf.mono _ _ _
   | exact impl_ReceiveAll.mono _ _ _ _
   | exact spec_DrawLink.mono _ _
   | exact spec_DrawPlaces.mono _ _
   | exact LeO.none _
   | refine LeO.ite ?_ ?_
   | refine LeO.bind ?_ (fun _ => ?_)
def laws_FnInOrder.T12 : Bool × List (List Nat × List Nat) := (true, [([], []), ([], []), ([1], [1]), ([2], [2]), ([0, 3], [0, 3]), ([4], [4]), ([5], [5]), ([5], [5]), ([7, 5], [5, 7]), ([8, 5], [5, 8]), ([9, 5], [5, 9]), ([6, 10, 5], [5, 6, 10]), ([5, 11], [5, 11]), ([12, 5], [12]), ([13], [13]), ([14, 13], [13, 14]), ([13], [13]), ([16, 13, 13], [13, 16]), ([15, 17, 17, 13], [13, 15, 17]), ([13, 18], [13, 18]), ([19, 18], [19]), ([20], [20]), ([21, 20], [20, 21]), ([22, 20], [20, 22]), ([23, 20, 20], [20, 23]), ([24], [24]), ([25, 24], [24, 25]), ([26, 24], [24, 26]), ([27, 24], [24, 27]), ([28, 24], [24, 28]), ([24, 29, 20], [20, 24, 29]), ([30, 24, 20], [20, 30]), ([31], [31]), ([32, 31, 31], [31, 32]), ([33, 31], [31, 33]), ([34, 31], [31, 34]), ([31, 35, 20], [20, 31, 35]), ([20, 36], [20, 36]), ([37, 33, 0, 1, 2, 3, 4, 5, 6, 7, 8, 9, 10, 11, 12, 13, 14, 15, 16, 17, 18, 19, 20, 21, 22, 23, 24, 25, 26, 27, 28, 29, 30, 31, 32, 33, 34, 35, 36, 37], [37])])
def laws_FnInOrder.B12 : List Nat := [0, 0, 2, 6, 15, 31, 63, 63, 191, 447, 959, 2047, 4095, 8191, 16383, 32767, 16383, 81919, 262143, 524287, 1048575, 2097151, 4194303, 8388607, 16777215, 33554431, 67108863, 134217727, 268435455, 536870911, 1073741823, 2147483647, 4294967295, 8589934591, 17179869183, 34359738367, 68719476735, 137438953471, 274877906943]
theorem laws_FnInOrder.tab12 : rtab .any (opsOf Try.f4 12) = laws_FnInOrder.T12 := by kernel_rfl
theorem laws_FnInOrder.bits12 : waitsOk laws_FnInOrder.T12.2 laws_FnInOrder.B12 = true := by kernel_rfl
theorem laws_FnInOrder.calls (k : Nat) (A0 : Option Addr) (c0 : Nat) (l0 : List Int) (r : Bool) (w : World) (hr0 : Kd.C (Kd.int .u8) w A0 l0.length l0) (hc0 : l0.length ≤ c0) (h : laws_FnInOrder.f k l0 = some r) :
  Calls Try.prog 4 #[.slice A0 l0.length c0] w fun e w' => e = .returned (.bool r) ∧ Below w.heap.size w w' := by
 have hu28 := Try.underlying28; have hu26 := Try.underlying26; have HR0 := am hr0; have HC0 := am hc0; clear hr0 hc0; have HB := am (Below.refl w.heap.size w); have H : ((laws_big.f l0).bind fun t469 => (if t469 = true then (some true) else ((spec_DrawLink.f k l0).bind fun bt470 => ((spec_DrawPlaces.f k l0).bind fun t478 => ((impl_PacketsOf.f k bt470.1 bt470.2.1).bind fun t481 => (laws_FnInOrder.l0 k bt470.1 t478 t481 (([] : List Bool)) 0 bt470.2.1 bt470.2.2)))))) = some r := h; clear h; replace H := Option.bind_eq_some_iff.mp H; obtain ⟨t469, A20, H⟩ := H; replace H : (if t469 = true then (some true) else ((spec_DrawLink.f k l0).bind fun bt470 => ((spec_DrawPlaces.f k l0).bind fun t478 => ((impl_PacketsOf.f k bt470.1 bt470.2.1).bind fun t481 => (laws_FnInOrder.l0 k bt470.1 t478 t481 (([] : List Bool)) 0 bt470.2.1 bt470.2.2))))) = some r := H; have A2 := am A20; clear A20
 by_cases c3 : t469 = true
 ·subst c3
  have H1 : (some true) = some r := by rw [if_pos rfl] at H; exact H
  clear H; have H := H1; clear H1; obtain rfl := Option.some.inj H; go_enter Try.func4, Try.ntmps4
  go_wp2_with (first | ((with_reducible refine gate_callee (f := 8) rfl ?_); refine goesL_ (some 12) rfl rfl Try.func8 (by kernel_rfl) rfl #[.slice A0 l0.length c0] rfl (by (try simp only [List.map_toArray, List.map_cons, List.map_nil]); first | done | rfl | (simp only [List.length_drop, List.length_take]; rfl)) ?_; (with_reducible refine (laws_big.calls _ _ l0 true _ ?side1 ?side2 A2.out).mono ?_); (case side1 => repeat (first | exact HR0.out | (with_reducible refine Kd.C_alloc ?_ _) | (with_reducible refine Kd.C_drewN ?_ _) | (with_reducible refine Kd.C_drew ?_))); (case side2 => exact HC0.out); rintro e w' ⟨rfl, ⟨nd, rfl⟩⟩; refine ⟨_, rfl, ?_⟩))
  go_ret
  exact ⟨by first | rfl | (simp [errW_none, errW_some] <;> rfl) | (simp [*, errW_none, errW_some] <;> rfl), by repeat (first | (with_reducible first | exact HB.out | apply bA | apply bN | apply b1) | exact HB.out)⟩
 ·replace c3 := Bool.eq_false_iff.mpr c3
  subst c3
  have H1 : ((spec_DrawLink.f k l0).bind fun bt470 => ((spec_DrawPlaces.f k l0).bind fun t478 => ((impl_PacketsOf.f k bt470.1 bt470.2.1).bind fun t481 => (laws_FnInOrder.l0 k bt470.1 t478 t481 (([] : List Bool)) 0 bt470.2.1 bt470.2.2)))) = some r := by rw [if_neg (show ¬ (false = true) by decide)] at H; exact H
  clear H; have H := H1; clear H1; replace H := Option.bind_eq_some_iff.mp H; obtain ⟨⟨t470, t473, t474⟩, A40, H⟩ := H; replace H : ((spec_DrawPlaces.f k l0).bind fun t478 => ((impl_PacketsOf.f k t470 t473).bind fun t481 => (laws_FnInOrder.l0 k t470 t478 t481 (([] : List Bool)) 0 t473 t474))) = some r := H; have A4 := am A40; clear A40; replace H := Option.bind_eq_some_iff.mp H; obtain ⟨t478, A50, H⟩ := H; replace H : ((impl_PacketsOf.f k t470 t473).bind fun t481 => (laws_FnInOrder.l0 k t470 t478 t481 (([] : List Bool)) 0 t473 t474)) = some r := H; have A5 := am A50; clear A50; replace H := Option.bind_eq_some_iff.mp H; obtain ⟨t481, A60, H⟩ := H; replace H : (laws_FnInOrder.l0 k t470 t478 t481 (([] : List Bool)) 0 t473 t474) = some r := H; have A6 := am A60; clear A60; obtain ⟨y484, hy484⟩ : ∃ y_ : List Bool, y_ = (([] : List Bool)) := ⟨_, rfl⟩
  replace H : (laws_FnInOrder.l0 k t470 t478 t481 y484 0 t473 t474) = some r := by first | (rw [hy484]; with_reducible exact H) | (have H2_ := (Option.bind_some _ _).symm.trans H; rw [hy484]; with_reducible exact H2_) | (have H2_ := (Option.bind_some _ _).symm.trans H; with_reducible exact H2_) | with_reducible exact H | (rw [hy484]; exact H) | exact H
  have Ny484 := am hy484; clear hy484; have H' := am H; clear H; go_enter Try.func4, Try.ntmps4
  go_wp2_with (first | ((with_reducible refine gate_callee (f := 8) rfl ?_); refine goesL_ (some 12) rfl rfl Try.func8 (by kernel_rfl) rfl #[.slice A0 l0.length c0] rfl (by (try simp only [List.map_toArray, List.map_cons, List.map_nil]); first | done | rfl | (simp only [List.length_drop, List.length_take]; rfl)) ?_; (with_reducible refine (laws_big.calls _ _ l0 false _ ?side1 ?side2 A2.out).mono ?_); (case side1 => repeat (first | exact HR0.out | (with_reducible refine Kd.C_alloc ?_ _) | (with_reducible refine Kd.C_drewN ?_ _) | (with_reducible refine Kd.C_drew ?_))); (case side2 => exact HC0.out); rintro e w' ⟨rfl, ⟨nd, rfl⟩⟩; refine ⟨_, rfl, ?_⟩) | ((with_reducible refine gate_callee (f := 9) rfl ?_); refine goesL_ (some 15) rfl rfl Try.func9 (by kernel_rfl) rfl #[.slice A0 l0.length c0] rfl (by (try simp only [List.map_toArray, List.map_cons, List.map_nil]); first | done | rfl | (simp only [List.length_drop, List.length_take]; rfl)) ?_; (with_reducible refine (spec_DrawLink.calls k _ _ l0 t470 t473 t474 _ ?side1 ?side2 A4.out).mono ?_); (case side1 => repeat (first | exact HR0.out | (with_reducible refine Kd.C_alloc ?_ _) | (with_reducible refine Kd.C_drewN ?_ _) | (with_reducible refine Kd.C_drew ?_))); (case side2 => exact HC0.out); rintro e w7 ⟨v471, v475, rfl, ho0, ho1, hb⟩; refine ⟨_, rfl, ?_⟩; have HO472 := am (Kd.R_lower ho0 (below_size (by repeat (first | (with_reducible first | exact HB.out | apply bA | apply bN | apply b1) | exact HB.out)))); have HO476 := am (Kd.R_lower ho1 (below_size (by repeat (first | (with_reducible first | exact HB.out | apply bA | apply bN | apply b1) | exact HB.out)))); replace HB := am (below_step (by repeat (first | (with_reducible first | exact HB.out | apply bA | apply bN | apply b1) | exact HB.out)) hb); (try clear hb); (try clear hb2); (try clear hk); (try clear hi); (try clear ho0); (try clear ho1)) | ((with_reducible refine gate_dst (N := 4) rfl ?_); (try (refine gate_guard (by rfl) ?_; dsimp only)); refine box_event ?hg (N := 4) ?hd (cs := #[.int .i64 0, .slice none 0 0]) (t := 28) ?hr ?_; (case hd => rfl); (case hg => rfl); (case hr => first | (go_simp; done) | (go_simp; rfl)); intro gb477 hg w8 hbox hb; replace HO472 := am (Kd.R_below (pkr HO472.out) hb); replace HO476 := am (Kd.R_below (pkr HO476.out) hb); have BK477 := am (hbox); have GW477 := am ((by rw [hg]; exact (below_size (by repeat (first | (with_reducible first | exact HB.out | apply bA | apply bN | apply b1) | exact HB.out))) : w.heap.size ≤ gb477)); replace HB := am (below_step (by repeat (first | (with_reducible first | exact HB.out | apply bA | apply bN | apply b1) | exact HB.out)) hb); have GE477 := GW477; clear hb hbox hg; have hcz9_0 := pc0 BK477.out; have hcz9_1 := pc1 BK477.out; have hfz9_0 := blk_frozen BK477.out 0; have hfz9_1 := blk_frozen BK477.out 1; obtain ⟨Ao10, co10, eo10⟩ := Kd.R_slice HO476.out; subst eo10) | ((with_reducible refine gate_callee (f := 10) rfl ?_); refine goesL_ (some 19) rfl rfl Try.func10 (by kernel_rfl) rfl #[.slice A0 l0.length c0] rfl (by (try simp only [List.map_toArray, List.map_cons, List.map_nil]); first | done | rfl | (simp only [List.length_drop, List.length_take]; rfl)) ?_; (with_reducible refine (spec_DrawPlaces.calls k _ _ l0 t478 _ ?side1 ?side2 A5.out).mono ?_); (case side1 => exact Kd.C_below HR0.out (by repeat (first | (with_reducible first | exact HB.out | apply bA | apply bN | apply b1 | refine bS ?_ (by assumption)) | exact HB.out))); (case side2 => exact HC0.out); rintro e w11 ⟨v479, rfl, ho0, hb⟩; refine ⟨_, rfl, ?_⟩; have HO480 := am (Kd.R_lower (Kd.R_new' (Kd.R_new' ho0 (Kd.R_lt (pkr ((pkf2 0 1 HO472.out BK477.out (by decide) (.int .i64 t473) (.slice Ao10 t474.length co10)))))) (Kd.R_lt (pkr ((pkf2 0 1 HO476.out BK477.out (by decide) (.int .i64 t473) (.slice Ao10 t474.length co10)))))) (below_size (by repeat (first | (with_reducible first | exact HB.out | apply bA | apply bN | apply b1 | refine bS ?_ (by assumption)) | exact HB.out)))); replace HO472 := am (Kd.R_elder' (pkr ((pkf2 0 1 HO472.out BK477.out (by decide) (.int .i64 t473) (.slice Ao10 t474.length co10)))) (Kd.R_base ho0) hb); replace HO476 := am (Kd.R_elder' (pkr ((pkf2 0 1 HO476.out BK477.out (by decide) (.int .i64 t473) (.slice Ao10 t474.length co10)))) (Kd.R_base ho0) hb); replace BK477 := am (blk_below (g := gb477) (o := .cells #[.int .i64 t473, .slice Ao10 t474.length co10] 28 (0, 0)) (by (with_reducible repeat (first | apply kN | apply k1 | apply kA)); refine blk_put (cs := #[.int .i64 t473, .slice none 0 0]) ?_ 1 _ rfl; (with_reducible repeat (first | apply kN | apply k1 | apply kA)); refine blk_put (cs := #[.int .i64 0, .slice none 0 0]) ?_ 0 _ rfl; (with_reducible repeat (first | apply kN | apply k1 | apply kA)); exact BK477.out) hb); replace HB := am (below_step (by repeat (first | (with_reducible first | exact HB.out | apply bA | apply bN | apply b1 | refine bS ?_ (by assumption)) | exact HB.out)) hb); (try clear hb); (try clear hb2); (try clear hk); (try clear hi); (try clear ho0); have hcz12_0 := pc0 BK477.out; have hcz12_1 := pc1 BK477.out; have hfz12_0 := blk_frozen BK477.out 0; have hfz12_1 := blk_frozen BK477.out 1; obtain ⟨Ao13, co13, eo13⟩ := Kd.R_slice HO472.out; subst eo13) | ((with_reducible refine gate_callee (f := 14) rfl ?_); refine goesL_ (some 23) rfl rfl Try.func14 (by kernel_rfl) rfl #[.slice Ao13 t470.length co13, .int .i64 t473] rfl (by (try simp only [List.map_toArray, List.map_cons, List.map_nil]); first | done | rfl | (simp only [List.length_drop, List.length_take]; rfl)) ?_; (with_reducible refine (impl_PacketsOf.calls k _ _ t470 t473 t481 _ ?side1 ?side2 A6.out).mono ?_); (case side1 => exact pkc (Kd.R_reads' HO472.out).2.2); (case side2 => exact (Kd.R_reads' HO472.out).2.1); rintro e w14 ⟨v482, rfl, ho0, hb⟩; refine ⟨_, rfl, ?_⟩; replace HO472 := am (Kd.R_below (pkr HO472.out) hb); replace HO476 := am (Kd.R_below (pkr HO476.out) hb); replace HO480 := am (Kd.R_below (pkr HO480.out) hb); have HO483 := am (Kd.R_lower ho0 (below_size (by repeat (first | (with_reducible first | exact HB.out | apply bA | apply bN | apply b1 | refine bS ?_ (by assumption)) | exact HB.out)))); replace BK477 := am (blk_below (pkb BK477.out) hb); replace HB := am (below_step (by repeat (first | (with_reducible first | exact HB.out | apply bA | apply bN | apply b1 | refine bS ?_ (by assumption)) | exact HB.out)) hb); (try clear hb); (try clear hb2); (try clear hk); (try clear hi); (try clear ho0)) | ((with_reducible refine gate_dst (N := 24) rfl ?_); (try (refine gate_guard (by rfl) ?_; dsimp only)); refine Kd.R_lit Kd.bool _ 4 ?hg (N := 24) ?hd (xs := ([] : List Bool)) (inner := []) (ok := fun _ => True) (okp := fun _ => True) ?hr ?hp (fun _ hk => hk) trivial (Below.refl _ _) (Nat.le_refl _) (by simp) ?_; (case hd => rfl); (case hg => rfl); (case hr => first | (go_simp; done) | (go_simp; rfl)); (case hp => exact (Reps.none _ _)); intro v485 w15 ho16 hb hg_ hnew_; clear hg_ hnew_; (first | rw [← Ny484.out] at ho16 | (simp only [Int.reduceToNat] at ho16; rw [← Ny484.out] at ho16)); replace HO472 := am (Kd.R_below (pkr HO472.out) hb); replace HO476 := am (Kd.R_below (pkr HO476.out) hb); replace HO480 := am (Kd.R_below (pkr HO480.out) hb); replace HO483 := am (Kd.R_below (pkr HO483.out) hb); have HO486 := am (Kd.R_lower ho16 (below_size (by repeat (first | (with_reducible first | exact HB.out | apply bA | apply bN | apply b1 | refine bS ?_ (by assumption)) | exact HB.out)))); replace BK477 := am (blk_below (pkb BK477.out) hb); replace HB := am (below_step (by repeat (first | (with_reducible first | exact HB.out | apply bA | apply bN | apply b1 | refine bS ?_ (by assumption)) | exact HB.out)) hb); clear hb ho16))
  go_loopg [7, 8] k (fun kq v7 v8 w' => ∃ (x7_1 : List Bool) (x8_1 : Int), v8 = .int .i64 x8_1 ∧ Aside0 (laws_FnInOrder.l0 kq t470 t478 t481 x7_1 x8_1 t473 t474 = some r) ∧ Aside0 (kq ≤ k) ∧ Aside0 (Kd.R (Kd.int .i64) 3 w' w.heap.size (fun k_ => some k_ ≠ (v479 : Value).ownBlock ∧ some k_ ≠ ((.slice Ao10 t474.length co10) : Value).ownBlock) (.slice Ao13 t470.length co13) t470) ∧ Aside0 (Kd.R (Kd.int .i64) 3 w' w.heap.size (fun k_ => some k_ ≠ ((.slice Ao13 t470.length co13) : Value).ownBlock ∧ some k_ ≠ ((.slice Ao10 t474.length co10) : Value).ownBlock) v479 t478) ∧ Aside0 (Kd.R k33 33 w' w.heap.size (fun _ => True) v482 t481) ∧ Aside0 (Kd.R Kd.bool 4 w' w.heap.size (fun _ => True) v7 x7_1) ∧ Aside0 (Kd.R (Kd.int .i64) 3 w' w.heap.size (fun k_ => some k_ ≠ ((.slice Ao13 t470.length co13) : Value).ownBlock ∧ some k_ ≠ (v479 : Value).ownBlock) (.slice Ao10 t474.length co10) t474) ∧ Aside0 (w'.heap[gb477]? = some (.cells #[.int .i64 t473, (.slice Ao10 t474.length co10)] 28 (0, 0))) ∧ Aside0 (Below w.heap.size w w'))
  case atStart => exact ⟨(y484), (0), (by first | rfl | (simp; done) | (simp [*]; done)), H', ⟨Nat.le_refl _⟩, ⟨by (with_reducible repeat (first | apply Kd.R_alloc | apply Kd.R_drewN | apply Kd.R_drew)); exact Kd.R_mono HO472.out (fun _ hk => by first | exact ⟨hk.2, hk.1⟩ | simp_all)⟩, ⟨by (with_reducible repeat (first | apply Kd.R_alloc | apply Kd.R_drewN | apply Kd.R_drew)); exact Kd.R_mono HO480.out (fun _ hk => by first | exact ⟨hk.1.2, hk.2⟩ | simp_all)⟩, ⟨by (with_reducible repeat (first | apply Kd.R_alloc | apply Kd.R_drewN | apply Kd.R_drew)); exact HO483.out⟩, ⟨by (with_reducible repeat (first | apply Kd.R_alloc | apply Kd.R_drewN | apply Kd.R_drew)); exact HO486.out⟩, ⟨by (with_reducible repeat (first | apply Kd.R_alloc | apply Kd.R_drewN | apply Kd.R_drew)); exact HO476.out⟩, ⟨by (with_reducible repeat (first | apply kN | apply k1 | apply kA)); exact BK477.out⟩, ⟨by repeat (first | (with_reducible first | exact HB.out | apply bA | apply bN | apply b1 | refine bS ?_ (by assumption)) | exact HB.out)⟩⟩
  case round =>
   clear H'; (try clear p2); (try clear hcz12_0); (try clear hcz12_1); (try clear hcz9_0); (try clear hcz9_1); (try clear hfz12_0); (try clear hfz12_1); (try clear hfz9_0); (try clear hfz9_1); obtain ⟨x7_1, x8_1, rfl, HA, HK1, HO_3, HO_5, HO_6, HO_7, HO_478001, BK477, HB⟩ := hrel; cases gk with
   | zero => exact absurd HA.out (by simp [laws_FnInOrder.l0])
   | succ k1 =>
    have H := HA.out; clear HA; simp only [laws_FnInOrder.l0] at H
    by_cases c17 : x8_1 < (t481.length : Int)
    ·rw [if_pos c17] at H
     have c17b0 : decide (x8_1 < (t481.length : Int)) = true := decide_eq_true c17; clear c17; obtain ⟨ji18, hji18⟩ : ∃ j_ : Int, (Int.tmod x8_1 12) = j_ := ⟨_, rfl⟩
     replace H : (if 0 ≤ (ji18) then (if (ji18) < (t478.length : Int) then (if x7_1.length < 140737488355328 then (laws_FnInOrder.l0 k1 t470 t478 t481 (x7_1 ++ [decide ((Int.tmod (rd t478 (ji18)) 3) > 0)]) (wrap64 (x8_1 + 1)) t473 t474) else (none)) else (none)) else (none)) = some r := by first | (rw [hji18] at H; exact H) | (simp only [hji18] at H ⊢; exact H)
     by_cases c19 : 0 ≤ (ji18)
     ·rw [if_pos c19] at H
      have c19b0 : decide (0 ≤ (ji18)) = true := decide_eq_true c19; clear c19
      by_cases c20 : (ji18) < (t478.length : Int)
      ·rw [if_pos c20] at H
       have c20b0 : decide ((ji18) < (t478.length : Int)) = true := decide_eq_true c20; clear c20
       by_cases c21 : x7_1.length < 140737488355328
       ·rw [if_pos c21] at H
        have LMc21 := am c21; clear c21; obtain ⟨y488, hy488⟩ : ∃ y_ : List Bool, y_ = (x7_1 ++ [decide ((Int.tmod (rd t478 (ji18)) 3) > 0)]) := ⟨_, rfl⟩
        replace H : (laws_FnInOrder.l0 k1 t470 t478 t481 y488 (wrap64 (x8_1 + 1)) t473 t474) = some r := by first | (rw [hy488]; with_reducible exact H) | (have H2_ := (Option.bind_some _ _).symm.trans H; rw [hy488]; with_reducible exact H2_) | (have H2_ := (Option.bind_some _ _).symm.trans H; with_reducible exact H2_) | with_reducible exact H | (rw [hy488]; exact H) | exact H
        have Ny488 := am hy488; clear hy488; have H' := am H; clear H; obtain ⟨Ao22, co22, eo22⟩ := Kd.R_slice HO_6.out; subst eo22; obtain ⟨Ao23, co23, eo23⟩ := Kd.R_slice HO_5.out; subst eo23; have p487 : 0 ≤ ((ji18) : Int) := of_decide_eq_true (by first | (with_reducible assumption) | assumption); have q487 : (ji18) < (t478.length : Int) := of_decide_eq_true (by first | (with_reducible assumption) | assumption); obtain ⟨ad487, e487, hx487_0⟩ := Kd.at_int (Kd.R_reads' HO_5.out).2.2 (ji18) p487 q487; cases e487; replace p487 := eq_true p487; replace q487 := eq_true q487
        go_wp2_with (first | ((with_reducible refine gate_builtin (b := .append) (xs := #[.tmp 31, .tmp 39]) rfl ?_); (try (refine gate_guard (by rfl) ?_; dsimp only)); at_builtin; refine Kd.R_append Kd.bool (w0 := w) w.heap.size rfl (.tmp 31) (.tmp 39) 40 4 (.bool false) 1 rfl Try.underlying40 info4 rfl (by decide) (by omega) u7 x7_1 (decide ((Int.tmod (rd t478 (ji18)) 3) > 0)) [.bool (decide ((Int.tmod (rd t478 (ji18)) 3) > 0))] (fun _ => True) (fun _ => False) rfl rfl ?aP (fun _ hk => hk.elim) ?aF ?aO ?aB ?aS ?aL ?_; (case aP => exact rfl); (case aB => exact (by repeat (first | (with_reducible first | exact HB.out | apply bA | apply bN | apply b1 | refine bS ?_ (by assumption)) | exact HB.out))); (case aF => exact (fun _ _ => trivial)); (case aO => exact (pkr HO_7.out)); (case aS => exact (below_size (by repeat (first | (with_reducible first | exact HB.out | apply bA | apply bN | apply b1 | refine bS ?_ (by assumption)) | exact HB.out)))); (case aL => have := LMc21.out; omega); intro v489 w24 ho hb hg hat; rw [← Ny488.out] at ho; replace HO_3 := am (Kd.R_over' (pkr HO_3.out) (Kd.R_typed (pkr HO_7.out)) (by decide) hg); replace HO_5 := am (Kd.R_over' (pkr HO_5.out) (Kd.R_typed (pkr HO_7.out)) (by decide) hg); replace HO_6 := am (Kd.R_over' (pkr HO_6.out) (Kd.R_typed (pkr HO_7.out)) (by decide) hg); replace HO_478001 := am (Kd.R_over' (pkr HO_478001.out) (Kd.R_typed (pkr HO_7.out)) (by decide) hg); replace BK477 := am (blk_grown (pkb BK477.out) hg (Kd.R_ne HO_7.out BK477.out (by decide))); replace HB := am (hb); have HO490 := am (ho); clear HO_7; clear ho hb hg hat))
        go_roundg k1
        case measure => have := HK1.out; omega
        case rel => exact ⟨(y488), (wrap64 (x8_1 + 1)), (by first | rfl | (simp; done) | (simp [*]; done)), H', ⟨by have := HK1.out; omega⟩, ⟨by (with_reducible repeat (first | apply Kd.R_alloc | apply Kd.R_drewN | apply Kd.R_drew)); exact HO_3.out⟩, ⟨by (with_reducible repeat (first | apply Kd.R_alloc | apply Kd.R_drewN | apply Kd.R_drew)); exact HO_5.out⟩, ⟨by (with_reducible repeat (first | apply Kd.R_alloc | apply Kd.R_drewN | apply Kd.R_drew)); exact HO_6.out⟩, ⟨by (with_reducible repeat (first | apply Kd.R_alloc | apply Kd.R_drewN | apply Kd.R_drew)); exact HO490.out⟩, ⟨by (with_reducible repeat (first | apply Kd.R_alloc | apply Kd.R_drewN | apply Kd.R_drew)); exact HO_478001.out⟩, ⟨by (with_reducible repeat (first | apply kN | apply k1 | apply kA)); exact BK477.out⟩, ⟨by repeat (first | (with_reducible first | exact HB.out | apply bA | apply bN | apply b1 | refine bS ?_ (by assumption)) | exact HB.out)⟩⟩
       ·rw [if_neg c21] at H
        exact absurd H (by simp)
      ·rw [if_neg c20] at H
       exact absurd H (by simp)
     ·rw [if_neg c19] at H
      exact absurd H (by simp)
    ·rw [if_neg c17] at H
     have c17b0 : decide (x8_1 < (t481.length : Int)) = false := decide_eq_false c17; clear c17; replace H := Option.bind_eq_some_iff.mp H; obtain ⟨⟨t491, t494⟩, A250, H⟩ := H; replace H : (if t494 = (t491.length : Int) then (if t494 ≥ (t474.length : Int) then ((impl_MemSent.f t470).bind fun t496 => ((impl_IsPrefixOf.f k1 t491 t496).bind fun t499 => (if t499 = true then (if (t481.length : Int) = 0 then (some true) else (if 0 < (t481.length : Int) then (if ((rd_T33 t481 0).f0) = 0 then ((impl_Gaps.f k1 t481).bind fun t501 => (some ((t501.length : Int) == 0))) else (some true)) else (none))) else (none)))) else (none)) else (none)) = some r := H; have A25 := am A250; clear A250
     by_cases c26 : t494 = (t491.length : Int)
     ·rw [if_pos c26] at H
      have c26b0 : (t494 == (t491.length : Int)) = true := beq_iff_eq.mpr c26; have c26b1 : (t494 != (t491.length : Int)) = false := bne_eq_false_iff_eq.mpr c26; clear c26
      by_cases c27 : t494 ≥ (t474.length : Int)
      ·rw [if_pos c27] at H
       have c27b0 : decide ((t474.length : Int) ≤ t494) = true := decide_eq_true c27; clear c27; replace H := Option.bind_eq_some_iff.mp H; obtain ⟨t496, A280, H⟩ := H; replace H : ((impl_IsPrefixOf.f k1 t491 t496).bind fun t499 => (if t499 = true then (if (t481.length : Int) = 0 then (some true) else (if 0 < (t481.length : Int) then (if ((rd_T33 t481 0).f0) = 0 then ((impl_Gaps.f k1 t481).bind fun t501 => (some ((t501.length : Int) == 0))) else (some true)) else (none))) else (none))) = some r := H; have A28 := am A280; clear A280; replace H := Option.bind_eq_some_iff.mp H; obtain ⟨t499, A290, H⟩ := H; replace H : (if t499 = true then (if (t481.length : Int) = 0 then (some true) else (if 0 < (t481.length : Int) then (if ((rd_T33 t481 0).f0) = 0 then ((impl_Gaps.f k1 t481).bind fun t501 => (some ((t501.length : Int) == 0))) else (some true)) else (none))) else (none)) = some r := H; have A29 := am A290; clear A290
       by_cases c30 : t499 = true
       ·subst c30
        have H1 : (if (t481.length : Int) = 0 then (some true) else (if 0 < (t481.length : Int) then (if ((rd_T33 t481 0).f0) = 0 then ((impl_Gaps.f k1 t481).bind fun t501 => (some ((t501.length : Int) == 0))) else (some true)) else (none))) = some r := by rw [if_pos rfl] at H; exact H
        clear H; have H := H1; clear H1
        by_cases c31 : (t481.length : Int) = 0
        ·rw [if_pos c31] at H
         have c31b0 : ((t481.length : Int) == 0) = true := beq_iff_eq.mpr c31; have c31b1 : ((t481.length : Int) != 0) = false := bne_eq_false_iff_eq.mpr c31; clear c31; obtain rfl := Option.some.inj H; obtain ⟨Ao32, co32, eo32⟩ := Kd.R_slice HO_6.out; subst eo32; have hcz33_0 := pc0 BK477.out; have hcz33_1 := pc1 BK477.out; have hfz33_0 := blk_frozen BK477.out 0; have hfz33_1 := blk_frozen BK477.out 1; obtain ⟨Ao34, co34, eo34⟩ := Kd.R_slice HO_7.out; subst eo34; (try go_wp2_with (first | ((with_reducible refine gate_callee (f := 15) rfl ?_); refine goesL_ (some 46) rfl rfl Try.func15 (by kernel_rfl) rfl #[.agg #[.slice Ao10 t474.length co10], .slice Ao32 t481.length co32, .slice Ao34 x7_1.length co34] rfl (by (try simp only [List.map_toArray, List.map_cons, List.map_nil]); first | done | rfl | (simp only [List.length_drop, List.length_take]; rfl)) ?_; (with_reducible refine (impl_ReceiveAll.calls k1 _ _ t474 _ _ t481 _ _ x7_1 t491 t494 _ ?side1 ?side2 ?side3 ?side4 ?side5 ?side6 A25.out).mono ?_); (case side1 => exact pkc (Kd.R_reads' HO_478001.out).2.2); (case side2 => exact (Kd.R_reads' HO_478001.out).2.1); (case side3 => exact pkc (Kd.R_reads' HO_6.out).2.2); (case side4 => exact (Kd.R_reads' HO_6.out).2.1); (case side5 => exact pkc (Kd.R_reads' HO_7.out).2.2); (case side6 => exact (Kd.R_reads' HO_7.out).2.1); rintro e w35 ⟨v492, rfl, ho0, hb⟩; refine ⟨_, rfl, ?_⟩; replace HO_6 := am (Kd.R_below (pkr HO_6.out) hb); replace HO_7 := am (Kd.R_below (pkr HO_7.out) hb); have HO493 := am (Kd.R_lower (Kd.R_new' (Kd.R_new' (Kd.R_new' ho0 (Kd.R_lt (pkr HO_3.out))) (Kd.R_lt (pkr HO_5.out))) (Kd.R_lt (pkr HO_478001.out))) (below_size (by repeat (first | (with_reducible first | exact HB.out | apply bA | apply bN | apply b1 | refine bS ?_ (by assumption)) | exact HB.out)))); replace HO_3 := am (Kd.R_elder' (pkr HO_3.out) (Kd.R_base ho0) hb); replace HO_5 := am (Kd.R_elder' (pkr HO_5.out) (Kd.R_base ho0) hb); replace HO_478001 := am (Kd.R_elder' (pkr HO_478001.out) (Kd.R_base ho0) hb); replace BK477 := am (blk_below (pkb BK477.out) hb); replace HB := am (below_step (by repeat (first | (with_reducible first | exact HB.out | apply bA | apply bN | apply b1 | refine bS ?_ (by assumption)) | exact HB.out)) hb); (try clear hb); (try clear hb2); (try clear hk); (try clear hi); (try clear ho0)) | ((with_reducible refine gate_dst (N := 9) rfl ?_); (try (refine gate_guard (by rfl) ?_; dsimp only)); refine box_event ?hg (N := 9) ?hd (cs := #[.slice none 0 0]) (t := 26) ?hr ?_; (case hd => rfl); (case hg => rfl); (case hr => first | (go_simp; done) | (go_simp; rfl)); intro gb495 hg w36 hbox hb; replace HO_3 := am (Kd.R_below (pkr HO_3.out) hb); replace HO_5 := am (Kd.R_below (pkr HO_5.out) hb); replace HO_6 := am (Kd.R_below (pkr HO_6.out) hb); replace HO_7 := am (Kd.R_below (pkr HO_7.out) hb); replace HO_478001 := am (Kd.R_below (pkr HO_478001.out) hb); replace HO493 := am (Kd.R_below (pkr HO493.out) hb); have BK495 := am (hbox); have GW495 := am ((by rw [hg]; exact (below_size (by repeat (first | (with_reducible first | exact HB.out | apply bA | apply bN | apply b1 | refine bS ?_ (by assumption)) | exact HB.out))) : w.heap.size ≤ gb495)); replace HB := am (below_step (by repeat (first | (with_reducible first | exact HB.out | apply bA | apply bN | apply b1 | refine bS ?_ (by assumption)) | exact HB.out)) hb); have GE495 := GW495; have NB477_495 := am ((by rw [hg]; exact Nat.ne_of_lt (blk_lt (pkb BK477.out)) : gb477 ≠ gb495)); replace BK477 := am (blk_below (pkb BK477.out) hb); have NB495_477 := am NB477_495.out.symm; clear hb hbox hg; obtain ⟨Ao37, co37, eo37⟩ := Kd.R_slice HO493.out; subst eo37; have hnb38 := NB495_477.out; have hnc38 := NB477_495.out; have hcz39_0 := pc0 BK495.out; have hfz39_0 := blk_frozen BK495.out 0))); have n0_ : Aside0 (Kd.R (Kd.int .i64) 3 (w36.setCell ⟨gb495, 0, none⟩ (.slice Ao37 t491.length co37)) w.heap.size (fun k_ => some k_ ≠ (v479 : Value).ownBlock ∧ some k_ ≠ (.slice Ao10 t474.length co10 : Value).ownBlock ∧ some k_ ≠ (.slice Ao37 t491.length co37 : Value).ownBlock) (.slice Ao13 t470.length co13) t470) := ⟨by (with_reducible repeat (first | apply Kd.R_alloc | apply Kd.R_drewN | apply Kd.R_drew)); exact Kd.R_mono (Kd.R_far (p := ⟨gb495, 0, none⟩) (Kd.R_types HO_3.out BK495.out (by decide)) (fun _ hk => by first | exact hk.2 | simp_all) (.slice Ao37 t491.length co37)) (fun _ hk => ⟨hk.1.1.1, ⟨hk.1.1.2, hk.1.2⟩⟩)⟩; have n1_ : Aside0 (Kd.R (Kd.int .i64) 3 (w36.setCell ⟨gb495, 0, none⟩ (.slice Ao37 t491.length co37)) w.heap.size (fun k_ => some k_ ≠ (.slice Ao13 t470.length co13 : Value).ownBlock ∧ some k_ ≠ (.slice Ao10 t474.length co10 : Value).ownBlock ∧ some k_ ≠ (.slice Ao37 t491.length co37 : Value).ownBlock) v479 t478) := ⟨by (with_reducible repeat (first | apply Kd.R_alloc | apply Kd.R_drewN | apply Kd.R_drew)); exact Kd.R_mono (Kd.R_far (p := ⟨gb495, 0, none⟩) (Kd.R_types HO_5.out BK495.out (by decide)) (fun _ hk => by first | exact hk.2 | simp_all) (.slice Ao37 t491.length co37)) (fun _ hk => ⟨hk.1.1.1, ⟨hk.1.1.2, hk.1.2⟩⟩)⟩; have n2_ : Aside0 (Kd.R k33 33 (w36.setCell ⟨gb495, 0, none⟩ (.slice Ao37 t491.length co37)) w.heap.size (fun _ => True) (.slice Ao32 t481.length co32) t481) := ⟨by (with_reducible repeat (first | apply Kd.R_alloc | apply Kd.R_drewN | apply Kd.R_drew)); exact Kd.R_mono (Kd.R_far (p := ⟨gb495, 0, none⟩) (Kd.R_types HO_6.out BK495.out (by decide)) (fun _ hk => by first | exact hk.2 | simp_all) (.slice Ao37 t491.length co37)) (fun _ hk => trivial)⟩; have n3_ : Aside0 (Kd.R Kd.bool 4 (w36.setCell ⟨gb495, 0, none⟩ (.slice Ao37 t491.length co37)) w.heap.size (fun _ => True) (.slice Ao34 x7_1.length co34) x7_1) := ⟨by (with_reducible repeat (first | apply Kd.R_alloc | apply Kd.R_drewN | apply Kd.R_drew)); exact Kd.R_mono (Kd.R_far (p := ⟨gb495, 0, none⟩) (Kd.R_types HO_7.out BK495.out (by decide)) (fun _ hk => by first | exact hk.2 | simp_all) (.slice Ao37 t491.length co37)) (fun _ hk => trivial)⟩; have n4_ : Aside0 (Kd.R (Kd.int .i64) 3 (w36.setCell ⟨gb495, 0, none⟩ (.slice Ao37 t491.length co37)) w.heap.size (fun k_ => some k_ ≠ (.slice Ao13 t470.length co13 : Value).ownBlock ∧ some k_ ≠ (v479 : Value).ownBlock ∧ some k_ ≠ (.slice Ao37 t491.length co37 : Value).ownBlock) (.slice Ao10 t474.length co10) t474) := ⟨by (with_reducible repeat (first | apply Kd.R_alloc | apply Kd.R_drewN | apply Kd.R_drew)); exact Kd.R_mono (Kd.R_far (p := ⟨gb495, 0, none⟩) (Kd.R_types HO_478001.out BK495.out (by decide)) (fun _ hk => by first | exact hk.2 | simp_all) (.slice Ao37 t491.length co37)) (fun _ hk => ⟨hk.1.1.1, ⟨hk.1.1.2, hk.1.2⟩⟩)⟩; have n5_ : Aside0 (Kd.R (Kd.int .i64) 3 (w36.setCell ⟨gb495, 0, none⟩ (.slice Ao37 t491.length co37)) w.heap.size (fun k_ => some k_ ≠ (.slice Ao13 t470.length co13 : Value).ownBlock ∧ some k_ ≠ (v479 : Value).ownBlock ∧ some k_ ≠ (.slice Ao10 t474.length co10 : Value).ownBlock) (.slice Ao37 t491.length co37) t491) := ⟨by (with_reducible repeat (first | apply Kd.R_alloc | apply Kd.R_drewN | apply Kd.R_drew)); exact Kd.R_mono (Kd.R_far (p := ⟨gb495, 0, none⟩) (Kd.R_types HO493.out BK495.out (by decide)) (fun _ hk => by first | exact hk.2 | simp_all) (.slice Ao37 t491.length co37)) (fun _ hk => ⟨hk.1.1.1.2, ⟨hk.1.1.2, hk.1.2⟩⟩)⟩; have n6_ : Aside0 ((w36.setCell ⟨gb495, 0, none⟩ (.slice Ao37 t491.length co37)).heap[gb477]? = some (.cells #[.int .i64 t473, .slice Ao10 t474.length co10] 28 (0, 0))) := ⟨by (with_reducible repeat (first | apply kN | apply k1 | apply kA)); refine blk_far ?_ NB477_495.out _; (with_reducible repeat (first | apply kN | apply k1 | apply kA)); exact BK477.out⟩; have n7_ : Aside0 ((w36.setCell ⟨gb495, 0, none⟩ (.slice Ao37 t491.length co37)).heap[gb495]? = some (.cells #[.slice Ao37 t491.length co37] 26 (0, 0))) := ⟨by (with_reducible repeat (first | apply kN | apply k1 | apply kA)); refine blk_put (cs := #[.slice none 0 0]) ?_ 0 _ rfl; (with_reducible repeat (first | apply kN | apply k1 | apply kA)); exact BK495.out⟩; have n8_ : Aside0 (Below w.heap.size w (w36.setCell ⟨gb495, 0, none⟩ (.slice Ao37 t491.length co37))) := ⟨by repeat (first | (with_reducible first | exact HB.out | apply bA | apply bN | apply b1 | refine bS ?_ (by assumption)) | exact HB.out)⟩; (try clear HO_3); (try clear HO_5); (try clear HO_6); (try clear HO_7); (try clear HO_478001); (try clear HO493); (try clear BK477); (try clear BK495); (try clear HB); generalize (w36.setCell ⟨gb495, 0, none⟩ (.slice Ao37 t491.length co37)) = w40 at n0_ n1_ n2_ n3_ n4_ n5_ n6_ n7_ n8_ ⊢; have HO_3 := n0_; have HO_5 := n1_; have HO_6 := n2_; have HO_7 := n3_; have HO_478001 := n4_; have HO493 := n5_; have BK477 := n6_; have BK495 := n7_; have HB := n8_; clear n0_ n1_ n2_ n3_ n4_ n5_ n6_ n7_ n8_; replace HO_3 := am (Kd.R_drew HO_3.out); replace HO_5 := am (Kd.R_drew HO_5.out); replace HO_6 := am (Kd.R_drew HO_6.out); replace HO_7 := am (Kd.R_drew HO_7.out); replace HO_478001 := am (Kd.R_drew HO_478001.out); replace HO493 := am (Kd.R_drew HO493.out); replace BK477 := am (blk_drew BK477.out); replace BK495 := am (blk_drew BK495.out); replace HB := am (below_drew1 HB.out); refine start_ (n := 39) (S := fun w' => w'.cell? ⟨gb495, 0, none⟩ = some (.slice Ao37 t491.length co37) ∧ w'.cell? ⟨gb477, 0, none⟩ = some (.int .i64 t473) ∧ w'.cell? ⟨gb477, 1, none⟩ = some (.slice Ao10 t474.length co10)) (ds := []) #[false, false, false, false, false, false, false, false, false, false, false, false, false, false, false, false, false, false, false, false, false, false, false, false, false, false, false, false, false, false, false, false, false, false, false, false, false, false, false] (by kernel_rfl) rfl rfl ⟨(blk_cell BK495.out 0).trans rfl, (blk_cell BK477.out 0).trans rfl, (blk_cell BK477.out 1).trans rfl⟩ (fun hHeld => ?_); refine with_tabW laws_FnInOrder.tab12 laws_FnInOrder.bits12 (fun HT_ HW_ => ?_); generalize w40.drew = w41 at HO_3 HO_5 HO_6 HO_7 HO_478001 HO493 BK477 BK495 HB hHeld ⊢; refine pure_ (i := 0) (N := some 49) (v := ?_) (a' := ?_) #[true, false, false, false, false, false, false, false, false, false, false, false, false, false, false, false, false, false, false, false, false, false, false, false, false, false, false, false, false, false, false, false, false, false, false, false, false, false, false] rfl rfl (any_of HT_.out (by kernel_rfl)) (fun _ _ _ h => h) (Or.inl ⟨by rfl, ?_⟩) ?_ ?_; rotate_left
         ·intro w'
          go_simp; with_reducible rfl
         rotate_left
         ·simp only [Act.put, sa, s0, s1, i64_w, i32_w]
          rfl
         refine pure_ (i := 1) (N := some 50) (v := ?_) (a' := ?_) #[true, true, false, false, false, false, false, false, false, false, false, false, false, false, false, false, false, false, false, false, false, false, false, false, false, false, false, false, false, false, false, false, false, false, false, false, false, false, false] rfl rfl (any_of HT_.out (by kernel_rfl)) (fun _ _ _ h => h) (Or.inl ⟨by rfl, ?_⟩) ?_ ?_; rotate_left
         ·intro w'
          go_simp; with_reducible rfl
         rotate_left
         ·simp only [Act.put, sa, s0, s1, i64_w, i32_w]
          rfl
         refine take_ (i := 2) (N := some 51) (v := ?_) (a' := ?_) #[true, true, true, false, false, false, false, false, false, false, false, false, false, false, false, false, false, false, false, false, false, false, false, false, false, false, false, false, false, false, false, false, false, false, false, false, false, false, false] rfl rfl (take_ofW HT_.out HW_.out (by kernel_rfl)) (fun _ _ _ h => h) (Or.inl ⟨by rfl, ?_⟩) hHeld ?_ ?_; rotate_left
         ·rintro w' ⟨s0, s1, s2⟩
          go_simp; with_reducible rfl
         rotate_left
         ·simp only [Act.put, sa, s0, s1, i64_w, i32_w]
          rfl
         refine pure_ (i := 3) (N := some 52) (v := ?_) (a' := ?_) #[true, true, true, true, false, false, false, false, false, false, false, false, false, false, false, false, false, false, false, false, false, false, false, false, false, false, false, false, false, false, false, false, false, false, false, false, false, false, false] rfl rfl (any_of HT_.out (by kernel_rfl)) (fun _ _ _ h => h) (Or.inl ⟨by rfl, ?_⟩) ?_ ?_; rotate_left
         ·intro w'
          go_simp; with_reducible rfl
         rotate_left
         ·simp only [Act.put, sa, s0, s1, i64_w, i32_w]
          rfl
         refine pure_ (i := 4) (N := some 53) (v := ?_) (a' := ?_) #[true, true, true, true, true, false, false, false, false, false, false, false, false, false, false, false, false, false, false, false, false, false, false, false, false, false, false, false, false, false, false, false, false, false, false, false, false, false, false] rfl rfl (any_of HT_.out (by kernel_rfl)) (fun _ _ _ h => h) (Or.inl ⟨by rfl, ?_⟩) ?_ ?_; rotate_left
         ·intro w'
          go_simp; with_reducible rfl
         rotate_left
         ·simp only [Act.put, sa, s0, s1, i64_w, i32_w]
          rfl
         refine pure_ (i := 5) (N := some 54) (v := ?_) (a' := ?_) #[true, true, true, true, true, true, false, false, false, false, false, false, false, false, false, false, false, false, false, false, false, false, false, false, false, false, false, false, false, false, false, false, false, false, false, false, false, false, false] rfl rfl (any_of HT_.out (by kernel_rfl)) (fun _ _ _ h => h) (Or.inl ⟨by rfl, ?_⟩) ?_ ?_; rotate_left
         ·intro w'
          go_simp; with_reducible rfl
         rotate_left
         ·simp only [Act.put, sa, s0, s1, i64_w, i32_w]
          rfl
         refine pure_ (i := 6) (N := some 55) (v := ?_) (a' := ?_) #[true, true, true, true, true, true, true, false, false, false, false, false, false, false, false, false, false, false, false, false, false, false, false, false, false, false, false, false, false, false, false, false, false, false, false, false, false, false, false] rfl rfl (any_of HT_.out (by kernel_rfl)) (fun _ _ _ h => h) (Or.inl ⟨by rfl, ?_⟩) ?_ ?_; rotate_left
         ·intro w'
          go_simp; with_reducible rfl
         rotate_left
         ·simp only [Act.put, sa, s0, s1, i64_w, i32_w]
          rfl
         refine pure_ (i := 7) (N := some 56) (v := ?_) (a' := ?_) #[true, true, true, true, true, true, true, true, false, false, false, false, false, false, false, false, false, false, false, false, false, false, false, false, false, false, false, false, false, false, false, false, false, false, false, false, false, false, false] rfl rfl (any_of HT_.out (by kernel_rfl)) (fun _ _ _ h => h) (Or.inl ⟨by rfl, ?_⟩) ?_ ?_; rotate_left
         ·intro w'
          go_simp; with_reducible rfl
         rotate_left
         ·simp only [Act.put, sa, s0, s1, i64_w, i32_w]
          rfl
         refine pure_ (i := 8) (N := some 57) (v := ?_) (a' := ?_) #[true, true, true, true, true, true, true, true, true, false, false, false, false, false, false, false, false, false, false, false, false, false, false, false, false, false, false, false, false, false, false, false, false, false, false, false, false, false, false] rfl rfl (any_of HT_.out (by kernel_rfl)) (fun _ _ _ h => h) (Or.inl ⟨by rfl, ?_⟩) ?_ ?_; rotate_left
         ·intro w'
          go_simp; with_reducible rfl
         rotate_left
         ·simp only [Act.put, sa, s0, s1, i64_w, i32_w]
          rfl
         refine take_ (i := 9) (N := some 58) (v := ?_) (a' := ?_) #[true, true, true, true, true, true, true, true, true, true, false, false, false, false, false, false, false, false, false, false, false, false, false, false, false, false, false, false, false, false, false, false, false, false, false, false, false, false, false] rfl rfl (take_ofW HT_.out HW_.out (by kernel_rfl)) (fun _ _ _ h => h) (Or.inl ⟨by rfl, ?_⟩) hHeld ?_ ?_; rotate_left
         ·rintro w' ⟨s0, s1, s2⟩
          go_simp; with_reducible rfl
         rotate_left
         ·simp only [Act.put, sa, s0, s1, i64_w, i32_w]
          rfl
         refine pure_ (i := 10) (N := some 59) (v := ?_) (a' := ?_) #[true, true, true, true, true, true, true, true, true, true, true, false, false, false, false, false, false, false, false, false, false, false, false, false, false, false, false, false, false, false, false, false, false, false, false, false, false, false, false] rfl rfl (any_of HT_.out (by kernel_rfl)) (fun _ _ _ h => h) (Or.inl ⟨by rfl, ?_⟩) ?_ ?_; rotate_left
         ·intro w'
          go_simp; with_reducible rfl
         rotate_left
         ·simp only [Act.put, sa, s0, s1, i64_w, i32_w]
          rfl
         refine pure_ (i := 11) (N := some 60) (v := ?_) (a' := ?_) #[true, true, true, true, true, true, true, true, true, true, true, true, false, false, false, false, false, false, false, false, false, false, false, false, false, false, false, false, false, false, false, false, false, false, false, false, false, false, false] rfl rfl (any_of HT_.out (by kernel_rfl)) (fun _ _ _ h => h) (Or.inl ⟨by rfl, ?_⟩) ?_ ?_; rotate_left
         ·intro w'
          go_simp; with_reducible rfl
         rotate_left
         ·simp only [Act.put, sa, s0, s1, i64_w, i32_w]
          rfl
         refine pure_ (i := 12) (N := some 61) (v := ?_) (a' := ?_) #[true, true, true, true, true, true, true, true, true, true, true, true, true, false, false, false, false, false, false, false, false, false, false, false, false, false, false, false, false, false, false, false, false, false, false, false, false, false, false] rfl rfl (any_of HT_.out (by kernel_rfl)) (fun _ _ _ h => h) (Or.inl ⟨by rfl, ?_⟩) ?_ ?_; rotate_left
         ·intro w'
          go_simp; with_reducible rfl
         rotate_left
         ·simp only [Act.put, sa, s0, s1, i64_w, i32_w]
          rfl
         refine pure_ (i := 13) (N := some 62) (v := ?_) (a' := ?_) #[true, true, true, true, true, true, true, true, true, true, true, true, true, true, false, false, false, false, false, false, false, false, false, false, false, false, false, false, false, false, false, false, false, false, false, false, false, false, false] rfl rfl (any_of HT_.out (by kernel_rfl)) (fun _ _ _ h => h) (Or.inl ⟨by rfl, ?_⟩) ?_ ?_; rotate_left
         ·intro w'
          go_simp; with_reducible rfl
         rotate_left
         ·simp only [Act.put, sa, s0, s1, i64_w, i32_w]
          rfl
         refine pure_ (i := 14) (N := some 63) (v := ?_) (a' := ?_) #[true, true, true, true, true, true, true, true, true, true, true, true, true, true, true, false, false, false, false, false, false, false, false, false, false, false, false, false, false, false, false, false, false, false, false, false, false, false, false] rfl rfl (any_of HT_.out (by kernel_rfl)) (fun _ _ _ h => h) (Or.inl ⟨by rfl, ?_⟩) ?_ ?_; rotate_left
         ·intro w'
          go_simp; with_reducible rfl
         rotate_left
         ·simp only [Act.put, sa, s0, s1, i64_w, i32_w]
          rfl
         refine pure_ (i := 16) (N := some 65) (v := ?_) (a' := ?_) #[true, true, true, true, true, true, true, true, true, true, true, true, true, true, true, false, true, false, false, false, false, false, false, false, false, false, false, false, false, false, false, false, false, false, false, false, false, false, false] rfl rfl (any_of HT_.out (by kernel_rfl)) (fun _ _ _ h => h) (Or.inl ⟨by rfl, ?_⟩) ?_ ?_; rotate_left
         ·intro w'
          go_simp; with_reducible rfl
         rotate_left
         ·simp only [Act.put, sa, s0, s1, i64_w, i32_w]
          rfl
         refine take_ (i := 15) (N := some 64) (v := ?_) (a' := ?_) #[true, true, true, true, true, true, true, true, true, true, true, true, true, true, true, true, true, false, false, false, false, false, false, false, false, false, false, false, false, false, false, false, false, false, false, false, false, false, false] rfl rfl (take_ofW HT_.out HW_.out (by kernel_rfl)) (fun _ _ _ h => h) (Or.inl ⟨by rfl, ?_⟩) hHeld ?_ ?_; rotate_left
         ·rintro w' ⟨s0, s1, s2⟩
          go_simp; with_reducible rfl
         rotate_left
         ·simp only [Act.put, sa, s0, s1, i64_w, i32_w]
          rfl
         refine one_ (i := 17) (N := some 66) #[true, true, true, true, true, true, true, true, true, true, true, true, true, true, true, true, true, true, false, false, false, false, false, false, false, false, false, false, false, false, false, false, false, false, false, false, false, false, false] rfl rfl (one_of HT_.out (by kernel_rfl)) (by decide) (fun K hK => ?_); refine goes_ Try.func17 (by kernel_rfl) rfl #[.slice Ao13 t470.length co13] (by rfl) rfl rfl (by (try simp only [List.map_toArray, List.map_cons, List.map_nil]); first | done | rfl | (simp only [List.length_drop, List.length_take]; rfl)) ?_; (with_reducible refine (impl_MemSent.calls _ _ t470 t496 _ ?side1 ?side2 A28.out).mono ?_); (case side1 => exact pkc (Kd.R_reads' HO_3.out).2.2); (case side2 => exact (Kd.R_reads' HO_3.out).2.1); rintro e w42 ⟨v497, rfl, ho0, hb⟩; refine ⟨_, rfl, ?_⟩; replace HO_6 := am (Kd.R_below (pkr HO_6.out) hb); replace HO_7 := am (Kd.R_below (pkr HO_7.out) hb); have HO498 := am (Kd.R_lower (Kd.R_new' (Kd.R_new' (Kd.R_new' (Kd.R_new' ho0 (Kd.R_lt (pkr HO_3.out))) (Kd.R_lt (pkr HO_5.out))) (Kd.R_lt (pkr HO_478001.out))) (Kd.R_lt (pkr HO493.out))) (below_size (by repeat (first | (with_reducible first | exact HB.out | apply bA | apply bN | apply b1 | refine bS ?_ (by assumption)) | exact HB.out)))); replace HO_3 := am (Kd.R_elder' (pkr HO_3.out) (Kd.R_base ho0) hb); replace HO_5 := am (Kd.R_elder' (pkr HO_5.out) (Kd.R_base ho0) hb); replace HO_478001 := am (Kd.R_elder' (pkr HO_478001.out) (Kd.R_base ho0) hb); replace HO493 := am (Kd.R_elder' (pkr HO493.out) (Kd.R_base ho0) hb); replace BK477 := am (blk_below (pkb BK477.out) hb); replace BK495 := am (blk_below (pkb BK495.out) hb); replace HB := am (below_step (by repeat (first | (with_reducible first | exact HB.out | apply bA | apply bN | apply b1 | refine bS ?_ (by assumption)) | exact HB.out)) hb); (try clear hb); (try clear hb2); (try clear hk); (try clear hi); (try clear ho0); obtain ⟨Ao43, co43, eo43⟩ := Kd.R_slice HO498.out; (first | subst eo43 | (injection eo43 with f1_ f2_ f3_; have f4_ := f1_.symm; have f5_ := f3_.symm; clear f1_ f2_ f3_; subst f4_; subst f5_)); refine hK.out _ _ ⟨(blk_cell BK495.out 0).trans rfl, (blk_cell BK477.out 0).trans rfl, (blk_cell BK477.out 1).trans rfl⟩ (fun hHeld => ?_); clear hK K; refine norm_ (a' := ?_) ?_ ?_; rotate_left
         ·show Act.put _ (some 66) _ = _
          simp only [Act.put, sa, s0, s1, i64_w, i32_w]; rfl
         refine one_ (i := 18) (N := some 67) #[true, true, true, true, true, true, true, true, true, true, true, true, true, true, true, true, true, true, true, false, false, false, false, false, false, false, false, false, false, false, false, false, false, false, false, false, false, false, false] rfl rfl (one_of HT_.out (by kernel_rfl)) (by decide) (fun K hK => ?_); refine goes_ Try.func16 (by kernel_rfl) rfl #[.slice Ao37 t491.length co37, .slice Ao43 t496.length co43] (by rfl) rfl rfl (by (try simp only [List.map_toArray, List.map_cons, List.map_nil]); first | done | rfl | (simp only [List.length_drop, List.length_take]; rfl)) ?_; (with_reducible refine (impl_IsPrefixOf.calls k1 _ _ t491 _ _ t496 true _ ?side1 ?side2 ?side3 ?side4 A29.out).mono ?_); (case side1 => exact pkc (Kd.R_reads' HO493.out).2.2); (case side2 => exact (Kd.R_reads' HO493.out).2.1); (case side3 => exact pkc (Kd.R_reads' HO498.out).2.2); (case side4 => exact (Kd.R_reads' HO498.out).2.1); rintro e w' ⟨rfl, ⟨nd, rfl⟩⟩; refine ⟨_, rfl, ?_⟩; refine hK.out _ _ ⟨(blk_cell BK495.out 0).trans rfl, (blk_cell BK477.out 0).trans rfl, (blk_cell BK477.out 1).trans rfl⟩ (fun hHeld => ?_); clear hK K; refine norm_ (a' := ?_) ?_ ?_; rotate_left
         ·show Act.put _ (some 67) _ = _
          simp only [Act.put, sa, s0, s1, i64_w, i32_w]; rfl
         refine pure_ (i := 19) (N := some 68) (v := ?_) (a' := ?_) #[true, true, true, true, true, true, true, true, true, true, true, true, true, true, true, true, true, true, true, true, false, false, false, false, false, false, false, false, false, false, false, false, false, false, false, false, false, false, false] rfl rfl (any_of HT_.out (by kernel_rfl)) (fun _ _ _ h => h) (Or.inl ⟨by rfl, ?_⟩) ?_ ?_; rotate_left
         ·intro w'
          go_simp; with_reducible rfl
         rotate_left
         ·simp only [Act.put, sa, s0, s1, i64_w, i32_w]
          rfl
         refine pure_ (i := 20) (N := some 69) (v := ?_) (a' := ?_) #[true, true, true, true, true, true, true, true, true, true, true, true, true, true, true, true, true, true, true, true, true, false, false, false, false, false, false, false, false, false, false, false, false, false, false, false, false, false, false] rfl rfl (any_of HT_.out (by kernel_rfl)) (fun _ _ _ h => h) (Or.inl ⟨by rfl, ?_⟩) ?_ ?_; rotate_left
         ·intro w'
          go_simp; with_reducible rfl
         rotate_left
         ·simp only [Act.put, sa, s0, s1, i64_w, i32_w]
          rfl
         refine pure_ (i := 21) (N := some 70) (v := ?_) (a' := ?_) #[true, true, true, true, true, true, true, true, true, true, true, true, true, true, true, true, true, true, true, true, true, true, false, false, false, false, false, false, false, false, false, false, false, false, false, false, false, false, false] rfl rfl (any_of HT_.out (by kernel_rfl)) (fun _ _ _ h => h) (Or.inl ⟨by rfl, ?_⟩) ?_ ?_; rotate_left
         ·intro w'
          go_simp; with_reducible rfl
         rotate_left
         ·simp only [Act.put, sa, s0, s1, i64_w, i32_w]
          rfl
         refine pure_ (i := 22) (N := some 71) (v := ?_) (a' := ?_) #[true, true, true, true, true, true, true, true, true, true, true, true, true, true, true, true, true, true, true, true, true, true, true, false, false, false, false, false, false, false, false, false, false, false, false, false, false, false, false] rfl rfl (any_of HT_.out (by kernel_rfl)) (fun _ _ _ h => h) (Or.inl ⟨by rfl, ?_⟩) ?_ ?_; rotate_left
         ·intro w'
          go_simp; with_reducible rfl
         rotate_left
         ·simp only [Act.put, sa, s0, s1, i64_w, i32_w]
          rfl
         refine pure_ (i := 23) (N := some 72) (v := ?_) (a' := ?_) #[true, true, true, true, true, true, true, true, true, true, true, true, true, true, true, true, true, true, true, true, true, true, true, true, false, false, false, false, false, false, false, false, false, false, false, false, false, false, false] rfl rfl (any_of HT_.out (by kernel_rfl)) (fun _ _ _ h => h) (Or.inl ⟨by rfl, ?_⟩) ?_ ?_; rotate_left
         ·intro w'
          go_simp; with_reducible rfl
         rotate_left
         ·simp only [Act.put, sa, s0, s1, i64_w, i32_w]
          rfl
         refine pure_ (i := 24) (N := some 73) (v := ?_) (a' := ?_) #[true, true, true, true, true, true, true, true, true, true, true, true, true, true, true, true, true, true, true, true, true, true, true, true, true, false, false, false, false, false, false, false, false, false, false, false, false, false, false] rfl rfl (any_of HT_.out (by kernel_rfl)) (fun _ _ _ h => h) (Or.inl ⟨by rfl, ?_⟩) ?_ ?_; rotate_left
         ·intro w'
          go_simp; with_reducible rfl
         rotate_left
         ·simp only [Act.put, sa, s0, s1, i64_w, i32_w]
          rfl
         refine pure_ (i := 25) (N := some 74) (v := undef) (a' := ?_) #[true, true, true, true, true, true, true, true, true, true, true, true, true, true, true, true, true, true, true, true, true, true, true, true, true, true, false, false, false, false, false, false, false, false, false, false, false, false, false] rfl rfl (any_of HT_.out (by kernel_rfl)) (fun _ _ _ h => h) (Or.inr ⟨by rfl, rfl⟩) ?_ ?_; rotate_left
         ·simp only [Act.put, sa, s0, s1, i64_w, i32_w]
          rfl
         refine pure_ (i := 26) (N := some 75) (v := undef) (a' := ?_) #[true, true, true, true, true, true, true, true, true, true, true, true, true, true, true, true, true, true, true, true, true, true, true, true, true, true, true, false, false, false, false, false, false, false, false, false, false, false, false] rfl rfl (any_of HT_.out (by kernel_rfl)) (fun _ _ _ h => h) (Or.inr ⟨by rfl, rfl⟩) ?_ ?_; rotate_left
         ·simp only [Act.put, sa, s0, s1, i64_w, i32_w]
          rfl
         refine pure_ (i := 27) (N := some 76) (v := undef) (a' := ?_) #[true, true, true, true, true, true, true, true, true, true, true, true, true, true, true, true, true, true, true, true, true, true, true, true, true, true, true, true, false, false, false, false, false, false, false, false, false, false, false] rfl rfl (any_of HT_.out (by kernel_rfl)) (fun _ _ _ h => h) (Or.inr ⟨by rfl, rfl⟩) ?_ ?_; rotate_left
         ·simp only [Act.put, sa, s0, s1, i64_w, i32_w]
          rfl
         refine pure_ (i := 28) (N := some 77) (v := undef) (a' := ?_) #[true, true, true, true, true, true, true, true, true, true, true, true, true, true, true, true, true, true, true, true, true, true, true, true, true, true, true, true, true, false, false, false, false, false, false, false, false, false, false] rfl rfl (any_of HT_.out (by kernel_rfl)) (fun _ _ _ h => h) (Or.inr ⟨by rfl, rfl⟩) ?_ ?_; rotate_left
         ·simp only [Act.put, sa, s0, s1, i64_w, i32_w]
          rfl
         refine pure_ (i := 29) (N := some 78) (v := undef) (a' := ?_) #[true, true, true, true, true, true, true, true, true, true, true, true, true, true, true, true, true, true, true, true, true, true, true, true, true, true, true, true, true, true, false, false, false, false, false, false, false, false, false] rfl rfl (any_of HT_.out (by kernel_rfl)) (fun _ _ _ h => h) (Or.inr ⟨by rfl, rfl⟩) ?_ ?_; rotate_left
         ·simp only [Act.put, sa, s0, s1, i64_w, i32_w]
          rfl
         refine pure_ (i := 30) (N := some 79) (v := ?_) (a' := ?_) #[true, true, true, true, true, true, true, true, true, true, true, true, true, true, true, true, true, true, true, true, true, true, true, true, true, true, true, true, true, true, true, false, false, false, false, false, false, false, false] rfl rfl (any_of HT_.out (by kernel_rfl)) (fun _ _ _ h => h) (Or.inl ⟨by rfl, ?_⟩) ?_ ?_; rotate_left
         ·intro w'
          go_simp; with_reducible rfl
         rotate_left
         ·simp only [Act.put, sa, s0, s1, i64_w, i32_w]
          rfl
         refine pure_ (i := 31) (N := some 80) (v := ?_) (a' := ?_) #[true, true, true, true, true, true, true, true, true, true, true, true, true, true, true, true, true, true, true, true, true, true, true, true, true, true, true, true, true, true, true, true, false, false, false, false, false, false, false] rfl rfl (any_of HT_.out (by kernel_rfl)) (fun _ _ _ h => h) (Or.inl ⟨by rfl, ?_⟩) ?_ ?_; rotate_left
         ·intro w'
          go_simp; with_reducible rfl
         rotate_left
         ·simp only [Act.put, sa, s0, s1, i64_w, i32_w]
          rfl
         refine pure_ (i := 32) (N := some 81) (v := undef) (a' := ?_) #[true, true, true, true, true, true, true, true, true, true, true, true, true, true, true, true, true, true, true, true, true, true, true, true, true, true, true, true, true, true, true, true, true, false, false, false, false, false, false] rfl rfl (any_of HT_.out (by kernel_rfl)) (fun _ _ _ h => h) (Or.inr ⟨by rfl, rfl⟩) ?_ ?_; rotate_left
         ·simp only [Act.put, sa, s0, s1, i64_w, i32_w]
          rfl
         refine pure_ (i := 33) (N := some 82) (v := undef) (a' := ?_) #[true, true, true, true, true, true, true, true, true, true, true, true, true, true, true, true, true, true, true, true, true, true, true, true, true, true, true, true, true, true, true, true, true, true, false, false, false, false, false] rfl rfl (any_of HT_.out (by kernel_rfl)) (fun _ _ _ h => h) (Or.inr ⟨by rfl, rfl⟩) ?_ ?_; rotate_left
         ·simp only [Act.put, sa, s0, s1, i64_w, i32_w]
          rfl
         refine pure_ (i := 34) (N := some 83) (v := undef) (a' := ?_) #[true, true, true, true, true, true, true, true, true, true, true, true, true, true, true, true, true, true, true, true, true, true, true, true, true, true, true, true, true, true, true, true, true, true, true, false, false, false, false] rfl rfl (any_of HT_.out (by kernel_rfl)) (fun _ _ _ h => h) (Or.inr ⟨by rfl, rfl⟩) ?_ ?_; rotate_left
         ·simp only [Act.put, sa, s0, s1, i64_w, i32_w]
          rfl
         refine pure_ (i := 35) (N := some 84) (v := undef) (a' := ?_) #[true, true, true, true, true, true, true, true, true, true, true, true, true, true, true, true, true, true, true, true, true, true, true, true, true, true, true, true, true, true, true, true, true, true, true, true, false, false, false] rfl rfl (any_of HT_.out (by kernel_rfl)) (fun _ _ _ h => h) (Or.inr ⟨by rfl, rfl⟩) ?_ ?_; rotate_left
         ·simp only [Act.put, sa, s0, s1, i64_w, i32_w]
          rfl
         refine pure_ (i := 36) (N := some 85) (v := ?_) (a' := ?_) #[true, true, true, true, true, true, true, true, true, true, true, true, true, true, true, true, true, true, true, true, true, true, true, true, true, true, true, true, true, true, true, true, true, true, true, true, true, false, false] rfl rfl (any_of HT_.out (by kernel_rfl)) (fun _ _ _ h => h) (Or.inl ⟨by rfl, ?_⟩) ?_ ?_; rotate_left
         ·intro w'
          go_simp; with_reducible rfl
         rotate_left
         ·simp only [Act.put, sa, s0, s1, i64_w, i32_w]
          rfl
         refine pure_ (i := 37) (N := some 86) (v := ?_) (a' := ?_) #[true, true, true, true, true, true, true, true, true, true, true, true, true, true, true, true, true, true, true, true, true, true, true, true, true, true, true, true, true, true, true, true, true, true, true, true, true, true, false] rfl rfl (any_of HT_.out (by kernel_rfl)) (fun _ _ _ h => h) (Or.inl ⟨by rfl, ?_⟩) ?_ ?_; rotate_left
         ·intro w'
          go_simp; with_reducible rfl
         rotate_left
         ·simp only [Act.put, sa, s0, s1, i64_w, i32_w]
          rfl
         refine pure_ (i := 38) (N := some 2) (v := ?_) (a' := ?_) #[true, true, true, true, true, true, true, true, true, true, true, true, true, true, true, true, true, true, true, true, true, true, true, true, true, true, true, true, true, true, true, true, true, true, true, true, true, true, true] rfl rfl (any_of HT_.out (by kernel_rfl)) (fun _ _ _ h => h) (Or.inl ⟨by rfl, ?_⟩) ?_ ?_; rotate_left
         ·intro w'
          go_simp; with_reducible rfl
         rotate_left
         ·simp only [Act.put, sa, s0, s1, i64_w, i32_w]
          rfl
         refine done_ (done_of HT_.out (by kernel_rfl)) ?_; try go_wp2
         go_ret
         exact ⟨by first | rfl | (simp [errW_none, errW_some] <;> rfl) | (simp [*, errW_none, errW_some] <;> rfl), by repeat (first | (with_reducible first | exact HB.out | apply bA | apply bN | apply b1 | refine bS ?_ (by assumption)) | exact HB.out)⟩
        ·rw [if_neg c31] at H
         have c31b0 : ((t481.length : Int) == 0) = false := beq_eq_false_iff_ne.mpr c31; have c31b1 : ((t481.length : Int) != 0) = true := bne_iff_ne.mpr c31
         have c31b2 : ¬ (t481 = []) := fun h_ => c31 (by rw [h_]; rfl)
         by_cases c44 : 0 < (t481.length : Int)
         ·rw [if_pos c44] at H
          have c44b0 : decide (0 < (t481.length : Int)) = true := decide_eq_true c44; have c44b1 : decide (0 < t481.length) = true := decide_eq_true (by omega); clear c44
          by_cases c45 : ((rd_T33 t481 0).f0) = 0
          ·rw [if_pos c45] at H
           have c45b0 : (((rd_T33 t481 0).f0) == 0) = true := beq_iff_eq.mpr c45; have c45b1 : (((rd_T33 t481 0).f0) != 0) = false := bne_eq_false_iff_eq.mpr c45; clear c45; replace H := Option.bind_eq_some_iff.mp H; obtain ⟨t501, A460, H⟩ := H; replace H : (some ((t501.length : Int) == 0)) = some r := H; have A46 := am A460; clear A460; obtain rfl := Option.some.inj H; obtain ⟨Ao47, co47, eo47⟩ := Kd.R_slice HO_6.out; subst eo47; have hcz48_0 := pc0 BK477.out; have hcz48_1 := pc1 BK477.out; have hfz48_0 := blk_frozen BK477.out 0; have hfz48_1 := blk_frozen BK477.out 1; obtain ⟨Ao49, co49, eo49⟩ := Kd.R_slice HO_7.out; subst eo49; (try go_wp2_with (first | ((with_reducible refine gate_callee (f := 15) rfl ?_); refine goesL_ (some 46) rfl rfl Try.func15 (by kernel_rfl) rfl #[.agg #[.slice Ao10 t474.length co10], .slice Ao47 t481.length co47, .slice Ao49 x7_1.length co49] rfl (by (try simp only [List.map_toArray, List.map_cons, List.map_nil]); first | done | rfl | (simp only [List.length_drop, List.length_take]; rfl)) ?_; (with_reducible refine (impl_ReceiveAll.calls k1 _ _ t474 _ _ t481 _ _ x7_1 t491 t494 _ ?side1 ?side2 ?side3 ?side4 ?side5 ?side6 A25.out).mono ?_); (case side1 => exact pkc (Kd.R_reads' HO_478001.out).2.2); (case side2 => exact (Kd.R_reads' HO_478001.out).2.1); (case side3 => exact pkc (Kd.R_reads' HO_6.out).2.2); (case side4 => exact (Kd.R_reads' HO_6.out).2.1); (case side5 => exact pkc (Kd.R_reads' HO_7.out).2.2); (case side6 => exact (Kd.R_reads' HO_7.out).2.1); rintro e w50 ⟨v492, rfl, ho0, hb⟩; refine ⟨_, rfl, ?_⟩; replace HO_6 := am (Kd.R_below (pkr HO_6.out) hb); replace HO_7 := am (Kd.R_below (pkr HO_7.out) hb); have HO493 := am (Kd.R_lower (Kd.R_new' (Kd.R_new' (Kd.R_new' ho0 (Kd.R_lt (pkr HO_3.out))) (Kd.R_lt (pkr HO_5.out))) (Kd.R_lt (pkr HO_478001.out))) (below_size (by repeat (first | (with_reducible first | exact HB.out | apply bA | apply bN | apply b1 | refine bS ?_ (by assumption)) | exact HB.out)))); replace HO_3 := am (Kd.R_elder' (pkr HO_3.out) (Kd.R_base ho0) hb); replace HO_5 := am (Kd.R_elder' (pkr HO_5.out) (Kd.R_base ho0) hb); replace HO_478001 := am (Kd.R_elder' (pkr HO_478001.out) (Kd.R_base ho0) hb); replace BK477 := am (blk_below (pkb BK477.out) hb); replace HB := am (below_step (by repeat (first | (with_reducible first | exact HB.out | apply bA | apply bN | apply b1 | refine bS ?_ (by assumption)) | exact HB.out)) hb); (try clear hb); (try clear hb2); (try clear hk); (try clear hi); (try clear ho0)) | ((with_reducible refine gate_dst (N := 9) rfl ?_); (try (refine gate_guard (by rfl) ?_; dsimp only)); refine box_event ?hg (N := 9) ?hd (cs := #[.slice none 0 0]) (t := 26) ?hr ?_; (case hd => rfl); (case hg => rfl); (case hr => first | (go_simp; done) | (go_simp; rfl)); intro gb495 hg w51 hbox hb; replace HO_3 := am (Kd.R_below (pkr HO_3.out) hb); replace HO_5 := am (Kd.R_below (pkr HO_5.out) hb); replace HO_6 := am (Kd.R_below (pkr HO_6.out) hb); replace HO_7 := am (Kd.R_below (pkr HO_7.out) hb); replace HO_478001 := am (Kd.R_below (pkr HO_478001.out) hb); replace HO493 := am (Kd.R_below (pkr HO493.out) hb); have BK495 := am (hbox); have GW495 := am ((by rw [hg]; exact (below_size (by repeat (first | (with_reducible first | exact HB.out | apply bA | apply bN | apply b1 | refine bS ?_ (by assumption)) | exact HB.out))) : w.heap.size ≤ gb495)); replace HB := am (below_step (by repeat (first | (with_reducible first | exact HB.out | apply bA | apply bN | apply b1 | refine bS ?_ (by assumption)) | exact HB.out)) hb); have GE495 := GW495; have NB477_495 := am ((by rw [hg]; exact Nat.ne_of_lt (blk_lt (pkb BK477.out)) : gb477 ≠ gb495)); replace BK477 := am (blk_below (pkb BK477.out) hb); have NB495_477 := am NB477_495.out.symm; clear hb hbox hg; obtain ⟨Ao52, co52, eo52⟩ := Kd.R_slice HO493.out; subst eo52; have hnb53 := NB495_477.out; have hnc53 := NB477_495.out; have hcz54_0 := pc0 BK495.out; have hfz54_0 := blk_frozen BK495.out 0))); have n0_ : Aside0 (Kd.R (Kd.int .i64) 3 (w51.setCell ⟨gb495, 0, none⟩ (.slice Ao52 t491.length co52)) w.heap.size (fun k_ => some k_ ≠ (v479 : Value).ownBlock ∧ some k_ ≠ (.slice Ao10 t474.length co10 : Value).ownBlock ∧ some k_ ≠ (.slice Ao52 t491.length co52 : Value).ownBlock) (.slice Ao13 t470.length co13) t470) := ⟨by (with_reducible repeat (first | apply Kd.R_alloc | apply Kd.R_drewN | apply Kd.R_drew)); exact Kd.R_mono (Kd.R_far (p := ⟨gb495, 0, none⟩) (Kd.R_types HO_3.out BK495.out (by decide)) (fun _ hk => by first | exact hk.2 | simp_all) (.slice Ao52 t491.length co52)) (fun _ hk => ⟨hk.1.1.1, ⟨hk.1.1.2, hk.1.2⟩⟩)⟩; have n1_ : Aside0 (Kd.R (Kd.int .i64) 3 (w51.setCell ⟨gb495, 0, none⟩ (.slice Ao52 t491.length co52)) w.heap.size (fun k_ => some k_ ≠ (.slice Ao13 t470.length co13 : Value).ownBlock ∧ some k_ ≠ (.slice Ao10 t474.length co10 : Value).ownBlock ∧ some k_ ≠ (.slice Ao52 t491.length co52 : Value).ownBlock) v479 t478) := ⟨by (with_reducible repeat (first | apply Kd.R_alloc | apply Kd.R_drewN | apply Kd.R_drew)); exact Kd.R_mono (Kd.R_far (p := ⟨gb495, 0, none⟩) (Kd.R_types HO_5.out BK495.out (by decide)) (fun _ hk => by first | exact hk.2 | simp_all) (.slice Ao52 t491.length co52)) (fun _ hk => ⟨hk.1.1.1, ⟨hk.1.1.2, hk.1.2⟩⟩)⟩; have n2_ : Aside0 (Kd.R k33 33 (w51.setCell ⟨gb495, 0, none⟩ (.slice Ao52 t491.length co52)) w.heap.size (fun _ => True) (.slice Ao47 t481.length co47) t481) := ⟨by (with_reducible repeat (first | apply Kd.R_alloc | apply Kd.R_drewN | apply Kd.R_drew)); exact Kd.R_mono (Kd.R_far (p := ⟨gb495, 0, none⟩) (Kd.R_types HO_6.out BK495.out (by decide)) (fun _ hk => by first | exact hk.2 | simp_all) (.slice Ao52 t491.length co52)) (fun _ hk => trivial)⟩; have n3_ : Aside0 (Kd.R Kd.bool 4 (w51.setCell ⟨gb495, 0, none⟩ (.slice Ao52 t491.length co52)) w.heap.size (fun _ => True) (.slice Ao49 x7_1.length co49) x7_1) := ⟨by (with_reducible repeat (first | apply Kd.R_alloc | apply Kd.R_drewN | apply Kd.R_drew)); exact Kd.R_mono (Kd.R_far (p := ⟨gb495, 0, none⟩) (Kd.R_types HO_7.out BK495.out (by decide)) (fun _ hk => by first | exact hk.2 | simp_all) (.slice Ao52 t491.length co52)) (fun _ hk => trivial)⟩; have n4_ : Aside0 (Kd.R (Kd.int .i64) 3 (w51.setCell ⟨gb495, 0, none⟩ (.slice Ao52 t491.length co52)) w.heap.size (fun k_ => some k_ ≠ (.slice Ao13 t470.length co13 : Value).ownBlock ∧ some k_ ≠ (v479 : Value).ownBlock ∧ some k_ ≠ (.slice Ao52 t491.length co52 : Value).ownBlock) (.slice Ao10 t474.length co10) t474) := ⟨by (with_reducible repeat (first | apply Kd.R_alloc | apply Kd.R_drewN | apply Kd.R_drew)); exact Kd.R_mono (Kd.R_far (p := ⟨gb495, 0, none⟩) (Kd.R_types HO_478001.out BK495.out (by decide)) (fun _ hk => by first | exact hk.2 | simp_all) (.slice Ao52 t491.length co52)) (fun _ hk => ⟨hk.1.1.1, ⟨hk.1.1.2, hk.1.2⟩⟩)⟩; have n5_ : Aside0 (Kd.R (Kd.int .i64) 3 (w51.setCell ⟨gb495, 0, none⟩ (.slice Ao52 t491.length co52)) w.heap.size (fun k_ => some k_ ≠ (.slice Ao13 t470.length co13 : Value).ownBlock ∧ some k_ ≠ (v479 : Value).ownBlock ∧ some k_ ≠ (.slice Ao10 t474.length co10 : Value).ownBlock) (.slice Ao52 t491.length co52) t491) := ⟨by (with_reducible repeat (first | apply Kd.R_alloc | apply Kd.R_drewN | apply Kd.R_drew)); exact Kd.R_mono (Kd.R_far (p := ⟨gb495, 0, none⟩) (Kd.R_types HO493.out BK495.out (by decide)) (fun _ hk => by first | exact hk.2 | simp_all) (.slice Ao52 t491.length co52)) (fun _ hk => ⟨hk.1.1.1.2, ⟨hk.1.1.2, hk.1.2⟩⟩)⟩; have n6_ : Aside0 ((w51.setCell ⟨gb495, 0, none⟩ (.slice Ao52 t491.length co52)).heap[gb477]? = some (.cells #[.int .i64 t473, .slice Ao10 t474.length co10] 28 (0, 0))) := ⟨by (with_reducible repeat (first | apply kN | apply k1 | apply kA)); refine blk_far ?_ NB477_495.out _; (with_reducible repeat (first | apply kN | apply k1 | apply kA)); exact BK477.out⟩; have n7_ : Aside0 ((w51.setCell ⟨gb495, 0, none⟩ (.slice Ao52 t491.length co52)).heap[gb495]? = some (.cells #[.slice Ao52 t491.length co52] 26 (0, 0))) := ⟨by (with_reducible repeat (first | apply kN | apply k1 | apply kA)); refine blk_put (cs := #[.slice none 0 0]) ?_ 0 _ rfl; (with_reducible repeat (first | apply kN | apply k1 | apply kA)); exact BK495.out⟩; have n8_ : Aside0 (Below w.heap.size w (w51.setCell ⟨gb495, 0, none⟩ (.slice Ao52 t491.length co52))) := ⟨by repeat (first | (with_reducible first | exact HB.out | apply bA | apply bN | apply b1 | refine bS ?_ (by assumption)) | exact HB.out)⟩; (try clear HO_3); (try clear HO_5); (try clear HO_6); (try clear HO_7); (try clear HO_478001); (try clear HO493); (try clear BK477); (try clear BK495); (try clear HB); generalize (w51.setCell ⟨gb495, 0, none⟩ (.slice Ao52 t491.length co52)) = w55 at n0_ n1_ n2_ n3_ n4_ n5_ n6_ n7_ n8_ ⊢; have HO_3 := n0_; have HO_5 := n1_; have HO_6 := n2_; have HO_7 := n3_; have HO_478001 := n4_; have HO493 := n5_; have BK477 := n6_; have BK495 := n7_; have HB := n8_; clear n0_ n1_ n2_ n3_ n4_ n5_ n6_ n7_ n8_; replace HO_3 := am (Kd.R_drew HO_3.out); replace HO_5 := am (Kd.R_drew HO_5.out); replace HO_6 := am (Kd.R_drew HO_6.out); replace HO_7 := am (Kd.R_drew HO_7.out); replace HO_478001 := am (Kd.R_drew HO_478001.out); replace HO493 := am (Kd.R_drew HO493.out); replace BK477 := am (blk_drew BK477.out); replace BK495 := am (blk_drew BK495.out); replace HB := am (below_drew1 HB.out); have p500 : 0 ≤ (0 : Int) := (by omega); have q500 : 0 < (t481.length : Int) := of_decide_eq_true (by first | (with_reducible assumption) | assumption); obtain ⟨ad500, e500, hx500_0, hx500_1⟩ := at_T33 (Kd.R_reads' HO_6.out).2.2 0 p500 q500; cases e500; have qi500 : (0 < t481.length) = True := eq_true (by omega); (try rw [show ((0 : Int)).toNat = 0 from rfl] at hx500_0); (try rw [show 0 * 2 = 0 from rfl] at hx500_0); (try rw [Addr.add_zero'] at hx500_0); (try rw [show ((0 : Int)).toNat = 0 from rfl] at hx500_1); (try rw [show 0 * 2 = 0 from rfl] at hx500_1); (try rw [Addr.add_zero'] at hx500_1); replace p500 := eq_true p500; replace q500 := eq_true q500; refine start_ (n := 39) (S := fun w' => w'.cell? ⟨gb495, 0, none⟩ = some (.slice Ao52 t491.length co52) ∧ w'.cell? ⟨gb477, 0, none⟩ = some (.int .i64 t473) ∧ w'.cell? ⟨gb477, 1, none⟩ = some (.slice Ao10 t474.length co10) ∧ w'.cell? ad500 = some (.int .i64 ((rd_T33 t481 0).f0)) ∧ w'.cell? ⟨ad500.block, ad500.off + 1, none⟩ = some (.int .i64 ((rd_T33 t481 0).f1))) (ds := []) #[false, false, false, false, false, false, false, false, false, false, false, false, false, false, false, false, false, false, false, false, false, false, false, false, false, false, false, false, false, false, false, false, false, false, false, false, false, false, false] (by kernel_rfl) rfl rfl ⟨(blk_cell BK495.out 0).trans rfl, (blk_cell BK477.out 0).trans rfl, (blk_cell BK477.out 1).trans rfl, hx500_0, hx500_1⟩ (fun hHeld => ?_); refine with_tabW laws_FnInOrder.tab12 laws_FnInOrder.bits12 (fun HT_ HW_ => ?_); generalize w55.drew = w56 at HO_3 HO_5 HO_6 HO_7 HO_478001 HO493 BK477 BK495 HB hx500_0 hx500_1 hHeld ⊢; refine pure_ (i := 0) (N := some 49) (v := ?_) (a' := ?_) #[true, false, false, false, false, false, false, false, false, false, false, false, false, false, false, false, false, false, false, false, false, false, false, false, false, false, false, false, false, false, false, false, false, false, false, false, false, false, false] rfl rfl (any_of HT_.out (by kernel_rfl)) (fun _ _ _ h => h) (Or.inl ⟨by rfl, ?_⟩) ?_ ?_; rotate_left
           ·intro w'
            go_simp; with_reducible rfl
           rotate_left
           ·simp only [Act.put, sa, s0, s1, i64_w, i32_w]
            rfl
           refine pure_ (i := 1) (N := some 50) (v := ?_) (a' := ?_) #[true, true, false, false, false, false, false, false, false, false, false, false, false, false, false, false, false, false, false, false, false, false, false, false, false, false, false, false, false, false, false, false, false, false, false, false, false, false, false] rfl rfl (any_of HT_.out (by kernel_rfl)) (fun _ _ _ h => h) (Or.inl ⟨by rfl, ?_⟩) ?_ ?_; rotate_left
           ·intro w'
            go_simp; with_reducible rfl
           rotate_left
           ·simp only [Act.put, sa, s0, s1, i64_w, i32_w]
            rfl
           refine take_ (i := 2) (N := some 51) (v := ?_) (a' := ?_) #[true, true, true, false, false, false, false, false, false, false, false, false, false, false, false, false, false, false, false, false, false, false, false, false, false, false, false, false, false, false, false, false, false, false, false, false, false, false, false] rfl rfl (take_ofW HT_.out HW_.out (by kernel_rfl)) (fun _ _ _ h => h) (Or.inl ⟨by rfl, ?_⟩) hHeld ?_ ?_; rotate_left
           ·rintro w' ⟨s0, s1, s2, s3, s4⟩
            go_simp; with_reducible rfl
           rotate_left
           ·simp only [Act.put, sa, s0, s1, i64_w, i32_w]
            rfl
           refine pure_ (i := 3) (N := some 52) (v := ?_) (a' := ?_) #[true, true, true, true, false, false, false, false, false, false, false, false, false, false, false, false, false, false, false, false, false, false, false, false, false, false, false, false, false, false, false, false, false, false, false, false, false, false, false] rfl rfl (any_of HT_.out (by kernel_rfl)) (fun _ _ _ h => h) (Or.inl ⟨by rfl, ?_⟩) ?_ ?_; rotate_left
           ·intro w'
            go_simp; with_reducible rfl
           rotate_left
           ·simp only [Act.put, sa, s0, s1, i64_w, i32_w]
            rfl
           refine pure_ (i := 4) (N := some 53) (v := ?_) (a' := ?_) #[true, true, true, true, true, false, false, false, false, false, false, false, false, false, false, false, false, false, false, false, false, false, false, false, false, false, false, false, false, false, false, false, false, false, false, false, false, false, false] rfl rfl (any_of HT_.out (by kernel_rfl)) (fun _ _ _ h => h) (Or.inl ⟨by rfl, ?_⟩) ?_ ?_; rotate_left
           ·intro w'
            go_simp; with_reducible rfl
           rotate_left
           ·simp only [Act.put, sa, s0, s1, i64_w, i32_w]
            rfl
           refine pure_ (i := 5) (N := some 54) (v := ?_) (a' := ?_) #[true, true, true, true, true, true, false, false, false, false, false, false, false, false, false, false, false, false, false, false, false, false, false, false, false, false, false, false, false, false, false, false, false, false, false, false, false, false, false] rfl rfl (any_of HT_.out (by kernel_rfl)) (fun _ _ _ h => h) (Or.inl ⟨by rfl, ?_⟩) ?_ ?_; rotate_left
           ·intro w'
            go_simp; with_reducible rfl
           rotate_left
           ·simp only [Act.put, sa, s0, s1, i64_w, i32_w]
            rfl
           refine pure_ (i := 6) (N := some 55) (v := ?_) (a' := ?_) #[true, true, true, true, true, true, true, false, false, false, false, false, false, false, false, false, false, false, false, false, false, false, false, false, false, false, false, false, false, false, false, false, false, false, false, false, false, false, false] rfl rfl (any_of HT_.out (by kernel_rfl)) (fun _ _ _ h => h) (Or.inl ⟨by rfl, ?_⟩) ?_ ?_; rotate_left
           ·intro w'
            go_simp; with_reducible rfl
           rotate_left
           ·simp only [Act.put, sa, s0, s1, i64_w, i32_w]
            rfl
           refine pure_ (i := 7) (N := some 56) (v := ?_) (a' := ?_) #[true, true, true, true, true, true, true, true, false, false, false, false, false, false, false, false, false, false, false, false, false, false, false, false, false, false, false, false, false, false, false, false, false, false, false, false, false, false, false] rfl rfl (any_of HT_.out (by kernel_rfl)) (fun _ _ _ h => h) (Or.inl ⟨by rfl, ?_⟩) ?_ ?_; rotate_left
           ·intro w'
            go_simp; with_reducible rfl
           rotate_left
           ·simp only [Act.put, sa, s0, s1, i64_w, i32_w]
            rfl
           refine pure_ (i := 8) (N := some 57) (v := ?_) (a' := ?_) #[true, true, true, true, true, true, true, true, true, false, false, false, false, false, false, false, false, false, false, false, false, false, false, false, false, false, false, false, false, false, false, false, false, false, false, false, false, false, false] rfl rfl (any_of HT_.out (by kernel_rfl)) (fun _ _ _ h => h) (Or.inl ⟨by rfl, ?_⟩) ?_ ?_; rotate_left
           ·intro w'
            go_simp; with_reducible rfl
           rotate_left
           ·simp only [Act.put, sa, s0, s1, i64_w, i32_w]
            rfl
           refine take_ (i := 9) (N := some 58) (v := ?_) (a' := ?_) #[true, true, true, true, true, true, true, true, true, true, false, false, false, false, false, false, false, false, false, false, false, false, false, false, false, false, false, false, false, false, false, false, false, false, false, false, false, false, false] rfl rfl (take_ofW HT_.out HW_.out (by kernel_rfl)) (fun _ _ _ h => h) (Or.inl ⟨by rfl, ?_⟩) hHeld ?_ ?_; rotate_left
           ·rintro w' ⟨s0, s1, s2, s3, s4⟩
            go_simp; with_reducible rfl
           rotate_left
           ·simp only [Act.put, sa, s0, s1, i64_w, i32_w]
            rfl
           refine pure_ (i := 10) (N := some 59) (v := ?_) (a' := ?_) #[true, true, true, true, true, true, true, true, true, true, true, false, false, false, false, false, false, false, false, false, false, false, false, false, false, false, false, false, false, false, false, false, false, false, false, false, false, false, false] rfl rfl (any_of HT_.out (by kernel_rfl)) (fun _ _ _ h => h) (Or.inl ⟨by rfl, ?_⟩) ?_ ?_; rotate_left
           ·intro w'
            go_simp; with_reducible rfl
           rotate_left
           ·simp only [Act.put, sa, s0, s1, i64_w, i32_w]
            rfl
           refine pure_ (i := 11) (N := some 60) (v := ?_) (a' := ?_) #[true, true, true, true, true, true, true, true, true, true, true, true, false, false, false, false, false, false, false, false, false, false, false, false, false, false, false, false, false, false, false, false, false, false, false, false, false, false, false] rfl rfl (any_of HT_.out (by kernel_rfl)) (fun _ _ _ h => h) (Or.inl ⟨by rfl, ?_⟩) ?_ ?_; rotate_left
           ·intro w'
            go_simp; with_reducible rfl
           rotate_left
           ·simp only [Act.put, sa, s0, s1, i64_w, i32_w]
            rfl
           refine pure_ (i := 12) (N := some 61) (v := ?_) (a' := ?_) #[true, true, true, true, true, true, true, true, true, true, true, true, true, false, false, false, false, false, false, false, false, false, false, false, false, false, false, false, false, false, false, false, false, false, false, false, false, false, false] rfl rfl (any_of HT_.out (by kernel_rfl)) (fun _ _ _ h => h) (Or.inl ⟨by rfl, ?_⟩) ?_ ?_; rotate_left
           ·intro w'
            go_simp; with_reducible rfl
           rotate_left
           ·simp only [Act.put, sa, s0, s1, i64_w, i32_w]
            rfl
           refine pure_ (i := 13) (N := some 62) (v := ?_) (a' := ?_) #[true, true, true, true, true, true, true, true, true, true, true, true, true, true, false, false, false, false, false, false, false, false, false, false, false, false, false, false, false, false, false, false, false, false, false, false, false, false, false] rfl rfl (any_of HT_.out (by kernel_rfl)) (fun _ _ _ h => h) (Or.inl ⟨by rfl, ?_⟩) ?_ ?_; rotate_left
           ·intro w'
            go_simp; with_reducible rfl
           rotate_left
           ·simp only [Act.put, sa, s0, s1, i64_w, i32_w]
            rfl
           refine pure_ (i := 14) (N := some 63) (v := ?_) (a' := ?_) #[true, true, true, true, true, true, true, true, true, true, true, true, true, true, true, false, false, false, false, false, false, false, false, false, false, false, false, false, false, false, false, false, false, false, false, false, false, false, false] rfl rfl (any_of HT_.out (by kernel_rfl)) (fun _ _ _ h => h) (Or.inl ⟨by rfl, ?_⟩) ?_ ?_; rotate_left
           ·intro w'
            go_simp; with_reducible rfl
           rotate_left
           ·simp only [Act.put, sa, s0, s1, i64_w, i32_w]
            rfl
           refine pure_ (i := 16) (N := some 65) (v := ?_) (a' := ?_) #[true, true, true, true, true, true, true, true, true, true, true, true, true, true, true, false, true, false, false, false, false, false, false, false, false, false, false, false, false, false, false, false, false, false, false, false, false, false, false] rfl rfl (any_of HT_.out (by kernel_rfl)) (fun _ _ _ h => h) (Or.inl ⟨by rfl, ?_⟩) ?_ ?_; rotate_left
           ·intro w'
            go_simp; with_reducible rfl
           rotate_left
           ·simp only [Act.put, sa, s0, s1, i64_w, i32_w]
            rfl
           refine take_ (i := 15) (N := some 64) (v := ?_) (a' := ?_) #[true, true, true, true, true, true, true, true, true, true, true, true, true, true, true, true, true, false, false, false, false, false, false, false, false, false, false, false, false, false, false, false, false, false, false, false, false, false, false] rfl rfl (take_ofW HT_.out HW_.out (by kernel_rfl)) (fun _ _ _ h => h) (Or.inl ⟨by rfl, ?_⟩) hHeld ?_ ?_; rotate_left
           ·rintro w' ⟨s0, s1, s2, s3, s4⟩
            go_simp; with_reducible rfl
           rotate_left
           ·simp only [Act.put, sa, s0, s1, i64_w, i32_w]
            rfl
           refine one_ (i := 17) (N := some 66) #[true, true, true, true, true, true, true, true, true, true, true, true, true, true, true, true, true, true, false, false, false, false, false, false, false, false, false, false, false, false, false, false, false, false, false, false, false, false, false] rfl rfl (one_of HT_.out (by kernel_rfl)) (by decide) (fun K hK => ?_); refine goes_ Try.func17 (by kernel_rfl) rfl #[.slice Ao13 t470.length co13] (by rfl) rfl rfl (by (try simp only [List.map_toArray, List.map_cons, List.map_nil]); first | done | rfl | (simp only [List.length_drop, List.length_take]; rfl)) ?_; (with_reducible refine (impl_MemSent.calls _ _ t470 t496 _ ?side1 ?side2 A28.out).mono ?_); (case side1 => exact pkc (Kd.R_reads' HO_3.out).2.2); (case side2 => exact (Kd.R_reads' HO_3.out).2.1); rintro e w57 ⟨v497, rfl, ho0, hb⟩; have HS3_ := (hb.cell (World.block_lt_of_cell? _ _ (hHeld.2.2.2.1))).trans (hHeld.2.2.2.1); have HS4_ := (hb.cell (World.block_lt_of_cell? _ _ (hHeld.2.2.2.2))).trans (hHeld.2.2.2.2); refine ⟨_, rfl, ?_⟩; replace HO_6 := am (Kd.R_below (pkr HO_6.out) hb); replace HO_7 := am (Kd.R_below (pkr HO_7.out) hb); have HO498 := am (Kd.R_lower (Kd.R_new' (Kd.R_new' (Kd.R_new' (Kd.R_new' ho0 (Kd.R_lt (pkr HO_3.out))) (Kd.R_lt (pkr HO_5.out))) (Kd.R_lt (pkr HO_478001.out))) (Kd.R_lt (pkr HO493.out))) (below_size (by repeat (first | (with_reducible first | exact HB.out | apply bA | apply bN | apply b1 | refine bS ?_ (by assumption)) | exact HB.out)))); replace HO_3 := am (Kd.R_elder' (pkr HO_3.out) (Kd.R_base ho0) hb); replace HO_5 := am (Kd.R_elder' (pkr HO_5.out) (Kd.R_base ho0) hb); replace HO_478001 := am (Kd.R_elder' (pkr HO_478001.out) (Kd.R_base ho0) hb); replace HO493 := am (Kd.R_elder' (pkr HO493.out) (Kd.R_base ho0) hb); replace BK477 := am (blk_below (pkb BK477.out) hb); replace BK495 := am (blk_below (pkb BK495.out) hb); replace HB := am (below_step (by repeat (first | (with_reducible first | exact HB.out | apply bA | apply bN | apply b1 | refine bS ?_ (by assumption)) | exact HB.out)) hb); (try clear hb); (try clear hb2); (try clear hk); (try clear hi); (try clear ho0); obtain ⟨Ao58, co58, eo58⟩ := Kd.R_slice HO498.out; (first | subst eo58 | (injection eo58 with f1_ f2_ f3_; have f4_ := f1_.symm; have f5_ := f3_.symm; clear f1_ f2_ f3_; subst f4_; subst f5_)); refine hK.out _ _ ⟨(blk_cell BK495.out 0).trans rfl, (blk_cell BK477.out 0).trans rfl, (blk_cell BK477.out 1).trans rfl, HS3_, HS4_⟩ (fun hHeld => ?_); clear hK K; refine norm_ (a' := ?_) ?_ ?_; rotate_left
           ·show Act.put _ (some 66) _ = _
            simp only [Act.put, sa, s0, s1, i64_w, i32_w]; rfl
           refine one_ (i := 18) (N := some 67) #[true, true, true, true, true, true, true, true, true, true, true, true, true, true, true, true, true, true, true, false, false, false, false, false, false, false, false, false, false, false, false, false, false, false, false, false, false, false, false] rfl rfl (one_of HT_.out (by kernel_rfl)) (by decide) (fun K hK => ?_); refine goes_ Try.func16 (by kernel_rfl) rfl #[.slice Ao52 t491.length co52, .slice Ao58 t496.length co58] (by rfl) rfl rfl (by (try simp only [List.map_toArray, List.map_cons, List.map_nil]); first | done | rfl | (simp only [List.length_drop, List.length_take]; rfl)) ?_; (with_reducible refine (impl_IsPrefixOf.calls k1 _ _ t491 _ _ t496 true _ ?side1 ?side2 ?side3 ?side4 A29.out).mono ?_); (case side1 => exact pkc (Kd.R_reads' HO493.out).2.2); (case side2 => exact (Kd.R_reads' HO493.out).2.1); (case side3 => exact pkc (Kd.R_reads' HO498.out).2.2); (case side4 => exact (Kd.R_reads' HO498.out).2.1); rintro e w' ⟨rfl, ⟨nd, rfl⟩⟩; refine ⟨_, rfl, ?_⟩; refine hK.out _ _ ⟨(blk_cell BK495.out 0).trans rfl, (blk_cell BK477.out 0).trans rfl, (blk_cell BK477.out 1).trans rfl, hHeld.2.2.2.1, hHeld.2.2.2.2⟩ (fun hHeld => ?_); clear hK K; refine norm_ (a' := ?_) ?_ ?_; rotate_left
           ·show Act.put _ (some 67) _ = _
            simp only [Act.put, sa, s0, s1, i64_w, i32_w]; rfl
           refine pure_ (i := 19) (N := some 68) (v := ?_) (a' := ?_) #[true, true, true, true, true, true, true, true, true, true, true, true, true, true, true, true, true, true, true, true, false, false, false, false, false, false, false, false, false, false, false, false, false, false, false, false, false, false, false] rfl rfl (any_of HT_.out (by kernel_rfl)) (fun _ _ _ h => h) (Or.inl ⟨by rfl, ?_⟩) ?_ ?_; rotate_left
           ·intro w'
            go_simp; with_reducible rfl
           rotate_left
           ·simp only [Act.put, sa, s0, s1, i64_w, i32_w]
            rfl
           refine pure_ (i := 20) (N := some 69) (v := ?_) (a' := ?_) #[true, true, true, true, true, true, true, true, true, true, true, true, true, true, true, true, true, true, true, true, true, false, false, false, false, false, false, false, false, false, false, false, false, false, false, false, false, false, false] rfl rfl (any_of HT_.out (by kernel_rfl)) (fun _ _ _ h => h) (Or.inl ⟨by rfl, ?_⟩) ?_ ?_; rotate_left
           ·intro w'
            go_simp; with_reducible rfl
           rotate_left
           ·simp only [Act.put, sa, s0, s1, i64_w, i32_w]
            rfl
           refine pure_ (i := 21) (N := some 70) (v := ?_) (a' := ?_) #[true, true, true, true, true, true, true, true, true, true, true, true, true, true, true, true, true, true, true, true, true, true, false, false, false, false, false, false, false, false, false, false, false, false, false, false, false, false, false] rfl rfl (any_of HT_.out (by kernel_rfl)) (fun _ _ _ h => h) (Or.inl ⟨by rfl, ?_⟩) ?_ ?_; rotate_left
           ·intro w'
            go_simp; with_reducible rfl
           rotate_left
           ·simp only [Act.put, sa, s0, s1, i64_w, i32_w]
            rfl
           refine pure_ (i := 22) (N := some 71) (v := ?_) (a' := ?_) #[true, true, true, true, true, true, true, true, true, true, true, true, true, true, true, true, true, true, true, true, true, true, true, false, false, false, false, false, false, false, false, false, false, false, false, false, false, false, false] rfl rfl (any_of HT_.out (by kernel_rfl)) (fun _ _ _ h => h) (Or.inl ⟨by rfl, ?_⟩) ?_ ?_; rotate_left
           ·intro w'
            go_simp; with_reducible rfl
           rotate_left
           ·simp only [Act.put, sa, s0, s1, i64_w, i32_w]
            rfl
           refine pure_ (i := 23) (N := some 72) (v := ?_) (a' := ?_) #[true, true, true, true, true, true, true, true, true, true, true, true, true, true, true, true, true, true, true, true, true, true, true, true, false, false, false, false, false, false, false, false, false, false, false, false, false, false, false] rfl rfl (any_of HT_.out (by kernel_rfl)) (fun _ _ _ h => h) (Or.inl ⟨by rfl, ?_⟩) ?_ ?_; rotate_left
           ·intro w'
            go_simp; with_reducible rfl
           rotate_left
           ·simp only [Act.put, sa, s0, s1, i64_w, i32_w]
            rfl
           refine pure_ (i := 24) (N := some 73) (v := ?_) (a' := ?_) #[true, true, true, true, true, true, true, true, true, true, true, true, true, true, true, true, true, true, true, true, true, true, true, true, true, false, false, false, false, false, false, false, false, false, false, false, false, false, false] rfl rfl (any_of HT_.out (by kernel_rfl)) (fun _ _ _ h => h) (Or.inl ⟨by rfl, ?_⟩) ?_ ?_; rotate_left
           ·intro w'
            go_simp; with_reducible rfl
           rotate_left
           ·simp only [Act.put, sa, s0, s1, i64_w, i32_w]
            rfl
           refine pure_ (i := 25) (N := some 74) (v := ?_) (a' := ?_) #[true, true, true, true, true, true, true, true, true, true, true, true, true, true, true, true, true, true, true, true, true, true, true, true, true, true, false, false, false, false, false, false, false, false, false, false, false, false, false] rfl rfl (any_of HT_.out (by kernel_rfl)) (fun _ _ _ h => h) (Or.inl ⟨by rfl, ?_⟩) ?_ ?_; rotate_left
           ·intro w'
            go_simp; with_reducible rfl
           rotate_left
           ·simp only [Act.put, sa, s0, s1, i64_w, i32_w]
            rfl
           refine pure_ (i := 26) (N := some 75) (v := ?_) (a' := ?_) #[true, true, true, true, true, true, true, true, true, true, true, true, true, true, true, true, true, true, true, true, true, true, true, true, true, true, true, false, false, false, false, false, false, false, false, false, false, false, false] rfl rfl (any_of HT_.out (by kernel_rfl)) (fun _ _ _ h => h) (Or.inl ⟨by rfl, ?_⟩) ?_ ?_; rotate_left
           ·intro w'
            go_simp; with_reducible rfl
           rotate_left
           ·simp only [Act.put, sa, s0, s1, i64_w, i32_w]
            rfl
           refine pure_ (i := 27) (N := some 76) (v := ?_) (a' := ?_) #[true, true, true, true, true, true, true, true, true, true, true, true, true, true, true, true, true, true, true, true, true, true, true, true, true, true, true, true, false, false, false, false, false, false, false, false, false, false, false] rfl rfl (any_of HT_.out (by kernel_rfl)) (fun _ _ _ h => h) (Or.inl ⟨by rfl, ?_⟩) ?_ ?_; rotate_left
           ·intro w'
            go_simp; with_reducible rfl
           rotate_left
           ·simp only [Act.put, sa, s0, s1, i64_w, i32_w]
            rfl
           refine take_ (i := 28) (N := some 77) (v := ?_) (a' := ?_) #[true, true, true, true, true, true, true, true, true, true, true, true, true, true, true, true, true, true, true, true, true, true, true, true, true, true, true, true, true, false, false, false, false, false, false, false, false, false, false] rfl rfl (take_ofW HT_.out HW_.out (by kernel_rfl)) (fun _ _ _ h => h) (Or.inl ⟨by rfl, ?_⟩) hHeld ?_ ?_; rotate_left
           ·rintro w' ⟨s0, s1, s2, s3, s4⟩
            go_simp; with_reducible rfl
           rotate_left
           ·simp only [Act.put, sa, s0, s1, i64_w, i32_w]
            rfl
           refine pure_ (i := 29) (N := some 78) (v := ?_) (a' := ?_) #[true, true, true, true, true, true, true, true, true, true, true, true, true, true, true, true, true, true, true, true, true, true, true, true, true, true, true, true, true, true, false, false, false, false, false, false, false, false, false] rfl rfl (any_of HT_.out (by kernel_rfl)) (fun _ _ _ h => h) (Or.inl ⟨by rfl, ?_⟩) ?_ ?_; rotate_left
           ·intro w'
            go_simp; with_reducible rfl
           rotate_left
           ·simp only [Act.put, sa, s0, s1, i64_w, i32_w]
            rfl
           refine pure_ (i := 30) (N := some 79) (v := ?_) (a' := ?_) #[true, true, true, true, true, true, true, true, true, true, true, true, true, true, true, true, true, true, true, true, true, true, true, true, true, true, true, true, true, true, true, false, false, false, false, false, false, false, false] rfl rfl (any_of HT_.out (by kernel_rfl)) (fun _ _ _ h => h) (Or.inl ⟨by rfl, ?_⟩) ?_ ?_; rotate_left
           ·intro w'
            go_simp; with_reducible rfl
           rotate_left
           ·simp only [Act.put, sa, s0, s1, i64_w, i32_w]
            rfl
           refine pure_ (i := 31) (N := some 80) (v := ?_) (a' := ?_) #[true, true, true, true, true, true, true, true, true, true, true, true, true, true, true, true, true, true, true, true, true, true, true, true, true, true, true, true, true, true, true, true, false, false, false, false, false, false, false] rfl rfl (any_of HT_.out (by kernel_rfl)) (fun _ _ _ h => h) (Or.inl ⟨by rfl, ?_⟩) ?_ ?_; rotate_left
           ·intro w'
            go_simp; with_reducible rfl
           rotate_left
           ·simp only [Act.put, sa, s0, s1, i64_w, i32_w]
            rfl
           refine pure_ (i := 32) (N := some 81) (v := ?_) (a' := ?_) #[true, true, true, true, true, true, true, true, true, true, true, true, true, true, true, true, true, true, true, true, true, true, true, true, true, true, true, true, true, true, true, true, true, false, false, false, false, false, false] rfl rfl (any_of HT_.out (by kernel_rfl)) (fun _ _ _ h => h) (Or.inl ⟨by rfl, ?_⟩) ?_ ?_; rotate_left
           ·intro w'
            go_simp; with_reducible rfl
           rotate_left
           ·simp only [Act.put, sa, s0, s1, i64_w, i32_w]
            rfl
           refine one_ (i := 33) (N := some 82) #[true, true, true, true, true, true, true, true, true, true, true, true, true, true, true, true, true, true, true, true, true, true, true, true, true, true, true, true, true, true, true, true, true, true, false, false, false, false, false] rfl rfl (one_of HT_.out (by kernel_rfl)) (by decide) (fun K hK => ?_); refine goes_ Try.func18 (by kernel_rfl) rfl #[.slice (some ad500) t481.length co47] (by rfl) rfl rfl (by (try simp only [List.map_toArray, List.map_cons, List.map_nil]); first | done | rfl | (simp only [List.length_drop, List.length_take]; rfl)) ?_; (with_reducible refine (impl_Gaps.calls k1 _ _ t481 t501 _ ?side1 ?side2 A46.out).mono ?_); (case side1 => exact pkc (Kd.R_reads' HO_6.out).2.2); (case side2 => exact (Kd.R_reads' HO_6.out).2.1); rintro e w59 ⟨v502, rfl, ho0, hb⟩; have HS3_ := (hb.cell (World.block_lt_of_cell? _ _ (hHeld.2.2.2.1))).trans (hHeld.2.2.2.1); have HS4_ := (hb.cell (World.block_lt_of_cell? _ _ (hHeld.2.2.2.2))).trans (hHeld.2.2.2.2); refine ⟨_, rfl, ?_⟩; replace HO_6 := am (Kd.R_below (pkr HO_6.out) hb); replace HO_7 := am (Kd.R_below (pkr HO_7.out) hb); have HO503 := am (Kd.R_lower (Kd.R_new' (Kd.R_new' (Kd.R_new' (Kd.R_new' (Kd.R_new' ho0 (Kd.R_lt (pkr HO_3.out))) (Kd.R_lt (pkr HO_5.out))) (Kd.R_lt (pkr HO_478001.out))) (Kd.R_lt (pkr HO493.out))) (Kd.R_lt (pkr HO498.out))) (below_size (by repeat (first | (with_reducible first | exact HB.out | apply bA | apply bN | apply b1 | refine bS ?_ (by assumption)) | exact HB.out)))); replace HO_3 := am (Kd.R_elder' (pkr HO_3.out) (Kd.R_base ho0) hb); replace HO_5 := am (Kd.R_elder' (pkr HO_5.out) (Kd.R_base ho0) hb); replace HO_478001 := am (Kd.R_elder' (pkr HO_478001.out) (Kd.R_base ho0) hb); replace HO493 := am (Kd.R_elder' (pkr HO493.out) (Kd.R_base ho0) hb); replace HO498 := am (Kd.R_elder' (pkr HO498.out) (Kd.R_base ho0) hb); replace BK477 := am (blk_below (pkb BK477.out) hb); replace BK495 := am (blk_below (pkb BK495.out) hb); replace HB := am (below_step (by repeat (first | (with_reducible first | exact HB.out | apply bA | apply bN | apply b1 | refine bS ?_ (by assumption)) | exact HB.out)) hb); (try clear hb); (try clear hb2); (try clear hk); (try clear hi); (try clear ho0); obtain ⟨Ao60, co60, eo60⟩ := Kd.R_slice HO503.out; (first | subst eo60 | (injection eo60 with f1_ f2_ f3_; have f4_ := f1_.symm; have f5_ := f3_.symm; clear f1_ f2_ f3_; subst f4_; subst f5_)); refine hK.out _ _ ⟨(blk_cell BK495.out 0).trans rfl, (blk_cell BK477.out 0).trans rfl, (blk_cell BK477.out 1).trans rfl, HS3_, HS4_⟩ (fun hHeld => ?_); clear hK K; refine norm_ (a' := ?_) ?_ ?_; rotate_left
           ·show Act.put _ (some 82) _ = _
            simp only [Act.put, sa, s0, s1, i64_w, i32_w]; rfl
           refine pure_ (i := 34) (N := some 83) (v := ?_) (a' := ?_) #[true, true, true, true, true, true, true, true, true, true, true, true, true, true, true, true, true, true, true, true, true, true, true, true, true, true, true, true, true, true, true, true, true, true, true, false, false, false, false] rfl rfl (any_of HT_.out (by kernel_rfl)) (fun _ _ _ h => h) (Or.inl ⟨by rfl, ?_⟩) ?_ ?_; rotate_left
           ·intro w'
            go_simp; with_reducible rfl
           rotate_left
           ·simp only [Act.put, sa, s0, s1, i64_w, i32_w]
            rfl
           refine pure_ (i := 35) (N := some 84) (v := ?_) (a' := ?_) #[true, true, true, true, true, true, true, true, true, true, true, true, true, true, true, true, true, true, true, true, true, true, true, true, true, true, true, true, true, true, true, true, true, true, true, true, false, false, false] rfl rfl (any_of HT_.out (by kernel_rfl)) (fun _ _ _ h => h) (Or.inl ⟨by rfl, ?_⟩) ?_ ?_; rotate_left
           ·intro w'
            go_simp; with_reducible rfl
           rotate_left
           ·simp only [Act.put, sa, s0, s1, i64_w, i32_w]
            rfl
           refine pure_ (i := 36) (N := some 85) (v := ?_) (a' := ?_) #[true, true, true, true, true, true, true, true, true, true, true, true, true, true, true, true, true, true, true, true, true, true, true, true, true, true, true, true, true, true, true, true, true, true, true, true, true, false, false] rfl rfl (any_of HT_.out (by kernel_rfl)) (fun _ _ _ h => h) (Or.inl ⟨by rfl, ?_⟩) ?_ ?_; rotate_left
           ·intro w'
            go_simp; with_reducible rfl
           rotate_left
           ·simp only [Act.put, sa, s0, s1, i64_w, i32_w]
            rfl
           refine pure_ (i := 37) (N := some 86) (v := ?_) (a' := ?_) #[true, true, true, true, true, true, true, true, true, true, true, true, true, true, true, true, true, true, true, true, true, true, true, true, true, true, true, true, true, true, true, true, true, true, true, true, true, true, false] rfl rfl (any_of HT_.out (by kernel_rfl)) (fun _ _ _ h => h) (Or.inl ⟨by rfl, ?_⟩) ?_ ?_; rotate_left
           ·intro w'
            go_simp; with_reducible rfl
           rotate_left
           ·simp only [Act.put, sa, s0, s1, i64_w, i32_w]
            rfl
           refine pure_ (i := 38) (N := some 2) (v := ?_) (a' := ?_) #[true, true, true, true, true, true, true, true, true, true, true, true, true, true, true, true, true, true, true, true, true, true, true, true, true, true, true, true, true, true, true, true, true, true, true, true, true, true, true] rfl rfl (any_of HT_.out (by kernel_rfl)) (fun _ _ _ h => h) (Or.inl ⟨by rfl, ?_⟩) ?_ ?_; rotate_left
           ·intro w'
            go_simp; with_reducible rfl
           rotate_left
           ·simp only [Act.put, sa, s0, s1, i64_w, i32_w]
            rfl
           refine done_ (done_of HT_.out (by kernel_rfl)) ?_; try go_wp2
           go_ret
           exact ⟨by first | rfl | (simp [errW_none, errW_some] <;> rfl) | (simp [*, errW_none, errW_some] <;> rfl), by repeat (first | (with_reducible first | exact HB.out | apply bA | apply bN | apply b1 | refine bS ?_ (by assumption)) | exact HB.out)⟩
          ·rw [if_neg c45] at H
           have c45b0 : (((rd_T33 t481 0).f0) == 0) = false := beq_eq_false_iff_ne.mpr c45; have c45b1 : (((rd_T33 t481 0).f0) != 0) = true := bne_iff_ne.mpr c45; obtain rfl := Option.some.inj H; obtain ⟨Ao61, co61, eo61⟩ := Kd.R_slice HO_6.out; subst eo61; have hcz62_0 := pc0 BK477.out; have hcz62_1 := pc1 BK477.out; have hfz62_0 := blk_frozen BK477.out 0; have hfz62_1 := blk_frozen BK477.out 1; obtain ⟨Ao63, co63, eo63⟩ := Kd.R_slice HO_7.out; subst eo63; (try go_wp2_with (first | ((with_reducible refine gate_callee (f := 15) rfl ?_); refine goesL_ (some 46) rfl rfl Try.func15 (by kernel_rfl) rfl #[.agg #[.slice Ao10 t474.length co10], .slice Ao61 t481.length co61, .slice Ao63 x7_1.length co63] rfl (by (try simp only [List.map_toArray, List.map_cons, List.map_nil]); first | done | rfl | (simp only [List.length_drop, List.length_take]; rfl)) ?_; (with_reducible refine (impl_ReceiveAll.calls k1 _ _ t474 _ _ t481 _ _ x7_1 t491 t494 _ ?side1 ?side2 ?side3 ?side4 ?side5 ?side6 A25.out).mono ?_); (case side1 => exact pkc (Kd.R_reads' HO_478001.out).2.2); (case side2 => exact (Kd.R_reads' HO_478001.out).2.1); (case side3 => exact pkc (Kd.R_reads' HO_6.out).2.2); (case side4 => exact (Kd.R_reads' HO_6.out).2.1); (case side5 => exact pkc (Kd.R_reads' HO_7.out).2.2); (case side6 => exact (Kd.R_reads' HO_7.out).2.1); rintro e w64 ⟨v492, rfl, ho0, hb⟩; refine ⟨_, rfl, ?_⟩; replace HO_6 := am (Kd.R_below (pkr HO_6.out) hb); replace HO_7 := am (Kd.R_below (pkr HO_7.out) hb); have HO493 := am (Kd.R_lower (Kd.R_new' (Kd.R_new' (Kd.R_new' ho0 (Kd.R_lt (pkr HO_3.out))) (Kd.R_lt (pkr HO_5.out))) (Kd.R_lt (pkr HO_478001.out))) (below_size (by repeat (first | (with_reducible first | exact HB.out | apply bA | apply bN | apply b1 | refine bS ?_ (by assumption)) | exact HB.out)))); replace HO_3 := am (Kd.R_elder' (pkr HO_3.out) (Kd.R_base ho0) hb); replace HO_5 := am (Kd.R_elder' (pkr HO_5.out) (Kd.R_base ho0) hb); replace HO_478001 := am (Kd.R_elder' (pkr HO_478001.out) (Kd.R_base ho0) hb); replace BK477 := am (blk_below (pkb BK477.out) hb); replace HB := am (below_step (by repeat (first | (with_reducible first | exact HB.out | apply bA | apply bN | apply b1 | refine bS ?_ (by assumption)) | exact HB.out)) hb); (try clear hb); (try clear hb2); (try clear hk); (try clear hi); (try clear ho0)) | ((with_reducible refine gate_dst (N := 9) rfl ?_); (try (refine gate_guard (by rfl) ?_; dsimp only)); refine box_event ?hg (N := 9) ?hd (cs := #[.slice none 0 0]) (t := 26) ?hr ?_; (case hd => rfl); (case hg => rfl); (case hr => first | (go_simp; done) | (go_simp; rfl)); intro gb495 hg w65 hbox hb; replace HO_3 := am (Kd.R_below (pkr HO_3.out) hb); replace HO_5 := am (Kd.R_below (pkr HO_5.out) hb); replace HO_6 := am (Kd.R_below (pkr HO_6.out) hb); replace HO_7 := am (Kd.R_below (pkr HO_7.out) hb); replace HO_478001 := am (Kd.R_below (pkr HO_478001.out) hb); replace HO493 := am (Kd.R_below (pkr HO493.out) hb); have BK495 := am (hbox); have GW495 := am ((by rw [hg]; exact (below_size (by repeat (first | (with_reducible first | exact HB.out | apply bA | apply bN | apply b1 | refine bS ?_ (by assumption)) | exact HB.out))) : w.heap.size ≤ gb495)); replace HB := am (below_step (by repeat (first | (with_reducible first | exact HB.out | apply bA | apply bN | apply b1 | refine bS ?_ (by assumption)) | exact HB.out)) hb); have GE495 := GW495; have NB477_495 := am ((by rw [hg]; exact Nat.ne_of_lt (blk_lt (pkb BK477.out)) : gb477 ≠ gb495)); replace BK477 := am (blk_below (pkb BK477.out) hb); have NB495_477 := am NB477_495.out.symm; clear hb hbox hg; obtain ⟨Ao66, co66, eo66⟩ := Kd.R_slice HO493.out; subst eo66; have hnb67 := NB495_477.out; have hnc67 := NB477_495.out; have hcz68_0 := pc0 BK495.out; have hfz68_0 := blk_frozen BK495.out 0))); have n0_ : Aside0 (Kd.R (Kd.int .i64) 3 (w65.setCell ⟨gb495, 0, none⟩ (.slice Ao66 t491.length co66)) w.heap.size (fun k_ => some k_ ≠ (v479 : Value).ownBlock ∧ some k_ ≠ (.slice Ao10 t474.length co10 : Value).ownBlock ∧ some k_ ≠ (.slice Ao66 t491.length co66 : Value).ownBlock) (.slice Ao13 t470.length co13) t470) := ⟨by (with_reducible repeat (first | apply Kd.R_alloc | apply Kd.R_drewN | apply Kd.R_drew)); exact Kd.R_mono (Kd.R_far (p := ⟨gb495, 0, none⟩) (Kd.R_types HO_3.out BK495.out (by decide)) (fun _ hk => by first | exact hk.2 | simp_all) (.slice Ao66 t491.length co66)) (fun _ hk => ⟨hk.1.1.1, ⟨hk.1.1.2, hk.1.2⟩⟩)⟩; have n1_ : Aside0 (Kd.R (Kd.int .i64) 3 (w65.setCell ⟨gb495, 0, none⟩ (.slice Ao66 t491.length co66)) w.heap.size (fun k_ => some k_ ≠ (.slice Ao13 t470.length co13 : Value).ownBlock ∧ some k_ ≠ (.slice Ao10 t474.length co10 : Value).ownBlock ∧ some k_ ≠ (.slice Ao66 t491.length co66 : Value).ownBlock) v479 t478) := ⟨by (with_reducible repeat (first | apply Kd.R_alloc | apply Kd.R_drewN | apply Kd.R_drew)); exact Kd.R_mono (Kd.R_far (p := ⟨gb495, 0, none⟩) (Kd.R_types HO_5.out BK495.out (by decide)) (fun _ hk => by first | exact hk.2 | simp_all) (.slice Ao66 t491.length co66)) (fun _ hk => ⟨hk.1.1.1, ⟨hk.1.1.2, hk.1.2⟩⟩)⟩; have n2_ : Aside0 (Kd.R k33 33 (w65.setCell ⟨gb495, 0, none⟩ (.slice Ao66 t491.length co66)) w.heap.size (fun _ => True) (.slice Ao61 t481.length co61) t481) := ⟨by (with_reducible repeat (first | apply Kd.R_alloc | apply Kd.R_drewN | apply Kd.R_drew)); exact Kd.R_mono (Kd.R_far (p := ⟨gb495, 0, none⟩) (Kd.R_types HO_6.out BK495.out (by decide)) (fun _ hk => by first | exact hk.2 | simp_all) (.slice Ao66 t491.length co66)) (fun _ hk => trivial)⟩; have n3_ : Aside0 (Kd.R Kd.bool 4 (w65.setCell ⟨gb495, 0, none⟩ (.slice Ao66 t491.length co66)) w.heap.size (fun _ => True) (.slice Ao63 x7_1.length co63) x7_1) := ⟨by (with_reducible repeat (first | apply Kd.R_alloc | apply Kd.R_drewN | apply Kd.R_drew)); exact Kd.R_mono (Kd.R_far (p := ⟨gb495, 0, none⟩) (Kd.R_types HO_7.out BK495.out (by decide)) (fun _ hk => by first | exact hk.2 | simp_all) (.slice Ao66 t491.length co66)) (fun _ hk => trivial)⟩; have n4_ : Aside0 (Kd.R (Kd.int .i64) 3 (w65.setCell ⟨gb495, 0, none⟩ (.slice Ao66 t491.length co66)) w.heap.size (fun k_ => some k_ ≠ (.slice Ao13 t470.length co13 : Value).ownBlock ∧ some k_ ≠ (v479 : Value).ownBlock ∧ some k_ ≠ (.slice Ao66 t491.length co66 : Value).ownBlock) (.slice Ao10 t474.length co10) t474) := ⟨by (with_reducible repeat (first | apply Kd.R_alloc | apply Kd.R_drewN | apply Kd.R_drew)); exact Kd.R_mono (Kd.R_far (p := ⟨gb495, 0, none⟩) (Kd.R_types HO_478001.out BK495.out (by decide)) (fun _ hk => by first | exact hk.2 | simp_all) (.slice Ao66 t491.length co66)) (fun _ hk => ⟨hk.1.1.1, ⟨hk.1.1.2, hk.1.2⟩⟩)⟩; have n5_ : Aside0 (Kd.R (Kd.int .i64) 3 (w65.setCell ⟨gb495, 0, none⟩ (.slice Ao66 t491.length co66)) w.heap.size (fun k_ => some k_ ≠ (.slice Ao13 t470.length co13 : Value).ownBlock ∧ some k_ ≠ (v479 : Value).ownBlock ∧ some k_ ≠ (.slice Ao10 t474.length co10 : Value).ownBlock) (.slice Ao66 t491.length co66) t491) := ⟨by (with_reducible repeat (first | apply Kd.R_alloc | apply Kd.R_drewN | apply Kd.R_drew)); exact Kd.R_mono (Kd.R_far (p := ⟨gb495, 0, none⟩) (Kd.R_types HO493.out BK495.out (by decide)) (fun _ hk => by first | exact hk.2 | simp_all) (.slice Ao66 t491.length co66)) (fun _ hk => ⟨hk.1.1.1.2, ⟨hk.1.1.2, hk.1.2⟩⟩)⟩; have n6_ : Aside0 ((w65.setCell ⟨gb495, 0, none⟩ (.slice Ao66 t491.length co66)).heap[gb477]? = some (.cells #[.int .i64 t473, .slice Ao10 t474.length co10] 28 (0, 0))) := ⟨by (with_reducible repeat (first | apply kN | apply k1 | apply kA)); refine blk_far ?_ NB477_495.out _; (with_reducible repeat (first | apply kN | apply k1 | apply kA)); exact BK477.out⟩; have n7_ : Aside0 ((w65.setCell ⟨gb495, 0, none⟩ (.slice Ao66 t491.length co66)).heap[gb495]? = some (.cells #[.slice Ao66 t491.length co66] 26 (0, 0))) := ⟨by (with_reducible repeat (first | apply kN | apply k1 | apply kA)); refine blk_put (cs := #[.slice none 0 0]) ?_ 0 _ rfl; (with_reducible repeat (first | apply kN | apply k1 | apply kA)); exact BK495.out⟩; have n8_ : Aside0 (Below w.heap.size w (w65.setCell ⟨gb495, 0, none⟩ (.slice Ao66 t491.length co66))) := ⟨by repeat (first | (with_reducible first | exact HB.out | apply bA | apply bN | apply b1 | refine bS ?_ (by assumption)) | exact HB.out)⟩; (try clear HO_3); (try clear HO_5); (try clear HO_6); (try clear HO_7); (try clear HO_478001); (try clear HO493); (try clear BK477); (try clear BK495); (try clear HB); generalize (w65.setCell ⟨gb495, 0, none⟩ (.slice Ao66 t491.length co66)) = w69 at n0_ n1_ n2_ n3_ n4_ n5_ n6_ n7_ n8_ ⊢; have HO_3 := n0_; have HO_5 := n1_; have HO_6 := n2_; have HO_7 := n3_; have HO_478001 := n4_; have HO493 := n5_; have BK477 := n6_; have BK495 := n7_; have HB := n8_; clear n0_ n1_ n2_ n3_ n4_ n5_ n6_ n7_ n8_; replace HO_3 := am (Kd.R_drew HO_3.out); replace HO_5 := am (Kd.R_drew HO_5.out); replace HO_6 := am (Kd.R_drew HO_6.out); replace HO_7 := am (Kd.R_drew HO_7.out); replace HO_478001 := am (Kd.R_drew HO_478001.out); replace HO493 := am (Kd.R_drew HO493.out); replace BK477 := am (blk_drew BK477.out); replace BK495 := am (blk_drew BK495.out); replace HB := am (below_drew1 HB.out); have p500 : 0 ≤ (0 : Int) := (by omega); have q500 : 0 < (t481.length : Int) := of_decide_eq_true (by first | (with_reducible assumption) | assumption); obtain ⟨ad500, e500, hx500_0, hx500_1⟩ := at_T33 (Kd.R_reads' HO_6.out).2.2 0 p500 q500; cases e500; have qi500 : (0 < t481.length) = True := eq_true (by omega); (try rw [show ((0 : Int)).toNat = 0 from rfl] at hx500_0); (try rw [show 0 * 2 = 0 from rfl] at hx500_0); (try rw [Addr.add_zero'] at hx500_0); (try rw [show ((0 : Int)).toNat = 0 from rfl] at hx500_1); (try rw [show 0 * 2 = 0 from rfl] at hx500_1); (try rw [Addr.add_zero'] at hx500_1); replace p500 := eq_true p500; replace q500 := eq_true q500; refine start_ (n := 39) (S := fun w' => w'.cell? ⟨gb495, 0, none⟩ = some (.slice Ao66 t491.length co66) ∧ w'.cell? ⟨gb477, 0, none⟩ = some (.int .i64 t473) ∧ w'.cell? ⟨gb477, 1, none⟩ = some (.slice Ao10 t474.length co10) ∧ w'.cell? ad500 = some (.int .i64 ((rd_T33 t481 0).f0)) ∧ w'.cell? ⟨ad500.block, ad500.off + 1, none⟩ = some (.int .i64 ((rd_T33 t481 0).f1))) (ds := []) #[false, false, false, false, false, false, false, false, false, false, false, false, false, false, false, false, false, false, false, false, false, false, false, false, false, false, false, false, false, false, false, false, false, false, false, false, false, false, false] (by kernel_rfl) rfl rfl ⟨(blk_cell BK495.out 0).trans rfl, (blk_cell BK477.out 0).trans rfl, (blk_cell BK477.out 1).trans rfl, hx500_0, hx500_1⟩ (fun hHeld => ?_); refine with_tabW laws_FnInOrder.tab12 laws_FnInOrder.bits12 (fun HT_ HW_ => ?_); generalize w69.drew = w70 at HO_3 HO_5 HO_6 HO_7 HO_478001 HO493 BK477 BK495 HB hx500_0 hx500_1 hHeld ⊢; refine pure_ (i := 0) (N := some 49) (v := ?_) (a' := ?_) #[true, false, false, false, false, false, false, false, false, false, false, false, false, false, false, false, false, false, false, false, false, false, false, false, false, false, false, false, false, false, false, false, false, false, false, false, false, false, false] rfl rfl (any_of HT_.out (by kernel_rfl)) (fun _ _ _ h => h) (Or.inl ⟨by rfl, ?_⟩) ?_ ?_; rotate_left
           ·intro w'
            go_simp; with_reducible rfl
           rotate_left
           ·simp only [Act.put, sa, s0, s1, i64_w, i32_w]
            rfl
           refine pure_ (i := 1) (N := some 50) (v := ?_) (a' := ?_) #[true, true, false, false, false, false, false, false, false, false, false, false, false, false, false, false, false, false, false, false, false, false, false, false, false, false, false, false, false, false, false, false, false, false, false, false, false, false, false] rfl rfl (any_of HT_.out (by kernel_rfl)) (fun _ _ _ h => h) (Or.inl ⟨by rfl, ?_⟩) ?_ ?_; rotate_left
           ·intro w'
            go_simp; with_reducible rfl
           rotate_left
           ·simp only [Act.put, sa, s0, s1, i64_w, i32_w]
            rfl
           refine take_ (i := 2) (N := some 51) (v := ?_) (a' := ?_) #[true, true, true, false, false, false, false, false, false, false, false, false, false, false, false, false, false, false, false, false, false, false, false, false, false, false, false, false, false, false, false, false, false, false, false, false, false, false, false] rfl rfl (take_ofW HT_.out HW_.out (by kernel_rfl)) (fun _ _ _ h => h) (Or.inl ⟨by rfl, ?_⟩) hHeld ?_ ?_; rotate_left
           ·rintro w' ⟨s0, s1, s2, s3, s4⟩
            go_simp; with_reducible rfl
           rotate_left
           ·simp only [Act.put, sa, s0, s1, i64_w, i32_w]
            rfl
           refine pure_ (i := 3) (N := some 52) (v := ?_) (a' := ?_) #[true, true, true, true, false, false, false, false, false, false, false, false, false, false, false, false, false, false, false, false, false, false, false, false, false, false, false, false, false, false, false, false, false, false, false, false, false, false, false] rfl rfl (any_of HT_.out (by kernel_rfl)) (fun _ _ _ h => h) (Or.inl ⟨by rfl, ?_⟩) ?_ ?_; rotate_left
           ·intro w'
            go_simp; with_reducible rfl
           rotate_left
           ·simp only [Act.put, sa, s0, s1, i64_w, i32_w]
            rfl
           refine pure_ (i := 4) (N := some 53) (v := ?_) (a' := ?_) #[true, true, true, true, true, false, false, false, false, false, false, false, false, false, false, false, false, false, false, false, false, false, false, false, false, false, false, false, false, false, false, false, false, false, false, false, false, false, false] rfl rfl (any_of HT_.out (by kernel_rfl)) (fun _ _ _ h => h) (Or.inl ⟨by rfl, ?_⟩) ?_ ?_; rotate_left
           ·intro w'
            go_simp; with_reducible rfl
           rotate_left
           ·simp only [Act.put, sa, s0, s1, i64_w, i32_w]
            rfl
           refine pure_ (i := 5) (N := some 54) (v := ?_) (a' := ?_) #[true, true, true, true, true, true, false, false, false, false, false, false, false, false, false, false, false, false, false, false, false, false, false, false, false, false, false, false, false, false, false, false, false, false, false, false, false, false, false] rfl rfl (any_of HT_.out (by kernel_rfl)) (fun _ _ _ h => h) (Or.inl ⟨by rfl, ?_⟩) ?_ ?_; rotate_left
           ·intro w'
            go_simp; with_reducible rfl
           rotate_left
           ·simp only [Act.put, sa, s0, s1, i64_w, i32_w]
            rfl
           refine pure_ (i := 6) (N := some 55) (v := ?_) (a' := ?_) #[true, true, true, true, true, true, true, false, false, false, false, false, false, false, false, false, false, false, false, false, false, false, false, false, false, false, false, false, false, false, false, false, false, false, false, false, false, false, false] rfl rfl (any_of HT_.out (by kernel_rfl)) (fun _ _ _ h => h) (Or.inl ⟨by rfl, ?_⟩) ?_ ?_; rotate_left
           ·intro w'
            go_simp; with_reducible rfl
           rotate_left
           ·simp only [Act.put, sa, s0, s1, i64_w, i32_w]
            rfl
           refine pure_ (i := 7) (N := some 56) (v := ?_) (a' := ?_) #[true, true, true, true, true, true, true, true, false, false, false, false, false, false, false, false, false, false, false, false, false, false, false, false, false, false, false, false, false, false, false, false, false, false, false, false, false, false, false] rfl rfl (any_of HT_.out (by kernel_rfl)) (fun _ _ _ h => h) (Or.inl ⟨by rfl, ?_⟩) ?_ ?_; rotate_left
           ·intro w'
            go_simp; with_reducible rfl
           rotate_left
           ·simp only [Act.put, sa, s0, s1, i64_w, i32_w]
            rfl
           refine pure_ (i := 8) (N := some 57) (v := ?_) (a' := ?_) #[true, true, true, true, true, true, true, true, true, false, false, false, false, false, false, false, false, false, false, false, false, false, false, false, false, false, false, false, false, false, false, false, false, false, false, false, false, false, false] rfl rfl (any_of HT_.out (by kernel_rfl)) (fun _ _ _ h => h) (Or.inl ⟨by rfl, ?_⟩) ?_ ?_; rotate_left
           ·intro w'
            go_simp; with_reducible rfl
           rotate_left
           ·simp only [Act.put, sa, s0, s1, i64_w, i32_w]
            rfl
           refine take_ (i := 9) (N := some 58) (v := ?_) (a' := ?_) #[true, true, true, true, true, true, true, true, true, true, false, false, false, false, false, false, false, false, false, false, false, false, false, false, false, false, false, false, false, false, false, false, false, false, false, false, false, false, false] rfl rfl (take_ofW HT_.out HW_.out (by kernel_rfl)) (fun _ _ _ h => h) (Or.inl ⟨by rfl, ?_⟩) hHeld ?_ ?_; rotate_left
           ·rintro w' ⟨s0, s1, s2, s3, s4⟩
            go_simp; with_reducible rfl
           rotate_left
           ·simp only [Act.put, sa, s0, s1, i64_w, i32_w]
            rfl
           refine pure_ (i := 10) (N := some 59) (v := ?_) (a' := ?_) #[true, true, true, true, true, true, true, true, true, true, true, false, false, false, false, false, false, false, false, false, false, false, false, false, false, false, false, false, false, false, false, false, false, false, false, false, false, false, false] rfl rfl (any_of HT_.out (by kernel_rfl)) (fun _ _ _ h => h) (Or.inl ⟨by rfl, ?_⟩) ?_ ?_; rotate_left
           ·intro w'
            go_simp; with_reducible rfl
           rotate_left
           ·simp only [Act.put, sa, s0, s1, i64_w, i32_w]
            rfl
           refine pure_ (i := 11) (N := some 60) (v := ?_) (a' := ?_) #[true, true, true, true, true, true, true, true, true, true, true, true, false, false, false, false, false, false, false, false, false, false, false, false, false, false, false, false, false, false, false, false, false, false, false, false, false, false, false] rfl rfl (any_of HT_.out (by kernel_rfl)) (fun _ _ _ h => h) (Or.inl ⟨by rfl, ?_⟩) ?_ ?_; rotate_left
           ·intro w'
            go_simp; with_reducible rfl
           rotate_left
           ·simp only [Act.put, sa, s0, s1, i64_w, i32_w]
            rfl
           refine pure_ (i := 12) (N := some 61) (v := ?_) (a' := ?_) #[true, true, true, true, true, true, true, true, true, true, true, true, true, false, false, false, false, false, false, false, false, false, false, false, false, false, false, false, false, false, false, false, false, false, false, false, false, false, false] rfl rfl (any_of HT_.out (by kernel_rfl)) (fun _ _ _ h => h) (Or.inl ⟨by rfl, ?_⟩) ?_ ?_; rotate_left
           ·intro w'
            go_simp; with_reducible rfl
           rotate_left
           ·simp only [Act.put, sa, s0, s1, i64_w, i32_w]
            rfl
           refine pure_ (i := 13) (N := some 62) (v := ?_) (a' := ?_) #[true, true, true, true, true, true, true, true, true, true, true, true, true, true, false, false, false, false, false, false, false, false, false, false, false, false, false, false, false, false, false, false, false, false, false, false, false, false, false] rfl rfl (any_of HT_.out (by kernel_rfl)) (fun _ _ _ h => h) (Or.inl ⟨by rfl, ?_⟩) ?_ ?_; rotate_left
           ·intro w'
            go_simp; with_reducible rfl
           rotate_left
           ·simp only [Act.put, sa, s0, s1, i64_w, i32_w]
            rfl
           refine pure_ (i := 14) (N := some 63) (v := ?_) (a' := ?_) #[true, true, true, true, true, true, true, true, true, true, true, true, true, true, true, false, false, false, false, false, false, false, false, false, false, false, false, false, false, false, false, false, false, false, false, false, false, false, false] rfl rfl (any_of HT_.out (by kernel_rfl)) (fun _ _ _ h => h) (Or.inl ⟨by rfl, ?_⟩) ?_ ?_; rotate_left
           ·intro w'
            go_simp; with_reducible rfl
           rotate_left
           ·simp only [Act.put, sa, s0, s1, i64_w, i32_w]
            rfl
           refine pure_ (i := 16) (N := some 65) (v := ?_) (a' := ?_) #[true, true, true, true, true, true, true, true, true, true, true, true, true, true, true, false, true, false, false, false, false, false, false, false, false, false, false, false, false, false, false, false, false, false, false, false, false, false, false] rfl rfl (any_of HT_.out (by kernel_rfl)) (fun _ _ _ h => h) (Or.inl ⟨by rfl, ?_⟩) ?_ ?_; rotate_left
           ·intro w'
            go_simp; with_reducible rfl
           rotate_left
           ·simp only [Act.put, sa, s0, s1, i64_w, i32_w]
            rfl
           refine take_ (i := 15) (N := some 64) (v := ?_) (a' := ?_) #[true, true, true, true, true, true, true, true, true, true, true, true, true, true, true, true, true, false, false, false, false, false, false, false, false, false, false, false, false, false, false, false, false, false, false, false, false, false, false] rfl rfl (take_ofW HT_.out HW_.out (by kernel_rfl)) (fun _ _ _ h => h) (Or.inl ⟨by rfl, ?_⟩) hHeld ?_ ?_; rotate_left
           ·rintro w' ⟨s0, s1, s2, s3, s4⟩
            go_simp; with_reducible rfl
           rotate_left
           ·simp only [Act.put, sa, s0, s1, i64_w, i32_w]
            rfl
           refine one_ (i := 17) (N := some 66) #[true, true, true, true, true, true, true, true, true, true, true, true, true, true, true, true, true, true, false, false, false, false, false, false, false, false, false, false, false, false, false, false, false, false, false, false, false, false, false] rfl rfl (one_of HT_.out (by kernel_rfl)) (by decide) (fun K hK => ?_); refine goes_ Try.func17 (by kernel_rfl) rfl #[.slice Ao13 t470.length co13] (by rfl) rfl rfl (by (try simp only [List.map_toArray, List.map_cons, List.map_nil]); first | done | rfl | (simp only [List.length_drop, List.length_take]; rfl)) ?_; (with_reducible refine (impl_MemSent.calls _ _ t470 t496 _ ?side1 ?side2 A28.out).mono ?_); (case side1 => exact pkc (Kd.R_reads' HO_3.out).2.2); (case side2 => exact (Kd.R_reads' HO_3.out).2.1); rintro e w71 ⟨v497, rfl, ho0, hb⟩; have HS3_ := (hb.cell (World.block_lt_of_cell? _ _ (hHeld.2.2.2.1))).trans (hHeld.2.2.2.1); have HS4_ := (hb.cell (World.block_lt_of_cell? _ _ (hHeld.2.2.2.2))).trans (hHeld.2.2.2.2); refine ⟨_, rfl, ?_⟩; replace HO_6 := am (Kd.R_below (pkr HO_6.out) hb); replace HO_7 := am (Kd.R_below (pkr HO_7.out) hb); have HO498 := am (Kd.R_lower (Kd.R_new' (Kd.R_new' (Kd.R_new' (Kd.R_new' ho0 (Kd.R_lt (pkr HO_3.out))) (Kd.R_lt (pkr HO_5.out))) (Kd.R_lt (pkr HO_478001.out))) (Kd.R_lt (pkr HO493.out))) (below_size (by repeat (first | (with_reducible first | exact HB.out | apply bA | apply bN | apply b1 | refine bS ?_ (by assumption)) | exact HB.out)))); replace HO_3 := am (Kd.R_elder' (pkr HO_3.out) (Kd.R_base ho0) hb); replace HO_5 := am (Kd.R_elder' (pkr HO_5.out) (Kd.R_base ho0) hb); replace HO_478001 := am (Kd.R_elder' (pkr HO_478001.out) (Kd.R_base ho0) hb); replace HO493 := am (Kd.R_elder' (pkr HO493.out) (Kd.R_base ho0) hb); replace BK477 := am (blk_below (pkb BK477.out) hb); replace BK495 := am (blk_below (pkb BK495.out) hb); replace HB := am (below_step (by repeat (first | (with_reducible first | exact HB.out | apply bA | apply bN | apply b1 | refine bS ?_ (by assumption)) | exact HB.out)) hb); (try clear hb); (try clear hb2); (try clear hk); (try clear hi); (try clear ho0); obtain ⟨Ao72, co72, eo72⟩ := Kd.R_slice HO498.out; (first | subst eo72 | (injection eo72 with f1_ f2_ f3_; have f4_ := f1_.symm; have f5_ := f3_.symm; clear f1_ f2_ f3_; subst f4_; subst f5_)); refine hK.out _ _ ⟨(blk_cell BK495.out 0).trans rfl, (blk_cell BK477.out 0).trans rfl, (blk_cell BK477.out 1).trans rfl, HS3_, HS4_⟩ (fun hHeld => ?_); clear hK K; refine norm_ (a' := ?_) ?_ ?_; rotate_left
           ·show Act.put _ (some 66) _ = _
            simp only [Act.put, sa, s0, s1, i64_w, i32_w]; rfl
           refine one_ (i := 18) (N := some 67) #[true, true, true, true, true, true, true, true, true, true, true, true, true, true, true, true, true, true, true, false, false, false, false, false, false, false, false, false, false, false, false, false, false, false, false, false, false, false, false] rfl rfl (one_of HT_.out (by kernel_rfl)) (by decide) (fun K hK => ?_); refine goes_ Try.func16 (by kernel_rfl) rfl #[.slice Ao66 t491.length co66, .slice Ao72 t496.length co72] (by rfl) rfl rfl (by (try simp only [List.map_toArray, List.map_cons, List.map_nil]); first | done | rfl | (simp only [List.length_drop, List.length_take]; rfl)) ?_; (with_reducible refine (impl_IsPrefixOf.calls k1 _ _ t491 _ _ t496 true _ ?side1 ?side2 ?side3 ?side4 A29.out).mono ?_); (case side1 => exact pkc (Kd.R_reads' HO493.out).2.2); (case side2 => exact (Kd.R_reads' HO493.out).2.1); (case side3 => exact pkc (Kd.R_reads' HO498.out).2.2); (case side4 => exact (Kd.R_reads' HO498.out).2.1); rintro e w' ⟨rfl, ⟨nd, rfl⟩⟩; refine ⟨_, rfl, ?_⟩; refine hK.out _ _ ⟨(blk_cell BK495.out 0).trans rfl, (blk_cell BK477.out 0).trans rfl, (blk_cell BK477.out 1).trans rfl, hHeld.2.2.2.1, hHeld.2.2.2.2⟩ (fun hHeld => ?_); clear hK K; refine norm_ (a' := ?_) ?_ ?_; rotate_left
           ·show Act.put _ (some 67) _ = _
            simp only [Act.put, sa, s0, s1, i64_w, i32_w]; rfl
           refine pure_ (i := 19) (N := some 68) (v := ?_) (a' := ?_) #[true, true, true, true, true, true, true, true, true, true, true, true, true, true, true, true, true, true, true, true, false, false, false, false, false, false, false, false, false, false, false, false, false, false, false, false, false, false, false] rfl rfl (any_of HT_.out (by kernel_rfl)) (fun _ _ _ h => h) (Or.inl ⟨by rfl, ?_⟩) ?_ ?_; rotate_left
           ·intro w'
            go_simp; with_reducible rfl
           rotate_left
           ·simp only [Act.put, sa, s0, s1, i64_w, i32_w]
            rfl
           refine pure_ (i := 20) (N := some 69) (v := ?_) (a' := ?_) #[true, true, true, true, true, true, true, true, true, true, true, true, true, true, true, true, true, true, true, true, true, false, false, false, false, false, false, false, false, false, false, false, false, false, false, false, false, false, false] rfl rfl (any_of HT_.out (by kernel_rfl)) (fun _ _ _ h => h) (Or.inl ⟨by rfl, ?_⟩) ?_ ?_; rotate_left
           ·intro w'
            go_simp; with_reducible rfl
           rotate_left
           ·simp only [Act.put, sa, s0, s1, i64_w, i32_w]
            rfl
           refine pure_ (i := 21) (N := some 70) (v := ?_) (a' := ?_) #[true, true, true, true, true, true, true, true, true, true, true, true, true, true, true, true, true, true, true, true, true, true, false, false, false, false, false, false, false, false, false, false, false, false, false, false, false, false, false] rfl rfl (any_of HT_.out (by kernel_rfl)) (fun _ _ _ h => h) (Or.inl ⟨by rfl, ?_⟩) ?_ ?_; rotate_left
           ·intro w'
            go_simp; with_reducible rfl
           rotate_left
           ·simp only [Act.put, sa, s0, s1, i64_w, i32_w]
            rfl
           refine pure_ (i := 22) (N := some 71) (v := ?_) (a' := ?_) #[true, true, true, true, true, true, true, true, true, true, true, true, true, true, true, true, true, true, true, true, true, true, true, false, false, false, false, false, false, false, false, false, false, false, false, false, false, false, false] rfl rfl (any_of HT_.out (by kernel_rfl)) (fun _ _ _ h => h) (Or.inl ⟨by rfl, ?_⟩) ?_ ?_; rotate_left
           ·intro w'
            go_simp; with_reducible rfl
           rotate_left
           ·simp only [Act.put, sa, s0, s1, i64_w, i32_w]
            rfl
           refine pure_ (i := 23) (N := some 72) (v := ?_) (a' := ?_) #[true, true, true, true, true, true, true, true, true, true, true, true, true, true, true, true, true, true, true, true, true, true, true, true, false, false, false, false, false, false, false, false, false, false, false, false, false, false, false] rfl rfl (any_of HT_.out (by kernel_rfl)) (fun _ _ _ h => h) (Or.inl ⟨by rfl, ?_⟩) ?_ ?_; rotate_left
           ·intro w'
            go_simp; with_reducible rfl
           rotate_left
           ·simp only [Act.put, sa, s0, s1, i64_w, i32_w]
            rfl
           refine pure_ (i := 24) (N := some 73) (v := ?_) (a' := ?_) #[true, true, true, true, true, true, true, true, true, true, true, true, true, true, true, true, true, true, true, true, true, true, true, true, true, false, false, false, false, false, false, false, false, false, false, false, false, false, false] rfl rfl (any_of HT_.out (by kernel_rfl)) (fun _ _ _ h => h) (Or.inl ⟨by rfl, ?_⟩) ?_ ?_; rotate_left
           ·intro w'
            go_simp; with_reducible rfl
           rotate_left
           ·simp only [Act.put, sa, s0, s1, i64_w, i32_w]
            rfl
           refine pure_ (i := 25) (N := some 74) (v := ?_) (a' := ?_) #[true, true, true, true, true, true, true, true, true, true, true, true, true, true, true, true, true, true, true, true, true, true, true, true, true, true, false, false, false, false, false, false, false, false, false, false, false, false, false] rfl rfl (any_of HT_.out (by kernel_rfl)) (fun _ _ _ h => h) (Or.inl ⟨by rfl, ?_⟩) ?_ ?_; rotate_left
           ·intro w'
            go_simp; with_reducible rfl
           rotate_left
           ·simp only [Act.put, sa, s0, s1, i64_w, i32_w]
            rfl
           refine pure_ (i := 26) (N := some 75) (v := ?_) (a' := ?_) #[true, true, true, true, true, true, true, true, true, true, true, true, true, true, true, true, true, true, true, true, true, true, true, true, true, true, true, false, false, false, false, false, false, false, false, false, false, false, false] rfl rfl (any_of HT_.out (by kernel_rfl)) (fun _ _ _ h => h) (Or.inl ⟨by rfl, ?_⟩) ?_ ?_; rotate_left
           ·intro w'
            go_simp; with_reducible rfl
           rotate_left
           ·simp only [Act.put, sa, s0, s1, i64_w, i32_w]
            rfl
           refine pure_ (i := 27) (N := some 76) (v := ?_) (a' := ?_) #[true, true, true, true, true, true, true, true, true, true, true, true, true, true, true, true, true, true, true, true, true, true, true, true, true, true, true, true, false, false, false, false, false, false, false, false, false, false, false] rfl rfl (any_of HT_.out (by kernel_rfl)) (fun _ _ _ h => h) (Or.inl ⟨by rfl, ?_⟩) ?_ ?_; rotate_left
           ·intro w'
            go_simp; with_reducible rfl
           rotate_left
           ·simp only [Act.put, sa, s0, s1, i64_w, i32_w]
            rfl
           refine take_ (i := 28) (N := some 77) (v := ?_) (a' := ?_) #[true, true, true, true, true, true, true, true, true, true, true, true, true, true, true, true, true, true, true, true, true, true, true, true, true, true, true, true, true, false, false, false, false, false, false, false, false, false, false] rfl rfl (take_ofW HT_.out HW_.out (by kernel_rfl)) (fun _ _ _ h => h) (Or.inl ⟨by rfl, ?_⟩) hHeld ?_ ?_; rotate_left
           ·rintro w' ⟨s0, s1, s2, s3, s4⟩
            go_simp; with_reducible rfl
           rotate_left
           ·simp only [Act.put, sa, s0, s1, i64_w, i32_w]
            rfl
           refine pure_ (i := 29) (N := some 78) (v := ?_) (a' := ?_) #[true, true, true, true, true, true, true, true, true, true, true, true, true, true, true, true, true, true, true, true, true, true, true, true, true, true, true, true, true, true, false, false, false, false, false, false, false, false, false] rfl rfl (any_of HT_.out (by kernel_rfl)) (fun _ _ _ h => h) (Or.inl ⟨by rfl, ?_⟩) ?_ ?_; rotate_left
           ·intro w'
            go_simp; with_reducible rfl
           rotate_left
           ·simp only [Act.put, sa, s0, s1, i64_w, i32_w]
            rfl
           refine pure_ (i := 30) (N := some 79) (v := ?_) (a' := ?_) #[true, true, true, true, true, true, true, true, true, true, true, true, true, true, true, true, true, true, true, true, true, true, true, true, true, true, true, true, true, true, true, false, false, false, false, false, false, false, false] rfl rfl (any_of HT_.out (by kernel_rfl)) (fun _ _ _ h => h) (Or.inl ⟨by rfl, ?_⟩) ?_ ?_; rotate_left
           ·intro w'
            go_simp; with_reducible rfl
           rotate_left
           ·simp only [Act.put, sa, s0, s1, i64_w, i32_w]
            rfl
           refine pure_ (i := 31) (N := some 80) (v := ?_) (a' := ?_) #[true, true, true, true, true, true, true, true, true, true, true, true, true, true, true, true, true, true, true, true, true, true, true, true, true, true, true, true, true, true, true, true, false, false, false, false, false, false, false] rfl rfl (any_of HT_.out (by kernel_rfl)) (fun _ _ _ h => h) (Or.inl ⟨by rfl, ?_⟩) ?_ ?_; rotate_left
           ·intro w'
            go_simp; with_reducible rfl
           rotate_left
           ·simp only [Act.put, sa, s0, s1, i64_w, i32_w]
            rfl
           refine pure_ (i := 32) (N := some 81) (v := undef) (a' := ?_) #[true, true, true, true, true, true, true, true, true, true, true, true, true, true, true, true, true, true, true, true, true, true, true, true, true, true, true, true, true, true, true, true, true, false, false, false, false, false, false] rfl rfl (any_of HT_.out (by kernel_rfl)) (fun _ _ _ h => h) (Or.inr ⟨by rfl, rfl⟩) ?_ ?_; rotate_left
           ·simp only [Act.put, sa, s0, s1, i64_w, i32_w]
            rfl
           refine pure_ (i := 33) (N := some 82) (v := undef) (a' := ?_) #[true, true, true, true, true, true, true, true, true, true, true, true, true, true, true, true, true, true, true, true, true, true, true, true, true, true, true, true, true, true, true, true, true, true, false, false, false, false, false] rfl rfl (any_of HT_.out (by kernel_rfl)) (fun _ _ _ h => h) (Or.inr ⟨by rfl, rfl⟩) ?_ ?_; rotate_left
           ·simp only [Act.put, sa, s0, s1, i64_w, i32_w]
            rfl
           refine pure_ (i := 34) (N := some 83) (v := undef) (a' := ?_) #[true, true, true, true, true, true, true, true, true, true, true, true, true, true, true, true, true, true, true, true, true, true, true, true, true, true, true, true, true, true, true, true, true, true, true, false, false, false, false] rfl rfl (any_of HT_.out (by kernel_rfl)) (fun _ _ _ h => h) (Or.inr ⟨by rfl, rfl⟩) ?_ ?_; rotate_left
           ·simp only [Act.put, sa, s0, s1, i64_w, i32_w]
            rfl
           refine pure_ (i := 35) (N := some 84) (v := undef) (a' := ?_) #[true, true, true, true, true, true, true, true, true, true, true, true, true, true, true, true, true, true, true, true, true, true, true, true, true, true, true, true, true, true, true, true, true, true, true, true, false, false, false] rfl rfl (any_of HT_.out (by kernel_rfl)) (fun _ _ _ h => h) (Or.inr ⟨by rfl, rfl⟩) ?_ ?_; rotate_left
           ·simp only [Act.put, sa, s0, s1, i64_w, i32_w]
            rfl
           refine pure_ (i := 36) (N := some 85) (v := ?_) (a' := ?_) #[true, true, true, true, true, true, true, true, true, true, true, true, true, true, true, true, true, true, true, true, true, true, true, true, true, true, true, true, true, true, true, true, true, true, true, true, true, false, false] rfl rfl (any_of HT_.out (by kernel_rfl)) (fun _ _ _ h => h) (Or.inl ⟨by rfl, ?_⟩) ?_ ?_; rotate_left
           ·intro w'
            go_simp; with_reducible rfl
           rotate_left
           ·simp only [Act.put, sa, s0, s1, i64_w, i32_w]
            rfl
           refine pure_ (i := 37) (N := some 86) (v := ?_) (a' := ?_) #[true, true, true, true, true, true, true, true, true, true, true, true, true, true, true, true, true, true, true, true, true, true, true, true, true, true, true, true, true, true, true, true, true, true, true, true, true, true, false] rfl rfl (any_of HT_.out (by kernel_rfl)) (fun _ _ _ h => h) (Or.inl ⟨by rfl, ?_⟩) ?_ ?_; rotate_left
           ·intro w'
            go_simp; with_reducible rfl
           rotate_left
           ·simp only [Act.put, sa, s0, s1, i64_w, i32_w]
            rfl
           refine pure_ (i := 38) (N := some 2) (v := ?_) (a' := ?_) #[true, true, true, true, true, true, true, true, true, true, true, true, true, true, true, true, true, true, true, true, true, true, true, true, true, true, true, true, true, true, true, true, true, true, true, true, true, true, true] rfl rfl (any_of HT_.out (by kernel_rfl)) (fun _ _ _ h => h) (Or.inl ⟨by rfl, ?_⟩) ?_ ?_; rotate_left
           ·intro w'
            go_simp; with_reducible rfl
           rotate_left
           ·simp only [Act.put, sa, s0, s1, i64_w, i32_w]
            rfl
           refine done_ (done_of HT_.out (by kernel_rfl)) ?_; try go_wp2
           go_ret
           exact ⟨by first | rfl | (simp [errW_none, errW_some] <;> rfl) | (simp [*, errW_none, errW_some] <;> rfl), by repeat (first | (with_reducible first | exact HB.out | apply bA | apply bN | apply b1 | refine bS ?_ (by assumption)) | exact HB.out)⟩
         ·rw [if_neg c44] at H
          exact absurd H (by simp)
       ·replace c30 := Bool.eq_false_iff.mpr c30
        subst c30
        have H1 : (none) = some r := by rw [if_neg (show ¬ (false = true) by decide)] at H; exact H
        clear H; have H := H1; clear H1; exact absurd H (by simp)
      ·rw [if_neg c27] at H
       have c27b0 : decide ((t474.length : Int) ≤ t494) = false := decide_eq_false c27; clear c27; exact absurd H (by simp)
     ·rw [if_neg c26] at H
      have c26b0 : (t494 == (t491.length : Int)) = false := beq_eq_false_iff_ne.mpr c26; have c26b1 : (t494 != (t491.length : Int)) = true := bne_iff_ne.mpr c26; exact absurd H (by simp)

end Go.Proofs.Ytdmmogcpamgdnaa.PFnInOrder
