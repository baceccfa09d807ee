-- written by xprint.py for this seat
import Derived.Test.YtdmmogcpamgdnaaPFnOncex0
import Derived.Test.YtdmmogcpamgdnaaPFnOncex1
import Derived.Test.YtdmmogcpamgdnaaPFnOncex4
namespace Go.Proofs.Ytdmmogcpamgdnaa.PFnOnce
open Go.RowKit Go.Proofs.YtdmmogcpamgdnaaW.PrintWords Go.Proofs.YtdmmogcpamgdnaaW.PrintLast Go.Proofs.YtdmmogcpamgdnaaW.PrintMore
attribute [local go_sem] max2_int min2_int max_two min_two max_three min_three max_four min_four   -- for this text's walks alone
set_option linter.unusedVariables false
set_option linter.unusedSimpArgs false

/-! ### spec_l01New: function 28 -/
def spec_l01New.l0 : Nat → List Int → Int → Int → Option (List Int × Int × Int)
 | 0, _, _, _ => none
 | k + 1, x0, x3, x4 => if x4 < (x0.length : Int) then (if x4 < 4000 then (if 0 ≤ x4 then (spec_l01New.l0 k x0 (Go.bits .and .i64 (wrap64 ((wrap64 ((wrap64 (x3 * 131)) + (wrap64 (rd x0 x4)))) + 7)) 1073741823) (wrap64 (x4 + 1))) else (none)) else (some (x0, 0, x3))) else (some (x0, 0, x3))
def spec_l01New.f (k : Nat) (l0 : List Int) : Option (List Int × Int × Int) := spec_l01New.l0 k l0 (wrap64 (98347 + (l0.length : Int))) 0
theorem spec_l01New.mono_l : ∀ k, (∀ y0 y1 y2, LeO (spec_l01New.l0 k y0 y1 y2) (spec_l01New.l0 (k + 1) y0 y1 y2))
 | 0 => fun _ _ _ r h => by simp [spec_l01New.l0] at h
 | k + 1 => by
  have ih0 := spec_l01New.mono_l k
  ·intro y0 y1 y2
   unfold spec_l01New.l0
   repeat' first
   | (with_reducible exact ih0 _ _ _)
   | (with_reducible exact LeO.refl _)
   | (with_reducible exact LeO.none _)
   | (with_reducible refine LeO.ite ?_ ?_)
   | (with_reducible refine LeO.bind ?_ (fun _ => ?_))
   | exact ih0 _ _ _
   | exact LeO.none _
   | refine LeO.ite ?_ ?_
   | refine LeO.bind ?_ (fun _ => ?_)
theorem spec_l01New.mono : ∀ a0 k, LeO (spec_l01New.f k a0) (spec_l01New.f (k + 1) a0) := by
 intro a0 k; have ih0 := spec_l01New.mono_l k; unfold spec_l01New.f
 repeat' first
   | (with_reducible exact ih0 _ _ _)
   | (with_reducible exact LeO.refl _)
   | (with_reducible exact LeO.none _)
   | (with_reducible refine LeO.ite ?_ ?_)
   | (with_reducible refine LeO.bind ?_ (fun _ => ?_))
   | exact ih0 _ _ _
   | exact LeO.none _
   | refine LeO.ite ?_ ?_
   | refine LeO.bind ?_ (fun _ => ?_)
set_option maxHeartbeats 8000000 in
set_option maxRecDepth 100000 in
theorem spec_l01New.calls (k : Nat) (A0 : Option Addr) (c0 : Nat) (l0 : List Int) (r1 : List Int) (r2 : Int) (r3 : Int) (w0 w : World) (hB : Below w0.heap.size w0 w) (hr0 : Kd.C (Kd.int .u8) w0 A0 l0.length l0) (hc0 : l0.length ≤ c0) (h : spec_l01New.f k l0 = some (r1, r2, r3)) :
  Calls Try.prog 28 #[.slice A0 l0.length c0] w fun e w' => ∃ g_ : Nat, e = .returned (.pointer (some ⟨g_, 0, none⟩)) ∧ IsS99 w0 w' g_ r1 r2 r3 ∧ Below w0.heap.size w0 w' ∧ Below w.heap.size w w' := by
 have hu99 := Try.underlying99; have HR0 := am hr0; have HC0 := am hc0; clear hr0 hc0; have HBW := am (Below.refl w.heap.size w); have HW0 := am hB.size; have HB := am hB; clear hB; have H : (spec_l01New.l0 k l0 (wrap64 (98347 + (l0.length : Int))) 0) = some (r1, r2, r3) := h; clear h; have H' := am H; clear H; go_enter Try.func28, Try.ntmps28
 go_wp2
 go_loopg [3, 4] k (fun kq v3 v4 w' => ∃ (x3_1 : Int) (x4_1 : Int), v3 = .int .i64 x3_1 ∧ v4 = .int .i64 x4_1 ∧ Aside0 (spec_l01New.l0 kq l0 x3_1 x4_1 = some (r1, r2, r3)) ∧ Aside0 (kq ≤ k) ∧ Aside0 (Below w0.heap.size w0 w') ∧ Aside0 (Below w.heap.size w w'))
 case atStart => exact ⟨(wrap64 (98347 + (l0.length : Int))), (0), (by first | rfl | (simp; done) | (simp [*]; done)), (by first | rfl | (simp; done) | (simp [*]; done)), H', ⟨Nat.le_refl _⟩, ⟨by repeat (first | (with_reducible first | exact HB.out | apply bA | apply bN | apply b1) | exact HB.out)⟩, ⟨by repeat (first | (with_reducible first | exact HBW.out | apply bA | apply bN | apply b1) | exact HBW.out)⟩⟩
 case round =>
  clear H'; obtain ⟨x3_1, x4_1, rfl, rfl, HA, HK1, HB, HBW⟩ := hrel; cases gk with
  | zero => exact absurd HA.out (by simp [spec_l01New.l0])
  | succ k1 =>
   have H := HA.out; clear HA; simp only [spec_l01New.l0] at H
   by_cases c2 : x4_1 < (l0.length : Int)
   ·rw [if_pos c2] at H
    have c2b0 : decide (x4_1 < (l0.length : Int)) = true := decide_eq_true c2; clear c2
    by_cases c3 : x4_1 < 4000
    ·rw [if_pos c3] at H
     have c3b0 : decide (x4_1 < 4000) = true := decide_eq_true c3; clear c3
     by_cases c4 : 0 ≤ x4_1
     ·rw [if_pos c4] at H
      have c4b0 : decide (0 ≤ x4_1) = true := decide_eq_true c4; clear c4; have H' := am H; clear H; have p375 : 0 ≤ (x4_1 : Int) := of_decide_eq_true (by first | (with_reducible assumption) | assumption); have q375 : x4_1 < (l0.length : Int) := of_decide_eq_true (by first | (with_reducible assumption) | assumption); obtain ⟨ad375, e375, hx375_0⟩ := Kd.at_int HR0.out x4_1 p375 q375; cases e375; replace hx375_0 := pw_cell_below HB.out hx375_0; replace p375 := eq_true p375; replace q375 := eq_true q375
      go_wp2
      go_roundg k1
      case measure => have := HK1.out; omega
      case rel => exact ⟨(Go.bits .and .i64 (wrap64 ((wrap64 ((wrap64 (x3_1 * 131)) + (wrap64 (rd l0 x4_1)))) + 7)) 1073741823), (wrap64 (x4_1 + 1)), (by first | rfl | (simp; done) | (simp [*]; done)), (by first | rfl | (simp; done) | (simp [*]; done)), H', ⟨by have := HK1.out; omega⟩, ⟨by repeat (first | (with_reducible first | exact HB.out | apply bA | apply bN | apply b1) | exact HB.out)⟩, ⟨by repeat (first | (with_reducible first | exact HBW.out | apply bA | apply bN | apply b1) | exact HBW.out)⟩⟩
     ·rw [if_neg c4] at H
      exact absurd H (by simp)
    ·rw [if_neg c3] at H
     have c3b0 : decide (x4_1 < 4000) = false := decide_eq_false c3; clear c3; simp only [Option.some.injEq, Prod.mk.injEq] at H; obtain ⟨rfl, rfl, rfl⟩ := H
     go_wp2_with (first | ((with_reducible refine gate_dst (N := 31) rfl ?_); refine box_event ?hg (N := 31) ?hd (cs := #[.slice A0 l0.length c0, .int .i64 0, .int .i64 x3_1]) (t := 99) ?hr ?_; (case hd => rfl); (case hg => rfl); (case hr => first | (go_simp; done) | (go_simp; rfl)); intro gb376 hg w5 hbox hb; replace HB := am (below_step (pkh HB.out) hb); have BK376 := am (hbox); have GW376 := am ((by rw [hg]; exact (below_size (pkh HBW.out)) : w.heap.size ≤ gb376)); have GE376 := am ((Nat.le_trans HW0.out (by rw [hg]; exact (below_size (pkh HBW.out)) : w.heap.size ≤ gb376) : w0.heap.size ≤ gb376)); replace HBW := am (below_step HBW.out hb); clear hb hbox hg))
     go_ret
     exact ⟨_, rfl, (show IsS99 w0 _ gb376 l0 0 x3_1 from ⟨_, _, by (with_reducible repeat (first | apply kN | apply k1 | apply kA)); exact BK376.out, GE376.out, HR0.out⟩), by repeat (first | (with_reducible first | exact HB.out | apply bA | apply bN | apply b1 | refine bS ?_ (by assumption)) | exact HB.out), by repeat (first | (with_reducible first | exact HBW.out | apply bA | apply bN | apply b1 | refine bS ?_ (by assumption)) | exact HBW.out)⟩
   ·rw [if_neg c2] at H
    have c2b0 : decide (x4_1 < (l0.length : Int)) = false := decide_eq_false c2; clear c2; simp only [Option.some.injEq, Prod.mk.injEq] at H; obtain ⟨rfl, rfl, rfl⟩ := H
    go_wp2_with (first | ((with_reducible refine gate_dst (N := 31) rfl ?_); refine box_event ?hg (N := 31) ?hd (cs := #[.slice A0 l0.length c0, .int .i64 0, .int .i64 x3_1]) (t := 99) ?hr ?_; (case hd => rfl); (case hg => rfl); (case hr => first | (go_simp; done) | (go_simp; rfl)); intro gb377 hg w6 hbox hb; replace HB := am (below_step (pkh HB.out) hb); have BK377 := am (hbox); have GW377 := am ((by rw [hg]; exact (below_size (pkh HBW.out)) : w.heap.size ≤ gb377)); have GE377 := am ((Nat.le_trans HW0.out (by rw [hg]; exact (below_size (pkh HBW.out)) : w.heap.size ≤ gb377) : w0.heap.size ≤ gb377)); replace HBW := am (below_step HBW.out hb); clear hb hbox hg))
    go_ret
    exact ⟨_, rfl, (show IsS99 w0 _ gb377 l0 0 x3_1 from ⟨_, _, by (with_reducible repeat (first | apply kN | apply k1 | apply kA)); exact BK377.out, GE377.out, HR0.out⟩), by repeat (first | (with_reducible first | exact HB.out | apply bA | apply bN | apply b1 | refine bS ?_ (by assumption)) | exact HB.out), by repeat (first | (with_reducible first | exact HBW.out | apply bA | apply bN | apply b1 | refine bS ?_ (by assumption)) | exact HBW.out)⟩

/-! ### spec_DrawLink: function 9 -/
def spec_DrawLink.f (k : Nat) (l0 : List Int) : Option (List Int × Int × List Int) := (spec_l01New.f k l0).bind fun bt379 => ((spec_l32Case.f k bt379.1 bt379.2.1 bt379.2.2).bind fun bt383 => (some (bt383.1, bt383.2.1, bt383.2.2.1)))
theorem spec_DrawLink.mono : ∀ a0 k, LeO (spec_DrawLink.f k a0) (spec_DrawLink.f (k + 1) a0) := by
 intro a0 k; unfold spec_DrawLink.f
 repeat' first
   | (with_reducible exact spec_l01New.mono _ _)
   | (with_reducible exact spec_l32Case.mono _ _ _ _)
   | (with_reducible exact LeO.refl _)
   | (with_reducible exact LeO.none _)
   | (with_reducible refine LeO.ite ?_ ?_)
   | (with_reducible refine LeO.bind ?_ (fun _ => ?_))
   | exact spec_l01New.mono _ _
   | exact spec_l32Case.mono _ _ _ _
   | exact LeO.none _
   | refine LeO.ite ?_ ?_
   | refine LeO.bind ?_ (fun _ => ?_)
set_option maxHeartbeats 8000000 in
set_option maxRecDepth 100000 in
theorem spec_DrawLink.calls (k : Nat) (A0 : Option Addr) (c0 : Nat) (l0 : List Int) (r1 : List Int) (r2 : Int) (r3 : List Int) (w : World) (hr0 : Kd.C (Kd.int .u8) w A0 l0.length l0) (hc0 : l0.length ≤ c0) (h : spec_DrawLink.f k l0 = some (r1, r2, r3)) :
  Calls Try.prog 9 #[.slice A0 l0.length c0] w fun e w' => ∃ v0_ v2_ : Value, e = .returned (.tuple #[v0_, .agg #[.int .i64 r2, v2_]]) ∧ Kd.R (Kd.int .i64) 3 w' w.heap.size (fun k_ => some k_ ≠ (v2_ : Value).ownBlock) v0_ r1 ∧ Kd.R (Kd.int .i64) 3 w' w.heap.size (fun k_ => some k_ ≠ (v0_ : Value).ownBlock) v2_ r3 ∧ Below w.heap.size w w' := by
 have hu28 := Try.underlying28; have HR0 := am hr0; have HC0 := am hc0; clear hr0 hc0; have HB := am (Below.refl w.heap.size w); have H : ((spec_l01New.f k l0).bind fun bt379 => ((spec_l32Case.f k bt379.1 bt379.2.1 bt379.2.2).bind fun bt383 => (some (bt383.1, bt383.2.1, bt383.2.2.1)))) = some (r1, r2, r3) := h; clear h; replace H := Option.bind_eq_some_iff.mp H; obtain ⟨⟨t379, t380, t381⟩, A20, H⟩ := H; replace H : ((spec_l32Case.f k t379 t380 t381).bind fun bt383 => (some (bt383.1, bt383.2.1, bt383.2.2.1))) = some (r1, r2, r3) := H; have A2 := am A20; clear A20; replace H := Option.bind_eq_some_iff.mp H; obtain ⟨⟨t383, t386, t387, t390, t391⟩, A30, H⟩ := H; replace H : (some (t383, t386, t387)) = some (r1, r2, r3) := H; have A3 := am A30; clear A30; simp only [Option.some.injEq, Prod.mk.injEq] at H; obtain ⟨rfl, rfl, rfl⟩ := H; go_enter Try.func9, Try.ntmps9
 go_wp2_with (first | ((with_reducible refine gate_dst (N := 3) rfl ?_); refine box_event ?hg (N := 3) ?hd (cs := #[.int .i64 0, .slice none 0 0]) (t := 28) ?hr ?_; (case hd => rfl); (case hg => rfl); (case hr => first | (go_simp; done) | (go_simp; rfl)); intro gb378 hg w4 hbox hb; have BK378 := am (hbox); have GW378 := am ((by rw [hg]; exact (below_size (by repeat (first | (with_reducible first | exact HB.out | apply bA | apply bN | apply b1) | exact HB.out))) : w.heap.size ≤ gb378)); replace HB := am (below_step (by repeat (first | (with_reducible first | exact HB.out | apply bA | apply bN | apply b1) | exact HB.out)) hb); have GE378 := GW378; clear hb hbox hg) | ((with_reducible refine gate_callee (f := 28) rfl ?_); refine goesL_ (some 5) rfl rfl Try.func28 (by kernel_rfl) rfl #[.slice A0 l0.length c0] rfl (by (try simp only [List.map_toArray, List.map_cons, List.map_nil]); first | done | rfl | (simp only [List.length_drop, List.length_take]; rfl)) ?_; (with_reducible refine (spec_l01New.calls k _ _ l0 t379 t380 t381 w _ ?side1 ?side2 ?side3 A2.out).mono ?_); (case side1 => repeat (first | (with_reducible first | exact HB.out | apply bA | apply bN | apply b1 | refine bS ?_ (by assumption)) | exact HB.out)); (case side2 => exact HR0.out); (case side3 => exact HC0.out); rintro e w5 ⟨g382, rfl, hi, hb, hb2⟩; refine ⟨_, rfl, ?_⟩; replace HB := am (hb); have HI382 := am (hi); have NB382_378 := am (IsS99.ne_blk hi (blk_below (pkb BK378.out) hb2) (by decide)); have NB378_382 := am (Ne.symm (IsS99.ne_blk hi (blk_below (pkb BK378.out) hb2) (by decide))); replace BK378 := am (blk_below (pkb BK378.out) hb2); (try clear hb); (try clear hb2); (try clear hk); (try clear hi)) | ((with_reducible refine gate_callee (f := 27) rfl ?_); refine goesL_ (some 6) rfl rfl Try.func27 (by kernel_rfl) rfl #[.pointer (some ⟨g382, 0, none⟩)] rfl (by (try simp only [List.map_toArray, List.map_cons, List.map_nil]); first | done | rfl | (simp only [List.length_drop, List.length_take]; rfl)) ?_; (with_reducible refine (spec_l32Case.calls k g382 t379 t380 t381 t383 t386 t387 t390 t391 w _ ?side1 ?side2 A3.out).mono ?_); (case side1 => repeat (first | (with_reducible first | exact HI382.out | apply IsS99.alloc | apply IsS99.drewN | apply IsS99.drew | apply IsS99.set_1 | apply IsS99.set_2 | refine IsS99.far ?_ NB382_378.out _) | exact HI382.out)); (case side2 => repeat (first | (with_reducible first | exact HB.out | apply below_alloc | apply pw_below_drewN | apply below_drew1 | refine below_set ?_ (IsS99.ge HI382.out) | refine below_set ?_ GE378.out) | exact HB.out)); rintro e w6 ⟨v384, v388, rfl, ho0, ho1, hi, hb, hk⟩; refine ⟨_, rfl, ?_⟩; replace BK378 := am (KeepBut.blk hk (g' := gb378) (o := .cells #[.int .i64 0, .slice none 0 0] 28 (0, 0)) (pkb BK378.out) NB378_382.out (by simp)); have HO385 := am (Kd.R_lower ho0 (below_size (by repeat (first | (with_reducible first | exact HB.out | apply below_alloc | apply pw_below_drewN | apply below_drew1 | refine below_set ?_ (IsS99.ge HI382.out) | refine below_set ?_ GE378.out) | exact HB.out)))); have HO389 := am (Kd.R_lower ho1 (below_size (by repeat (first | (with_reducible first | exact HB.out | apply below_alloc | apply pw_below_drewN | apply below_drew1 | refine below_set ?_ (IsS99.ge HI382.out) | refine below_set ?_ GE378.out) | exact HB.out)))); replace HB := am (hb); replace HI382 := am (hi); (try clear hb); (try clear hb2); (try clear hk); (try clear hi); (try clear ho0); (try clear ho1); have hnb7 := NB378_382.out; have hnc7 := NB382_378.out; have hcz8_0 := pc0 BK378.out; have hcz8_1 := pc1 BK378.out; have hfz8_0 := blk_frozen BK378.out 0; have hfz8_1 := blk_frozen BK378.out 1; obtain ⟨Ao9, co9, eo9⟩ := Kd.R_slice HO389.out; subst eo9))
 refine bodyPost_ret (results_tc rfl _ _ gb378 28 #[.int .i64 t386, .slice Ao9 t387.length co9] (0, 0) _ rfl (by (with_reducible repeat (first | apply kN | apply k1 | apply kA)); refine blk_put (cs := #[.int .i64 t386, .slice none 0 0]) ?_ 1 _ rfl; (with_reducible repeat (first | apply kN | apply k1 | apply kA)); refine blk_put (cs := #[.int .i64 0, .slice none 0 0]) ?_ 0 _ rfl; (with_reducible repeat (first | apply kN | apply k1 | apply kA)); exact BK378.out) Try.underlying28 rfl (by kernel_rfl)) rfl ?_; exact ⟨_, _, by first | rfl | (simp [errW_none, errW_some] <;> rfl) | (simp [*, errW_none, errW_some] <;> rfl), by (with_reducible repeat (first | apply Kd.R_alloc | apply Kd.R_drewN | apply Kd.R_drew)); exact Kd.R_mono (Kd.R_far (p := ⟨gb378, 1, none⟩) (Kd.R_far (p := ⟨gb378, 0, none⟩) (Kd.R_types HO385.out BK378.out (by decide)) (fun _ hk => by first | exact hk.2 | simp_all) (.int .i64 t386)) (fun _ hk => by first | exact hk.2 | simp_all) (.slice Ao9 t387.length co9)) (fun _ hk => by first | exact hk.1 | simp_all), by (with_reducible repeat (first | apply Kd.R_alloc | apply Kd.R_drewN | apply Kd.R_drew)); exact Kd.R_mono (Kd.R_far (p := ⟨gb378, 1, none⟩) (Kd.R_far (p := ⟨gb378, 0, none⟩) (Kd.R_types HO389.out BK378.out (by decide)) (fun _ hk => by first | exact hk.2 | simp_all) (.int .i64 t386)) (fun _ hk => by first | exact hk.2 | simp_all) (.slice Ao9 t387.length co9)) (fun _ hk => by first | exact hk.1 | simp_all), by repeat (first | (with_reducible first | exact HB.out | apply below_alloc | apply pw_below_drewN | apply below_drew1 | refine below_set ?_ (IsS99.ge HI382.out) | refine below_set ?_ GE378.out) | exact HB.out)⟩

/-! ### spec_DrawPlaces: function 10 -/
def spec_DrawPlaces.l0 : Nat → List Int → Int → List Int → Int → Int → Option (List Int)
 | 0, _, _, _, _, _ => none
 | k + 1, x4, x5, x396000, x396001, x396002 => if x5 < 12 then ((spec_l01Below.f x396000 x396001 x396002 10000).bind fun bt399 => (if x4.length < 17592186044416 then (spec_DrawPlaces.l0 k (x4 ++ [bt399.1]) (wrap64 (x5 + 1)) x396000 bt399.2.1 bt399.2.2) else (none))) else (some x4)
def spec_DrawPlaces.f (k : Nat) (l0 : List Int) : Option (List Int) := (spec_l01New.f k l0).bind fun bt392 => (spec_DrawPlaces.l0 k (([] : List Int)) 0 bt392.1 bt392.2.1 bt392.2.2)
theorem spec_DrawPlaces.mono_l : ∀ k, (∀ y0 y1 y2 y3 y4, LeO (spec_DrawPlaces.l0 k y0 y1 y2 y3 y4) (spec_DrawPlaces.l0 (k + 1) y0 y1 y2 y3 y4))
 | 0 => fun _ _ _ _ _ r h => by simp [spec_DrawPlaces.l0] at h
 | k + 1 => by
  have ih0 := spec_DrawPlaces.mono_l k
  ·intro y0 y1 y2 y3 y4
   unfold spec_DrawPlaces.l0
   repeat' first
   | (with_reducible exact ih0 _ _ _ _ _)
   | (with_reducible exact spec_l01New.mono _ _)
   | (with_reducible exact LeO.refl _)
   | (with_reducible exact LeO.none _)
   | (with_reducible refine LeO.ite ?_ ?_)
   | (with_reducible refine LeO.bind ?_ (fun _ => ?_))
   | exact ih0 _ _ _ _ _
   | exact spec_l01New.mono _ _
   | exact LeO.none _
   | refine LeO.ite ?_ ?_
   | refine LeO.bind ?_ (fun _ => ?_)
theorem spec_DrawPlaces.mono : ∀ a0 k, LeO (spec_DrawPlaces.f k a0) (spec_DrawPlaces.f (k + 1) a0) := by
 intro a0 k; have ih0 := spec_DrawPlaces.mono_l k; unfold spec_DrawPlaces.f
 repeat' first
   | (with_reducible exact ih0 _ _ _ _ _)
   | (with_reducible exact spec_l01New.mono _ _)
   | (with_reducible exact LeO.refl _)
   | (with_reducible exact LeO.none _)
   | (with_reducible refine LeO.ite ?_ ?_)
   | (with_reducible refine LeO.bind ?_ (fun _ => ?_))
   | exact ih0 _ _ _ _ _
   | exact spec_l01New.mono _ _
   | exact LeO.none _
   | refine LeO.ite ?_ ?_
   | refine LeO.bind ?_ (fun _ => ?_)
set_option maxHeartbeats 8000000 in
set_option maxRecDepth 100000 in
theorem spec_DrawPlaces.calls (k : Nat) (A0 : Option Addr) (c0 : Nat) (l0 : List Int) (r : List Int) (w : World) (hr0 : Kd.C (Kd.int .u8) w A0 l0.length l0) (hc0 : l0.length ≤ c0) (h : spec_DrawPlaces.f k l0 = some r) :
  Calls Try.prog 10 #[.slice A0 l0.length c0] w fun e w' => ∃ v0_ : Value, e = .returned (v0_) ∧ Kd.R (Kd.int .i64) 3 w' w.heap.size (fun _ => True) v0_ r ∧ Below w.heap.size w w' := by
 have HR0 := am hr0; have HC0 := am hc0; clear hr0 hc0; have HB := am (Below.refl w.heap.size w); have H : ((spec_l01New.f k l0).bind fun bt392 => (spec_DrawPlaces.l0 k (([] : List Int)) 0 bt392.1 bt392.2.1 bt392.2.2)) = some r := h; clear h; replace H := Option.bind_eq_some_iff.mp H; obtain ⟨⟨t392, t393, t394⟩, A20, H⟩ := H; replace H : (spec_DrawPlaces.l0 k (([] : List Int)) 0 t392 t393 t394) = some r := H; have A2 := am A20; clear A20; obtain ⟨y396, hy396⟩ : ∃ y_ : List Int, y_ = (([] : List Int)) := ⟨_, rfl⟩
 replace H : (spec_DrawPlaces.l0 k y396 0 t392 t393 t394) = some r := by first | (rw [hy396]; with_reducible exact H) | (have H2_ := (Option.bind_some _ _).symm.trans H; rw [hy396]; with_reducible exact H2_) | (have H2_ := (Option.bind_some _ _).symm.trans H; with_reducible exact H2_) | with_reducible exact H | (rw [hy396]; exact H) | exact H
 have Ny396 := am hy396; clear hy396; have H' := am H; clear H; go_enter Try.func10, Try.ntmps10
 go_wp2_with (first | ((with_reducible refine gate_callee (f := 28) rfl ?_); refine goesL_ (some 7) rfl rfl Try.func28 (by kernel_rfl) rfl #[.slice A0 l0.length c0] rfl (by (try simp only [List.map_toArray, List.map_cons, List.map_nil]); first | done | rfl | (simp only [List.length_drop, List.length_take]; rfl)) ?_; (with_reducible refine (spec_l01New.calls k _ _ l0 t392 t393 t394 w _ ?side1 ?side2 ?side3 A2.out).mono ?_); (case side1 => repeat (first | (with_reducible first | exact HB.out | apply bA | apply bN | apply b1) | exact HB.out)); (case side2 => exact HR0.out); (case side3 => exact HC0.out); rintro e w3 ⟨g395, rfl, hi, hb, hb2⟩; refine ⟨_, rfl, ?_⟩; replace HB := am (hb); have HI395 := am (hi); (try clear hb); (try clear hb2); (try clear hk); (try clear hi)) | ((with_reducible refine gate_dst (N := 8) rfl ?_); refine Kd.R_lit (Kd.int .i64) _ 3 ?hg (N := 8) ?hd (xs := ([] : List Int)) (inner := []) (ok := fun _ => True) (okp := fun _ => True) ?hr ?hp (fun _ hk => hk) trivial (Below.refl _ _) (Nat.le_refl _) (by simp) ?_; (case hd => rfl); (case hg => rfl); (case hr => first | (go_simp; done) | (go_simp; rfl)); (case hp => exact (Reps.none _ _)); intro v397 w4 ho5 hb hg_ hnew_; clear hg_ hnew_; (first | rw [← Ny396.out] at ho5 | (simp only [Int.reduceToNat] at ho5; rw [← Ny396.out] at ho5)); have HO398 := am (Kd.R_lower ho5 (below_size (by repeat (first | (with_reducible first | exact HB.out | apply below_alloc | apply pw_below_drewN | apply below_drew1 | refine below_set ?_ (IsS99.ge HI395.out)) | exact HB.out)))); replace HB := am (below_step (by repeat (first | (with_reducible first | exact HB.out | apply below_alloc | apply pw_below_drewN | apply below_drew1 | refine below_set ?_ (IsS99.ge HI395.out)) | exact HB.out)) hb); replace HI395 := am (IsS99.below (by repeat (first | (with_reducible first | exact HI395.out | apply IsS99.alloc | apply IsS99.drewN | apply IsS99.drew | apply IsS99.set_1 | apply IsS99.set_2) | exact HI395.out)) hb); clear hb ho5))
 go_loopg [4, 5] k (fun kq v4 v5 w' => ∃ (x4_1 : List Int) (x5_1 : Int) (x396001_1 : Int) (x396002_1 : Int), v5 = .int .i64 x5_1 ∧ Aside0 (spec_DrawPlaces.l0 kq x4_1 x5_1 t392 x396001_1 x396002_1 = some r) ∧ Aside0 (kq ≤ k) ∧ Aside0 (Kd.R (Kd.int .i64) 3 w' w.heap.size (fun _ => True) v4 x4_1) ∧ Aside0 (IsS99 w w' g395 t392 x396001_1 x396002_1) ∧ Aside0 (Below w.heap.size w w'))
 case atStart => exact ⟨(y396), (0), (t393), (t394), (by first | rfl | (simp; done) | (simp [*]; done)), H', ⟨Nat.le_refl _⟩, ⟨by (with_reducible repeat (first | apply Kd.R_alloc | apply Kd.R_drewN | apply Kd.R_drew)); exact HO398.out⟩, ⟨by repeat (first | (with_reducible first | exact HI395.out | apply IsS99.alloc | apply IsS99.drewN | apply IsS99.drew | apply IsS99.set_1 | apply IsS99.set_2) | exact HI395.out)⟩, ⟨by repeat (first | (with_reducible first | exact HB.out | apply below_alloc | apply pw_below_drewN | apply below_drew1 | refine below_set ?_ (IsS99.ge HI395.out)) | exact HB.out)⟩⟩
 case round =>
  clear H'; (try clear c1); (try clear c2); (try clear p2); obtain ⟨x4_1, x5_1, x396001_1, x396002_1, rfl, HA, HK1, HO_4, HI395, HB⟩ := hrel; cases gk with
  | zero => exact absurd HA.out (by simp [spec_DrawPlaces.l0])
  | succ k1 =>
   have H := HA.out; clear HA; simp only [spec_DrawPlaces.l0] at H
   by_cases c6 : x5_1 < 12
   ·rw [if_pos c6] at H
    have c6b0 : decide (x5_1 < 12) = true := decide_eq_true c6; clear c6; replace H := Option.bind_eq_some_iff.mp H; obtain ⟨⟨t399, t400, t401⟩, A70, H⟩ := H; replace H : (if x4_1.length < 17592186044416 then (spec_DrawPlaces.l0 k1 (x4_1 ++ [t399]) (wrap64 (x5_1 + 1)) t392 t400 t401) else (none)) = some r := H; have A7 := am A70; clear A70
    by_cases c8 : x4_1.length < 17592186044416
    ·rw [if_pos c8] at H
     have LMc8 := am c8; clear c8; obtain ⟨y402, hy402⟩ : ∃ y_ : List Int, y_ = (x4_1 ++ [t399]) := ⟨_, rfl⟩
     replace H : (spec_DrawPlaces.l0 k1 y402 (wrap64 (x5_1 + 1)) t392 t400 t401) = some r := by first | (rw [hy402]; with_reducible exact H) | (have H2_ := (Option.bind_some _ _).symm.trans H; rw [hy402]; with_reducible exact H2_) | (have H2_ := (Option.bind_some _ _).symm.trans H; with_reducible exact H2_) | with_reducible exact H | (rw [hy402]; exact H) | exact H
     have Ny402 := am hy402; clear hy402; have H' := am H; clear H
     go_wp2_with (first | ((with_reducible refine gate_callee (f := 29) rfl ?_); refine goesL_ (some 15) rfl rfl Try.func29 (by kernel_rfl) rfl #[.pointer (some ⟨g395, 0, none⟩), .int .i64 10000] rfl (by (try simp only [List.map_toArray, List.map_cons, List.map_nil]); first | done | rfl | (simp only [List.length_drop, List.length_take]; rfl)) ?_; (with_reducible refine (spec_l01Below.calls g395 t392 x396001_1 x396002_1 10000 t399 t400 t401 w _ ?side1 ?side2 A7.out).mono ?_); (case side1 => repeat (first | (with_reducible first | exact HI395.out | apply IsS99.alloc | apply IsS99.drewN | apply IsS99.drew | apply IsS99.set_1 | apply IsS99.set_2) | exact HI395.out)); (case side2 => repeat (first | (with_reducible first | exact HB.out | apply below_alloc | apply pw_below_drewN | apply below_drew1 | refine below_set ?_ (IsS99.ge HI395.out)) | exact HB.out)); rintro e w9 ⟨rfl, hi, hb, hk⟩; refine ⟨_, rfl, ?_⟩; replace HO_4 := am (Kd.R_mono (Kd.R_keep (IsS99.apart (show IsS99 w _ g395 t392 x396001_1 x396002_1 from by repeat (first | (with_reducible first | exact HI395.out | apply IsS99.alloc | apply IsS99.drewN | apply IsS99.drew | apply IsS99.set_1 | apply IsS99.set_2) | exact HI395.out)) (pkr HO_4.out) (by decide)) hk (fun _ h => h.2)) (fun _ h => h.1)); replace HB := am (hb); replace HI395 := am (hi); (try clear hb); (try clear hb2); (try clear hk); (try clear hi)) | ((with_reducible refine gate_builtin (b := .append) (xs := #[.tmp 13, .tmp 16]) rfl ?_); at_builtin; refine Kd.R_append (Kd.int .i64) (w0 := w) w.heap.size rfl (.tmp 13) (.tmp 16) 24 3 (.int .i64 0) 8 rfl Try.underlying24 info3 rfl (by decide) (by omega) u4 x4_1 t399 [.int .i64 t399] (fun _ => True) (fun _ => False) rfl rfl ?aP (fun _ hk => hk.elim) ?aF ?aO ?aB ?aS ?aL ?_; (case aP => exact rfl); (case aB => exact (by repeat (first | (with_reducible first | exact HB.out | apply below_alloc | apply pw_below_drewN | apply below_drew1 | refine below_set ?_ (IsS99.ge HI395.out)) | exact HB.out))); (case aF => exact (fun _ _ => trivial)); (case aO => exact (pkr HO_4.out)); (case aS => exact (below_size (by repeat (first | (with_reducible first | exact HB.out | apply below_alloc | apply pw_below_drewN | apply below_drew1 | refine below_set ?_ (IsS99.ge HI395.out)) | exact HB.out)))); (case aL => have := LMc8.out; omega); intro v403 w10 ho hb hg hat; rw [← Ny402.out] at ho; replace HI395 := am (IsS99.grown (by repeat (first | (with_reducible first | exact HI395.out | apply IsS99.alloc | apply IsS99.drewN | apply IsS99.drew | apply IsS99.set_1 | apply IsS99.set_2) | exact HI395.out)) hg (IsS99.own_ne HI395.out HO_4.out (by decide))); replace HB := am (hb); have HO404 := am (ho); clear HO_4; clear ho hb hg hat))
     go_roundg k1
     case measure => have := HK1.out; omega
     case rel => exact ⟨(y402), (wrap64 (x5_1 + 1)), (t400), (t401), (by first | rfl | (simp; done) | (simp [*]; done)), H', ⟨by have := HK1.out; omega⟩, ⟨by (with_reducible repeat (first | apply Kd.R_alloc | apply Kd.R_drewN | apply Kd.R_drew)); exact HO404.out⟩, ⟨by repeat (first | (with_reducible first | exact HI395.out | apply IsS99.alloc | apply IsS99.drewN | apply IsS99.drew | apply IsS99.set_1 | apply IsS99.set_2) | exact HI395.out)⟩, ⟨by repeat (first | (with_reducible first | exact HB.out | apply below_alloc | apply pw_below_drewN | apply below_drew1 | refine below_set ?_ (IsS99.ge HI395.out)) | exact HB.out)⟩⟩
    ·rw [if_neg c8] at H
     exact absurd H (by simp)
   ·rw [if_neg c6] at H
    have c6b0 : decide (x5_1 < 12) = false := decide_eq_false c6; clear c6; obtain rfl := Option.some.inj H
    go_wp2
    go_ret
    exact ⟨_, by first | rfl | (simp [errW_none, errW_some] <;> rfl) | (simp [*, errW_none, errW_some] <;> rfl), by (with_reducible repeat (first | apply Kd.R_alloc | apply Kd.R_drewN | apply Kd.R_drew)); exact HO_4.out, by repeat (first | (with_reducible first | exact HB.out | apply below_alloc | apply pw_below_drewN | apply below_drew1 | refine below_set ?_ (IsS99.ge HI395.out)) | exact HB.out)⟩

/-! ### slices_Clone_int_int: function 30 -/
def slices_Clone_int_int.f (l0 : List Int) : Option (List Int) := (some (([] : List Int) : List Int)).bind fun y405 => (if y405.length + l0.length < 17592186044416 then (some (y405 ++ l0)) else (none))
set_option maxHeartbeats 8000000 in
set_option maxRecDepth 100000 in
theorem slices_Clone_int_int.calls (A0 : Option Addr) (c0 : Nat) (l0 : List Int) (r : List Int) (w : World) (hr0 : Kd.C (Kd.int .i64) w A0 l0.length l0) (hc0 : l0.length ≤ c0) (h : slices_Clone_int_int.f l0 = some r) :
  Calls Try.prog 30 #[.slice A0 l0.length c0] w fun e w' => ∃ v0_ : Value, e = .returned (v0_) ∧ Kd.R (Kd.int .i64) 3 w' w.heap.size (fun _ => True) v0_ r ∧ Below w.heap.size w w' := by
 have q22 : ∀ (w : World) (a : Option Addr) (n c n' c' : Nat), (binOp .eql 24 (.slice a n c) (.slice none n' c')).run Try.prog w = .ok (.bool a.isNone) w := fun w a n c n' c' => Lib.run_eql_slice_nil w _ _ a n c n' c' Try.underlying24
 by_cases hA : A0.isNone = true
 ·obtain rfl : A0 = none := by simpa using hA
  have hl : l0 = [] := by
   rcases Nat.eq_zero_or_pos l0.length with h0 | h0
   ·exact List.length_eq_zero_iff.1 h0
   ·obtain ⟨ad, _, e, _⟩ := Kd.C_get hr0 0 0 (by omega) (by omega)
    cases e
  subst hl
  have hr : r = [] := by
   unfold slices_Clone_int_int.f at h; simp at h
   first | exact h | exact h.symm
  subst hr; clear hA; go_enter Try.func30, Try.ntmps30
  go_wp2
  go_ret
  exact ⟨_, rfl, Kd.R_nil _ _ _ _ _, by repeat (first | exact Below.refl _ _ | apply below_alloc | apply pw_below_drewN | apply below_drew1)⟩
 have hA1 : A0.isNone = false := by
  cases hq : A0.isNone with
  | true => exact absurd hq hA
  | false => rfl
 clear hA; have HR0 := am hr0; have HC0 := am hc0; clear hr0 hc0; have HB := am (Below.refl w.heap.size w); have H : ((some (([] : List Int) : List Int)).bind fun y405 => (if y405.length + l0.length < 17592186044416 then (some (y405 ++ l0)) else (none))) = some r := h; clear h; obtain ⟨y405, hy405⟩ : ∃ y_ : List Int, y_ = (([] : List Int)) := ⟨_, rfl⟩
 replace H : (if y405.length + l0.length < 17592186044416 then (some (y405 ++ l0)) else (none)) = some r := by first | (rw [hy405]; with_reducible exact H) | (have H2_ := (Option.bind_some _ _).symm.trans H; rw [hy405]; with_reducible exact H2_) | (have H2_ := (Option.bind_some _ _).symm.trans H; with_reducible exact H2_) | with_reducible exact H | (rw [hy405]; exact H) | exact H
 have Ny405 := am hy405; clear hy405
 by_cases c2 : y405.length + l0.length < 17592186044416
 ·rw [if_pos c2] at H
  have LMc2 := am c2; clear c2; obtain ⟨y408, hy408⟩ : ∃ y_ : List Int, y_ = (y405 ++ l0) := ⟨_, rfl⟩
  replace H : (some y408) = some r := by first | (rw [hy408]; with_reducible exact H) | (have H2_ := (Option.bind_some _ _).symm.trans H; rw [hy408]; with_reducible exact H2_) | (have H2_ := (Option.bind_some _ _).symm.trans H; with_reducible exact H2_) | with_reducible exact H | (rw [hy408]; exact H) | exact H
  have Ny408 := am hy408; clear hy408; obtain rfl := Option.some.inj H; go_enter Try.func30, Try.ntmps30
  go_wp2_with (first | ((with_reducible refine gate_dst (N := 5) rfl ?_); refine Kd.R_lit (Kd.int .i64) _ 3 ?hg (N := 5) ?hd (xs := ([] : List Int)) (inner := []) (ok := fun _ => True) (okp := fun _ => True) ?hr ?hp (fun _ hk => hk) trivial (Below.refl _ _) (Nat.le_refl _) (by simp) ?_; (case hd => rfl); (case hg => rfl); (case hr => first | (go_simp; done) | (go_simp; rfl)); (case hp => exact (Reps.none _ _)); intro v406 w3 ho4 hb hg_ hnew_; clear hg_ hnew_; (first | rw [← Ny405.out] at ho4 | (simp only [Int.reduceToNat] at ho4; rw [← Ny405.out] at ho4)); have HO407 := am (Kd.R_lower ho4 (below_size (pkh HB.out))); replace HB := am (below_step (pkh HB.out) hb); clear hb ho4) | ((with_reducible refine gate_builtin (b := .append) (xs := #[.tmp 5, .tmp 6]) rfl ?_); at_builtin; refine Kd.R_append_rows (Kd.int .i64) (w0 := w) w.heap.size rfl (.tmp 5) (.tmp 6) 24 3 (.int .i64 0) 8 rfl Try.underlying24 info3 rfl (by decide) (by omega) v406 y405 l0 _ _ _ (fun _ => True) (fun _ => False) rfl rfl ?aO ?aR (fun _ _ h => h) (fun _ h => h.elim) ?aF ?aB ?aS ?aL ?_; (case aR => repeat (first | exact (Kd.C_below HR0.out HB.out) | (with_reducible refine Kd.C_alloc ?_ _) | (with_reducible refine Kd.C_drewN ?_ _) | (with_reducible refine Kd.C_drew ?_))); (case aB => exact (pkh HB.out)); (case aF => exact (fun _ _ => trivial)); (case aO => exact (pkr HO407.out)); (case aS => exact (below_size (pkh HB.out))); (case aL => have := LMc2.out; omega); intro v409 w5 ho hb hg hat; rw [← Ny408.out] at ho; replace HB := am (hb); have HO410 := am (ho); clear HO407; clear ho hb hg hat))
  go_ret
  exact ⟨_, by first | rfl | (simp [errW_none, errW_some] <;> rfl) | (simp [*, errW_none, errW_some] <;> rfl), by (with_reducible repeat (first | apply Kd.R_alloc | apply Kd.R_drewN | apply Kd.R_drew)); exact HO410.out, by repeat (first | (with_reducible first | exact HB.out | apply bA | apply bN | apply b1) | exact HB.out)⟩
 ·rw [if_neg c2] at H
  exact absurd H (by simp)

/-! ### impl_Receive: function 11 -/
def impl_Receive.f (l0_0 : List Int) (a1_0 : Int) (a1_1 : Int) : Option (List Int × Int) := (slices_Clone_int_int.f l0_0).bind fun t414 => (if a1_0 = (l0_0.length : Int) then (if (l0_0.length : Int) < 255 then (if t414.length < 17592186044416 then ((some (t414 ++ [a1_1] : List Int)).bind fun y418 => (some (y418, (y418.length : Int)))) else (none)) else (some (t414, (t414.length : Int)))) else (some (t414, (t414.length : Int))))
set_option maxHeartbeats 8000000 in
set_option maxRecDepth 100000 in
theorem impl_Receive.calls (A0_0 : Option Addr) (c0_0 : Nat) (l0_0 : List Int) (a1_0 : Int) (a1_1 : Int) (r1 : List Int) (r2 : Int) (w : World) (hr0_0 : Kd.C (Kd.int .i64) w A0_0 l0_0.length l0_0) (hc0_0 : l0_0.length ≤ c0_0) (h : impl_Receive.f l0_0 a1_0 a1_1 = some (r1, r2)) :
  Calls Try.prog 11 #[.agg #[.slice A0_0 l0_0.length c0_0], .agg #[.int .i64 a1_0, .int .i64 a1_1]] w fun e w' => ∃ v0_ : Value, e = .returned (.tuple #[.agg #[v0_], .int .i64 r2]) ∧ Kd.R (Kd.int .i64) 3 w' w.heap.size (fun _ => True) v0_ r1 ∧ Below w.heap.size w w' := by
 have hu26 := Try.underlying26; have hu33 := Try.underlying33; have HR0_0 := am hr0_0; have HC0_0 := am hc0_0; clear hr0_0 hc0_0; have HB := am (Below.refl w.heap.size w); have H : ((slices_Clone_int_int.f l0_0).bind fun t414 => (if a1_0 = (l0_0.length : Int) then (if (l0_0.length : Int) < 255 then (if t414.length < 17592186044416 then ((some (t414 ++ [a1_1] : List Int)).bind fun y418 => (some (y418, (y418.length : Int)))) else (none)) else (some (t414, (t414.length : Int)))) else (some (t414, (t414.length : Int))))) = some (r1, r2) := h; clear h; replace H := Option.bind_eq_some_iff.mp H; obtain ⟨t414, A30, H⟩ := H; replace H : (if a1_0 = (l0_0.length : Int) then (if (l0_0.length : Int) < 255 then (if t414.length < 17592186044416 then ((some (t414 ++ [a1_1] : List Int)).bind fun y418 => (some (y418, (y418.length : Int)))) else (none)) else (some (t414, (t414.length : Int)))) else (some (t414, (t414.length : Int)))) = some (r1, r2) := H; have A3 := am A30; clear A30
 by_cases c4 : a1_0 = (l0_0.length : Int)
 ·rw [if_pos c4] at H
  have c4b0 : (a1_0 == (l0_0.length : Int)) = true := beq_iff_eq.mpr c4; have c4b1 : (a1_0 != (l0_0.length : Int)) = false := bne_eq_false_iff_eq.mpr c4; clear c4
  by_cases c5 : (l0_0.length : Int) < 255
  ·rw [if_pos c5] at H
   have c5b0 : decide ((l0_0.length : Int) < 255) = true := decide_eq_true c5; have c5b1 : decide (l0_0.length < 255) = true := decide_eq_true (by omega); clear c5
   by_cases c6 : t414.length < 17592186044416
   ·rw [if_pos c6] at H
    have LMc6 := am c6; clear c6; obtain ⟨y418, hy418⟩ : ∃ y_ : List Int, y_ = (t414 ++ [a1_1]) := ⟨_, rfl⟩
    replace H : (some (y418, (y418.length : Int))) = some (r1, r2) := by first | (rw [hy418]; with_reducible exact H) | (have H2_ := (Option.bind_some _ _).symm.trans H; rw [hy418]; with_reducible exact H2_) | (have H2_ := (Option.bind_some _ _).symm.trans H; with_reducible exact H2_) | with_reducible exact H | (rw [hy418]; exact H) | exact H
    have Ny418 := am hy418; clear hy418; simp only [Option.some.injEq, Prod.mk.injEq] at H; obtain ⟨rfl, rfl⟩ := H; go_enter Try.func11, Try.ntmps11; (try go_wp2_with (first | ((with_reducible refine gate_dst (N := 2) rfl ?_); (try (refine gate_guard (by rfl) ?_; dsimp only)); refine box_event ?hg (N := 2) ?hd (cs := #[.slice A0_0 l0_0.length c0_0]) (t := 26) ?hr ?_; (case hd => rfl); (case hg => rfl); (case hr => first | (go_simp; done) | (go_simp; rfl)); intro gb411 hg w7 hbox hb; have BK411 := am (hbox); have GW411 := am ((by rw [hg]; exact (below_size (by repeat (first | (with_reducible first | exact HB.out | apply bA | apply bN | apply b1) | exact HB.out))) : w.heap.size ≤ gb411)); replace HB := am (below_step (by repeat (first | (with_reducible first | exact HB.out | apply bA | apply bN | apply b1) | exact HB.out)) hb); have GE411 := GW411; clear hb hbox hg) | ((with_reducible refine gate_dst (N := 3) rfl ?_); (try (refine gate_guard (by rfl) ?_; dsimp only)); refine box_event ?hg (N := 3) ?hd (cs := #[.int .i64 a1_0, .int .i64 a1_1]) (t := 33) ?hr ?_; (case hd => rfl); (case hg => rfl); (case hr => first | (go_simp; done) | (go_simp; rfl)); intro gb412 hg w8 hbox hb; have BK412 := am (hbox); have GW412 := am ((by rw [hg]; exact (below_size (by repeat (first | (with_reducible first | exact HB.out | apply bA | apply bN | apply b1 | refine bS ?_ (by assumption)) | exact HB.out))) : w.heap.size ≤ gb412)); replace HB := am (below_step (by repeat (first | (with_reducible first | exact HB.out | apply bA | apply bN | apply b1 | refine bS ?_ (by assumption)) | exact HB.out)) hb); have GE412 := GW412; have NB411_412 := am ((by rw [hg]; exact Nat.ne_of_lt (blk_lt (pkb BK411.out)) : gb411 ≠ gb412)); replace BK411 := am (blk_below (pkb BK411.out) hb); have NB412_411 := am NB411_412.out.symm; clear hb hbox hg) | ((with_reducible refine gate_dst (N := 4) rfl ?_); (try (refine gate_guard (by rfl) ?_; dsimp only)); refine box_event ?hg (N := 4) ?hd (cs := #[.slice none 0 0]) (t := 26) ?hr ?_; (case hd => rfl); (case hg => rfl); (case hr => first | (go_simp; done) | (go_simp; rfl)); intro gb413 hg w9 hbox hb; have BK413 := am (hbox); have GW413 := am ((by rw [hg]; exact (below_size (by repeat (first | (with_reducible first | exact HB.out | apply bA | apply bN | apply b1 | refine bS ?_ (by assumption)) | exact HB.out))) : w.heap.size ≤ gb413)); replace HB := am (below_step (by repeat (first | (with_reducible first | exact HB.out | apply bA | apply bN | apply b1 | refine bS ?_ (by assumption)) | exact HB.out)) hb); have GE413 := GW413; have NB411_413 := am ((by rw [hg]; exact Nat.ne_of_lt (blk_lt (pkb BK411.out)) : gb411 ≠ gb413)); replace BK411 := am (blk_below (pkb BK411.out) hb); have NB413_411 := am NB411_413.out.symm; have NB412_413 := am ((by rw [hg]; exact Nat.ne_of_lt (blk_lt (pkb BK412.out)) : gb412 ≠ gb413)); replace BK412 := am (blk_below (pkb BK412.out) hb); have NB413_412 := am NB412_413.out.symm; clear hb hbox hg; have hnb10 := NB411_412.out; have hnc10 := NB412_411.out; have hnb11 := NB411_413.out; have hnc11 := NB413_411.out; have hcz12_0 := pc0 BK411.out; have hfz12_0 := blk_frozen BK411.out 0) | ((with_reducible refine gate_callee (f := 30) rfl ?_); refine goesL_ (some 9) rfl rfl Try.func30 (by kernel_rfl) rfl #[.slice A0_0 l0_0.length c0_0] rfl (by (try simp only [List.map_toArray, List.map_cons, List.map_nil]); first | done | rfl | (simp only [List.length_drop, List.length_take]; rfl)) ?_; (with_reducible refine (slices_Clone_int_int.calls _ _ l0_0 t414 _ ?side1 ?side2 A3.out).mono ?_); (case side1 => exact pkc (Kd.C_below HR0_0.out HB.out)); (case side2 => exact HC0_0.out); rintro e w13 ⟨v415, rfl, ho0, hb⟩; refine ⟨_, rfl, ?_⟩; have HO416 := am (Kd.R_lower ho0 (below_size (by repeat (first | (with_reducible first | exact HB.out | apply bA | apply bN | apply b1 | refine bS ?_ (by assumption)) | exact HB.out)))); replace BK411 := am (blk_below (pkb BK411.out) hb); replace BK412 := am (blk_below (pkb BK412.out) hb); replace BK413 := am (blk_below (pkb BK413.out) hb); replace HB := am (below_step (by repeat (first | (with_reducible first | exact HB.out | apply bA | apply bN | apply b1 | refine bS ?_ (by assumption)) | exact HB.out)) hb); (try clear hb); (try clear hb2); (try clear hk); (try clear hi); (try clear ho0); obtain ⟨Ao14, co14, eo14⟩ := Kd.R_slice HO416.out; subst eo14) | ((with_reducible refine gate_dst (N := 6) rfl ?_); (try (refine gate_guard (by rfl) ?_; dsimp only)); refine box_event ?hg (N := 6) ?hd (cs := #[.slice none 0 0]) (t := 26) ?hr ?_; (case hd => rfl); (case hg => rfl); (case hr => first | (go_simp; done) | (go_simp; rfl)); intro gb417 hg w15 hbox hb; replace HO416 := am (Kd.R_below (pkr HO416.out) hb); have BK417 := am (hbox); have GW417 := am ((by rw [hg]; exact (below_size (by repeat (first | (with_reducible first | exact HB.out | apply bA | apply bN | apply b1 | refine bS ?_ (by assumption)) | exact HB.out))) : w.heap.size ≤ gb417)); replace HB := am (below_step (by repeat (first | (with_reducible first | exact HB.out | apply bA | apply bN | apply b1 | refine bS ?_ (by assumption)) | exact HB.out)) hb); have GE417 := GW417; have NB411_417 := am ((by rw [hg]; exact Nat.ne_of_lt (blk_lt (pkb BK411.out)) : gb411 ≠ gb417)); replace BK411 := am (blk_below (pkb BK411.out) hb); have NB417_411 := am NB411_417.out.symm; have NB412_417 := am ((by rw [hg]; exact Nat.ne_of_lt (blk_lt (pkb BK412.out)) : gb412 ≠ gb417)); replace BK412 := am (blk_below (pkb BK412.out) hb); have NB417_412 := am NB412_417.out.symm; have NB413_417 := am ((by rw [hg]; exact Nat.ne_of_lt (blk_lt (pkb BK413.out)) : gb413 ≠ gb417)); replace BK413 := am (blk_below (pkb BK413.out) hb); have NB417_413 := am NB413_417.out.symm; clear hb hbox hg; have hnb16 := NB417_411.out; have hnc16 := NB411_417.out; have hnb17 := NB417_412.out; have hnc17 := NB412_417.out; have hnb18 := NB417_413.out; have hnc18 := NB413_417.out; have hcz19_0 := pc0 BK417.out; have hfz19_0 := blk_frozen BK417.out 0; have hnb20 := NB412_413.out; have hnc20 := NB413_412.out; have hcz21_0 := pc0 BK412.out; have hcz21_1 := pc1 BK412.out; have hfz21_0 := blk_frozen BK412.out 0; have hfz21_1 := blk_frozen BK412.out 1; have hcz22_0 := pc0 BK411.out; have hfz22_0 := blk_frozen BK411.out 0) | ((with_reducible refine gate_builtin (b := .append) (xs := #[.tmp 24, .tmp 27]) rfl ?_); (try (refine gate_guard (by rfl) ?_; dsimp only)); at_builtin; refine Kd.R_append (Kd.int .i64) (w0 := w) w.heap.size rfl (.tmp 24) (.tmp 27) 24 3 (.int .i64 0) 8 rfl Try.underlying24 info3 rfl (by decide) (by omega) (.slice Ao14 t414.length co14) t414 a1_1 [.int .i64 a1_1] (fun _ => True) (fun _ => False) rfl (by first | (go_simp; done) | (go_simp; rfl)) ?aP (fun _ hk => hk.elim) ?aF ?aO ?aB ?aS ?aL ?_; (case aP => exact rfl); (case aB => exact (by repeat (first | (with_reducible first | exact HB.out | apply bA | apply bN | apply b1 | refine bS ?_ (by assumption)) | exact HB.out))); (case aF => exact (fun _ _ => trivial)); (case aO => exact (pkr (Kd.R_mono (Kd.R_far (p := ⟨gb417, 0, none⟩) (Kd.R_types HO416.out BK417.out (by decide)) (fun _ hk => by first | exact hk.2 | simp_all) (.slice Ao14 t414.length co14)) (fun _ hk => trivial)))); (case aS => exact (below_size (by repeat (first | (with_reducible first | exact HB.out | apply bA | apply bN | apply b1 | refine bS ?_ (by assumption)) | exact HB.out)))); (case aL => have := LMc6.out; omega); intro v419 w23 ho hb hg hat; rw [← Ny418.out] at ho; replace BK411 := am (blk_grown (g := gb411) (o := .cells #[.slice A0_0 l0_0.length c0_0] 26 (0, 0)) (by (with_reducible repeat (first | apply kN | apply k1 | apply kA)); refine blk_far ?_ NB411_417.out _; (with_reducible repeat (first | apply kN | apply k1 | apply kA)); exact BK411.out) hg (Kd.R_ne HO416.out BK411.out (by decide))); replace BK412 := am (blk_grown (g := gb412) (o := .cells #[.int .i64 a1_0, .int .i64 a1_1] 33 (0, 0)) (by (with_reducible repeat (first | apply kN | apply k1 | apply kA)); refine blk_far ?_ NB412_417.out _; (with_reducible repeat (first | apply kN | apply k1 | apply kA)); exact BK412.out) hg (Kd.R_ne HO416.out BK412.out (by decide))); replace BK413 := am (blk_grown (g := gb413) (o := .cells #[.slice none 0 0] 26 (0, 0)) (by (with_reducible repeat (first | apply kN | apply k1 | apply kA)); refine blk_far ?_ NB413_417.out _; (with_reducible repeat (first | apply kN | apply k1 | apply kA)); exact BK413.out) hg (Kd.R_ne HO416.out BK413.out (by decide))); replace BK417 := am (blk_grown (g := gb417) (o := .cells #[.slice Ao14 t414.length co14] 26 (0, 0)) (by (with_reducible repeat (first | apply kN | apply k1 | apply kA)); refine blk_put (cs := #[.slice none 0 0]) ?_ 0 _ rfl; (with_reducible repeat (first | apply kN | apply k1 | apply kA)); exact BK417.out) hg (Kd.R_ne HO416.out BK417.out (by decide))); replace HB := am (hb); have HO420 := am (ho); clear HO416; clear ho hb hg hat; obtain ⟨Ao24, co24, eo24⟩ := Kd.R_slice HO420.out; subst eo24; have hcz25_0 := pc0 BK417.out; have hfz25_0 := blk_frozen BK417.out 0))); have n0_ : Aside0 (Kd.R (Kd.int .i64) 3 (w23.setCell ⟨gb417, 0, none⟩ (.slice Ao24 y418.length co24)) w.heap.size (fun _ => True) (.slice Ao24 y418.length co24) y418) := ⟨by (with_reducible repeat (first | apply Kd.R_alloc | apply Kd.R_drewN | apply Kd.R_drew)); exact Kd.R_mono (Kd.R_far (p := ⟨gb417, 0, none⟩) (Kd.R_types HO420.out BK417.out (by decide)) (fun _ hk => by first | exact hk.2 | simp_all) (.slice Ao24 y418.length co24)) (fun _ hk => trivial)⟩; have n1_ : Aside0 ((w23.setCell ⟨gb417, 0, none⟩ (.slice Ao24 y418.length co24)).heap[gb411]? = some (.cells #[.slice A0_0 l0_0.length c0_0] 26 (0, 0))) := ⟨by (with_reducible repeat (first | apply kN | apply k1 | apply kA)); refine blk_far ?_ NB411_417.out _; (with_reducible repeat (first | apply kN | apply k1 | apply kA)); exact BK411.out⟩; have n2_ : Aside0 ((w23.setCell ⟨gb417, 0, none⟩ (.slice Ao24 y418.length co24)).heap[gb412]? = some (.cells #[.int .i64 a1_0, .int .i64 a1_1] 33 (0, 0))) := ⟨by (with_reducible repeat (first | apply kN | apply k1 | apply kA)); refine blk_far ?_ NB412_417.out _; (with_reducible repeat (first | apply kN | apply k1 | apply kA)); exact BK412.out⟩; have n3_ : Aside0 ((w23.setCell ⟨gb417, 0, none⟩ (.slice Ao24 y418.length co24)).heap[gb413]? = some (.cells #[.slice none 0 0] 26 (0, 0))) := ⟨by (with_reducible repeat (first | apply kN | apply k1 | apply kA)); refine blk_far ?_ NB413_417.out _; (with_reducible repeat (first | apply kN | apply k1 | apply kA)); exact BK413.out⟩; have n4_ : Aside0 ((w23.setCell ⟨gb417, 0, none⟩ (.slice Ao24 y418.length co24)).heap[gb417]? = some (.cells #[.slice Ao24 y418.length co24] 26 (0, 0))) := ⟨by (with_reducible repeat (first | apply kN | apply k1 | apply kA)); refine blk_put (cs := #[.slice Ao14 t414.length co14]) ?_ 0 _ rfl; (with_reducible repeat (first | apply kN | apply k1 | apply kA)); exact BK417.out⟩; have n5_ : Aside0 (Below w.heap.size w (w23.setCell ⟨gb417, 0, none⟩ (.slice Ao24 y418.length co24))) := ⟨by repeat (first | (with_reducible first | exact HB.out | apply bA | apply bN | apply b1 | refine bS ?_ (by assumption)) | exact HB.out)⟩; (try clear HO420); (try clear BK411); (try clear BK412); (try clear BK413); (try clear BK417); (try clear HB); generalize (w23.setCell ⟨gb417, 0, none⟩ (.slice Ao24 y418.length co24)) = w26 at n0_ n1_ n2_ n3_ n4_ n5_ ⊢; have HO420 := n0_; have BK411 := n1_; have BK412 := n2_; have BK413 := n3_; have BK417 := n4_; have HB := n5_; clear n0_ n1_ n2_ n3_ n4_ n5_; replace HO420 := am (Kd.R_drew HO420.out); replace BK411 := am (blk_drew BK411.out); replace BK412 := am (blk_drew BK412.out); replace BK413 := am (blk_drew BK413.out); replace BK417 := am (blk_drew BK417.out); replace HB := am (below_drew1 HB.out); refine start_ (n := 6) (S := fun w' => w'.cell? ⟨gb417, 0, none⟩ = some (.slice Ao24 y418.length co24)) (ds := []) #[false, false, false, false, false, false] (by kernel_rfl) rfl rfl ((blk_cell BK417.out 0).trans rfl) (fun hHeld => ?_); generalize w26.drew = w27 at HO420 BK411 BK412 BK413 BK417 HB hHeld ⊢; refine pure_ (i := 1) (N := some 31) (v := ?_) (a' := ?_) #[false, true, false, false, false, false] rfl rfl (by kernel_rfl) (fun _ _ _ h => h) (Or.inl ⟨by rfl, ?_⟩) ?_ ?_; rotate_left
    ·intro w'
     go_simp; with_reducible rfl
    rotate_left
    ·simp only [Act.put, sa, s0, s1, i64_w, i32_w]
     rfl
    refine take_ (i := 0) (N := some 30) (v := ?_) (a' := ?_) #[true, true, false, false, false, false] rfl rfl (by kernel_rfl) (fun _ _ _ h => h) (Or.inl ⟨by rfl, ?_⟩) hHeld ?_ ?_; rotate_left
    ·intro w' s0
     go_simp; with_reducible rfl
    rotate_left
    ·simp only [Act.put, sa, s0, s1, i64_w, i32_w]
     rfl
    refine take_ (i := 2) (N := some 32) (v := ?_) (a' := ?_) #[true, true, true, false, false, false] rfl rfl (by kernel_rfl) (fun _ _ _ h => h) (Or.inl ⟨by rfl, ?_⟩) hHeld ?_ ?_; rotate_left
    ·intro w' s0
     go_simp; with_reducible rfl
    rotate_left
    ·simp only [Act.put, sa, s0, s1, i64_w, i32_w]
     rfl
    refine pure_ (i := 3) (N := some 33) (v := ?_) (a' := ?_) #[true, true, true, true, false, false] rfl rfl (by kernel_rfl) (fun _ _ _ h => h) (Or.inl ⟨by rfl, ?_⟩) ?_ ?_; rotate_left
    ·intro w'
     go_simp; with_reducible rfl
    rotate_left
    ·simp only [Act.put, sa, s0, s1, i64_w, i32_w]
     rfl
    refine one_ (i := 4) (N := none) #[true, true, true, true, true, false] rfl rfl (by kernel_rfl) (by decide) (fun K hK => ?_); have hs28 : w27.cell? ⟨gb413, 0, none⟩ = some (.slice none 0 0) := (blk_cell BK413.out 0).trans rfl; have hfs28 := blk_frozen BK413.out 0; have hns28_0 := NB411_413.out; have hns28_1 := NB412_413.out; have hns28_3 := NB417_413.out; have hms28_0 := NB413_411.out; have hms28_1 := NB413_412.out; have hms28_3 := NB413_417.out; refine skip_ (w1 := ?_) (by rfl) rfl ?_ ?_; rotate_left
    ·go_simp
     rfl
    refine hK.out _ _ (((cell_far (p := ⟨gb413, _, none⟩) NB417_413.out _).trans (hHeld))) (fun hHeld => ?_); clear hK K; refine pure_ (i := 5) (N := some 5) (v := ?_) (a' := ?_) #[true, true, true, true, true, true] rfl rfl (by kernel_rfl) (fun _ _ _ h => h) (Or.inl ⟨by rfl, ?_⟩) ?_ ?_; rotate_left
    ·intro w'
     go_simp; with_reducible rfl
    rotate_left
    ·simp only [Act.put, sa, s0, s1, i64_w, i32_w]
     rfl
    refine done_ (by kernel_rfl) ?_; (try go_wp2); refine bodyPost_ret (results_ct rfl _ _ gb413 26 #[.slice Ao24 y418.length co24] (0, 0) _ rfl (by (with_reducible repeat (first | apply kN | apply k1 | apply kA)); refine blk_put (cs := #[.slice none 0 0]) ?_ 0 _ rfl; (with_reducible repeat (first | apply kN | apply k1 | apply kA)); exact BK413.out) Try.underlying26 rfl (by kernel_rfl)) rfl ?_; exact ⟨_, by first | rfl | (simp [errW_none, errW_some] <;> rfl) | (simp [*, errW_none, errW_some] <;> rfl), by (with_reducible repeat (first | apply Kd.R_alloc | apply Kd.R_drewN | apply Kd.R_drew)); exact Kd.R_mono (Kd.R_far (p := ⟨gb413, 0, none⟩) (Kd.R_types HO420.out BK413.out (by decide)) (fun _ hk => by first | exact hk.2 | simp_all) (.slice Ao24 y418.length co24)) (fun _ hk => trivial), by repeat (first | (with_reducible first | exact HB.out | apply bA | apply bN | apply b1 | refine bS ?_ (by assumption)) | exact HB.out)⟩
   ·rw [if_neg c6] at H
    exact absurd H (by simp)
  ·rw [if_neg c5] at H
   have c5b0 : decide ((l0_0.length : Int) < 255) = false := decide_eq_false c5; have c5b1 : decide (l0_0.length < 255) = false := decide_eq_false (by omega); clear c5; simp only [Option.some.injEq, Prod.mk.injEq] at H; obtain ⟨rfl, rfl⟩ := H; go_enter Try.func11, Try.ntmps11; (try go_wp2_with (first | ((with_reducible refine gate_dst (N := 2) rfl ?_); (try (refine gate_guard (by rfl) ?_; dsimp only)); refine box_event ?hg (N := 2) ?hd (cs := #[.slice A0_0 l0_0.length c0_0]) (t := 26) ?hr ?_; (case hd => rfl); (case hg => rfl); (case hr => first | (go_simp; done) | (go_simp; rfl)); intro gb411 hg w29 hbox hb; have BK411 := am (hbox); have GW411 := am ((by rw [hg]; exact (below_size (by repeat (first | (with_reducible first | exact HB.out | apply bA | apply bN | apply b1) | exact HB.out))) : w.heap.size ≤ gb411)); replace HB := am (below_step (by repeat (first | (with_reducible first | exact HB.out | apply bA | apply bN | apply b1) | exact HB.out)) hb); have GE411 := GW411; clear hb hbox hg) | ((with_reducible refine gate_dst (N := 3) rfl ?_); (try (refine gate_guard (by rfl) ?_; dsimp only)); refine box_event ?hg (N := 3) ?hd (cs := #[.int .i64 a1_0, .int .i64 a1_1]) (t := 33) ?hr ?_; (case hd => rfl); (case hg => rfl); (case hr => first | (go_simp; done) | (go_simp; rfl)); intro gb412 hg w30 hbox hb; have BK412 := am (hbox); have GW412 := am ((by rw [hg]; exact (below_size (by repeat (first | (with_reducible first | exact HB.out | apply bA | apply bN | apply b1 | refine bS ?_ (by assumption)) | exact HB.out))) : w.heap.size ≤ gb412)); replace HB := am (below_step (by repeat (first | (with_reducible first | exact HB.out | apply bA | apply bN | apply b1 | refine bS ?_ (by assumption)) | exact HB.out)) hb); have GE412 := GW412; have NB411_412 := am ((by rw [hg]; exact Nat.ne_of_lt (blk_lt (pkb BK411.out)) : gb411 ≠ gb412)); replace BK411 := am (blk_below (pkb BK411.out) hb); have NB412_411 := am NB411_412.out.symm; clear hb hbox hg) | ((with_reducible refine gate_dst (N := 4) rfl ?_); (try (refine gate_guard (by rfl) ?_; dsimp only)); refine box_event ?hg (N := 4) ?hd (cs := #[.slice none 0 0]) (t := 26) ?hr ?_; (case hd => rfl); (case hg => rfl); (case hr => first | (go_simp; done) | (go_simp; rfl)); intro gb413 hg w31 hbox hb; have BK413 := am (hbox); have GW413 := am ((by rw [hg]; exact (below_size (by repeat (first | (with_reducible first | exact HB.out | apply bA | apply bN | apply b1 | refine bS ?_ (by assumption)) | exact HB.out))) : w.heap.size ≤ gb413)); replace HB := am (below_step (by repeat (first | (with_reducible first | exact HB.out | apply bA | apply bN | apply b1 | refine bS ?_ (by assumption)) | exact HB.out)) hb); have GE413 := GW413; have NB411_413 := am ((by rw [hg]; exact Nat.ne_of_lt (blk_lt (pkb BK411.out)) : gb411 ≠ gb413)); replace BK411 := am (blk_below (pkb BK411.out) hb); have NB413_411 := am NB411_413.out.symm; have NB412_413 := am ((by rw [hg]; exact Nat.ne_of_lt (blk_lt (pkb BK412.out)) : gb412 ≠ gb413)); replace BK412 := am (blk_below (pkb BK412.out) hb); have NB413_412 := am NB412_413.out.symm; clear hb hbox hg; have hnb32 := NB411_412.out; have hnc32 := NB412_411.out; have hnb33 := NB411_413.out; have hnc33 := NB413_411.out; have hcz34_0 := pc0 BK411.out; have hfz34_0 := blk_frozen BK411.out 0) | ((with_reducible refine gate_callee (f := 30) rfl ?_); refine goesL_ (some 9) rfl rfl Try.func30 (by kernel_rfl) rfl #[.slice A0_0 l0_0.length c0_0] rfl (by (try simp only [List.map_toArray, List.map_cons, List.map_nil]); first | done | rfl | (simp only [List.length_drop, List.length_take]; rfl)) ?_; (with_reducible refine (slices_Clone_int_int.calls _ _ l0_0 t414 _ ?side1 ?side2 A3.out).mono ?_); (case side1 => exact pkc (Kd.C_below HR0_0.out HB.out)); (case side2 => exact HC0_0.out); rintro e w35 ⟨v415, rfl, ho0, hb⟩; refine ⟨_, rfl, ?_⟩; have HO416 := am (Kd.R_lower ho0 (below_size (by repeat (first | (with_reducible first | exact HB.out | apply bA | apply bN | apply b1 | refine bS ?_ (by assumption)) | exact HB.out)))); replace BK411 := am (blk_below (pkb BK411.out) hb); replace BK412 := am (blk_below (pkb BK412.out) hb); replace BK413 := am (blk_below (pkb BK413.out) hb); replace HB := am (below_step (by repeat (first | (with_reducible first | exact HB.out | apply bA | apply bN | apply b1 | refine bS ?_ (by assumption)) | exact HB.out)) hb); (try clear hb); (try clear hb2); (try clear hk); (try clear hi); (try clear ho0); obtain ⟨Ao36, co36, eo36⟩ := Kd.R_slice HO416.out; subst eo36) | ((with_reducible refine gate_dst (N := 6) rfl ?_); (try (refine gate_guard (by rfl) ?_; dsimp only)); refine box_event ?hg (N := 6) ?hd (cs := #[.slice none 0 0]) (t := 26) ?hr ?_; (case hd => rfl); (case hg => rfl); (case hr => first | (go_simp; done) | (go_simp; rfl)); intro gb417 hg w37 hbox hb; replace HO416 := am (Kd.R_below (pkr HO416.out) hb); have BK417 := am (hbox); have GW417 := am ((by rw [hg]; exact (below_size (by repeat (first | (with_reducible first | exact HB.out | apply bA | apply bN | apply b1 | refine bS ?_ (by assumption)) | exact HB.out))) : w.heap.size ≤ gb417)); replace HB := am (below_step (by repeat (first | (with_reducible first | exact HB.out | apply bA | apply bN | apply b1 | refine bS ?_ (by assumption)) | exact HB.out)) hb); have GE417 := GW417; have NB411_417 := am ((by rw [hg]; exact Nat.ne_of_lt (blk_lt (pkb BK411.out)) : gb411 ≠ gb417)); replace BK411 := am (blk_below (pkb BK411.out) hb); have NB417_411 := am NB411_417.out.symm; have NB412_417 := am ((by rw [hg]; exact Nat.ne_of_lt (blk_lt (pkb BK412.out)) : gb412 ≠ gb417)); replace BK412 := am (blk_below (pkb BK412.out) hb); have NB417_412 := am NB412_417.out.symm; have NB413_417 := am ((by rw [hg]; exact Nat.ne_of_lt (blk_lt (pkb BK413.out)) : gb413 ≠ gb417)); replace BK413 := am (blk_below (pkb BK413.out) hb); have NB417_413 := am NB413_417.out.symm; clear hb hbox hg; have hnb38 := NB417_411.out; have hnc38 := NB411_417.out; have hnb39 := NB417_412.out; have hnc39 := NB412_417.out; have hnb40 := NB417_413.out; have hnc40 := NB413_417.out; have hcz41_0 := pc0 BK417.out; have hfz41_0 := blk_frozen BK417.out 0; have hnb42 := NB412_413.out; have hnc42 := NB413_412.out; have hcz43_0 := pc0 BK412.out; have hcz43_1 := pc1 BK412.out; have hfz43_0 := blk_frozen BK412.out 0; have hfz43_1 := blk_frozen BK412.out 1; have hcz44_0 := pc0 BK411.out; have hfz44_0 := blk_frozen BK411.out 0))); have n0_ : Aside0 (Kd.R (Kd.int .i64) 3 (w37.setCell ⟨gb417, 0, none⟩ (.slice Ao36 t414.length co36)) w.heap.size (fun _ => True) (.slice Ao36 t414.length co36) t414) := ⟨by (with_reducible repeat (first | apply Kd.R_alloc | apply Kd.R_drewN | apply Kd.R_drew)); exact Kd.R_mono (Kd.R_far (p := ⟨gb417, 0, none⟩) (Kd.R_types HO416.out BK417.out (by decide)) (fun _ hk => by first | exact hk.2 | simp_all) (.slice Ao36 t414.length co36)) (fun _ hk => trivial)⟩; have n1_ : Aside0 ((w37.setCell ⟨gb417, 0, none⟩ (.slice Ao36 t414.length co36)).heap[gb411]? = some (.cells #[.slice A0_0 l0_0.length c0_0] 26 (0, 0))) := ⟨by (with_reducible repeat (first | apply kN | apply k1 | apply kA)); refine blk_far ?_ NB411_417.out _; (with_reducible repeat (first | apply kN | apply k1 | apply kA)); exact BK411.out⟩; have n2_ : Aside0 ((w37.setCell ⟨gb417, 0, none⟩ (.slice Ao36 t414.length co36)).heap[gb412]? = some (.cells #[.int .i64 a1_0, .int .i64 a1_1] 33 (0, 0))) := ⟨by (with_reducible repeat (first | apply kN | apply k1 | apply kA)); refine blk_far ?_ NB412_417.out _; (with_reducible repeat (first | apply kN | apply k1 | apply kA)); exact BK412.out⟩; have n3_ : Aside0 ((w37.setCell ⟨gb417, 0, none⟩ (.slice Ao36 t414.length co36)).heap[gb413]? = some (.cells #[.slice none 0 0] 26 (0, 0))) := ⟨by (with_reducible repeat (first | apply kN | apply k1 | apply kA)); refine blk_far ?_ NB413_417.out _; (with_reducible repeat (first | apply kN | apply k1 | apply kA)); exact BK413.out⟩; have n4_ : Aside0 ((w37.setCell ⟨gb417, 0, none⟩ (.slice Ao36 t414.length co36)).heap[gb417]? = some (.cells #[.slice Ao36 t414.length co36] 26 (0, 0))) := ⟨by (with_reducible repeat (first | apply kN | apply k1 | apply kA)); refine blk_put (cs := #[.slice none 0 0]) ?_ 0 _ rfl; (with_reducible repeat (first | apply kN | apply k1 | apply kA)); exact BK417.out⟩; have n5_ : Aside0 (Below w.heap.size w (w37.setCell ⟨gb417, 0, none⟩ (.slice Ao36 t414.length co36))) := ⟨by repeat (first | (with_reducible first | exact HB.out | apply bA | apply bN | apply b1 | refine bS ?_ (by assumption)) | exact HB.out)⟩; (try clear HO416); (try clear BK411); (try clear BK412); (try clear BK413); (try clear BK417); (try clear HB); generalize (w37.setCell ⟨gb417, 0, none⟩ (.slice Ao36 t414.length co36)) = w45 at n0_ n1_ n2_ n3_ n4_ n5_ ⊢; have HO416 := n0_; have BK411 := n1_; have BK412 := n2_; have BK413 := n3_; have BK417 := n4_; have HB := n5_; clear n0_ n1_ n2_ n3_ n4_ n5_; replace HO416 := am (Kd.R_drew HO416.out); replace BK411 := am (blk_drew BK411.out); replace BK412 := am (blk_drew BK412.out); replace BK413 := am (blk_drew BK413.out); replace BK417 := am (blk_drew BK417.out); replace HB := am (below_drew1 HB.out); refine start_ (n := 6) (S := fun w' => w'.cell? ⟨gb417, 0, none⟩ = some (.slice Ao36 t414.length co36)) (ds := []) #[false, false, false, false, false, false] (by kernel_rfl) rfl rfl ((blk_cell BK417.out 0).trans rfl) (fun hHeld => ?_); generalize w45.drew = w46 at HO416 BK411 BK412 BK413 BK417 HB hHeld ⊢; refine pure_ (i := 1) (N := some 31) (v := ?_) (a' := ?_) #[false, true, false, false, false, false] rfl rfl (by kernel_rfl) (fun _ _ _ h => h) (Or.inl ⟨by rfl, ?_⟩) ?_ ?_; rotate_left
   ·intro w'
    go_simp; with_reducible rfl
   rotate_left
   ·simp only [Act.put, sa, s0, s1, i64_w, i32_w]
    rfl
   refine take_ (i := 0) (N := some 30) (v := ?_) (a' := ?_) #[true, true, false, false, false, false] rfl rfl (by kernel_rfl) (fun _ _ _ h => h) (Or.inl ⟨by rfl, ?_⟩) hHeld ?_ ?_; rotate_left
   ·intro w' s0
    go_simp; with_reducible rfl
   rotate_left
   ·simp only [Act.put, sa, s0, s1, i64_w, i32_w]
    rfl
   refine take_ (i := 2) (N := some 32) (v := ?_) (a' := ?_) #[true, true, true, false, false, false] rfl rfl (by kernel_rfl) (fun _ _ _ h => h) (Or.inl ⟨by rfl, ?_⟩) hHeld ?_ ?_; rotate_left
   ·intro w' s0
    go_simp; with_reducible rfl
   rotate_left
   ·simp only [Act.put, sa, s0, s1, i64_w, i32_w]
    rfl
   refine pure_ (i := 3) (N := some 33) (v := ?_) (a' := ?_) #[true, true, true, true, false, false] rfl rfl (by kernel_rfl) (fun _ _ _ h => h) (Or.inl ⟨by rfl, ?_⟩) ?_ ?_; rotate_left
   ·intro w'
    go_simp; with_reducible rfl
   rotate_left
   ·simp only [Act.put, sa, s0, s1, i64_w, i32_w]
    rfl
   refine one_ (i := 4) (N := none) #[true, true, true, true, true, false] rfl rfl (by kernel_rfl) (by decide) (fun K hK => ?_); have hs47 : w46.cell? ⟨gb413, 0, none⟩ = some (.slice none 0 0) := (blk_cell BK413.out 0).trans rfl; have hfs47 := blk_frozen BK413.out 0; have hns47_0 := NB411_413.out; have hns47_1 := NB412_413.out; have hns47_3 := NB417_413.out; have hms47_0 := NB413_411.out; have hms47_1 := NB413_412.out; have hms47_3 := NB413_417.out; refine skip_ (w1 := ?_) (by rfl) rfl ?_ ?_; rotate_left
   ·go_simp
    rfl
   refine hK.out _ _ (((cell_far (p := ⟨gb413, _, none⟩) NB417_413.out _).trans (hHeld))) (fun hHeld => ?_); clear hK K; refine pure_ (i := 5) (N := some 5) (v := ?_) (a' := ?_) #[true, true, true, true, true, true] rfl rfl (by kernel_rfl) (fun _ _ _ h => h) (Or.inl ⟨by rfl, ?_⟩) ?_ ?_; rotate_left
   ·intro w'
    go_simp; with_reducible rfl
   rotate_left
   ·simp only [Act.put, sa, s0, s1, i64_w, i32_w]
    rfl
   refine done_ (by kernel_rfl) ?_; (try go_wp2); refine bodyPost_ret (results_ct rfl _ _ gb413 26 #[.slice Ao36 t414.length co36] (0, 0) _ rfl (by (with_reducible repeat (first | apply kN | apply k1 | apply kA)); refine blk_put (cs := #[.slice none 0 0]) ?_ 0 _ rfl; (with_reducible repeat (first | apply kN | apply k1 | apply kA)); exact BK413.out) Try.underlying26 rfl (by kernel_rfl)) rfl ?_; exact ⟨_, by first | rfl | (simp [errW_none, errW_some] <;> rfl) | (simp [*, errW_none, errW_some] <;> rfl), by (with_reducible repeat (first | apply Kd.R_alloc | apply Kd.R_drewN | apply Kd.R_drew)); exact Kd.R_mono (Kd.R_far (p := ⟨gb413, 0, none⟩) (Kd.R_types HO416.out BK413.out (by decide)) (fun _ hk => by first | exact hk.2 | simp_all) (.slice Ao36 t414.length co36)) (fun _ hk => trivial), by repeat (first | (with_reducible first | exact HB.out | apply bA | apply bN | apply b1 | refine bS ?_ (by assumption)) | exact HB.out)⟩
 ·rw [if_neg c4] at H
  have c4b0 : (a1_0 == (l0_0.length : Int)) = false := beq_eq_false_iff_ne.mpr c4; have c4b1 : (a1_0 != (l0_0.length : Int)) = true := bne_iff_ne.mpr c4; simp only [Option.some.injEq, Prod.mk.injEq] at H; obtain ⟨rfl, rfl⟩ := H; go_enter Try.func11, Try.ntmps11; (try go_wp2_with (first | ((with_reducible refine gate_dst (N := 2) rfl ?_); (try (refine gate_guard (by rfl) ?_; dsimp only)); refine box_event ?hg (N := 2) ?hd (cs := #[.slice A0_0 l0_0.length c0_0]) (t := 26) ?hr ?_; (case hd => rfl); (case hg => rfl); (case hr => first | (go_simp; done) | (go_simp; rfl)); intro gb411 hg w48 hbox hb; have BK411 := am (hbox); have GW411 := am ((by rw [hg]; exact (below_size (by repeat (first | (with_reducible first | exact HB.out | apply bA | apply bN | apply b1) | exact HB.out))) : w.heap.size ≤ gb411)); replace HB := am (below_step (by repeat (first | (with_reducible first | exact HB.out | apply bA | apply bN | apply b1) | exact HB.out)) hb); have GE411 := GW411; clear hb hbox hg) | ((with_reducible refine gate_dst (N := 3) rfl ?_); (try (refine gate_guard (by rfl) ?_; dsimp only)); refine box_event ?hg (N := 3) ?hd (cs := #[.int .i64 a1_0, .int .i64 a1_1]) (t := 33) ?hr ?_; (case hd => rfl); (case hg => rfl); (case hr => first | (go_simp; done) | (go_simp; rfl)); intro gb412 hg w49 hbox hb; have BK412 := am (hbox); have GW412 := am ((by rw [hg]; exact (below_size (by repeat (first | (with_reducible first | exact HB.out | apply bA | apply bN | apply b1 | refine bS ?_ (by assumption)) | exact HB.out))) : w.heap.size ≤ gb412)); replace HB := am (below_step (by repeat (first | (with_reducible first | exact HB.out | apply bA | apply bN | apply b1 | refine bS ?_ (by assumption)) | exact HB.out)) hb); have GE412 := GW412; have NB411_412 := am ((by rw [hg]; exact Nat.ne_of_lt (blk_lt (pkb BK411.out)) : gb411 ≠ gb412)); replace BK411 := am (blk_below (pkb BK411.out) hb); have NB412_411 := am NB411_412.out.symm; clear hb hbox hg) | ((with_reducible refine gate_dst (N := 4) rfl ?_); (try (refine gate_guard (by rfl) ?_; dsimp only)); refine box_event ?hg (N := 4) ?hd (cs := #[.slice none 0 0]) (t := 26) ?hr ?_; (case hd => rfl); (case hg => rfl); (case hr => first | (go_simp; done) | (go_simp; rfl)); intro gb413 hg w50 hbox hb; have BK413 := am (hbox); have GW413 := am ((by rw [hg]; exact (below_size (by repeat (first | (with_reducible first | exact HB.out | apply bA | apply bN | apply b1 | refine bS ?_ (by assumption)) | exact HB.out))) : w.heap.size ≤ gb413)); replace HB := am (below_step (by repeat (first | (with_reducible first | exact HB.out | apply bA | apply bN | apply b1 | refine bS ?_ (by assumption)) | exact HB.out)) hb); have GE413 := GW413; have NB411_413 := am ((by rw [hg]; exact Nat.ne_of_lt (blk_lt (pkb BK411.out)) : gb411 ≠ gb413)); replace BK411 := am (blk_below (pkb BK411.out) hb); have NB413_411 := am NB411_413.out.symm; have NB412_413 := am ((by rw [hg]; exact Nat.ne_of_lt (blk_lt (pkb BK412.out)) : gb412 ≠ gb413)); replace BK412 := am (blk_below (pkb BK412.out) hb); have NB413_412 := am NB412_413.out.symm; clear hb hbox hg; have hnb51 := NB411_412.out; have hnc51 := NB412_411.out; have hnb52 := NB411_413.out; have hnc52 := NB413_411.out; have hcz53_0 := pc0 BK411.out; have hfz53_0 := blk_frozen BK411.out 0) | ((with_reducible refine gate_callee (f := 30) rfl ?_); refine goesL_ (some 9) rfl rfl Try.func30 (by kernel_rfl) rfl #[.slice A0_0 l0_0.length c0_0] rfl (by (try simp only [List.map_toArray, List.map_cons, List.map_nil]); first | done | rfl | (simp only [List.length_drop, List.length_take]; rfl)) ?_; (with_reducible refine (slices_Clone_int_int.calls _ _ l0_0 t414 _ ?side1 ?side2 A3.out).mono ?_); (case side1 => exact pkc (Kd.C_below HR0_0.out HB.out)); (case side2 => exact HC0_0.out); rintro e w54 ⟨v415, rfl, ho0, hb⟩; refine ⟨_, rfl, ?_⟩; have HO416 := am (Kd.R_lower ho0 (below_size (by repeat (first | (with_reducible first | exact HB.out | apply bA | apply bN | apply b1 | refine bS ?_ (by assumption)) | exact HB.out)))); replace BK411 := am (blk_below (pkb BK411.out) hb); replace BK412 := am (blk_below (pkb BK412.out) hb); replace BK413 := am (blk_below (pkb BK413.out) hb); replace HB := am (below_step (by repeat (first | (with_reducible first | exact HB.out | apply bA | apply bN | apply b1 | refine bS ?_ (by assumption)) | exact HB.out)) hb); (try clear hb); (try clear hb2); (try clear hk); (try clear hi); (try clear ho0); obtain ⟨Ao55, co55, eo55⟩ := Kd.R_slice HO416.out; subst eo55) | ((with_reducible refine gate_dst (N := 6) rfl ?_); (try (refine gate_guard (by rfl) ?_; dsimp only)); refine box_event ?hg (N := 6) ?hd (cs := #[.slice none 0 0]) (t := 26) ?hr ?_; (case hd => rfl); (case hg => rfl); (case hr => first | (go_simp; done) | (go_simp; rfl)); intro gb417 hg w56 hbox hb; replace HO416 := am (Kd.R_below (pkr HO416.out) hb); have BK417 := am (hbox); have GW417 := am ((by rw [hg]; exact (below_size (by repeat (first | (with_reducible first | exact HB.out | apply bA | apply bN | apply b1 | refine bS ?_ (by assumption)) | exact HB.out))) : w.heap.size ≤ gb417)); replace HB := am (below_step (by repeat (first | (with_reducible first | exact HB.out | apply bA | apply bN | apply b1 | refine bS ?_ (by assumption)) | exact HB.out)) hb); have GE417 := GW417; have NB411_417 := am ((by rw [hg]; exact Nat.ne_of_lt (blk_lt (pkb BK411.out)) : gb411 ≠ gb417)); replace BK411 := am (blk_below (pkb BK411.out) hb); have NB417_411 := am NB411_417.out.symm; have NB412_417 := am ((by rw [hg]; exact Nat.ne_of_lt (blk_lt (pkb BK412.out)) : gb412 ≠ gb417)); replace BK412 := am (blk_below (pkb BK412.out) hb); have NB417_412 := am NB412_417.out.symm; have NB413_417 := am ((by rw [hg]; exact Nat.ne_of_lt (blk_lt (pkb BK413.out)) : gb413 ≠ gb417)); replace BK413 := am (blk_below (pkb BK413.out) hb); have NB417_413 := am NB413_417.out.symm; clear hb hbox hg; have hnb57 := NB417_411.out; have hnc57 := NB411_417.out; have hnb58 := NB417_412.out; have hnc58 := NB412_417.out; have hnb59 := NB417_413.out; have hnc59 := NB413_417.out; have hcz60_0 := pc0 BK417.out; have hfz60_0 := blk_frozen BK417.out 0; have hnb61 := NB412_413.out; have hnc61 := NB413_412.out; have hcz62_0 := pc0 BK412.out; have hcz62_1 := pc1 BK412.out; have hfz62_0 := blk_frozen BK412.out 0; have hfz62_1 := blk_frozen BK412.out 1; have hcz63_0 := pc0 BK411.out; have hfz63_0 := blk_frozen BK411.out 0))); have n0_ : Aside0 (Kd.R (Kd.int .i64) 3 (w56.setCell ⟨gb417, 0, none⟩ (.slice Ao55 t414.length co55)) w.heap.size (fun _ => True) (.slice Ao55 t414.length co55) t414) := ⟨by (with_reducible repeat (first | apply Kd.R_alloc | apply Kd.R_drewN | apply Kd.R_drew)); exact Kd.R_mono (Kd.R_far (p := ⟨gb417, 0, none⟩) (Kd.R_types HO416.out BK417.out (by decide)) (fun _ hk => by first | exact hk.2 | simp_all) (.slice Ao55 t414.length co55)) (fun _ hk => trivial)⟩; have n1_ : Aside0 ((w56.setCell ⟨gb417, 0, none⟩ (.slice Ao55 t414.length co55)).heap[gb411]? = some (.cells #[.slice A0_0 l0_0.length c0_0] 26 (0, 0))) := ⟨by (with_reducible repeat (first | apply kN | apply k1 | apply kA)); refine blk_far ?_ NB411_417.out _; (with_reducible repeat (first | apply kN | apply k1 | apply kA)); exact BK411.out⟩; have n2_ : Aside0 ((w56.setCell ⟨gb417, 0, none⟩ (.slice Ao55 t414.length co55)).heap[gb412]? = some (.cells #[.int .i64 a1_0, .int .i64 a1_1] 33 (0, 0))) := ⟨by (with_reducible repeat (first | apply kN | apply k1 | apply kA)); refine blk_far ?_ NB412_417.out _; (with_reducible repeat (first | apply kN | apply k1 | apply kA)); exact BK412.out⟩; have n3_ : Aside0 ((w56.setCell ⟨gb417, 0, none⟩ (.slice Ao55 t414.length co55)).heap[gb413]? = some (.cells #[.slice none 0 0] 26 (0, 0))) := ⟨by (with_reducible repeat (first | apply kN | apply k1 | apply kA)); refine blk_far ?_ NB413_417.out _; (with_reducible repeat (first | apply kN | apply k1 | apply kA)); exact BK413.out⟩; have n4_ : Aside0 ((w56.setCell ⟨gb417, 0, none⟩ (.slice Ao55 t414.length co55)).heap[gb417]? = some (.cells #[.slice Ao55 t414.length co55] 26 (0, 0))) := ⟨by (with_reducible repeat (first | apply kN | apply k1 | apply kA)); refine blk_put (cs := #[.slice none 0 0]) ?_ 0 _ rfl; (with_reducible repeat (first | apply kN | apply k1 | apply kA)); exact BK417.out⟩; have n5_ : Aside0 (Below w.heap.size w (w56.setCell ⟨gb417, 0, none⟩ (.slice Ao55 t414.length co55))) := ⟨by repeat (first | (with_reducible first | exact HB.out | apply bA | apply bN | apply b1 | refine bS ?_ (by assumption)) | exact HB.out)⟩; (try clear HO416); (try clear BK411); (try clear BK412); (try clear BK413); (try clear BK417); (try clear HB); generalize (w56.setCell ⟨gb417, 0, none⟩ (.slice Ao55 t414.length co55)) = w64 at n0_ n1_ n2_ n3_ n4_ n5_ ⊢; have HO416 := n0_; have BK411 := n1_; have BK412 := n2_; have BK413 := n3_; have BK417 := n4_; have HB := n5_; clear n0_ n1_ n2_ n3_ n4_ n5_; replace HO416 := am (Kd.R_drew HO416.out); replace BK411 := am (blk_drew BK411.out); replace BK412 := am (blk_drew BK412.out); replace BK413 := am (blk_drew BK413.out); replace BK417 := am (blk_drew BK417.out); replace HB := am (below_drew1 HB.out); refine start_ (n := 6) (S := fun w' => w'.cell? ⟨gb417, 0, none⟩ = some (.slice Ao55 t414.length co55)) (ds := []) #[false, false, false, false, false, false] (by kernel_rfl) rfl rfl ((blk_cell BK417.out 0).trans rfl) (fun hHeld => ?_); generalize w64.drew = w65 at HO416 BK411 BK412 BK413 BK417 HB hHeld ⊢; refine pure_ (i := 1) (N := some 31) (v := ?_) (a' := ?_) #[false, true, false, false, false, false] rfl rfl (by kernel_rfl) (fun _ _ _ h => h) (Or.inl ⟨by rfl, ?_⟩) ?_ ?_; rotate_left
  ·intro w'
   go_simp; with_reducible rfl
  rotate_left
  ·simp only [Act.put, sa, s0, s1, i64_w, i32_w]
   rfl
  refine take_ (i := 0) (N := some 30) (v := ?_) (a' := ?_) #[true, true, false, false, false, false] rfl rfl (by kernel_rfl) (fun _ _ _ h => h) (Or.inl ⟨by rfl, ?_⟩) hHeld ?_ ?_; rotate_left
  ·intro w' s0
   go_simp; with_reducible rfl
  rotate_left
  ·simp only [Act.put, sa, s0, s1, i64_w, i32_w]
   rfl
  refine take_ (i := 2) (N := some 32) (v := ?_) (a' := ?_) #[true, true, true, false, false, false] rfl rfl (by kernel_rfl) (fun _ _ _ h => h) (Or.inl ⟨by rfl, ?_⟩) hHeld ?_ ?_; rotate_left
  ·intro w' s0
   go_simp; with_reducible rfl
  rotate_left
  ·simp only [Act.put, sa, s0, s1, i64_w, i32_w]
   rfl
  refine pure_ (i := 3) (N := some 33) (v := ?_) (a' := ?_) #[true, true, true, true, false, false] rfl rfl (by kernel_rfl) (fun _ _ _ h => h) (Or.inl ⟨by rfl, ?_⟩) ?_ ?_; rotate_left
  ·intro w'
   go_simp; with_reducible rfl
  rotate_left
  ·simp only [Act.put, sa, s0, s1, i64_w, i32_w]
   rfl
  refine one_ (i := 4) (N := none) #[true, true, true, true, true, false] rfl rfl (by kernel_rfl) (by decide) (fun K hK => ?_); have hs66 : w65.cell? ⟨gb413, 0, none⟩ = some (.slice none 0 0) := (blk_cell BK413.out 0).trans rfl; have hfs66 := blk_frozen BK413.out 0; have hns66_0 := NB411_413.out; have hns66_1 := NB412_413.out; have hns66_3 := NB417_413.out; have hms66_0 := NB413_411.out; have hms66_1 := NB413_412.out; have hms66_3 := NB413_417.out; refine skip_ (w1 := ?_) (by rfl) rfl ?_ ?_; rotate_left
  ·go_simp
   rfl
  refine hK.out _ _ (((cell_far (p := ⟨gb413, _, none⟩) NB417_413.out _).trans (hHeld))) (fun hHeld => ?_); clear hK K; refine pure_ (i := 5) (N := some 5) (v := ?_) (a' := ?_) #[true, true, true, true, true, true] rfl rfl (by kernel_rfl) (fun _ _ _ h => h) (Or.inl ⟨by rfl, ?_⟩) ?_ ?_; rotate_left
  ·intro w'
   go_simp; with_reducible rfl
  rotate_left
  ·simp only [Act.put, sa, s0, s1, i64_w, i32_w]
   rfl
  refine done_ (by kernel_rfl) ?_; (try go_wp2); refine bodyPost_ret (results_ct rfl _ _ gb413 26 #[.slice Ao55 t414.length co55] (0, 0) _ rfl (by (with_reducible repeat (first | apply kN | apply k1 | apply kA)); refine blk_put (cs := #[.slice none 0 0]) ?_ 0 _ rfl; (with_reducible repeat (first | apply kN | apply k1 | apply kA)); exact BK413.out) Try.underlying26 rfl (by kernel_rfl)) rfl ?_; exact ⟨_, by first | rfl | (simp [errW_none, errW_some] <;> rfl) | (simp [*, errW_none, errW_some] <;> rfl), by (with_reducible repeat (first | apply Kd.R_alloc | apply Kd.R_drewN | apply Kd.R_drew)); exact Kd.R_mono (Kd.R_far (p := ⟨gb413, 0, none⟩) (Kd.R_types HO416.out BK413.out (by decide)) (fun _ hk => by first | exact hk.2 | simp_all) (.slice Ao55 t414.length co55)) (fun _ hk => trivial), by repeat (first | (with_reducible first | exact HB.out | apply bA | apply bN | apply b1 | refine bS ?_ (by assumption)) | exact HB.out)⟩

/-! ### laws_sameInts: function 12 -/
def laws_sameInts.l0 : Nat → List Int → List Int → Int → Option (Bool)
 | 0, _, _, _ => none
 | k + 1, x0, x1, x5 => if x5 < (x0.length : Int) then (if 0 ≤ x5 then (if x5 < (x1.length : Int) then (if (rd x0 x5) = (rd x1 x5) then (laws_sameInts.l0 k x0 x1 (wrap64 (x5 + 1))) else (some false)) else (none)) else (none)) else (some true)
def laws_sameInts.f (k : Nat) (l0 : List Int) (l1 : List Int) : Option (Bool) := if (l0.length : Int) = (l1.length : Int) then (laws_sameInts.l0 k l0 l1 0) else (some false)
theorem laws_sameInts.mono_l : ∀ k, (∀ y0 y1 y2, LeO (laws_sameInts.l0 k y0 y1 y2) (laws_sameInts.l0 (k + 1) y0 y1 y2))
 | 0 => fun _ _ _ r h => by simp [laws_sameInts.l0] at h
 | k + 1 => by
  have ih0 := laws_sameInts.mono_l k
  ·intro y0 y1 y2
   unfold laws_sameInts.l0
   repeat' first
   | (with_reducible exact ih0 _ _ _)
   | (with_reducible exact LeO.refl _)
   | (with_reducible exact LeO.none _)
   | (with_reducible refine LeO.ite ?_ ?_)
   | (with_reducible refine LeO.bind ?_ (fun _ => ?_))
   | exact ih0 _ _ _
   | exact LeO.none _
   | refine LeO.ite ?_ ?_
   | refine LeO.bind ?_ (fun _ => ?_)
theorem laws_sameInts.mono : ∀ a0 a1 k, LeO (laws_sameInts.f k a0 a1) (laws_sameInts.f (k + 1) a0 a1) := by
 intro a0 a1 k; have ih0 := laws_sameInts.mono_l k; unfold laws_sameInts.f
 repeat' first
   | (with_reducible exact ih0 _ _ _)
   | (with_reducible exact LeO.refl _)
   | (with_reducible exact LeO.none _)
   | (with_reducible refine LeO.ite ?_ ?_)
   | (with_reducible refine LeO.bind ?_ (fun _ => ?_))
   | exact ih0 _ _ _
   | exact LeO.none _
   | refine LeO.ite ?_ ?_
   | refine LeO.bind ?_ (fun _ => ?_)
set_option maxHeartbeats 8000000 in
set_option maxRecDepth 100000 in
theorem laws_sameInts.calls (k : Nat) (A0 : Option Addr) (c0 : Nat) (l0 : List Int) (A1 : Option Addr) (c1 : Nat) (l1 : List Int) (r : Bool) (w : World) (hr0 : Kd.C (Kd.int .i64) w A0 l0.length l0) (hc0 : l0.length ≤ c0) (hr1 : Kd.C (Kd.int .i64) w A1 l1.length l1) (hc1 : l1.length ≤ c1) (h : laws_sameInts.f k l0 l1 = some r) :
  Calls Try.prog 12 #[.slice A0 l0.length c0, .slice A1 l1.length c1] w fun e w' => e = .returned (.bool r) ∧ Drawn0 w w' := by
 have HR0 := am hr0; have HC0 := am hc0; clear hr0 hc0; have HR1 := am hr1; have HC1 := am hc1; clear hr1 hc1; have H : (if (l0.length : Int) = (l1.length : Int) then (laws_sameInts.l0 k l0 l1 0) else (some false)) = some r := h; clear h
 by_cases c3 : (l0.length : Int) = (l1.length : Int)
 ·rw [if_pos c3] at H
  have c3b0 : ((l0.length : Int) == (l1.length : Int)) = true := beq_iff_eq.mpr c3; have c3b1 : ((l0.length : Int) != (l1.length : Int)) = false := bne_eq_false_iff_eq.mpr c3
  have c3b2 : (l0.length == l1.length) = true := by first | simpa using c3 | (simp at c3 ⊢; omega)
  clear c3; have H' := am H; clear H; go_enter Try.func12, Try.ntmps12
  go_wp2
  repeat (go_quiet (fail); try go_wp2)
  go_loopg [5] k (fun kq v5 w' => ∃ (x5_1 : Int), v5 = .int .i64 x5_1 ∧ Aside0 (laws_sameInts.l0 kq l0 l1 x5_1 = some r) ∧ Aside0 (kq ≤ k) ∧ Drawn0 w w')
  case atStart => exact ⟨(0), (by first | rfl | (simp; done) | (simp [*]; done)), H', ⟨Nat.le_refl _⟩, by repeat (first | exact Drawn0.refl _ | apply Drawn0.step)⟩
  case round =>
   clear H'; (try clear c1); (try clear p2); (try clear c3); (try clear c3b0); (try clear c3b1); (try clear c3b2); obtain ⟨x5_1, rfl, HA, HK1, ⟨m1, rfl⟩⟩ := hrel; cases gk with
   | zero => exact absurd HA.out (by simp [laws_sameInts.l0])
   | succ k1 =>
    have H := HA.out; clear HA; simp only [laws_sameInts.l0] at H
    by_cases c4 : x5_1 < (l0.length : Int)
    ·rw [if_pos c4] at H
     have c4b0 : decide (x5_1 < (l0.length : Int)) = true := decide_eq_true c4; clear c4
     by_cases c5 : 0 ≤ x5_1
     ·rw [if_pos c5] at H
      have c5b0 : decide (0 ≤ x5_1) = true := decide_eq_true c5; clear c5
      by_cases c6 : x5_1 < (l1.length : Int)
      ·rw [if_pos c6] at H
       have c6b0 : decide (x5_1 < (l1.length : Int)) = true := decide_eq_true c6; clear c6
       by_cases c7 : (rd l0 x5_1) = (rd l1 x5_1)
       ·rw [if_pos c7] at H
        have c7b0 : ((rd l0 x5_1) == (rd l1 x5_1)) = true := beq_iff_eq.mpr c7; have c7b1 : ((rd l0 x5_1) != (rd l1 x5_1)) = false := bne_eq_false_iff_eq.mpr c7; clear c7; have H' := am H; clear H; have p421 : 0 ≤ (x5_1 : Int) := of_decide_eq_true (by first | (with_reducible assumption) | assumption); have q421 : x5_1 < (l0.length : Int) := of_decide_eq_true (by first | (with_reducible assumption) | assumption); obtain ⟨ad421, e421, hx421_0⟩ := Kd.at_int HR0.out x5_1 p421 q421; cases e421; replace p421 := eq_true p421; replace q421 := eq_true q421; have p422 : 0 ≤ (x5_1 : Int) := of_decide_eq_true (by first | (with_reducible assumption) | assumption); have q422 : x5_1 < (l1.length : Int) := of_decide_eq_true (by first | (with_reducible assumption) | assumption); obtain ⟨ad422, e422, hx422_0⟩ := Kd.at_int HR1.out x5_1 p422 q422; cases e422; replace p422 := eq_true p422; replace q422 := eq_true q422
        go_wp2
        repeat (go_quiet (fail); try go_wp2)
        go_roundg k1
        case measure => have := HK1.out; omega
        case rel => exact ⟨(wrap64 (x5_1 + 1)), (by first | rfl | (simp; done) | (simp [*]; done)), H', ⟨by have := HK1.out; omega⟩, by repeat (first | exact Drawn0.refl _ | apply Drawn0.step)⟩
       ·rw [if_neg c7] at H
        have c7b0 : ((rd l0 x5_1) == (rd l1 x5_1)) = false := beq_eq_false_iff_ne.mpr c7; have c7b1 : ((rd l0 x5_1) != (rd l1 x5_1)) = true := bne_iff_ne.mpr c7; obtain rfl := Option.some.inj H; have p421 : 0 ≤ (x5_1 : Int) := of_decide_eq_true (by first | (with_reducible assumption) | assumption); have q421 : x5_1 < (l0.length : Int) := of_decide_eq_true (by first | (with_reducible assumption) | assumption); obtain ⟨ad421, e421, hx421_0⟩ := Kd.at_int HR0.out x5_1 p421 q421; cases e421; replace p421 := eq_true p421; replace q421 := eq_true q421; have p422 : 0 ≤ (x5_1 : Int) := of_decide_eq_true (by first | (with_reducible assumption) | assumption); have q422 : x5_1 < (l1.length : Int) := of_decide_eq_true (by first | (with_reducible assumption) | assumption); obtain ⟨ad422, e422, hx422_0⟩ := Kd.at_int HR1.out x5_1 p422 q422; cases e422; replace p422 := eq_true p422; replace q422 := eq_true q422
        go_wp2
        repeat (go_quiet (fail); try go_wp2)
        go_ret
        exact ⟨by first | rfl | (simp; done) | (simp [*]; done), by repeat (first | exact Drawn0.refl _ | apply Drawn0.step)⟩
      ·rw [if_neg c6] at H
       exact absurd H (by simp)
     ·rw [if_neg c5] at H
      exact absurd H (by simp)
    ·rw [if_neg c4] at H
     have c4b0 : decide (x5_1 < (l0.length : Int)) = false := decide_eq_false c4; clear c4; obtain rfl := Option.some.inj H
     go_wp2
     repeat (go_quiet (fail); try go_wp2)
     go_ret
     exact ⟨by first | rfl | (simp; done) | (simp [*]; done), by repeat (first | exact Drawn0.refl _ | apply Drawn0.step)⟩
 ·rw [if_neg c3] at H
  have c3b0 : ((l0.length : Int) == (l1.length : Int)) = false := beq_eq_false_iff_ne.mpr c3; have c3b1 : ((l0.length : Int) != (l1.length : Int)) = true := bne_iff_ne.mpr c3
  have c3b2 : (l0.length == l1.length) = false := by first | simpa using c3 | (simp at c3 ⊢; omega)
  obtain rfl := Option.some.inj H; go_enter Try.func12, Try.ntmps12
  go_wp2
  repeat (go_quiet (fail); try go_wp2)
  go_ret
  exact ⟨by first | rfl | (simp; done) | (simp [*]; done), by repeat (first | exact Drawn0.refl _ | apply Drawn0.step)⟩

end Go.Proofs.Ytdmmogcpamgdnaa.PFnOnce
