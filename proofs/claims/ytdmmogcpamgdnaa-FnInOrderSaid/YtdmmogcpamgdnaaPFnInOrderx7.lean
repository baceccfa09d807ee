-- written by xprint.py for this seat
import Derived.Test.YtdmmogcpamgdnaaPFnInOrderx0
namespace Go.Proofs.Ytdmmogcpamgdnaa.PFnInOrder
set_option maxHeartbeats 8000000
set_option maxRecDepth 100000
open Go.RowKit Go.Proofs.YtdmmogcpamgdnaaW.PrintWords Go.Proofs.YtdmmogcpamgdnaaW.PrintLast Go.Proofs.YtdmmogcpamgdnaaW.PrintMore
attribute [local go_sem] max2_int min2_int max_two min_two max_three min_three max_four min_four   -- for this text's walks alone
set_option linter.unusedVariables false
set_option linter.unusedSimpArgs false

/-! ### impl_Gaps: function 18 -/
def impl_Gaps.l0 : Nat → List Int → Int → List (S33) → Int → Int → Option (List Int)
 | 0, _, _, _, _, _ => none
 | k + 1, x3, x4, x8, x9, x10 => if x10 < x9 then (if 0 ≤ x10 then (if x10 < (x8.length : Int) then (if ((rd_T33 x8 x10).f0) > x4 then (if ((rd_T33 x8 x10).f0) = (wrap64 (x4 + 1)) then (impl_Gaps.l0 k x3 (mx x4 ((rd_T33 x8 x10).f0)) x8 x9 (wrap64 (x10 + 1))) else (if x3.length < 17592186044416 then (impl_Gaps.l0 k (x3 ++ [x10]) (mx x4 ((rd_T33 x8 x10).f0)) x8 x9 (wrap64 (x10 + 1))) else (none))) else (impl_Gaps.l0 k x3 (mx x4 ((rd_T33 x8 x10).f0)) x8 x9 (wrap64 (x10 + 1)))) else (none)) else (none)) else (some x3)
def impl_Gaps.f (k : Nat) (l0 : List (S33)) : Option (List Int) := impl_Gaps.l0 k (([] : List Int)) (-1) l0 (l0.length : Int) 0
theorem impl_Gaps.mono_l : ∀ k, (∀ y0 y1 y2 y3 y4, LeO (impl_Gaps.l0 k y0 y1 y2 y3 y4) (impl_Gaps.l0 (k + 1) y0 y1 y2 y3 y4))
 | 0 => fun _ _ _ _ _ r h => by simp [impl_Gaps.l0] at h
 | k + 1 => by
  have ih0 := impl_Gaps.mono_l k
  ·intro y0 y1 y2 y3 y4
   unfold impl_Gaps.l0
   repeat' first
   | (with_reducible exact ih0 _ _ _ _ _)
   | (with_reducible exact LeO.refl _)
   | (with_reducible exact LeO.none _)
   | (with_reducible refine LeO.ite ?_ ?_)
   | (with_reducible refine LeO.bind ?_ (fun _ => ?_))
   | exact ih0 _ _ _ _ _
   | exact LeO.none _
   | refine LeO.ite ?_ ?_
   | refine LeO.bind ?_ (fun _ => ?_)
theorem impl_Gaps.mono : ∀ a0 k, LeO (impl_Gaps.f k a0) (impl_Gaps.f (k + 1) a0) := by
 intro a0 k; have ih0 := impl_Gaps.mono_l k; unfold impl_Gaps.f
 repeat' first
   | (with_reducible exact ih0 _ _ _ _ _)
   | (with_reducible exact LeO.refl _)
   | (with_reducible exact LeO.none _)
   | (with_reducible refine LeO.ite ?_ ?_)
   | (with_reducible refine LeO.bind ?_ (fun _ => ?_))
   | exact ih0 _ _ _ _ _
   | exact LeO.none _
   | refine LeO.ite ?_ ?_
   | refine LeO.bind ?_ (fun _ => ?_)
theorem impl_Gaps.calls (k : Nat) (A0 : Option Addr) (c0 : Nat) (l0 : List (S33)) (r : List Int) (w : World) (hr0 : Kd.C k33 w A0 l0.length l0) (hc0 : l0.length ≤ c0) (h : impl_Gaps.f k l0 = some r) :
  Calls Try.prog 18 #[.slice A0 l0.length c0] w fun e w' => ∃ v0_ : Value, e = .returned (v0_) ∧ Kd.R (Kd.int .i64) 3 w' w.heap.size (fun _ => True) v0_ r ∧ Below w.heap.size w w' := by
 have hu33 := Try.underlying33; have HR0 := am hr0; have HC0 := am hc0; clear hr0 hc0; have HB := am (Below.refl w.heap.size w); have H : (impl_Gaps.l0 k (([] : List Int)) (-1) l0 (l0.length : Int) 0) = some r := h; clear h; obtain ⟨y461, hy461⟩ : ∃ y_ : List Int, y_ = (([] : List Int)) := ⟨_, rfl⟩
 replace H : (impl_Gaps.l0 k y461 (-1) l0 (l0.length : Int) 0) = some r := by first | (rw [hy461]; with_reducible exact H) | (have H2_ := (Option.bind_some _ _).symm.trans H; rw [hy461]; with_reducible exact H2_) | (have H2_ := (Option.bind_some _ _).symm.trans H; with_reducible exact H2_) | with_reducible exact H | (rw [hy461]; exact H) | exact H
 have Ny461 := am hy461; clear hy461; have H' := am H; clear H; go_enter Try.func18, Try.ntmps18
 go_wp2_with (first | ((with_reducible refine gate_dst (N := 7) rfl ?_); refine Kd.R_lit (Kd.int .i64) _ 3 ?hg (N := 7) ?hd (xs := ([] : List Int)) (inner := []) (ok := fun _ => True) (okp := fun _ => True) ?hr ?hp (fun _ hk => hk) trivial (Below.refl _ _) (Nat.le_refl _) (by simp) ?_; (case hd => rfl); (case hg => rfl); (case hr => first | (go_simp; done) | (go_simp; rfl)); (case hp => exact (Reps.none _ _)); intro v462 w2 ho3 hb hg_ hnew_; clear hg_ hnew_; (first | rw [← Ny461.out] at ho3 | (simp only [Int.reduceToNat] at ho3; rw [← Ny461.out] at ho3)); have HO463 := am (Kd.R_lower ho3 (below_size (by repeat (first | (with_reducible first | exact HB.out | apply bA | apply bN | apply b1) | exact HB.out)))); replace HB := am (below_step (by repeat (first | (with_reducible first | exact HB.out | apply bA | apply bN | apply b1) | exact HB.out)) hb); clear hb ho3))
 go_loopg [3, 4, 10] k (fun kq v3 v4 v10 w' => ∃ (x3_1 : List Int) (x4_1 : Int) (x10_1 : Int), v4 = .int .i64 x4_1 ∧ v10 = .int .i64 x10_1 ∧ Aside0 (impl_Gaps.l0 kq x3_1 x4_1 l0 (l0.length : Int) x10_1 = some r) ∧ Aside0 (kq ≤ k) ∧ Aside0 (Kd.R (Kd.int .i64) 3 w' w.heap.size (fun _ => True) v3 x3_1) ∧ Aside0 (Below w.heap.size w w'))
 case atStart => exact ⟨(y461), ((-1)), (0), (by first | rfl | (simp; done) | (simp [*]; done)), (by first | rfl | (simp; done) | (simp [*]; done)), H', ⟨Nat.le_refl _⟩, ⟨by (with_reducible repeat (first | apply Kd.R_alloc | apply Kd.R_drewN | apply Kd.R_drew)); exact HO463.out⟩, ⟨by repeat (first | (with_reducible first | exact HB.out | apply bA | apply bN | apply b1) | exact HB.out)⟩⟩
 case round =>
  clear H'; (try clear p2); obtain ⟨x3_1, x4_1, x10_1, rfl, rfl, HA, HK1, HO_3, HB⟩ := hrel; cases gk with
  | zero => exact absurd HA.out (by simp [impl_Gaps.l0])
  | succ k1 =>
   have H := HA.out; clear HA; simp only [impl_Gaps.l0] at H
   by_cases c4 : x10_1 < (l0.length : Int)
   ·rw [if_pos c4] at H
    have c4b0 : decide (x10_1 < (l0.length : Int)) = true := decide_eq_true c4; clear c4
    by_cases c5 : 0 ≤ x10_1
    ·rw [if_pos c5] at H
     have c5b0 : decide (0 ≤ x10_1) = true := decide_eq_true c5; clear c5
     by_cases c6 : x10_1 < (l0.length : Int)
     ·rw [if_pos c6] at H
      have c6b0 : decide (x10_1 < (l0.length : Int)) = true := decide_eq_true c6; clear c6
      by_cases c7 : ((rd_T33 l0 x10_1).f0) > x4_1
      ·rw [if_pos c7] at H
       have c7b0 : decide (x4_1 < ((rd_T33 l0 x10_1).f0)) = true := decide_eq_true c7; clear c7
       by_cases c8 : ((rd_T33 l0 x10_1).f0) = (wrap64 (x4_1 + 1))
       ·rw [if_pos c8] at H
        have c8b0 : (((rd_T33 l0 x10_1).f0) == (wrap64 (x4_1 + 1))) = true := beq_iff_eq.mpr c8; have c8b1 : (((rd_T33 l0 x10_1).f0) != (wrap64 (x4_1 + 1))) = false := bne_eq_false_iff_eq.mpr c8; clear c8; obtain ⟨ji9, hji9⟩ : ∃ j_ : Int, (mx x4_1 ((rd_T33 l0 x10_1).f0)) = j_ := ⟨_, rfl⟩
        replace H : (impl_Gaps.l0 k1 x3_1 ji9 l0 (l0.length : Int) (wrap64 (x10_1 + 1))) = some r := by first | (rw [hji9] at H; exact H) | (simp only [hji9] at H ⊢; exact H)
        have hji9_ : (if x4_1 < ((rd_T33 l0 x10_1).f0) then ((rd_T33 l0 x10_1).f0) else x4_1) = ji9 := hji9; have H' := am H; clear H; have p464 : 0 ≤ (x10_1 : Int) := of_decide_eq_true (by first | (with_reducible assumption) | assumption); have q464 : x10_1 < (l0.length : Int) := of_decide_eq_true (by first | (with_reducible assumption) | assumption); obtain ⟨ad464, e464, hx464_0, hx464_1⟩ := at_T33 HR0.out x10_1 p464 q464; cases e464; replace hx464_0 := (HB.out.cell (World.block_lt_of_cell? w _ hx464_0)).trans hx464_0; replace hx464_1 := (HB.out.cell (World.block_lt_of_cell? w _ hx464_1)).trans hx464_1; replace p464 := eq_true p464; replace q464 := eq_true q464
        go_wp2_with (first | ((with_reducible refine gate_dst (N := 6) rfl ?_); refine box_event ?hg (N := 6) ?hd (cs := #[.int .i64 0, .int .i64 0]) (t := 33) ?hr ?_; (case hd => rfl); (case hg => rfl); (case hr => first | (go_simp; done) | (go_simp; rfl)); intro gb465 hg w10 hbox hb; replace HO_3 := am (Kd.R_below (pkr HO_3.out) hb); have BK465 := am (hbox); have GW465 := am ((by rw [hg]; exact (below_size (by repeat (first | (with_reducible first | exact HB.out | apply bA | apply bN | apply b1) | exact HB.out))) : w.heap.size ≤ gb465)); replace HB := am (below_step (by repeat (first | (with_reducible first | exact HB.out | apply bA | apply bN | apply b1) | exact HB.out)) hb); have GE465 := GW465; clear hb hbox hg; have hcz11_0 := pc0 BK465.out; have hcz11_1 := pc1 BK465.out; have hfz11_0 := blk_frozen BK465.out 0; have hfz11_1 := blk_frozen BK465.out 1))
        go_roundg k1
        case measure => have := HK1.out; omega
        case rel => exact ⟨(x3_1), (ji9), (wrap64 (x10_1 + 1)), (by first | rfl | (simp; done) | (simp only [← hji9] <;> (first | rfl | simp)) | (simp [*]; done)), (by first | rfl | (simp; done) | (simp [*]; done)), H', ⟨by have := HK1.out; omega⟩, ⟨by (with_reducible repeat (first | apply Kd.R_alloc | apply Kd.R_drewN | apply Kd.R_drew)); exact Kd.R_mono (Kd.R_far (p := ⟨gb465, 1, none⟩) (Kd.R_far (p := ⟨gb465, 0, none⟩) (Kd.R_types HO_3.out BK465.out (by decide)) (fun _ hk => by first | exact hk.2 | simp_all) (.int .i64 ((rd_T33 l0 x10_1).f0))) (fun _ hk => by first | exact hk.2 | simp_all) (.int .i64 ((rd_T33 l0 x10_1).f1))) (fun _ hk => trivial)⟩, ⟨by repeat (first | (with_reducible first | exact HB.out | apply bA | apply bN | apply b1 | refine bS ?_ (by assumption)) | exact HB.out)⟩⟩
       ·rw [if_neg c8] at H
        have c8b0 : (((rd_T33 l0 x10_1).f0) == (wrap64 (x4_1 + 1))) = false := beq_eq_false_iff_ne.mpr c8; have c8b1 : (((rd_T33 l0 x10_1).f0) != (wrap64 (x4_1 + 1))) = true := bne_iff_ne.mpr c8
        by_cases c12 : x3_1.length < 17592186044416
        ·rw [if_pos c12] at H
         have LMc12 := am c12; clear c12; obtain ⟨y466, hy466⟩ : ∃ y_ : List Int, y_ = (x3_1 ++ [x10_1]) := ⟨_, rfl⟩
         replace H : (impl_Gaps.l0 k1 y466 (mx x4_1 ((rd_T33 l0 x10_1).f0)) l0 (l0.length : Int) (wrap64 (x10_1 + 1))) = some r := by first | (rw [hy466]; with_reducible exact H) | (have H2_ := (Option.bind_some _ _).symm.trans H; rw [hy466]; with_reducible exact H2_) | (have H2_ := (Option.bind_some _ _).symm.trans H; with_reducible exact H2_) | with_reducible exact H | (rw [hy466]; exact H) | exact H
         have Ny466 := am hy466; clear hy466; obtain ⟨ji13, hji13⟩ : ∃ j_ : Int, (mx x4_1 ((rd_T33 l0 x10_1).f0)) = j_ := ⟨_, rfl⟩
         replace H : (impl_Gaps.l0 k1 y466 ji13 l0 (l0.length : Int) (wrap64 (x10_1 + 1))) = some r := by first | (rw [hji13] at H; exact H) | (simp only [hji13] at H ⊢; exact H)
         have hji13_ : (if x4_1 < ((rd_T33 l0 x10_1).f0) then ((rd_T33 l0 x10_1).f0) else x4_1) = ji13 := hji13; have H' := am H; clear H; have p464 : 0 ≤ (x10_1 : Int) := of_decide_eq_true (by first | (with_reducible assumption) | assumption); have q464 : x10_1 < (l0.length : Int) := of_decide_eq_true (by first | (with_reducible assumption) | assumption); obtain ⟨ad464, e464, hx464_0, hx464_1⟩ := at_T33 HR0.out x10_1 p464 q464; cases e464; replace hx464_0 := (HB.out.cell (World.block_lt_of_cell? w _ hx464_0)).trans hx464_0; replace hx464_1 := (HB.out.cell (World.block_lt_of_cell? w _ hx464_1)).trans hx464_1; replace p464 := eq_true p464; replace q464 := eq_true q464
         go_wp2_with (first | ((with_reducible refine gate_dst (N := 6) rfl ?_); refine box_event ?hg (N := 6) ?hd (cs := #[.int .i64 0, .int .i64 0]) (t := 33) ?hr ?_; (case hd => rfl); (case hg => rfl); (case hr => first | (go_simp; done) | (go_simp; rfl)); intro gb465 hg w14 hbox hb; replace HO_3 := am (Kd.R_below (pkr HO_3.out) hb); have BK465 := am (hbox); have GW465 := am ((by rw [hg]; exact (below_size (by repeat (first | (with_reducible first | exact HB.out | apply bA | apply bN | apply b1) | exact HB.out))) : w.heap.size ≤ gb465)); replace HB := am (below_step (by repeat (first | (with_reducible first | exact HB.out | apply bA | apply bN | apply b1) | exact HB.out)) hb); have GE465 := GW465; clear hb hbox hg; have hcz15_0 := pc0 BK465.out; have hcz15_1 := pc1 BK465.out; have hfz15_0 := blk_frozen BK465.out 0; have hfz15_1 := blk_frozen BK465.out 1) | ((with_reducible refine gate_builtin (b := .append) (xs := #[.tmp 26, .tmp 28]) rfl ?_); at_builtin; refine Kd.R_append (Kd.int .i64) (w0 := w) w.heap.size rfl (.tmp 26) (.tmp 28) 24 3 (.int .i64 0) 8 rfl Try.underlying24 info3 rfl (by decide) (by omega) u3 x3_1 x10_1 [.int .i64 x10_1] (fun _ => True) (fun _ => False) rfl (by first | (go_simp; done) | (go_simp; rfl)) ?aP (fun _ hk => hk.elim) ?aF ?aO ?aB ?aS ?aL ?_; (case aP => exact rfl); (case aB => exact (by repeat (first | (with_reducible first | exact HB.out | apply bA | apply bN | apply b1 | refine bS ?_ (by assumption)) | exact HB.out))); (case aF => exact (fun _ _ => trivial)); (case aO => exact (pkr (Kd.R_mono (Kd.R_far (p := ⟨gb465, 1, none⟩) (Kd.R_far (p := ⟨gb465, 0, none⟩) (Kd.R_types HO_3.out BK465.out (by decide)) (fun _ hk => by first | exact hk.2 | simp_all) (.int .i64 ((rd_T33 l0 x10_1).f0))) (fun _ hk => by first | exact hk.2 | simp_all) (.int .i64 ((rd_T33 l0 x10_1).f1))) (fun _ hk => trivial)))); (case aS => exact (below_size (by repeat (first | (with_reducible first | exact HB.out | apply bA | apply bN | apply b1 | refine bS ?_ (by assumption)) | exact HB.out)))); (case aL => have := LMc12.out; omega); intro v467 w16 ho hb hg hat; rw [← Ny466.out] at ho; replace BK465 := am (blk_grown (g := gb465) (o := .cells #[.int .i64 ((rd_T33 l0 x10_1).f0), .int .i64 ((rd_T33 l0 x10_1).f1)] 33 (0, 0)) (by (with_reducible repeat (first | apply kN | apply k1 | apply kA)); refine blk_put (cs := #[.int .i64 ((rd_T33 l0 x10_1).f0), .int .i64 0]) ?_ 1 _ rfl; (with_reducible repeat (first | apply kN | apply k1 | apply kA)); refine blk_put (cs := #[.int .i64 0, .int .i64 0]) ?_ 0 _ rfl; (with_reducible repeat (first | apply kN | apply k1 | apply kA)); exact BK465.out) hg (Kd.R_ne HO_3.out BK465.out (by decide))); replace HB := am (hb); have HO468 := am (ho); clear HO_3; clear ho hb hg hat; have hcz17_0 := pc0 BK465.out; have hcz17_1 := pc1 BK465.out; have hfz17_0 := blk_frozen BK465.out 0; have hfz17_1 := blk_frozen BK465.out 1))
         go_roundg k1
         case measure => have := HK1.out; omega
         case rel => exact ⟨(y466), (ji13), (wrap64 (x10_1 + 1)), (by first | rfl | (simp; done) | (simp only [← hji13] <;> (first | rfl | simp)) | (simp [*]; done)), (by first | rfl | (simp; done) | (simp [*]; done)), H', ⟨by have := HK1.out; omega⟩, ⟨by (with_reducible repeat (first | apply Kd.R_alloc | apply Kd.R_drewN | apply Kd.R_drew)); exact HO468.out⟩, ⟨by repeat (first | (with_reducible first | exact HB.out | apply bA | apply bN | apply b1 | refine bS ?_ (by assumption)) | exact HB.out)⟩⟩
        ·rw [if_neg c12] at H
         exact absurd H (by simp)
      ·rw [if_neg c7] at H
       have c7b0 : decide (x4_1 < ((rd_T33 l0 x10_1).f0)) = false := decide_eq_false c7; clear c7; obtain ⟨ji18, hji18⟩ : ∃ j_ : Int, (mx x4_1 ((rd_T33 l0 x10_1).f0)) = j_ := ⟨_, rfl⟩
       replace H : (impl_Gaps.l0 k1 x3_1 ji18 l0 (l0.length : Int) (wrap64 (x10_1 + 1))) = some r := by first | (rw [hji18] at H; exact H) | (simp only [hji18] at H ⊢; exact H)
       have hji18_ : (if x4_1 < ((rd_T33 l0 x10_1).f0) then ((rd_T33 l0 x10_1).f0) else x4_1) = ji18 := hji18; have H' := am H; clear H; have p464 : 0 ≤ (x10_1 : Int) := of_decide_eq_true (by first | (with_reducible assumption) | assumption); have q464 : x10_1 < (l0.length : Int) := of_decide_eq_true (by first | (with_reducible assumption) | assumption); obtain ⟨ad464, e464, hx464_0, hx464_1⟩ := at_T33 HR0.out x10_1 p464 q464; cases e464; replace hx464_0 := (HB.out.cell (World.block_lt_of_cell? w _ hx464_0)).trans hx464_0; replace hx464_1 := (HB.out.cell (World.block_lt_of_cell? w _ hx464_1)).trans hx464_1; replace p464 := eq_true p464; replace q464 := eq_true q464
       go_wp2_with (first | ((with_reducible refine gate_dst (N := 6) rfl ?_); refine box_event ?hg (N := 6) ?hd (cs := #[.int .i64 0, .int .i64 0]) (t := 33) ?hr ?_; (case hd => rfl); (case hg => rfl); (case hr => first | (go_simp; done) | (go_simp; rfl)); intro gb465 hg w19 hbox hb; replace HO_3 := am (Kd.R_below (pkr HO_3.out) hb); have BK465 := am (hbox); have GW465 := am ((by rw [hg]; exact (below_size (by repeat (first | (with_reducible first | exact HB.out | apply bA | apply bN | apply b1) | exact HB.out))) : w.heap.size ≤ gb465)); replace HB := am (below_step (by repeat (first | (with_reducible first | exact HB.out | apply bA | apply bN | apply b1) | exact HB.out)) hb); have GE465 := GW465; clear hb hbox hg; have hcz20_0 := pc0 BK465.out; have hcz20_1 := pc1 BK465.out; have hfz20_0 := blk_frozen BK465.out 0; have hfz20_1 := blk_frozen BK465.out 1))
       go_roundg k1
       case measure => have := HK1.out; omega
       case rel => exact ⟨(x3_1), (ji18), (wrap64 (x10_1 + 1)), (by first | rfl | (simp; done) | (simp only [← hji18] <;> (first | rfl | simp)) | (simp [*]; done)), (by first | rfl | (simp; done) | (simp [*]; done)), H', ⟨by have := HK1.out; omega⟩, ⟨by (with_reducible repeat (first | apply Kd.R_alloc | apply Kd.R_drewN | apply Kd.R_drew)); exact Kd.R_mono (Kd.R_far (p := ⟨gb465, 1, none⟩) (Kd.R_far (p := ⟨gb465, 0, none⟩) (Kd.R_types HO_3.out BK465.out (by decide)) (fun _ hk => by first | exact hk.2 | simp_all) (.int .i64 ((rd_T33 l0 x10_1).f0))) (fun _ hk => by first | exact hk.2 | simp_all) (.int .i64 ((rd_T33 l0 x10_1).f1))) (fun _ hk => trivial)⟩, ⟨by repeat (first | (with_reducible first | exact HB.out | apply bA | apply bN | apply b1 | refine bS ?_ (by assumption)) | exact HB.out)⟩⟩
     ·rw [if_neg c6] at H
      exact absurd H (by simp)
    ·rw [if_neg c5] at H
     exact absurd H (by simp)
   ·rw [if_neg c4] at H
    have c4b0 : decide (x10_1 < (l0.length : Int)) = false := decide_eq_false c4; clear c4; obtain rfl := Option.some.inj H
    go_wp2
    go_ret
    exact ⟨_, by first | rfl | (simp [errW_none, errW_some] <;> rfl) | (simp [*, errW_none, errW_some] <;> rfl), by (with_reducible repeat (first | apply Kd.R_alloc | apply Kd.R_drewN | apply Kd.R_drew)); exact HO_3.out, by repeat (first | (with_reducible first | exact HB.out | apply bA | apply bN | apply b1) | exact HB.out)⟩

end Go.Proofs.Ytdmmogcpamgdnaa.PFnInOrder
