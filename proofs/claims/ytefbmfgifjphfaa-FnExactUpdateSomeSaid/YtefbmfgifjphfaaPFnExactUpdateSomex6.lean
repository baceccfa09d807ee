-- written by xprint.py for this seat
import Derived.Test.YtefbmfgifjphfaaPFnExactUpdateSomex0
import Derived.Test.YtefbmfgifjphfaaPFnExactUpdateSomex4
namespace Go.Proofs.Ytefbmfgifjphfaa.PFnExactUpdateSome
open Go.RowKit Go.Proofs.YtefbmfgifjphfaaW.PrintWords Go.Proofs.YtefbmfgifjphfaaW.PrintLast Go.Proofs.YtefbmfgifjphfaaW.PrintMore
attribute [local go_sem] max2_int min2_int max_two min_two max_three min_three max_four min_four   -- for this text's walks alone
set_option linter.unusedVariables false
set_option linter.unusedSimpArgs false

/-! ### spec_l35Write: function 67 -/
mutual
def spec_l35Write.j0 : Nat → Int → List Int → Int → Int → List Int → Int → Option (Int × List Int × Int)
 | 0, _, _, _, _, _, _ => none
 | k + 1, x1, x2, x3, x260000, x260001, x260002 => if x3 ≥ 2 then (spec_l35Write.j1 k x1 x2 x3 ((x260001.length : Int) != 8) x260000 x260001 x260002) else (spec_l35Write.j1 k x1 x2 x3 false x260000 x260001 x260002)
def spec_l35Write.j1 : Nat → Int → List Int → Int → Bool → Int → List Int → Int → Option (Int × List Int × Int)
 | 0, _, _, _, _, _, _, _ => none
 | k + 1, x1, x2, x3, x20, x260000, x260001, x260002 => if x20 = true then (if 8 ≤ 35184372088832 then (spec_l35Write.j2 k x1 x2 x3 x260000 (List.replicate 8 0) x260002) else (none)) else (spec_l35Write.j2 k x1 x2 x3 x260000 x260001 x260002)
def spec_l35Write.j2 : Nat → Int → List Int → Int → Int → List Int → Int → Option (Int × List Int × Int)
 | 0, _, _, _, _, _, _ => none
 | k + 1, x1, x2, x3, x260000, x260001, x260002 => spec_l35Write.l0 k x1 x2 x3 0 x260000 x260001 x260002
def spec_l35Write.l0 : Nat → Int → List Int → Int → Int → Int → List Int → Int → Option (Int × List Int × Int)
 | 0, _, _, _, _, _, _, _ => none
 | k + 1, x1, x2, x3, x9, x260000, x260001, x260002 => if x9 < 8 then (if (wrap64 (x9 + 2)) ≤ x3 then (if 0 ≤ x9 then (if x9 < (x2.length : Int) then (if x9 < (x260001.length : Int) then (spec_l35Write.l0 k x1 x2 x3 (wrap64 (x9 + 1)) x260000 (x260001.set (x9 : Int).toNat (rd x2 x9)) x260002) else (none)) else (none)) else (none)) else (if x3 ≥ 10 then ((spec_l35Sum.f k x1 x2).bind fun t266 => (some (x1, x260001, t266))) else (some (x260000, x260001, x260002)))) else (if x3 ≥ 10 then ((spec_l35Sum.f k x1 x2).bind fun t267 => (some (x1, x260001, t267))) else (some (x260000, x260001, x260002)))
end
def spec_l35Write.f (k : Nat) (a0_0 : Int) (l0_1 : List Int) (a0_2 : Int) (a1 : Int) (l2 : List Int) (a3 : Int) : Option (Int × List Int × Int) := if a3 ≥ 1 then (spec_l35Write.j0 k a1 l2 a3 0 l0_1 a0_2) else (spec_l35Write.j0 k a1 l2 a3 a0_0 l0_1 a0_2)
theorem spec_l35Write.mono_l : ∀ k, (∀ y0 y1 y2 y3 y4 y5, LeO (spec_l35Write.j0 k y0 y1 y2 y3 y4 y5) (spec_l35Write.j0 (k + 1) y0 y1 y2 y3 y4 y5)) ∧ (∀ y0 y1 y2 y3 y4 y5 y6, LeO (spec_l35Write.j1 k y0 y1 y2 y3 y4 y5 y6) (spec_l35Write.j1 (k + 1) y0 y1 y2 y3 y4 y5 y6)) ∧ (∀ y0 y1 y2 y3 y4 y5, LeO (spec_l35Write.j2 k y0 y1 y2 y3 y4 y5) (spec_l35Write.j2 (k + 1) y0 y1 y2 y3 y4 y5)) ∧ (∀ y0 y1 y2 y3 y4 y5 y6, LeO (spec_l35Write.l0 k y0 y1 y2 y3 y4 y5 y6) (spec_l35Write.l0 (k + 1) y0 y1 y2 y3 y4 y5 y6))
 | 0 => ⟨fun _ _ _ _ _ _ r h => by simp [spec_l35Write.j0] at h, fun _ _ _ _ _ _ _ r h => by simp [spec_l35Write.j1] at h, fun _ _ _ _ _ _ r h => by simp [spec_l35Write.j2] at h, fun _ _ _ _ _ _ _ r h => by simp [spec_l35Write.l0] at h⟩
 | k + 1 => by
  obtain ⟨ih0, ih1, ih2, ih3⟩ := spec_l35Write.mono_l k; refine ⟨?_, ?_, ?_, ?_⟩
  ·intro y0 y1 y2 y3 y4 y5
   unfold spec_l35Write.j0
   repeat' first
   | (with_reducible exact ih0 _ _ _ _ _ _)
   | (with_reducible exact ih1 _ _ _ _ _ _ _)
   | (with_reducible exact ih2 _ _ _ _ _ _)
   | (with_reducible exact ih3 _ _ _ _ _ _ _)
   | (with_reducible exact spec_l35Sum.mono _ _ _)
   | (with_reducible exact LeO.refl _)
   | (with_reducible exact LeO.none _)
   | (with_reducible refine LeO.ite ?_ ?_)
   | (with_reducible refine LeO.bind ?_ (fun _ => ?_))
   | exact ih0 _ _ _ _ _ _
   | exact ih1 _ _ _ _ _ _ _
   | exact ih2 _ _ _ _ _ _
   | exact ih3 _ _ _ _ _ _ _
   | exact spec_l35Sum.mono _ _ _
   | exact LeO.none _
   | refine LeO.ite ?_ ?_
   | refine LeO.bind ?_ (fun _ => ?_)
  ·intro y0 y1 y2 y3 y4 y5 y6
   unfold spec_l35Write.j1
   repeat' first
   | (with_reducible exact ih0 _ _ _ _ _ _)
   | (with_reducible exact ih1 _ _ _ _ _ _ _)
   | (with_reducible exact ih2 _ _ _ _ _ _)
   | (with_reducible exact ih3 _ _ _ _ _ _ _)
   | (with_reducible exact spec_l35Sum.mono _ _ _)
   | (with_reducible exact LeO.refl _)
   | (with_reducible exact LeO.none _)
   | (with_reducible refine LeO.ite ?_ ?_)
   | (with_reducible refine LeO.bind ?_ (fun _ => ?_))
   | exact ih0 _ _ _ _ _ _
   | exact ih1 _ _ _ _ _ _ _
   | exact ih2 _ _ _ _ _ _
   | exact ih3 _ _ _ _ _ _ _
   | exact spec_l35Sum.mono _ _ _
   | exact LeO.none _
   | refine LeO.ite ?_ ?_
   | refine LeO.bind ?_ (fun _ => ?_)
  ·intro y0 y1 y2 y3 y4 y5
   unfold spec_l35Write.j2
   repeat' first
   | (with_reducible exact ih0 _ _ _ _ _ _)
   | (with_reducible exact ih1 _ _ _ _ _ _ _)
   | (with_reducible exact ih2 _ _ _ _ _ _)
   | (with_reducible exact ih3 _ _ _ _ _ _ _)
   | (with_reducible exact spec_l35Sum.mono _ _ _)
   | (with_reducible exact LeO.refl _)
   | (with_reducible exact LeO.none _)
   | (with_reducible refine LeO.ite ?_ ?_)
   | (with_reducible refine LeO.bind ?_ (fun _ => ?_))
   | exact ih0 _ _ _ _ _ _
   | exact ih1 _ _ _ _ _ _ _
   | exact ih2 _ _ _ _ _ _
   | exact ih3 _ _ _ _ _ _ _
   | exact spec_l35Sum.mono _ _ _
   | exact LeO.none _
   | refine LeO.ite ?_ ?_
   | refine LeO.bind ?_ (fun _ => ?_)
  ·intro y0 y1 y2 y3 y4 y5 y6
   unfold spec_l35Write.l0
   repeat' first
   | (with_reducible exact ih0 _ _ _ _ _ _)
   | (with_reducible exact ih1 _ _ _ _ _ _ _)
   | (with_reducible exact ih2 _ _ _ _ _ _)
   | (with_reducible exact ih3 _ _ _ _ _ _ _)
   | (with_reducible exact spec_l35Sum.mono _ _ _)
   | (with_reducible exact LeO.refl _)
   | (with_reducible exact LeO.none _)
   | (with_reducible refine LeO.ite ?_ ?_)
   | (with_reducible refine LeO.bind ?_ (fun _ => ?_))
   | exact ih0 _ _ _ _ _ _
   | exact ih1 _ _ _ _ _ _ _
   | exact ih2 _ _ _ _ _ _
   | exact ih3 _ _ _ _ _ _ _
   | exact spec_l35Sum.mono _ _ _
   | exact LeO.none _
   | refine LeO.ite ?_ ?_
   | refine LeO.bind ?_ (fun _ => ?_)
theorem spec_l35Write.mono : ∀ a0 a1 a2 a3 a4 a5 k, LeO (spec_l35Write.f k a0 a1 a2 a3 a4 a5) (spec_l35Write.f (k + 1) a0 a1 a2 a3 a4 a5) := by
 intro a0 a1 a2 a3 a4 a5 k; obtain ⟨ih0, ih1, ih2, ih3⟩ := spec_l35Write.mono_l k; unfold spec_l35Write.f
 repeat' first
   | (with_reducible exact ih0 _ _ _ _ _ _)
   | (with_reducible exact ih1 _ _ _ _ _ _ _)
   | (with_reducible exact ih2 _ _ _ _ _ _)
   | (with_reducible exact ih3 _ _ _ _ _ _ _)
   | (with_reducible exact spec_l35Sum.mono _ _ _)
   | (with_reducible exact LeO.refl _)
   | (with_reducible exact LeO.none _)
   | (with_reducible refine LeO.ite ?_ ?_)
   | (with_reducible refine LeO.bind ?_ (fun _ => ?_))
   | exact ih0 _ _ _ _ _ _
   | exact ih1 _ _ _ _ _ _ _
   | exact ih2 _ _ _ _ _ _
   | exact ih3 _ _ _ _ _ _ _
   | exact spec_l35Sum.mono _ _ _
   | exact LeO.none _
   | refine LeO.ite ?_ ?_
   | refine LeO.bind ?_ (fun _ => ?_)
def spec_l35Write.T8 : Bool × List (List Nat × List Nat) := (true, [([], []), ([0], [0]), ([], []), ([], []), ([], []), ([3, 4], [3, 4]), ([5], [5]), ([1, 2, 0, 1, 2, 3, 4, 5, 6], [1, 2]), ([7, 6, 0, 1, 2, 3, 4, 5, 6], [6, 7])])
def spec_l35Write.B8 : List Nat := [0, 1, 0, 0, 0, 24, 56, 127, 255]
theorem spec_l35Write.tab8 : rtab .any (opsOf Try.f67 8) = spec_l35Write.T8 := by kernel_rfl
theorem spec_l35Write.bits8 : waitsOk spec_l35Write.T8.2 spec_l35Write.B8 = true := by kernel_rfl
set_option maxHeartbeats 8000000 in
set_option maxRecDepth 100000 in
theorem spec_l35Write.calls (k : Nat) (a0_0 : Int) (P0_1_ : Nat → Prop) (u9000_ : Value) (l0_1 : List Int) (a0_2 : Int) (a1 : Int) (A2 : Option Addr) (c2 : Nat) (l2 : List Int) (a3 : Int) (r1 : Int) (r2 : List Int) (r3 : Int) (w0 w : World) (hB : Below w0.heap.size w0 w) (ho0_1 : Kd.R (Kd.int .i64) 3 w w0.heap.size P0_1_ u9000_ l0_1) (hr2 : ∀ W_, Kept w W_ (fun k_ => P0_1_ k_) → Kd.C (Kd.int .i64) W_ A2 l2.length l2) (hc2 : l2.length ≤ c2) (h : spec_l35Write.f k a0_0 l0_1 a0_2 a1 l2 a3 = some (r1, r2, r3)) :
  Calls Try.prog 67 #[.agg #[.int .i64 a0_0, u9000_, .int .i64 a0_2], .int .i64 a1, .slice A2 l2.length c2, .int .i64 a3] w fun e w' => ∃ v1_ : Value, e = .returned (.agg #[.int .i64 r1, v1_, .int .i64 r3]) ∧ Kd.R (Kd.int .i64) 3 w' w0.heap.size (fun k_ => (P0_1_ k_ ∨ w.heap.size ≤ k_)) v1_ r2 ∧ Below w0.heap.size w0 w' ∧ Kept w w' (fun k_ => P0_1_ k_) := by
 have hu26 := Try.underlying26; have HO0_1 := am (show Kd.R (Kd.int .i64) 3 w w0.heap.size (fun k_ => (P0_1_ k_ ∨ w.heap.size ≤ k_)) u9000_ l0_1 from Kd.R_mono ho0_1 (fun k_ hk => (.inl hk))); have HR2 := am hr2; have HC2 := am hc2; clear hr2 hc2; have HK := am (Kept.refl w (fun k_ => P0_1_ k_)); have HW0 := am hB.size; have HB := am hB; clear hB; have H : (if a3 ≥ 1 then (spec_l35Write.j0 k a1 l2 a3 0 l0_1 a0_2) else (spec_l35Write.j0 k a1 l2 a3 a0_0 l0_1 a0_2)) = some (r1, r2, r3) := h; clear h; have HC5 := am H; clear H; obtain ⟨Ao6, co6, eo6⟩ := Kd.R_slice HO0_1.out; subst eo6; go_enter Try.func67, Try.ntmps67
 go_upto_if 11 with (first | ((with_reducible refine gate_dst (N := 4) rfl ?_); (try (refine gate_guard (by rfl) ?_; dsimp only)); refine box_event ?hg (N := 4) ?hd (cs := #[.int .i64 a0_0, .slice Ao6 l0_1.length co6, .int .i64 a0_2]) (t := 26) ?hr ?_; (case hd => rfl); (case hg => rfl); (case hr => first | (go_simp; done) | (go_simp; rfl)); intro gb259 hg w7 hbox hb; replace HO0_1 := am (Kd.R_below (pkr HO0_1.out) hb); have BK259 := am (hbox); have GW259 := am ((by rw [hg]; exact (by first | exact HK.out.1 | exact (show Kept w _ (fun k_ => P0_1_ k_) from by repeat (first | (with_reducible first | exact HK.out | apply Kept.alloc | apply Kept.drewN | apply Kept.drew) | exact HK.out)).1) : w.heap.size ≤ gb259)); replace HK := am (Kept.below (S := (fun k_ => P0_1_ k_)) (by repeat (first | (with_reducible first | exact HK.out | apply Kept.alloc | apply Kept.drewN | apply Kept.drew) | exact HK.out)) hb); have GE259 := am ((by rw [hg]; exact (below_size (by repeat (first | (with_reducible first | exact HB.out | apply bA | apply bN | apply b1) | exact HB.out))) : w0.heap.size ≤ gb259)); replace HB := am (below_step (by repeat (first | (with_reducible first | exact HB.out | apply bA | apply bN | apply b1) | exact HB.out)) hb); clear hb hbox hg) | ((with_reducible refine gate_dst (N := 8) rfl ?_); (try (refine gate_guard (by rfl) ?_; dsimp only)); refine box_event ?hg (N := 8) ?hd (cs := #[.int .i64 0, .slice none 0 0, .int .i64 0]) (t := 26) ?hr ?_; (case hd => rfl); (case hg => rfl); (case hr => first | (go_simp; done) | (go_simp; rfl)); intro gb260 hg w8 hbox hb; replace HO0_1 := am (Kd.R_below (pkr HO0_1.out) hb); have BK260 := am (hbox); have GW260 := am ((by rw [hg]; exact (by first | exact HK.out.1 | exact (show Kept w _ (fun k_ => P0_1_ k_) from by repeat (first | (with_reducible first | exact HK.out | apply Kept.alloc | apply Kept.drewN | apply Kept.drew | refine Kept.setCell ?_ (.inr GW259.out) _) | exact HK.out)).1) : w.heap.size ≤ gb260)); replace HK := am (Kept.below (S := (fun k_ => P0_1_ k_)) (by repeat (first | (with_reducible first | exact HK.out | apply Kept.alloc | apply Kept.drewN | apply Kept.drew | refine Kept.setCell ?_ (.inr GW259.out) _) | exact HK.out)) hb); have GE260 := am ((by rw [hg]; exact (below_size (by repeat (first | (with_reducible first | exact HB.out | apply bA | apply bN | apply b1 | refine bS ?_ (by assumption)) | exact HB.out))) : w0.heap.size ≤ gb260)); replace HB := am (below_step (by repeat (first | (with_reducible first | exact HB.out | apply bA | apply bN | apply b1 | refine bS ?_ (by assumption)) | exact HB.out)) hb); have NB259_260 := am ((by rw [hg]; exact Nat.ne_of_lt (blk_lt (pkb BK259.out)) : gb259 ≠ gb260)); replace BK259 := am (blk_below (pkb BK259.out) hb); have NB260_259 := am NB259_260.out.symm; clear hb hbox hg))
 (try simp only [Act.put, sa, s0, s1])
 go_cut [] (fun wc => ∃ (kq : Nat) (x260000_4 : Int), Aside0 (spec_l35Write.j0 kq a1 l2 a3 x260000_4 l0_1 a0_2 = some (r1, r2, r3)) ∧ Aside0 (kq ≤ k) ∧ Aside0 (Kd.R (Kd.int .i64) 3 wc w0.heap.size (fun k_ => (P0_1_ k_ ∨ w.heap.size ≤ k_)) (.slice Ao6 l0_1.length co6) l0_1) ∧ Aside0 (wc.heap[gb259]? = some (.cells #[.int .i64 x260000_4, (.slice Ao6 l0_1.length co6), .int .i64 a0_2] 26 (0, 0))) ∧ Aside0 (wc.heap[gb260]? = some (.cells #[.int .i64 0, (.slice none 0 0), .int .i64 0] 26 (0, 0))) ∧ Aside0 (Kept w wc (fun k_ => P0_1_ k_)) ∧ Aside0 (Below w0.heap.size w0 wc))
 case first =>
  have H := HC5.out; clear HC5
  by_cases c9 : a3 ≥ 1
  ·rw [if_pos c9] at H
   have c9b0 : decide (1 ≤ a3) = true := decide_eq_true c9; clear c9; (first | rw [c9b0] | (simp only [i64_w, i32_w]; rw [c9b0]) | skip); have H' := am H; clear H; have hnb10 := NB259_260.out; have hnc10 := NB260_259.out; obtain ⟨hcz11_0, hcz11_1, hcz11_2, hfz11_0, hfz11_1, hfz11_2⟩ := pq3 BK259.out
   go_wp2
   go_meet
   case rel => exact ⟨_, (0), H', ⟨by first | omega | exact Nat.le_refl _⟩, ⟨by (with_reducible repeat (first | apply Kd.R_alloc | apply Kd.R_drewN | apply Kd.R_drew)); exact Kd.R_mono (Kd.R_far (p := ⟨gb259, 0, none⟩) (Kd.R_types HO0_1.out BK259.out (by decide)) (fun _ hk => by first | exact hk.2 | simp_all) (.int .i64 0)) (fun _ hk => by first | exact hk.1 | simp_all)⟩, ⟨by (with_reducible repeat (first | apply kN | apply k1 | apply kA)); refine blk_put (cs := #[.int .i64 a0_0, .slice Ao6 l0_1.length co6, .int .i64 a0_2]) ?_ 0 _ rfl; (with_reducible repeat (first | apply kN | apply k1 | apply kA)); exact BK259.out⟩, ⟨by (with_reducible repeat (first | apply kN | apply k1 | apply kA)); refine blk_far ?_ NB260_259.out _; (with_reducible repeat (first | apply kN | apply k1 | apply kA)); exact BK260.out⟩, ⟨by repeat (first | (with_reducible first | exact HK.out | apply Kept.alloc | apply Kept.drewN | apply Kept.drew | refine Kept.setCell ?_ (.inr GW259.out) _ | refine Kept.setCell ?_ (.inr GW260.out) _) | exact HK.out)⟩, ⟨by repeat (first | (with_reducible first | exact HB.out | apply bA | apply bN | apply b1 | refine bS ?_ (by assumption)) | exact HB.out)⟩⟩
  ·rw [if_neg c9] at H
   have c9b0 : decide (1 ≤ a3) = false := decide_eq_false c9; clear c9; (first | rw [c9b0] | (simp only [i64_w, i32_w]; rw [c9b0]) | skip); have H' := am H; clear H
   go_wp2
   go_meet
   case rel => exact ⟨_, (a0_0), H', ⟨by first | omega | exact Nat.le_refl _⟩, ⟨by (with_reducible repeat (first | apply Kd.R_alloc | apply Kd.R_drewN | apply Kd.R_drew)); exact HO0_1.out⟩, ⟨by (with_reducible repeat (first | apply kN | apply k1 | apply kA)); exact BK259.out⟩, ⟨by (with_reducible repeat (first | apply kN | apply k1 | apply kA)); exact BK260.out⟩, ⟨by repeat (first | (with_reducible first | exact HK.out | apply Kept.alloc | apply Kept.drewN | apply Kept.drew | refine Kept.setCell ?_ (.inr GW259.out) _ | refine Kept.setCell ?_ (.inr GW260.out) _) | exact HK.out)⟩, ⟨by repeat (first | (with_reducible first | exact HB.out | apply bA | apply bN | apply b1 | refine bS ?_ (by assumption)) | exact HB.out)⟩⟩
 case rest =>
  clear HC5; (try clear c1); (try clear c2); (try clear p2); (try clear c6); (try clear c9); (try clear c9b0); (try clear c10); (try clear hcz11_0); (try clear hcz11_1); (try clear hcz11_2); (try clear hfz11_0); (try clear hfz11_1); (try clear hfz11_2); obtain ⟨kq, x260000_4, HA, HJ4, HO_260001, BK259, BK260, HK, HB⟩ := hcut; cases kq with
  | zero => exact absurd HA.out (by simp [spec_l35Write.j0])
  | succ kj4 =>
   have H := HA.out; clear HA; simp only [spec_l35Write.j0] at H; have HC12 := am H; clear H
   go_upto_region 3 with (fail)
   go_cut [20] (fun v20 wc => ∃ (kq : Nat) (x20_11 : Bool), v20 = .bool x20_11 ∧ Aside0 (spec_l35Write.j1 kq a1 l2 a3 x20_11 x260000_4 l0_1 a0_2 = some (r1, r2, r3)) ∧ Aside0 (kq ≤ kj4) ∧ Aside0 (Kd.R (Kd.int .i64) 3 wc w0.heap.size (fun k_ => (P0_1_ k_ ∨ w.heap.size ≤ k_)) (.slice Ao6 l0_1.length co6) l0_1) ∧ Aside0 (wc.heap[gb259]? = some (.cells #[.int .i64 x260000_4, (.slice Ao6 l0_1.length co6), .int .i64 a0_2] 26 (0, 0))) ∧ Aside0 (wc.heap[gb260]? = some (.cells #[.int .i64 0, (.slice none 0 0), .int .i64 0] 26 (0, 0))) ∧ Aside0 (Kept w wc (fun k_ => P0_1_ k_)) ∧ Aside0 (Below w0.heap.size w0 wc))
   case first =>
    have H := HC12.out; clear HC12
    by_cases c13 : a3 ≥ 2
    ·rw [if_pos c13] at H
     have c13b0 : decide (2 ≤ a3) = true := decide_eq_true c13; clear c13; (first | rw [c13b0] | (simp only [i64_w, i32_w]; rw [c13b0]) | skip); have H' := am H; clear H; have hnb14 := NB259_260.out; have hnc14 := NB260_259.out; obtain ⟨hcz15_0, hcz15_1, hcz15_2, hfz15_0, hfz15_1, hfz15_2⟩ := pq3 BK259.out
     go_wp2
     go_meet
     case rel => exact ⟨_, (((l0_1.length : Int) != 8)), (by first | rfl | (simp; done) | (simp [*]; done)), H', ⟨by have := HJ4.out; first | omega | exact Nat.le_refl _⟩, ⟨by (with_reducible repeat (first | apply Kd.R_alloc | apply Kd.R_drewN | apply Kd.R_drew)); exact HO_260001.out⟩, ⟨by (with_reducible repeat (first | apply kN | apply k1 | apply kA)); exact BK259.out⟩, ⟨by (with_reducible repeat (first | apply kN | apply k1 | apply kA)); exact BK260.out⟩, ⟨by repeat (first | (with_reducible first | exact HK.out | apply Kept.alloc | apply Kept.drewN | apply Kept.drew | refine Kept.setCell ?_ (.inr GW259.out) _ | refine Kept.setCell ?_ (.inr GW260.out) _) | exact HK.out)⟩, ⟨by repeat (first | (with_reducible first | exact HB.out | apply bA | apply bN | apply b1 | refine bS ?_ (by assumption)) | exact HB.out)⟩⟩
    ·rw [if_neg c13] at H
     have c13b0 : decide (2 ≤ a3) = false := decide_eq_false c13; clear c13; (first | rw [c13b0] | (simp only [i64_w, i32_w]; rw [c13b0]) | skip); have H' := am H; clear H
     go_wp2
     go_meet
     case rel => exact ⟨_, (false), (by first | rfl | (simp; done) | (simp [*]; done)), H', ⟨by have := HJ4.out; first | omega | exact Nat.le_refl _⟩, ⟨by (with_reducible repeat (first | apply Kd.R_alloc | apply Kd.R_drewN | apply Kd.R_drew)); exact HO_260001.out⟩, ⟨by (with_reducible repeat (first | apply kN | apply k1 | apply kA)); exact BK259.out⟩, ⟨by (with_reducible repeat (first | apply kN | apply k1 | apply kA)); exact BK260.out⟩, ⟨by repeat (first | (with_reducible first | exact HK.out | apply Kept.alloc | apply Kept.drewN | apply Kept.drew | refine Kept.setCell ?_ (.inr GW259.out) _ | refine Kept.setCell ?_ (.inr GW260.out) _) | exact HK.out)⟩, ⟨by repeat (first | (with_reducible first | exact HB.out | apply bA | apply bN | apply b1 | refine bS ?_ (by assumption)) | exact HB.out)⟩⟩
   case rest =>
    clear HC12; (try clear c1); (try clear c2); (try clear p2); (try clear c6); (try clear c9); (try clear c9b0); (try clear c10); (try clear c13); (try clear c13b0); (try clear c14); (try clear hcz11_0); (try clear hcz11_1); (try clear hcz11_2); (try clear hcz15_0); (try clear hcz15_1); (try clear hcz15_2); (try clear hfz11_0); (try clear hfz11_1); (try clear hfz11_2); (try clear hfz15_0); (try clear hfz15_1); (try clear hfz15_2); (try clear p2); obtain ⟨kq, x20_11, rfl, HA, HJ11, HO_260001, BK259, BK260, HK, HB⟩ := hcut; cases kq with
    | zero => exact absurd HA.out (by simp [spec_l35Write.j1])
    | succ kj11 =>
     have H := HA.out; clear HA; simp only [spec_l35Write.j1] at H; have HC16 := am H; clear H
     go_upto_if 20 with (fail)
     go_cut [] (fun wc => ∃ (kq : Nat) (x260001_15 : List Int) (u260001 : Value), Aside0 (spec_l35Write.j2 kq a1 l2 a3 x260000_4 x260001_15 a0_2 = some (r1, r2, r3)) ∧ Aside0 (kq ≤ kj11) ∧ Aside0 (Kd.R (Kd.int .i64) 3 wc w0.heap.size (fun k_ => (P0_1_ k_ ∨ w.heap.size ≤ k_)) u260001 x260001_15) ∧ Aside0 (wc.heap[gb259]? = some (.cells #[.int .i64 x260000_4, u260001, .int .i64 a0_2] 26 (0, 0))) ∧ Aside0 (wc.heap[gb260]? = some (.cells #[.int .i64 0, (.slice none 0 0), .int .i64 0] 26 (0, 0))) ∧ Aside0 (Kept w wc (fun k_ => P0_1_ k_)) ∧ Aside0 (Below w0.heap.size w0 wc))
     case first =>
      have H := HC16.out; clear HC16
      by_cases c17 : x20_11 = true
      ·subst c17
       have H1 : (if 8 ≤ 35184372088832 then (spec_l35Write.j2 kj11 a1 l2 a3 x260000_4 (List.replicate 8 0) a0_2) else (none)) = some (r1, r2, r3) := by rw [if_pos rfl] at H; exact H
       clear H; have H := H1; clear H1
       by_cases c18 : 8 ≤ 35184372088832
       ·rw [if_pos c18] at H
        have c18b0 := eq_true c18; have c18b1 : decide (8 ≤ 35184372088832) = true := decide_eq_true c18; clear c18; obtain ⟨y261, hy261⟩ : ∃ y_ : List Int, y_ = (List.replicate 8 0) := ⟨_, rfl⟩
        replace H : (spec_l35Write.j2 kj11 a1 l2 a3 x260000_4 y261 a0_2) = some (r1, r2, r3) := by first | (rw [hy261]; with_reducible exact H) | (have H2_ := (Option.bind_some _ _).symm.trans H; rw [hy261]; with_reducible exact H2_) | (have H2_ := (Option.bind_some _ _).symm.trans H; with_reducible exact H2_) | with_reducible exact H | (rw [hy261]; exact H) | exact H
        have Ny261 := am hy261; clear hy261; have H' := am H; clear H
        go_wp2_with (first | ((with_reducible refine gate_dst (N := 21) rfl ?_); (try (refine gate_guard (by rfl) ?_; dsimp only)); refine Kd.R_make (Kd.int .i64) _ 3 rfl (N := 21) rfl 24 _ _ rfl 8 rfl rfl Try.underlying24 (.int .i64 0) 8 info3 rfl (by decide) (by omega) 0 (ok := fun _ => True) (okp := fun _ => True) rfl (fun _ hk => hk) trivial (by omega) (by omega) (Below.refl _ _) (Nat.le_refl _) ?_; intro v262 w19 ho20 hb hg_ hnew_; clear hg_ hnew_; (first | rw [← Ny261.out] at ho20 | (simp only [Int.reduceToNat] at ho20; rw [← Ny261.out] at ho20)); have HO263 := am (Kd.R_lower (Kd.R_new' (Kd.R_newM (M := fun k_ => (P0_1_ k_ ∨ w.heap.size ≤ k_)) ho20 (by first | exact HK.out.1 | exact (show Kept w _ (fun k_ => P0_1_ k_) from by repeat (first | (with_reducible first | exact HK.out | apply Kept.alloc | apply Kept.drewN | apply Kept.drew | refine Kept.setCell ?_ (.inr GW259.out) _ | refine Kept.setCell ?_ (.inr GW260.out) _) | exact HK.out)).1) (fun k_ h_ => .inr h_)) (Kd.R_lt (pkr HO_260001.out))) (below_size (by repeat (first | (with_reducible first | exact HB.out | apply bA | apply bN | apply b1 | refine bS ?_ (by assumption)) | exact HB.out)))); replace HO_260001 := am (Kd.R_elder' (pkr HO_260001.out) (Kd.R_base ho20) hb); replace BK259 := am (blk_below (pkb BK259.out) hb); replace BK260 := am (blk_below (pkb BK260.out) hb); replace HK := am (Kept.below (S := (fun k_ => P0_1_ k_)) (by repeat (first | (with_reducible first | exact HK.out | apply Kept.alloc | apply Kept.drewN | apply Kept.drew | refine Kept.setCell ?_ (.inr GW259.out) _ | refine Kept.setCell ?_ (.inr GW260.out) _) | exact HK.out)) hb); replace HB := am (below_step (by repeat (first | (with_reducible first | exact HB.out | apply bA | apply bN | apply b1 | refine bS ?_ (by assumption)) | exact HB.out)) hb); clear hb ho20; obtain ⟨Ao21, co21, eo21⟩ := Kd.R_slice HO263.out; subst eo21; have hnb22 := NB259_260.out; have hnc22 := NB260_259.out; obtain ⟨hcz23_0, hcz23_1, hcz23_2, hfz23_0, hfz23_1, hfz23_2⟩ := pq3 BK259.out))
        go_meet
        case rel => exact ⟨_, (y261), (.slice Ao21 y261.length co21), H', ⟨by have := HJ4.out; have := HJ11.out; first | omega | exact Nat.le_refl _⟩, ⟨by (with_reducible repeat (first | apply Kd.R_alloc | apply Kd.R_drewN | apply Kd.R_drew)); exact Kd.R_mono (Kd.R_far (p := ⟨gb259, 1, none⟩) (Kd.R_types HO263.out BK259.out (by decide)) (fun _ hk => by first | exact hk.2 | simp_all) (.slice Ao21 y261.length co21)) (fun _ hk => by first | exact hk.1.1.1 | simp_all)⟩, ⟨by (with_reducible repeat (first | apply kN | apply k1 | apply kA)); refine blk_put (cs := #[.int .i64 x260000_4, .slice Ao6 l0_1.length co6, .int .i64 a0_2]) ?_ 1 _ rfl; (with_reducible repeat (first | apply kN | apply k1 | apply kA)); exact BK259.out⟩, ⟨by (with_reducible repeat (first | apply kN | apply k1 | apply kA)); refine blk_far ?_ NB260_259.out _; (with_reducible repeat (first | apply kN | apply k1 | apply kA)); exact BK260.out⟩, ⟨by repeat (first | (with_reducible first | exact HK.out | apply Kept.alloc | apply Kept.drewN | apply Kept.drew | refine Kept.setCell ?_ (.inr GW259.out) _ | refine Kept.setCell ?_ (.inr GW260.out) _) | exact HK.out)⟩, ⟨by repeat (first | (with_reducible first | exact HB.out | apply bA | apply bN | apply b1 | refine bS ?_ (by assumption)) | exact HB.out)⟩⟩
       ·rw [if_neg c18] at H
        exact absurd H (by simp)
      ·replace c17 := Bool.eq_false_iff.mpr c17
       subst c17
       have H1 : (spec_l35Write.j2 kj11 a1 l2 a3 x260000_4 l0_1 a0_2) = some (r1, r2, r3) := by rw [if_neg (show ¬ (false = true) by decide)] at H; exact H
       clear H; have H := H1; clear H1; have H' := am H; clear H
       go_wp2
       go_meet
       case rel => exact ⟨_, (l0_1), (.slice Ao6 l0_1.length co6), H', ⟨by have := HJ4.out; have := HJ11.out; first | omega | exact Nat.le_refl _⟩, ⟨by (with_reducible repeat (first | apply Kd.R_alloc | apply Kd.R_drewN | apply Kd.R_drew)); exact HO_260001.out⟩, ⟨by (with_reducible repeat (first | apply kN | apply k1 | apply kA)); exact BK259.out⟩, ⟨by (with_reducible repeat (first | apply kN | apply k1 | apply kA)); exact BK260.out⟩, ⟨by repeat (first | (with_reducible first | exact HK.out | apply Kept.alloc | apply Kept.drewN | apply Kept.drew | refine Kept.setCell ?_ (.inr GW259.out) _ | refine Kept.setCell ?_ (.inr GW260.out) _) | exact HK.out)⟩, ⟨by repeat (first | (with_reducible first | exact HB.out | apply bA | apply bN | apply b1 | refine bS ?_ (by assumption)) | exact HB.out)⟩⟩
     case rest =>
      clear HC16; (try clear c1); (try clear c2); (try clear p2); (try clear c6); (try clear c9); (try clear c9b0); (try clear c10); (try clear c13); (try clear c13b0); (try clear c14); (try clear c17); (try clear c18); (try clear c18b0); (try clear c18b1); (try clear c22); (try clear hcz11_0); (try clear hcz11_1); (try clear hcz11_2); (try clear hcz15_0); (try clear hcz15_1); (try clear hcz15_2); (try clear hcz23_0); (try clear hcz23_1); (try clear hcz23_2); (try clear hfz11_0); (try clear hfz11_1); (try clear hfz11_2); (try clear hfz15_0); (try clear hfz15_1); (try clear hfz15_2); (try clear hfz23_0); (try clear hfz23_1); (try clear hfz23_2); (try clear p2); obtain ⟨kq, x260001_15, u260001, HA, HJ15, HO_260001, BK259, BK260, HK, HB⟩ := hcut; cases kq with
      | zero => exact absurd HA.out (by simp [spec_l35Write.j2])
      | succ kj15 =>
       have H := HA.out; clear HA; simp only [spec_l35Write.j2] at H; have H' := am H; clear H
       go_wp2
       go_loopg [9] kj15 (fun kq v9 w' => ∃ (x9_4 : Int) (x260001_4 : List Int) (u260001 : Value), v9 = .int .i64 x9_4 ∧ Aside0 (spec_l35Write.l0 kq a1 l2 a3 x9_4 x260000_4 x260001_4 a0_2 = some (r1, r2, r3)) ∧ Aside0 (kq ≤ kj15) ∧ Aside0 (Kd.R (Kd.int .i64) 3 w' w0.heap.size (fun k_ => (P0_1_ k_ ∨ w.heap.size ≤ k_)) u260001 x260001_4) ∧ Aside0 (w'.heap[gb259]? = some (.cells #[.int .i64 x260000_4, u260001, .int .i64 a0_2] 26 (0, 0))) ∧ Aside0 (w'.heap[gb260]? = some (.cells #[.int .i64 0, (.slice none 0 0), .int .i64 0] 26 (0, 0))) ∧ Aside0 (Kept w w' (fun k_ => P0_1_ k_)) ∧ Aside0 (Below w0.heap.size w0 w'))
       case atStart => exact ⟨(0), (x260001_15), (u260001), (by first | rfl | (simp; done) | (simp [*]; done)), H', ⟨Nat.le_refl _⟩, ⟨by (with_reducible repeat (first | apply Kd.R_alloc | apply Kd.R_drewN | apply Kd.R_drew)); exact HO_260001.out⟩, ⟨by (with_reducible repeat (first | apply kN | apply k1 | apply kA)); exact BK259.out⟩, ⟨by (with_reducible repeat (first | apply kN | apply k1 | apply kA)); exact BK260.out⟩, ⟨by repeat (first | (with_reducible first | exact HK.out | apply Kept.alloc | apply Kept.drewN | apply Kept.drew | refine Kept.setCell ?_ (.inr GW259.out) _ | refine Kept.setCell ?_ (.inr GW260.out) _) | exact HK.out)⟩, ⟨by repeat (first | (with_reducible first | exact HB.out | apply bA | apply bN | apply b1 | refine bS ?_ (by assumption)) | exact HB.out)⟩⟩
       case round =>
        clear H'; (try clear c1); (try clear c2); (try clear p2); (try clear c6); (try clear c9); (try clear c9b0); (try clear c10); (try clear c13); (try clear c13b0); (try clear c14); (try clear c17); (try clear c18); (try clear c18b0); (try clear c18b1); (try clear c22); (try clear hcz11_0); (try clear hcz11_1); (try clear hcz11_2); (try clear hcz15_0); (try clear hcz15_1); (try clear hcz15_2); (try clear hcz23_0); (try clear hcz23_1); (try clear hcz23_2); (try clear hfz11_0); (try clear hfz11_1); (try clear hfz11_2); (try clear hfz15_0); (try clear hfz15_1); (try clear hfz15_2); (try clear hfz23_0); (try clear hfz23_1); (try clear hfz23_2); (try clear p2); obtain ⟨x9_4, x260001_4, u260001, rfl, HA, HK4, HO_260001, BK259, BK260, HK, HB⟩ := hrel; cases gk with
        | zero => exact absurd HA.out (by simp [spec_l35Write.l0])
        | succ k4 =>
         have H := HA.out; clear HA; simp only [spec_l35Write.l0] at H
         by_cases c24 : x9_4 < 8
         ·rw [if_pos c24] at H
          have c24b0 : decide (x9_4 < 8) = true := decide_eq_true c24; clear c24
          by_cases c25 : (wrap64 (x9_4 + 2)) ≤ a3
          ·rw [if_pos c25] at H
           have c25b0 : decide ((wrap64 (x9_4 + 2)) ≤ a3) = true := decide_eq_true c25; clear c25
           by_cases c26 : 0 ≤ x9_4
           ·rw [if_pos c26] at H
            have c26b0 : decide (0 ≤ x9_4) = true := decide_eq_true c26; clear c26
            by_cases c27 : x9_4 < (l2.length : Int)
            ·rw [if_pos c27] at H
             have c27b0 : decide (x9_4 < (l2.length : Int)) = true := decide_eq_true c27; clear c27
             by_cases c28 : x9_4 < (x260001_4.length : Int)
             ·rw [if_pos c28] at H
              have c28b0 : decide (x9_4 < (x260001_4.length : Int)) = true := decide_eq_true c28; clear c28; obtain ⟨y265, hy265⟩ : ∃ y_ : List Int, y_ = (x260001_4.set (x9_4 : Int).toNat (rd l2 x9_4)) := ⟨_, rfl⟩
              replace H : (spec_l35Write.l0 k4 a1 l2 a3 (wrap64 (x9_4 + 1)) x260000_4 y265 a0_2) = some (r1, r2, r3) := by first | (rw [hy265]; with_reducible exact H) | (have H2_ := (Option.bind_some _ _).symm.trans H; rw [hy265]; with_reducible exact H2_) | (have H2_ := (Option.bind_some _ _).symm.trans H; with_reducible exact H2_) | with_reducible exact H | (rw [hy265]; exact H) | exact H
              have Ny265 := am hy265; clear hy265; have H' := am H; clear H; (try go_wp2); replace HO_260001 := am (Kd.R_drew HO_260001.out); replace BK259 := am (blk_drew BK259.out); replace BK260 := am (blk_drew BK260.out); replace HK := am (Kept.drew HK.out); replace HB := am (below_drew1 HB.out); have p264 : 0 ≤ (x9_4 : Int) := of_decide_eq_true (by first | (with_reducible assumption) | assumption); have q264 : x9_4 < (l2.length : Int) := of_decide_eq_true (by first | (with_reducible assumption) | assumption); obtain ⟨ad264, e264, hx264_0⟩ := Kd.at_int (Kd.C_kept_now HR2.out HK.out) x9_4 p264 q264; have hw264_0 := hx264_0; cases e264; replace p264 := eq_true p264; replace q264 := eq_true q264; have p29 : 0 ≤ (x9_4 : Int) := of_decide_eq_true (by first | (with_reducible assumption) | assumption); have q29 : (x9_4 : Int) < ((x260001_4.length : Int) : Int) := of_decide_eq_true (by first | (with_reducible assumption) | assumption); obtain ⟨go29, co29, eo29, gb29, gl29, cl29, HG29⟩ := Kd.R_form HO_260001.out (by omega); (first | cases eo29 | (injection eo29 with ea_ en_ ec_; (first | subst ea_ | (injection ea_ with ea_; subst ea_)); subst ec_; clear en_)); have GB29 := am gb29; have GG29 := am HG29; clear gb29 gl29 HG29; have HMgo29 := am (show (P0_1_ go29 ∨ w.heap.size ≤ go29) from (HO_260001.out.1 _ rfl)); obtain ⟨hx29_0, hf29_0⟩ := Kd.R_celln 0 HO_260001.out (x9_4 : Int) p29 q29; replace p29 := eq_true p29; replace q29 := eq_true q29; have HP31 := Kd.R_putn HO_260001.out (x9_4 : Int) (rd l2 x9_4); rw [← Ny265.out] at HP31; have HQ31 := am HP31; clear HP31; refine start_ (n := 9) (S := fun w' => w'.cell? ⟨gb259, 0, none⟩ = some (.int .i64 x260000_4) ∧ w'.cell? ⟨gb259, 1, none⟩ = some (.slice (some ⟨go29, 0, none⟩) x260001_4.length co29) ∧ w'.cell? ⟨gb259, 2, none⟩ = some (.int .i64 a0_2) ∧ w'.cell? (ad264.add (x9_4).toNat) = some (.int .i64 (rd l2 x9_4))) (ds := [8]) #[false, false, false, false, false, false, false, false, false] (by kernel_rfl) rfl rfl ⟨(blk_cell BK259.out 0).trans rfl, (blk_cell BK259.out 1).trans rfl, (blk_cell BK259.out 2).trans rfl, (Kd.foot_int (HR2.out _ (by repeat (first | exact HK.out | apply Kept.alloc | apply Kept.drewN | apply Kept.drew | refine Kept.setCell ?_ HMgo29.out _))) x9_4 (of_eq_true p264) (of_eq_true q264))⟩ (fun hHeld => ?_); refine with_tabW spec_l35Write.tab8 spec_l35Write.bits8 (fun HT_ HW_ => ?_); generalize wr.drew = w30 at HO_260001 BK259 BK260 HK HB GG29 HQ31 hf29_0 hx264_0 hx29_0 hHeld ⊢; refine pure_ (i := 0) (N := some 33) (v := ?_) (a' := ?_) #[true, false, false, false, false, false, false, false, false] rfl rfl (any_of HT_.out (by kernel_rfl)) (fun _ _ _ h => h) (Or.inl ⟨by rfl, ?_⟩) ?_ ?_; rotate_left
              ·intro w'
               go_simp; with_reducible rfl
              rotate_left
              ·simp only [Act.put, sa, s0, s1, i64_w, i32_w]
               rfl
              refine pure_ (i := 2) (N := some 35) (v := ?_) (a' := ?_) #[true, false, true, false, false, false, false, false, false] rfl rfl (any_of HT_.out (by kernel_rfl)) (fun _ _ _ h => h) (Or.inl ⟨by rfl, ?_⟩) ?_ ?_; rotate_left
              ·intro w'
               go_simp; with_reducible rfl
              rotate_left
              ·simp only [Act.put, sa, s0, s1, i64_w, i32_w]
               rfl
              refine pure_ (i := 3) (N := some 36) (v := ?_) (a' := ?_) #[true, false, true, true, false, false, false, false, false] rfl rfl (any_of HT_.out (by kernel_rfl)) (fun _ _ _ h => h) (Or.inl ⟨by rfl, ?_⟩) ?_ ?_; rotate_left
              ·intro w'
               go_simp; with_reducible rfl
              rotate_left
              ·simp only [Act.put, sa, s0, s1, i64_w, i32_w]
               rfl
              refine pure_ (i := 4) (N := some 37) (v := ?_) (a' := ?_) #[true, false, true, true, true, false, false, false, false] rfl rfl (any_of HT_.out (by kernel_rfl)) (fun _ _ _ h => h) (Or.inl ⟨by rfl, ?_⟩) ?_ ?_; rotate_left
              ·intro w'
               go_simp; with_reducible rfl
              rotate_left
              ·simp only [Act.put, sa, s0, s1, i64_w, i32_w]
               rfl
              refine pure_ (i := 5) (N := some 38) (v := ?_) (a' := ?_) #[true, false, true, true, true, true, false, false, false] rfl rfl (any_of HT_.out (by kernel_rfl)) (fun _ _ _ h => h) (Or.inl ⟨by rfl, ?_⟩) ?_ ?_; rotate_left
              ·intro w'
               go_simp; with_reducible rfl
              rotate_left
              ·simp only [Act.put, sa, s0, s1, i64_w, i32_w]
               rfl
              refine take_ (i := 1) (N := some 34) (v := ?_) (a' := ?_) #[true, true, true, true, true, true, false, false, false] rfl rfl (take_ofW HT_.out HW_.out (by kernel_rfl)) (fun _ _ _ h => h) (Or.inl ⟨by rfl, ?_⟩) hHeld ?_ ?_; rotate_left
              ·rintro w' ⟨s0, s1, s2, s3⟩
               go_simp; with_reducible rfl
              rotate_left
              ·simp only [Act.put, sa, s0, s1, i64_w, i32_w]
               rfl
              refine take_ (i := 6) (N := some 39) (v := ?_) (a' := ?_) #[true, true, true, true, true, true, true, false, false] rfl rfl (take_ofW HT_.out HW_.out (by kernel_rfl)) (fun _ _ _ h => h) (Or.inl ⟨by rfl, ?_⟩) hHeld ?_ ?_; rotate_left
              ·rintro w' ⟨s0, s1, s2, s3⟩
               go_simp; with_reducible rfl
              rotate_left
              ·simp only [Act.put, sa, s0, s1, i64_w, i32_w]
               rfl
              refine pure_ (i := 7) (N := some 40) (v := ?_) (a' := ?_) #[true, true, true, true, true, true, true, true, false] rfl rfl (any_of HT_.out (by kernel_rfl)) (fun _ _ _ h => h) (Or.inl ⟨by rfl, ?_⟩) ?_ ?_; rotate_left
              ·intro w'
               go_simp; with_reducible rfl
              rotate_left
              ·simp only [Act.put, sa, s0, s1, i64_w, i32_w]
               rfl
              refine last_ (i := 8) (N := none) #[true, true, true, true, true, true, true, true, true] rfl rfl (one_of HT_.out (by kernel_rfl)) (by decide) (fun K hK => ?_); refine skip_ (w1 := ?_) (by rfl) rfl ?_ ?_; rotate_left
              ·go_simp
               rfl
              refine hK.out _ _ ?_; clear hK K; refine done_ (done_of HT_.out (by kernel_rfl)) ?_; try go_wp2
              go_roundg k4
              case measure => have := HJ4.out; have := HJ11.out; have := HJ15.out; have := HK4.out; omega
              case rel => exact ⟨(wrap64 (x9_4 + 1)), (y265), (.slice (some ⟨go29, 0, none⟩) x260001_4.length co29), (by first | rfl | (simp; done) | (simp [*]; done)), H', ⟨by have := HJ4.out; have := HJ11.out; have := HJ15.out; have := HK4.out; omega⟩, ⟨by (with_reducible repeat (first | apply Kd.R_alloc | apply Kd.R_drewN | apply Kd.R_drew)); exact HQ31.out⟩, ⟨by (with_reducible repeat (first | apply kN | apply k1 | apply kA)); refine blk_far ?_ (by have h_ := Kd.R_ne HO_260001.out BK259.out (by decide); intro e_; exact h_ (by rw [e_]; rfl)) _; (with_reducible repeat (first | apply kN | apply k1 | apply kA)); exact BK259.out⟩, ⟨by (with_reducible repeat (first | apply kN | apply k1 | apply kA)); refine blk_far ?_ (by have h_ := Kd.R_ne HO_260001.out BK260.out (by decide); intro e_; exact h_ (by rw [e_]; rfl)) _; (with_reducible repeat (first | apply kN | apply k1 | apply kA)); exact BK260.out⟩, ⟨by repeat (first | (with_reducible first | exact HK.out | apply Kept.alloc | apply Kept.drewN | apply Kept.drew | refine Kept.setCell ?_ HMgo29.out _ | refine Kept.setCell ?_ (.inr GW259.out) _ | refine Kept.setCell ?_ (.inr GW260.out) _) | exact HK.out)⟩, ⟨by repeat (first | (with_reducible first | exact HB.out | apply below_alloc | apply pw_below_drewN | apply below_drew1 | refine below_set ?_ GB29.out | refine below_set ?_ GE259.out | refine below_set ?_ GE260.out) | exact HB.out)⟩⟩
             ·rw [if_neg c28] at H
              exact absurd H (by simp)
            ·rw [if_neg c27] at H
             exact absurd H (by simp)
           ·rw [if_neg c26] at H
            exact absurd H (by simp)
          ·rw [if_neg c25] at H
           have c25b0 : decide ((wrap64 (x9_4 + 2)) ≤ a3) = false := decide_eq_false c25; clear c25
           by_cases c32 : a3 ≥ 10
           ·rw [if_pos c32] at H
            have c32b0 : decide (10 ≤ a3) = true := decide_eq_true c32; clear c32; replace H := Option.bind_eq_some_iff.mp H; obtain ⟨t266, A330, H⟩ := H; replace H : (some (a1, x260001_4, t266)) = some (r1, r2, r3) := H; have A33 := am A330; clear A330; simp only [Option.some.injEq, Prod.mk.injEq] at H; obtain ⟨rfl, rfl, rfl⟩ := H; have hnb34 := NB259_260.out; have hnc34 := NB260_259.out; obtain ⟨hcz35_0, hcz35_1, hcz35_2, hfz35_0, hfz35_1, hfz35_2⟩ := pq3 BK259.out
            go_wp2_with (first | ((with_reducible refine gate_callee (f := 101) rfl ?_); refine goesL_ (some 47) rfl rfl Try.func101 (by kernel_rfl) rfl #[.int .i64 a1, .slice A2 l2.length c2] rfl (by (try simp only [List.map_toArray, List.map_cons, List.map_nil]); first | done | rfl | (simp only [List.length_drop, List.length_take]; rfl)) ?_; (with_reducible refine (spec_l35Sum.calls k4 a1 _ _ l2 t266 _ ?side1 ?side2 A33.out).mono ?_); (case side1 => exact Kd.C_kept_now HR2.out (by repeat (first | (with_reducible first | exact HK.out | apply Kept.alloc | apply Kept.drewN | apply Kept.drew | refine Kept.setCell ?_ (.inr GW259.out) _ | refine Kept.setCell ?_ (.inr GW260.out) _) | exact HK.out))); (case side2 => exact HC2.out); rintro e w' ⟨rfl, ⟨nd, rfl⟩⟩; refine ⟨_, rfl, ?_⟩; obtain ⟨hcz36_0, hcz36_1, hcz36_2, hfz36_0, hfz36_1, hfz36_2⟩ := pq3 BK260.out; obtain ⟨Ao37, co37, eo37⟩ := Kd.R_slice HO_260001.out; subst eo37))
            refine bodyPost_ret (results_cell_row rfl _ _ gb260 26 #[.int .i64 a1, .slice Ao37 x260001_4.length co37, .int .i64 t266] (0, 0) _ rfl (by (with_reducible repeat (first | apply kN | apply k1 | apply kA)); refine blk_put (cs := #[.int .i64 a1, .slice Ao37 x260001_4.length co37, .int .i64 0]) ?_ 2 _ rfl; (with_reducible repeat (first | apply kN | apply k1 | apply kA)); refine blk_put (cs := #[.int .i64 a1, .slice none 0 0, .int .i64 0]) ?_ 1 _ rfl; (with_reducible repeat (first | apply kN | apply k1 | apply kA)); refine blk_put (cs := #[.int .i64 0, .slice none 0 0, .int .i64 0]) ?_ 0 _ rfl; (with_reducible repeat (first | apply kN | apply k1 | apply kA)); refine blk_far ?_ NB260_259.out _; (with_reducible repeat (first | apply kN | apply k1 | apply kA)); refine blk_far ?_ NB260_259.out _; (with_reducible repeat (first | apply kN | apply k1 | apply kA)); exact BK260.out) Try.underlying26 rfl (by kernel_rfl)) rfl ?_; exact ⟨_, by first | rfl | (simp [errW_none, errW_some] <;> rfl) | (simp [*, errW_none, errW_some] <;> rfl), by (with_reducible repeat (first | apply Kd.R_alloc | apply Kd.R_drewN | apply Kd.R_drew)); exact Kd.R_mono (Kd.R_far (p := ⟨gb260, 2, none⟩) (Kd.R_far (p := ⟨gb260, 1, none⟩) (Kd.R_far (p := ⟨gb260, 0, none⟩) (Kd.R_far (p := ⟨gb259, 2, none⟩) (Kd.R_far (p := ⟨gb259, 0, none⟩) (Kd.R_types (Kd.R_types HO_260001.out BK259.out (by decide)) BK260.out (by decide)) (fun _ hk => by first | exact hk.1.2 | simp_all) (.int .i64 a1)) (fun _ hk => by first | exact hk.1.2 | simp_all) (.int .i64 t266)) (fun _ hk => by first | exact hk.2 | simp_all) (.int .i64 a1)) (fun _ hk => by first | exact hk.2 | simp_all) (.slice Ao37 x260001_4.length co37)) (fun _ hk => by first | exact hk.2 | simp_all) (.int .i64 t266)) (fun _ hk => by first | exact hk.1.1 | simp_all), by repeat (first | (with_reducible first | exact HB.out | apply bA | apply bN | apply b1 | refine bS ?_ (by assumption)) | exact HB.out), by repeat (first | (with_reducible first | exact HK.out | apply Kept.alloc | apply Kept.drewN | apply Kept.drew | refine Kept.setCell ?_ (.inr GW259.out) _ | refine Kept.setCell ?_ (.inr GW260.out) _) | exact HK.out)⟩
           ·rw [if_neg c32] at H
            have c32b0 : decide (10 ≤ a3) = false := decide_eq_false c32; clear c32; simp only [Option.some.injEq, Prod.mk.injEq] at H; obtain ⟨rfl, rfl, rfl⟩ := H; have hnb38 := NB259_260.out; have hnc38 := NB260_259.out; obtain ⟨hcz39_0, hcz39_1, hcz39_2, hfz39_0, hfz39_1, hfz39_2⟩ := pq3 BK259.out; obtain ⟨hcz40_0, hcz40_1, hcz40_2, hfz40_0, hfz40_1, hfz40_2⟩ := pq3 BK260.out; obtain ⟨Ao41, co41, eo41⟩ := Kd.R_slice HO_260001.out; subst eo41
            go_wp2
            refine bodyPost_ret (results_cell_row rfl _ _ gb260 26 #[.int .i64 x260000_4, .slice Ao41 x260001_4.length co41, .int .i64 a0_2] (0, 0) _ rfl (by (with_reducible repeat (first | apply kN | apply k1 | apply kA)); refine blk_put (cs := #[.int .i64 x260000_4, .slice Ao41 x260001_4.length co41, .int .i64 0]) ?_ 2 _ rfl; (with_reducible repeat (first | apply kN | apply k1 | apply kA)); refine blk_put (cs := #[.int .i64 x260000_4, .slice none 0 0, .int .i64 0]) ?_ 1 _ rfl; (with_reducible repeat (first | apply kN | apply k1 | apply kA)); refine blk_put (cs := #[.int .i64 0, .slice none 0 0, .int .i64 0]) ?_ 0 _ rfl; (with_reducible repeat (first | apply kN | apply k1 | apply kA)); exact BK260.out) Try.underlying26 rfl (by kernel_rfl)) rfl ?_; exact ⟨_, by first | rfl | (simp [errW_none, errW_some] <;> rfl) | (simp [*, errW_none, errW_some] <;> rfl), by (with_reducible repeat (first | apply Kd.R_alloc | apply Kd.R_drewN | apply Kd.R_drew)); exact Kd.R_mono (Kd.R_far (p := ⟨gb260, 2, none⟩) (Kd.R_far (p := ⟨gb260, 1, none⟩) (Kd.R_far (p := ⟨gb260, 0, none⟩) (Kd.R_types HO_260001.out BK260.out (by decide)) (fun _ hk => by first | exact hk.2 | simp_all) (.int .i64 x260000_4)) (fun _ hk => by first | exact hk.2 | simp_all) (.slice Ao41 x260001_4.length co41)) (fun _ hk => by first | exact hk.2 | simp_all) (.int .i64 a0_2)) (fun _ hk => by first | exact hk.1 | simp_all), by repeat (first | (with_reducible first | exact HB.out | apply bA | apply bN | apply b1 | refine bS ?_ (by assumption)) | exact HB.out), by repeat (first | (with_reducible first | exact HK.out | apply Kept.alloc | apply Kept.drewN | apply Kept.drew | refine Kept.setCell ?_ (.inr GW259.out) _ | refine Kept.setCell ?_ (.inr GW260.out) _) | exact HK.out)⟩
         ·rw [if_neg c24] at H
          have c24b0 : decide (x9_4 < 8) = false := decide_eq_false c24; clear c24
          by_cases c42 : a3 ≥ 10
          ·rw [if_pos c42] at H
           have c42b0 : decide (10 ≤ a3) = true := decide_eq_true c42; clear c42; replace H := Option.bind_eq_some_iff.mp H; obtain ⟨t267, A430, H⟩ := H; replace H : (some (a1, x260001_4, t267)) = some (r1, r2, r3) := H; have A43 := am A430; clear A430; simp only [Option.some.injEq, Prod.mk.injEq] at H; obtain ⟨rfl, rfl, rfl⟩ := H; have hnb44 := NB259_260.out; have hnc44 := NB260_259.out; obtain ⟨hcz45_0, hcz45_1, hcz45_2, hfz45_0, hfz45_1, hfz45_2⟩ := pq3 BK259.out
           go_wp2_with (first | ((with_reducible refine gate_callee (f := 101) rfl ?_); refine goesL_ (some 47) rfl rfl Try.func101 (by kernel_rfl) rfl #[.int .i64 a1, .slice A2 l2.length c2] rfl (by (try simp only [List.map_toArray, List.map_cons, List.map_nil]); first | done | rfl | (simp only [List.length_drop, List.length_take]; rfl)) ?_; (with_reducible refine (spec_l35Sum.calls k4 a1 _ _ l2 t267 _ ?side1 ?side2 A43.out).mono ?_); (case side1 => exact Kd.C_kept_now HR2.out (by repeat (first | (with_reducible first | exact HK.out | apply Kept.alloc | apply Kept.drewN | apply Kept.drew | refine Kept.setCell ?_ (.inr GW259.out) _ | refine Kept.setCell ?_ (.inr GW260.out) _) | exact HK.out))); (case side2 => exact HC2.out); rintro e w' ⟨rfl, ⟨nd, rfl⟩⟩; refine ⟨_, rfl, ?_⟩; obtain ⟨hcz46_0, hcz46_1, hcz46_2, hfz46_0, hfz46_1, hfz46_2⟩ := pq3 BK260.out; obtain ⟨Ao47, co47, eo47⟩ := Kd.R_slice HO_260001.out; subst eo47))
           refine bodyPost_ret (results_cell_row rfl _ _ gb260 26 #[.int .i64 a1, .slice Ao47 x260001_4.length co47, .int .i64 t267] (0, 0) _ rfl (by (with_reducible repeat (first | apply kN | apply k1 | apply kA)); refine blk_put (cs := #[.int .i64 a1, .slice Ao47 x260001_4.length co47, .int .i64 0]) ?_ 2 _ rfl; (with_reducible repeat (first | apply kN | apply k1 | apply kA)); refine blk_put (cs := #[.int .i64 a1, .slice none 0 0, .int .i64 0]) ?_ 1 _ rfl; (with_reducible repeat (first | apply kN | apply k1 | apply kA)); refine blk_put (cs := #[.int .i64 0, .slice none 0 0, .int .i64 0]) ?_ 0 _ rfl; (with_reducible repeat (first | apply kN | apply k1 | apply kA)); refine blk_far ?_ NB260_259.out _; (with_reducible repeat (first | apply kN | apply k1 | apply kA)); refine blk_far ?_ NB260_259.out _; (with_reducible repeat (first | apply kN | apply k1 | apply kA)); exact BK260.out) Try.underlying26 rfl (by kernel_rfl)) rfl ?_; exact ⟨_, by first | rfl | (simp [errW_none, errW_some] <;> rfl) | (simp [*, errW_none, errW_some] <;> rfl), by (with_reducible repeat (first | apply Kd.R_alloc | apply Kd.R_drewN | apply Kd.R_drew)); exact Kd.R_mono (Kd.R_far (p := ⟨gb260, 2, none⟩) (Kd.R_far (p := ⟨gb260, 1, none⟩) (Kd.R_far (p := ⟨gb260, 0, none⟩) (Kd.R_far (p := ⟨gb259, 2, none⟩) (Kd.R_far (p := ⟨gb259, 0, none⟩) (Kd.R_types (Kd.R_types HO_260001.out BK259.out (by decide)) BK260.out (by decide)) (fun _ hk => by first | exact hk.1.2 | simp_all) (.int .i64 a1)) (fun _ hk => by first | exact hk.1.2 | simp_all) (.int .i64 t267)) (fun _ hk => by first | exact hk.2 | simp_all) (.int .i64 a1)) (fun _ hk => by first | exact hk.2 | simp_all) (.slice Ao47 x260001_4.length co47)) (fun _ hk => by first | exact hk.2 | simp_all) (.int .i64 t267)) (fun _ hk => by first | exact hk.1.1 | simp_all), by repeat (first | (with_reducible first | exact HB.out | apply bA | apply bN | apply b1 | refine bS ?_ (by assumption)) | exact HB.out), by repeat (first | (with_reducible first | exact HK.out | apply Kept.alloc | apply Kept.drewN | apply Kept.drew | refine Kept.setCell ?_ (.inr GW259.out) _ | refine Kept.setCell ?_ (.inr GW260.out) _) | exact HK.out)⟩
          ·rw [if_neg c42] at H
           have c42b0 : decide (10 ≤ a3) = false := decide_eq_false c42; clear c42; simp only [Option.some.injEq, Prod.mk.injEq] at H; obtain ⟨rfl, rfl, rfl⟩ := H; have hnb48 := NB259_260.out; have hnc48 := NB260_259.out; obtain ⟨hcz49_0, hcz49_1, hcz49_2, hfz49_0, hfz49_1, hfz49_2⟩ := pq3 BK259.out; obtain ⟨hcz50_0, hcz50_1, hcz50_2, hfz50_0, hfz50_1, hfz50_2⟩ := pq3 BK260.out; obtain ⟨Ao51, co51, eo51⟩ := Kd.R_slice HO_260001.out; subst eo51
           go_wp2
           refine bodyPost_ret (results_cell_row rfl _ _ gb260 26 #[.int .i64 x260000_4, .slice Ao51 x260001_4.length co51, .int .i64 a0_2] (0, 0) _ rfl (by (with_reducible repeat (first | apply kN | apply k1 | apply kA)); refine blk_put (cs := #[.int .i64 x260000_4, .slice Ao51 x260001_4.length co51, .int .i64 0]) ?_ 2 _ rfl; (with_reducible repeat (first | apply kN | apply k1 | apply kA)); refine blk_put (cs := #[.int .i64 x260000_4, .slice none 0 0, .int .i64 0]) ?_ 1 _ rfl; (with_reducible repeat (first | apply kN | apply k1 | apply kA)); refine blk_put (cs := #[.int .i64 0, .slice none 0 0, .int .i64 0]) ?_ 0 _ rfl; (with_reducible repeat (first | apply kN | apply k1 | apply kA)); exact BK260.out) Try.underlying26 rfl (by kernel_rfl)) rfl ?_; exact ⟨_, by first | rfl | (simp [errW_none, errW_some] <;> rfl) | (simp [*, errW_none, errW_some] <;> rfl), by (with_reducible repeat (first | apply Kd.R_alloc | apply Kd.R_drewN | apply Kd.R_drew)); exact Kd.R_mono (Kd.R_far (p := ⟨gb260, 2, none⟩) (Kd.R_far (p := ⟨gb260, 1, none⟩) (Kd.R_far (p := ⟨gb260, 0, none⟩) (Kd.R_types HO_260001.out BK260.out (by decide)) (fun _ hk => by first | exact hk.2 | simp_all) (.int .i64 x260000_4)) (fun _ hk => by first | exact hk.2 | simp_all) (.slice Ao51 x260001_4.length co51)) (fun _ hk => by first | exact hk.2 | simp_all) (.int .i64 a0_2)) (fun _ hk => by first | exact hk.1 | simp_all), by repeat (first | (with_reducible first | exact HB.out | apply bA | apply bN | apply b1 | refine bS ?_ (by assumption)) | exact HB.out), by repeat (first | (with_reducible first | exact HK.out | apply Kept.alloc | apply Kept.drewN | apply Kept.drew | refine Kept.setCell ?_ (.inr GW259.out) _ | refine Kept.setCell ?_ (.inr GW260.out) _) | exact HK.out)⟩

end Go.Proofs.Ytefbmfgifjphfaa.PFnExactUpdateSome
