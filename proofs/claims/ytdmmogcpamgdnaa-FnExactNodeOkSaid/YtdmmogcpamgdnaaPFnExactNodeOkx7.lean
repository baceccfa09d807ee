-- written by xprint.py for this seat
import Derived.Test.YtdmmogcpamgdnaaPFnExactNodeOkx0
import Derived.Test.YtdmmogcpamgdnaaPFnExactNodeOkx3
import Derived.Test.YtdmmogcpamgdnaaPFnExactNodeOkx6
namespace Go.Proofs.Ytdmmogcpamgdnaa.PFnExactNodeOk
set_option maxHeartbeats 8000000
set_option maxRecDepth 100000
open Go.RowKit Go.Proofs.YtdmmogcpamgdnaaW.PrintWords Go.Proofs.YtdmmogcpamgdnaaW.PrintLast Go.Proofs.YtdmmogcpamgdnaaW.PrintMore
attribute [local go_sem] max2_int min2_int max_two min_two max_three min_three max_four min_four   -- for this text's walks alone
set_option linter.unusedVariables false
set_option linter.unusedSimpArgs false

/-! ### spec_MemOk: function 39 -/
mutual
def spec_MemOk.j0 : Nat → List Int → Bool → List (S117) → Option (Bool)
 | 0, _, _, _ => none
 | k + 1, x1, x16, x157000 => if x16 = true then (some false) else (if 8 < (x1.length : Int) then ((spec_UnpackControl.f k (rd x1 8)).bind fun bt159 => (if bt159.1 < 0 then (spec_MemOk.j1 k x1 bt159.2.1 true) else (if bt159.1 ≥ (x157000.length : Int) then (spec_MemOk.j1 k x1 bt159.2.1 true) else (if 8 ≤ (x1.length : Int) then ((spec_l09Values.f k (x1.take 8)).bind fun t163 => (if t163 = true then (if 25 ≤ (wrap64 (25 + bt159.2.2)) then (if (wrap64 (25 + bt159.2.2)) ≤ (x1.length : Int) then ((spec_l09Values.f k ((x1.take ((wrap64 (25 + bt159.2.2)) : Int).toNat).drop 25)).bind fun t165 => (spec_MemOk.j1 k x1 bt159.2.1 (!t165))) else (none)) else (none)) else (spec_MemOk.j1 k x1 bt159.2.1 true))) else (none))))) else (none))
def spec_MemOk.j1 : Nat → List Int → Int → Bool → Option (Bool)
 | 0, _, _, _ => none
 | k + 1, x1, x6, x47 => if x47 = true then (some false) else (spec_MemOk.l0 k x1 x6 0)
def spec_MemOk.l0 : Nat → List Int → Int → Int → Option (Bool)
 | 0, _, _, _ => none
 | k + 1, x1, x6, x8 => if x8 < x6 then (if 0 ≤ (wrap64 (9 + (wrap64 (2 * x8)))) then (if (wrap64 (9 + (wrap64 (2 * x8)))) < (x1.length : Int) then ((spec_l01In.f (rd x1 (wrap64 (9 + (wrap64 (2 * x8))))) 0 7).bind fun t167 => (if t167 = true then (if 0 ≤ (wrap64 ((wrap64 (9 + (wrap64 (2 * x8)))) + 1)) then (if (wrap64 ((wrap64 (9 + (wrap64 (2 * x8)))) + 1)) < (x1.length : Int) then ((spec_IsValue.f (rd x1 (wrap64 ((wrap64 (9 + (wrap64 (2 * x8)))) + 1)))).bind fun t169 => (if t169 = true then (spec_MemOk.l0 k x1 x6 (wrap64 (x8 + 1))) else (some false))) else (none)) else (none)) else (some false))) else (none)) else (none)) else (some true)
end
def spec_MemOk.f (k : Nat) (l0_0 : List (S117)) (l1 : List Int) : Option (Bool) := (spec_ProgramOk.f k l0_0).bind fun t157 => (if t157 = true then (spec_MemOk.j0 k l1 ((l1.length : Int) != 49) l0_0) else (spec_MemOk.j0 k l1 true l0_0))
theorem spec_MemOk.mono_l : ∀ k, (∀ y0 y1 y2, LeO (spec_MemOk.j0 k y0 y1 y2) (spec_MemOk.j0 (k + 1) y0 y1 y2)) ∧ (∀ y0 y1 y2, LeO (spec_MemOk.j1 k y0 y1 y2) (spec_MemOk.j1 (k + 1) y0 y1 y2)) ∧ (∀ y0 y1 y2, LeO (spec_MemOk.l0 k y0 y1 y2) (spec_MemOk.l0 (k + 1) y0 y1 y2))
 | 0 => ⟨fun _ _ _ r h => by simp [spec_MemOk.j0] at h, fun _ _ _ r h => by simp [spec_MemOk.j1] at h, fun _ _ _ r h => by simp [spec_MemOk.l0] at h⟩
 | k + 1 => by
  obtain ⟨ih0, ih1, ih2⟩ := spec_MemOk.mono_l k; refine ⟨?_, ?_, ?_⟩
  ·intro y0 y1 y2
   unfold spec_MemOk.j0
   repeat' first
   | (with_reducible exact ih0 _ _ _)
   | (with_reducible exact ih1 _ _ _)
   | (with_reducible exact ih2 _ _ _)
   | (with_reducible exact spec_ProgramOk.mono _ _)
   | (with_reducible exact spec_UnpackControl.mono _ _)
   | (with_reducible exact spec_l09Values.mono _ _)
   | (with_reducible exact LeO.refl _)
   | (with_reducible exact LeO.none _)
   | (with_reducible refine LeO.ite ?_ ?_)
   | (with_reducible refine LeO.bind ?_ (fun _ => ?_))
   | exact ih0 _ _ _
   | exact ih1 _ _ _
   | exact ih2 _ _ _
   | exact spec_ProgramOk.mono _ _
   | exact spec_UnpackControl.mono _ _
   | exact spec_l09Values.mono _ _
   | exact LeO.none _
   | refine LeO.ite ?_ ?_
   | refine LeO.bind ?_ (fun _ => ?_)
  ·intro y0 y1 y2
   unfold spec_MemOk.j1
   repeat' first
   | (with_reducible exact ih0 _ _ _)
   | (with_reducible exact ih1 _ _ _)
   | (with_reducible exact ih2 _ _ _)
   | (with_reducible exact spec_ProgramOk.mono _ _)
   | (with_reducible exact spec_UnpackControl.mono _ _)
   | (with_reducible exact spec_l09Values.mono _ _)
   | (with_reducible exact LeO.refl _)
   | (with_reducible exact LeO.none _)
   | (with_reducible refine LeO.ite ?_ ?_)
   | (with_reducible refine LeO.bind ?_ (fun _ => ?_))
   | exact ih0 _ _ _
   | exact ih1 _ _ _
   | exact ih2 _ _ _
   | exact spec_ProgramOk.mono _ _
   | exact spec_UnpackControl.mono _ _
   | exact spec_l09Values.mono _ _
   | exact LeO.none _
   | refine LeO.ite ?_ ?_
   | refine LeO.bind ?_ (fun _ => ?_)
  ·intro y0 y1 y2
   unfold spec_MemOk.l0
   repeat' first
   | (with_reducible exact ih0 _ _ _)
   | (with_reducible exact ih1 _ _ _)
   | (with_reducible exact ih2 _ _ _)
   | (with_reducible exact spec_ProgramOk.mono _ _)
   | (with_reducible exact spec_UnpackControl.mono _ _)
   | (with_reducible exact spec_l09Values.mono _ _)
   | (with_reducible exact LeO.refl _)
   | (with_reducible exact LeO.none _)
   | (with_reducible refine LeO.ite ?_ ?_)
   | (with_reducible refine LeO.bind ?_ (fun _ => ?_))
   | exact ih0 _ _ _
   | exact ih1 _ _ _
   | exact ih2 _ _ _
   | exact spec_ProgramOk.mono _ _
   | exact spec_UnpackControl.mono _ _
   | exact spec_l09Values.mono _ _
   | exact LeO.none _
   | refine LeO.ite ?_ ?_
   | refine LeO.bind ?_ (fun _ => ?_)
theorem spec_MemOk.mono : ∀ a0 a1 k, LeO (spec_MemOk.f k a0 a1) (spec_MemOk.f (k + 1) a0 a1) := by
 intro a0 a1 k; obtain ⟨ih0, ih1, ih2⟩ := spec_MemOk.mono_l k; unfold spec_MemOk.f
 repeat' first
   | (with_reducible exact ih0 _ _ _)
   | (with_reducible exact ih1 _ _ _)
   | (with_reducible exact ih2 _ _ _)
   | (with_reducible exact spec_ProgramOk.mono _ _)
   | (with_reducible exact spec_UnpackControl.mono _ _)
   | (with_reducible exact spec_l09Values.mono _ _)
   | (with_reducible exact LeO.refl _)
   | (with_reducible exact LeO.none _)
   | (with_reducible refine LeO.ite ?_ ?_)
   | (with_reducible refine LeO.bind ?_ (fun _ => ?_))
   | exact ih0 _ _ _
   | exact ih1 _ _ _
   | exact ih2 _ _ _
   | exact spec_ProgramOk.mono _ _
   | exact spec_UnpackControl.mono _ _
   | exact spec_l09Values.mono _ _
   | exact LeO.none _
   | refine LeO.ite ?_ ?_
   | refine LeO.bind ?_ (fun _ => ?_)
theorem spec_MemOk.calls (k : Nat) (A0_0 : Option Addr) (c0_0 : Nat) (l0_0 : List (S117)) (A1 : Option Addr) (c1 : Nat) (l1 : List Int) (r : Bool) (w : World) (hr0_0 : Kd.C k117 w A0_0 l0_0.length l0_0) (hc0_0 : l0_0.length ≤ c0_0) (hr1 : Kd.C (Kd.int .i64) w A1 l1.length l1) (hc1 : l1.length ≤ c1) (h : spec_MemOk.f k l0_0 l1 = some r) :
  Calls Try.prog 39 #[.agg #[.slice A0_0 l0_0.length c0_0], .slice A1 l1.length c1] w fun e w' => e = .returned (.bool r) ∧ Below w.heap.size w w' := by
 have hu64 := Try.underlying64; have HR0_0 := am hr0_0; have HC0_0 := am hc0_0; clear hr0_0 hc0_0; have HR1 := am hr1; have HC1 := am hc1; clear hr1 hc1; have HB := am (Below.refl w.heap.size w); have H : ((spec_ProgramOk.f k l0_0).bind fun t157 => (if t157 = true then (spec_MemOk.j0 k l1 ((l1.length : Int) != 49) l0_0) else (spec_MemOk.j0 k l1 true l0_0))) = some r := h; clear h; have HC3 := am H; clear H; go_enter Try.func39, Try.ntmps39
 go_upto_region 1 with (first | ((with_reducible refine gate_dst (N := 2) rfl ?_); (try (refine gate_guard (by rfl) ?_; dsimp only)); refine box_event ?hg (N := 2) ?hd (cs := #[.slice A0_0 l0_0.length c0_0]) (t := 64) ?hr ?_; (case hd => rfl); (case hg => rfl); (case hr => first | (go_simp; done) | (go_simp; rfl)); intro gb156 hg w4 hbox hb; have BK156 := am (hbox); have GW156 := am ((by rw [hg]; exact (below_size (pkh HB.out)) : w.heap.size ≤ gb156)); replace HB := am (below_step (pkh HB.out) hb); have GE156 := GW156; clear hb hbox hg))
 (try simp only [Act.put, sa, s0, s1])
 go_cut [16] (fun v16 wc => ∃ (kq : Nat) (x16_2 : Bool), v16 = .bool x16_2 ∧ Aside0 (spec_MemOk.j0 kq l1 x16_2 l0_0 = some r) ∧ Aside0 (kq ≤ k) ∧ Aside0 (wc.heap[gb156]? = some (.cells #[(.slice A0_0 l0_0.length c0_0)] 64 (0, 0))) ∧ Aside0 (Below w.heap.size w wc))
 case first =>
  have H := HC3.out; clear HC3; replace H := Option.bind_eq_some_iff.mp H; obtain ⟨t157, A50, H⟩ := H; replace H : (if t157 = true then (spec_MemOk.j0 k l1 ((l1.length : Int) != 49) l0_0) else (spec_MemOk.j0 k l1 true l0_0)) = some r := H; have A5 := am A50; clear A50
  by_cases c6 : t157 = true
  ·subst c6
   have H1 : (spec_MemOk.j0 k l1 ((l1.length : Int) != 49) l0_0) = some r := by rw [if_pos rfl] at H; exact H
   clear H; have H := H1; clear H1; have H' := am H; clear H; obtain ⟨hcz7_0, hfz7_0⟩ := pq1 BK156.out
   go_wp2_with (first | ((with_reducible refine gate_callee (f := 66) rfl ?_); refine goesL_ (some 10) rfl rfl Try.func66 (by kernel_rfl) rfl #[.agg #[.slice A0_0 l0_0.length c0_0]] rfl (by (try simp only [List.map_toArray, List.map_cons, List.map_nil]); first | done | rfl | (simp only [List.length_drop, List.length_take]; rfl)) ?_; (with_reducible refine (spec_ProgramOk.calls k _ _ l0_0 true _ ?side1 ?side2 A5.out).mono ?_); (case side1 => exact pkc (Kd.C_below HR0_0.out HB.out)); (case side2 => exact HC0_0.out); rintro e w8 ⟨rfl, hb⟩; refine ⟨_, rfl, ?_⟩; replace BK156 := am (blk_below (pkb BK156.out) hb); replace HB := am (below_step (pkh HB.out) hb); (try clear hb); (try clear hb2); (try clear hk); (try clear hi)))
   go_meet
   case rel => exact ⟨_, (((l1.length : Int) != 49)), (by first | rfl | (simp; done) | (simp [*]; done)), H', ⟨by first | omega | exact Nat.le_refl _⟩, ⟨by (with_reducible repeat (first | apply kN | apply k1 | apply kA)); exact BK156.out⟩, ⟨by repeat (first | (with_reducible first | exact HB.out | apply bA | apply bN | apply b1 | refine bS ?_ (by assumption)) | exact HB.out)⟩⟩
  ·replace c6 := Bool.eq_false_iff.mpr c6
   subst c6
   have H1 : (spec_MemOk.j0 k l1 true l0_0) = some r := by rw [if_neg (show ¬ (false = true) by decide)] at H; exact H
   clear H; have H := H1; clear H1; have H' := am H; clear H; obtain ⟨hcz9_0, hfz9_0⟩ := pq1 BK156.out
   go_wp2_with (first | ((with_reducible refine gate_callee (f := 66) rfl ?_); refine goesL_ (some 10) rfl rfl Try.func66 (by kernel_rfl) rfl #[.agg #[.slice A0_0 l0_0.length c0_0]] rfl (by (try simp only [List.map_toArray, List.map_cons, List.map_nil]); first | done | rfl | (simp only [List.length_drop, List.length_take]; rfl)) ?_; (with_reducible refine (spec_ProgramOk.calls k _ _ l0_0 false _ ?side1 ?side2 A5.out).mono ?_); (case side1 => exact pkc (Kd.C_below HR0_0.out HB.out)); (case side2 => exact HC0_0.out); rintro e w10 ⟨rfl, hb⟩; refine ⟨_, rfl, ?_⟩; replace BK156 := am (blk_below (pkb BK156.out) hb); replace HB := am (below_step (pkh HB.out) hb); (try clear hb); (try clear hb2); (try clear hk); (try clear hi)))
   go_meet
   case rel => exact ⟨_, (true), (by first | rfl | (simp; done) | (simp [*]; done)), H', ⟨by first | omega | exact Nat.le_refl _⟩, ⟨by (with_reducible repeat (first | apply kN | apply k1 | apply kA)); exact BK156.out⟩, ⟨by repeat (first | (with_reducible first | exact HB.out | apply bA | apply bN | apply b1 | refine bS ?_ (by assumption)) | exact HB.out)⟩⟩
 case rest =>
  clear HC3; (try clear p2); (try clear hcz7_0); (try clear hcz9_0); (try clear hfz7_0); (try clear hfz9_0); obtain ⟨kq, x16_2, rfl, HA, HJ2, BK156, HB⟩ := hcut; cases kq with
  | zero => exact absurd HA.out (by simp [spec_MemOk.j0])
  | succ kj2 =>
   have H := HA.out; clear HA; simp only [spec_MemOk.j0] at H
   by_cases c11 : x16_2 = true
   ·subst c11
    have H1 : (some false) = some r := by rw [if_pos rfl] at H; exact H
    clear H; have H := H1; clear H1; obtain rfl := Option.some.inj H
    go_wp2
    go_ret
    exact ⟨by first | rfl | (simp [errW_none, errW_some] <;> rfl) | (simp [*, errW_none, errW_some] <;> rfl), by repeat (first | (with_reducible first | exact HB.out | apply bA | apply bN | apply b1 | refine bS ?_ (by assumption)) | exact HB.out)⟩
   ·replace c11 := Bool.eq_false_iff.mpr c11
    subst c11
    have H1 : (if 8 < (l1.length : Int) then ((spec_UnpackControl.f kj2 (rd l1 8)).bind fun bt159 => (if bt159.1 < 0 then (spec_MemOk.j1 kj2 l1 bt159.2.1 true) else (if bt159.1 ≥ (l0_0.length : Int) then (spec_MemOk.j1 kj2 l1 bt159.2.1 true) else (if 8 ≤ (l1.length : Int) then ((spec_l09Values.f kj2 (l1.take 8)).bind fun t163 => (if t163 = true then (if 25 ≤ (wrap64 (25 + bt159.2.2)) then (if (wrap64 (25 + bt159.2.2)) ≤ (l1.length : Int) then ((spec_l09Values.f kj2 ((l1.take ((wrap64 (25 + bt159.2.2)) : Int).toNat).drop 25)).bind fun t165 => (spec_MemOk.j1 kj2 l1 bt159.2.1 (!t165))) else (none)) else (none)) else (spec_MemOk.j1 kj2 l1 bt159.2.1 true))) else (none))))) else (none)) = some r := by rw [if_neg (show ¬ (false = true) by decide)] at H; exact H
    clear H; have H := H1; clear H1
    by_cases c12 : 8 < (l1.length : Int)
    ·rw [if_pos c12] at H
     have c12b0 : decide (8 < (l1.length : Int)) = true := decide_eq_true c12; have c12b1 : decide (8 < l1.length) = true := decide_eq_true (by omega); clear c12; replace H := Option.bind_eq_some_iff.mp H; obtain ⟨⟨t159, t160, t161⟩, A130, H⟩ := H; replace H : (if t159 < 0 then (spec_MemOk.j1 kj2 l1 t160 true) else (if t159 ≥ (l0_0.length : Int) then (spec_MemOk.j1 kj2 l1 t160 true) else (if 8 ≤ (l1.length : Int) then ((spec_l09Values.f kj2 (l1.take 8)).bind fun t163 => (if t163 = true then (if 25 ≤ (wrap64 (25 + t161)) then (if (wrap64 (25 + t161)) ≤ (l1.length : Int) then ((spec_l09Values.f kj2 ((l1.take ((wrap64 (25 + t161)) : Int).toNat).drop 25)).bind fun t165 => (spec_MemOk.j1 kj2 l1 t160 (!t165))) else (none)) else (none)) else (spec_MemOk.j1 kj2 l1 t160 true))) else (none)))) = some r := H; have A13 := am A130; clear A130; have HC14 := am H; clear H; have p158 : 0 ≤ (8 : Int) := (by omega); have q158 : 8 < (l1.length : Int) := of_decide_eq_true (by first | (with_reducible assumption) | assumption); obtain ⟨ad158, e158, hx158_0⟩ := Kd.at_int HR1.out 8 p158 q158; cases e158; (try simp only [show (8 : Int).toNat = 8 from rfl, Nat.reduceMul, Nat.reduceEqDiff, Go.Addr.add, ↓reduceIte] at hx158_0); have qi158 : (8 < l1.length) = True := eq_true (by omega); (try rw [show ((8 : Int)).toNat = 8 from rfl] at hx158_0); replace hx158_0 := (HB.out.cell (World.block_lt_of_cell? w _ hx158_0)).trans hx158_0; replace p158 := eq_true p158; replace q158 := eq_true q158
     go_upto_region 4 with (first | ((with_reducible refine gate_callee (f := 67) rfl ?_); refine goesL_ (some 21) rfl rfl Try.func67 (by kernel_rfl) rfl #[.int .i64 (rd l1 8)] rfl (by (try simp only [List.map_toArray, List.map_cons, List.map_nil]); first | done | rfl | (simp only [List.length_drop, List.length_take]; rfl)) ?_; (with_reducible refine (spec_UnpackControl.calls kj2 (rd l1 8) t159 t160 t161 _ A13.out).mono ?_); rintro e w' ⟨rfl, ⟨nd, rfl⟩⟩; refine ⟨_, rfl, ?_⟩))
     (try simp only [Act.put, sa, s0, s1])
     go_cut [47] (fun v47 wc => ∃ (kq : Nat) (x47_13 : Bool), v47 = .bool x47_13 ∧ Aside0 (spec_MemOk.j1 kq l1 t160 x47_13 = some r) ∧ Aside0 (kq ≤ kj2) ∧ Aside0 (wc.heap[gb156]? = some (.cells #[(.slice A0_0 l0_0.length c0_0)] 64 (0, 0))) ∧ Aside0 (Below w.heap.size w wc))
     case first =>
      have H := HC14.out; clear HC14
      by_cases c15 : t159 < 0
      ·rw [if_pos c15] at H
       have c15b0 : decide (t159 < 0) = true := decide_eq_true c15; clear c15; (first | rw [c15b0] | (simp only [i64_w, i32_w]; rw [c15b0]) | skip); have H' := am H; clear H
       go_wp2
       go_meet
       case rel => exact ⟨_, (true), (by first | rfl | (simp; done) | (simp [*]; done)), H', ⟨by have := HJ2.out; first | omega | exact Nat.le_refl _⟩, ⟨by (with_reducible repeat (first | apply kN | apply k1 | apply kA)); exact BK156.out⟩, ⟨by repeat (first | (with_reducible first | exact HB.out | apply bA | apply bN | apply b1 | refine bS ?_ (by assumption)) | exact HB.out)⟩⟩
      ·rw [if_neg c15] at H
       have c15b0 : decide (t159 < 0) = false := decide_eq_false c15; clear c15; (first | rw [c15b0] | (simp only [i64_w, i32_w]; rw [c15b0]) | skip)
       by_cases c16 : t159 ≥ (l0_0.length : Int)
       ·rw [if_pos c16] at H
        have c16b0 : decide ((l0_0.length : Int) ≤ t159) = true := decide_eq_true c16; clear c16; have H' := am H; clear H; obtain ⟨hcz17_0, hfz17_0⟩ := pq1 BK156.out
        go_wp2
        go_meet
        case rel => exact ⟨_, (true), (by first | rfl | (simp; done) | (simp [*]; done)), H', ⟨by have := HJ2.out; first | omega | exact Nat.le_refl _⟩, ⟨by (with_reducible repeat (first | apply kN | apply k1 | apply kA)); exact BK156.out⟩, ⟨by repeat (first | (with_reducible first | exact HB.out | apply bA | apply bN | apply b1 | refine bS ?_ (by assumption)) | exact HB.out)⟩⟩
       ·rw [if_neg c16] at H
        have c16b0 : decide ((l0_0.length : Int) ≤ t159) = false := decide_eq_false c16; clear c16
        by_cases c18 : 8 ≤ (l1.length : Int)
        ·rw [if_pos c18] at H
         have c18b0 := eq_true c18; have c18b1 : decide (8 ≤ (l1.length : Int)) = true := decide_eq_true c18; clear c18; replace H := Option.bind_eq_some_iff.mp H; obtain ⟨t163, A190, H⟩ := H; replace H : (if t163 = true then (if 25 ≤ (wrap64 (25 + t161)) then (if (wrap64 (25 + t161)) ≤ (l1.length : Int) then ((spec_l09Values.f kj2 ((l1.take ((wrap64 (25 + t161)) : Int).toNat).drop 25)).bind fun t165 => (spec_MemOk.j1 kj2 l1 t160 (!t165))) else (none)) else (none)) else (spec_MemOk.j1 kj2 l1 t160 true)) = some r := H; have A19 := am A190; clear A190
         by_cases c20 : t163 = true
         ·subst c20
          have H1 : (if 25 ≤ (wrap64 (25 + t161)) then (if (wrap64 (25 + t161)) ≤ (l1.length : Int) then ((spec_l09Values.f kj2 ((l1.take ((wrap64 (25 + t161)) : Int).toNat).drop 25)).bind fun t165 => (spec_MemOk.j1 kj2 l1 t160 (!t165))) else (none)) else (none)) = some r := by rw [if_pos rfl] at H; exact H
          clear H; have H := H1; clear H1
          by_cases c21 : 25 ≤ (wrap64 (25 + t161))
          ·rw [if_pos c21] at H
           have c21b0 := eq_true c21; have c21b1 : decide (25 ≤ (wrap64 (25 + t161))) = true := decide_eq_true c21
           by_cases c22 : (wrap64 (25 + t161)) ≤ (l1.length : Int)
           ·rw [if_pos c22] at H
            have c22b0 := eq_true c22; have c22b1 : decide ((wrap64 (25 + t161)) ≤ (l1.length : Int)) = true := decide_eq_true c22; replace H := Option.bind_eq_some_iff.mp H; obtain ⟨t165, A230, H⟩ := H; replace H : (spec_MemOk.j1 kj2 l1 t160 (!t165)) = some r := H; have A23 := am A230; clear A230; have H' := am H; clear H; obtain ⟨hcz24_0, hfz24_0⟩ := pq1 BK156.out; obtain ⟨i025, hi025, _, hsz25, _⟩ := info_parts info3; obtain ⟨hcut25, hA25, hC25⟩ := print_take_of (P := Try.prog) (Value.int .i64) 0 24 3 .i64 Try.underlying24 hi025 hsz25 (some ad158) c1 l1 8 (by omega) (of_decide_eq_true (by first | (with_reducible assumption) | assumption)) HC1.out; have HR162 := am (Kd.C_of_reads (h1 := fun _ => rfl) (hA25 _ (Kd.reads_of_C HR1.out))); have HC162 := am hC25; clear hA25 hC25 hi025 hsz25
            go_wp2_with (first | (go_at_call 41; (first | with_reducible refine (spec_l09Values.calls kj2 _ _ (l1.take 8) true _ ?side1 ?side2 A19.out).mono ?_ | (rw [← List.length_take]; with_reducible refine (spec_l09Values.calls kj2 _ _ (l1.take 8) true _ ?side1 ?side2 A19.out).mono ?_)); (case side1 => exact pkc (Kd.C_below HR162.out HB.out)); (case side2 => exact HC162.out); rintro e w' ⟨rfl, ⟨nd, rfl⟩⟩; obtain ⟨i026, hi026, _, hsz26, _⟩ := info_parts info3; obtain ⟨A26, hcut26, hA26, hC26⟩ := print_mid_of (P := Try.prog) (Value.int .i64) 0 24 3 .i64 .i64 Try.underlying24 hi026 hsz26 (some ad158) c1 l1 25 (wrap64 (25 + t161)) (by omega) (by first | omega | exact of_decide_eq_true (by first | (with_reducible assumption) | assumption)) (of_decide_eq_true (by first | (with_reducible assumption) | assumption)) HC1.out; have HR164 := am (Kd.C_of_reads (h1 := fun _ => rfl) (hA26 _ (Kd.reads_of_C HR1.out))); have HC164 := am hC26; clear hA26 hC26 hi026 hsz26) | (go_at_call 41; (first | with_reducible refine (spec_l09Values.calls kj2 _ _ ((l1.take ((wrap64 (25 + t161)) : Int).toNat).drop 25) t165 _ ?side1 ?side2 A23.out).mono ?_ | (refine calls_of_args (args' := #[.slice _ ((l1.take ((wrap64 (25 + t161)) : Int).toNat).drop 25).length _]) (by (rw [List.length_drop, List.length_take, Nat.min_eq_left (by have h_ := of_decide_eq_true (by assumption : decide ((wrap64 (25 + t161)) ≤ (l1.length : Int)) = true); omega)])) ?_; with_reducible refine (spec_l09Values.calls kj2 _ _ ((l1.take ((wrap64 (25 + t161)) : Int).toNat).drop 25) t165 _ ?side1 ?side2 A23.out).mono ?_)); (case side1 => repeat (first | exact (Kd.C_below HR164.out (pkh HB.out)) | (with_reducible refine Kd.C_alloc ?_ _) | (with_reducible refine Kd.C_drewN ?_ _) | (with_reducible refine Kd.C_drew ?_))); (case side2 => exact HC164.out); rintro e w' ⟨rfl, ⟨nd, rfl⟩⟩))
            go_meet
            case rel => exact ⟨_, (!t165), (by first | rfl | (simp; done) | (simp [*]; done)), H', ⟨by have := HJ2.out; first | omega | exact Nat.le_refl _⟩, ⟨by (with_reducible repeat (first | apply kN | apply k1 | apply kA)); exact BK156.out⟩, ⟨by repeat (first | (with_reducible first | exact HB.out | apply bA | apply bN | apply b1 | refine bS ?_ (by assumption)) | exact HB.out)⟩⟩
           ·rw [if_neg c22] at H
            exact absurd H (by simp)
          ·rw [if_neg c21] at H
           exact absurd H (by simp)
         ·replace c20 := Bool.eq_false_iff.mpr c20
          subst c20
          have H1 : (spec_MemOk.j1 kj2 l1 t160 true) = some r := by rw [if_neg (show ¬ (false = true) by decide)] at H; exact H
          clear H; have H := H1; clear H1; have H' := am H; clear H; obtain ⟨hcz27_0, hfz27_0⟩ := pq1 BK156.out; obtain ⟨i028, hi028, _, hsz28, _⟩ := info_parts info3; obtain ⟨hcut28, hA28, hC28⟩ := print_take_of (P := Try.prog) (Value.int .i64) 0 24 3 .i64 Try.underlying24 hi028 hsz28 (some ad158) c1 l1 8 (by omega) (of_decide_eq_true (by first | (with_reducible assumption) | assumption)) HC1.out; have HR162 := am (Kd.C_of_reads (h1 := fun _ => rfl) (hA28 _ (Kd.reads_of_C HR1.out))); have HC162 := am hC28; clear hA28 hC28 hi028 hsz28
          go_wp2_with (first | (go_at_call 41; (first | with_reducible refine (spec_l09Values.calls kj2 _ _ (l1.take 8) false _ ?side1 ?side2 A19.out).mono ?_ | (rw [← List.length_take]; with_reducible refine (spec_l09Values.calls kj2 _ _ (l1.take 8) false _ ?side1 ?side2 A19.out).mono ?_)); (case side1 => exact pkc (Kd.C_below HR162.out HB.out)); (case side2 => exact HC162.out); rintro e w' ⟨rfl, ⟨nd, rfl⟩⟩))
          go_meet
          case rel => exact ⟨_, (true), (by first | rfl | (simp; done) | (simp [*]; done)), H', ⟨by have := HJ2.out; first | omega | exact Nat.le_refl _⟩, ⟨by (with_reducible repeat (first | apply kN | apply k1 | apply kA)); exact BK156.out⟩, ⟨by repeat (first | (with_reducible first | exact HB.out | apply bA | apply bN | apply b1 | refine bS ?_ (by assumption)) | exact HB.out)⟩⟩
        ·rw [if_neg c18] at H
         exact absurd H (by simp)
     case rest =>
      clear HC14; (try clear p1); (try clear q1); (try clear hx1); (try clear qi1); (try clear p2); (try clear p6); (try clear c12b0); (try clear c12b1); (try clear c15b0); (try clear p15); (try clear q15); (try clear hx15); (try clear qi15); (try clear c16b0); (try clear c18b0); (try clear c18b1); (try clear c21b0); (try clear c21b1); (try clear c22b0); (try clear c22b1); (try clear hcz17_0); (try clear hcz24_0); (try clear hcz27_0); (try clear hcz7_0); (try clear hcz9_0); (try clear hfz17_0); (try clear hfz24_0); (try clear hfz27_0); (try clear hfz7_0); (try clear hfz9_0); (try clear hx158_0); (try clear p158); (try clear p2); (try clear q158); obtain ⟨kq, x47_13, rfl, HA, HJ13, BK156, HB⟩ := hcut; cases kq with
      | zero => exact absurd HA.out (by simp [spec_MemOk.j1])
      | succ kj13 =>
       have H := HA.out; clear HA; simp only [spec_MemOk.j1] at H
       by_cases c29 : x47_13 = true
       ·subst c29
        have H1 : (some false) = some r := by rw [if_pos rfl] at H; exact H
        clear H; have H := H1; clear H1; obtain rfl := Option.some.inj H
        go_wp2
        go_ret
        exact ⟨by first | rfl | (simp [errW_none, errW_some] <;> rfl) | (simp [*, errW_none, errW_some] <;> rfl), by repeat (first | (with_reducible first | exact HB.out | apply bA | apply bN | apply b1 | refine bS ?_ (by assumption)) | exact HB.out)⟩
       ·replace c29 := Bool.eq_false_iff.mpr c29
        subst c29
        have H1 : (spec_MemOk.l0 kj13 l1 t160 0) = some r := by rw [if_neg (show ¬ (false = true) by decide)] at H; exact H
        clear H; have H := H1; clear H1; have H' := am H; clear H
        go_wp2
        go_loopg [8] kj13 (fun kq v8 w' => ∃ (x8_3 : Int), v8 = .int .i64 x8_3 ∧ Aside0 (spec_MemOk.l0 kq l1 t160 x8_3 = some r) ∧ Aside0 (kq ≤ kj13) ∧ Aside0 (w'.heap[gb156]? = some (.cells #[(.slice A0_0 l0_0.length c0_0)] 64 (0, 0))) ∧ Aside0 (Below w.heap.size w w'))
        case atStart => exact ⟨(0), (by first | rfl | (simp; done) | (simp [*]; done)), H', ⟨Nat.le_refl _⟩, ⟨by (with_reducible repeat (first | apply kN | apply k1 | apply kA)); exact BK156.out⟩, ⟨by repeat (first | (with_reducible first | exact HB.out | apply bA | apply bN | apply b1 | refine bS ?_ (by assumption)) | exact HB.out)⟩⟩
        case round =>
         clear H'; (try clear p1); (try clear q1); (try clear hx1); (try clear qi1); (try clear p2); (try clear p6); (try clear c12b0); (try clear c12b1); (try clear c15b0); (try clear p15); (try clear q15); (try clear hx15); (try clear qi15); (try clear c16b0); (try clear c18b0); (try clear c18b1); (try clear c21b0); (try clear c21b1); (try clear c22b0); (try clear c22b1); (try clear hcz17_0); (try clear hcz24_0); (try clear hcz27_0); (try clear hcz7_0); (try clear hcz9_0); (try clear hfz17_0); (try clear hfz24_0); (try clear hfz27_0); (try clear hfz7_0); (try clear hfz9_0); (try clear hx158_0); (try clear p1); (try clear p15); (try clear p158); (try clear p2); (try clear p6); (try clear q1); (try clear q15); (try clear q158); obtain ⟨x8_3, rfl, HA, HK3, BK156, HB⟩ := hrel; cases gk with
         | zero => exact absurd HA.out (by simp [spec_MemOk.l0])
         | succ k3 =>
          have H := HA.out; clear HA; simp only [spec_MemOk.l0] at H
          by_cases c30 : x8_3 < t160
          ·rw [if_pos c30] at H
           have c30b0 : decide (x8_3 < t160) = true := decide_eq_true c30; clear c30; obtain ⟨ji31, hji31⟩ : ∃ j_ : Int, (wrap64 (9 + (wrap64 (2 * x8_3)))) = j_ := ⟨_, rfl⟩
           replace H : (if 0 ≤ (ji31) then (if (ji31) < (l1.length : Int) then ((spec_l01In.f (rd l1 (ji31)) 0 7).bind fun t167 => (if t167 = true then (if 0 ≤ (wrap64 ((ji31) + 1)) then (if (wrap64 ((ji31) + 1)) < (l1.length : Int) then ((spec_IsValue.f (rd l1 (wrap64 ((ji31) + 1)))).bind fun t169 => (if t169 = true then (spec_MemOk.l0 k3 l1 t160 (wrap64 (x8_3 + 1))) else (some false))) else (none)) else (none)) else (some false))) else (none)) else (none)) = some r := by first | (rw [hji31] at H; exact H) | (simp only [hji31] at H ⊢; exact H)
           have hji31w : (IntKind.i64.wrap (9 + (wrap64 (2 * x8_3)))) = ji31 := (i64_w _).trans hji31
           by_cases c32 : 0 ≤ (ji31)
           ·rw [if_pos c32] at H
            have c32b0 : decide (0 ≤ (ji31)) = true := decide_eq_true c32; clear c32
            by_cases c33 : (ji31) < (l1.length : Int)
            ·rw [if_pos c33] at H
             have c33b0 : decide ((ji31) < (l1.length : Int)) = true := decide_eq_true c33; clear c33; replace H := Option.bind_eq_some_iff.mp H; obtain ⟨t167, A340, H⟩ := H; replace H : (if t167 = true then (if 0 ≤ (wrap64 ((ji31) + 1)) then (if (wrap64 ((ji31) + 1)) < (l1.length : Int) then ((spec_IsValue.f (rd l1 (wrap64 ((ji31) + 1)))).bind fun t169 => (if t169 = true then (spec_MemOk.l0 k3 l1 t160 (wrap64 (x8_3 + 1))) else (some false))) else (none)) else (none)) else (some false)) = some r := H; have A34 := am A340; clear A340
             by_cases c35 : t167 = true
             ·subst c35
              have H1 : (if 0 ≤ (wrap64 ((ji31) + 1)) then (if (wrap64 ((ji31) + 1)) < (l1.length : Int) then ((spec_IsValue.f (rd l1 (wrap64 ((ji31) + 1)))).bind fun t169 => (if t169 = true then (spec_MemOk.l0 k3 l1 t160 (wrap64 (x8_3 + 1))) else (some false))) else (none)) else (none)) = some r := by rw [if_pos rfl] at H; exact H
              clear H; have H := H1; clear H1; obtain ⟨ji36, hji36⟩ : ∃ j_ : Int, (wrap64 ((ji31) + 1)) = j_ := ⟨_, rfl⟩
              replace H : (if 0 ≤ (ji36) then (if (ji36) < (l1.length : Int) then ((spec_IsValue.f (rd l1 (ji36))).bind fun t169 => (if t169 = true then (spec_MemOk.l0 k3 l1 t160 (wrap64 (x8_3 + 1))) else (some false))) else (none)) else (none)) = some r := by first | (rw [hji36] at H; exact H) | (simp only [hji36] at H ⊢; exact H)
              (try rw [hji36] at A34); have hji36w : (IntKind.i64.wrap ((ji31) + 1)) = ji36 := (i64_w _).trans hji36
              by_cases c37 : 0 ≤ (ji36)
              ·rw [if_pos c37] at H
               have c37b0 : decide (0 ≤ (ji36)) = true := decide_eq_true c37; clear c37
               by_cases c38 : (ji36) < (l1.length : Int)
               ·rw [if_pos c38] at H
                have c38b0 : decide ((ji36) < (l1.length : Int)) = true := decide_eq_true c38; clear c38; replace H := Option.bind_eq_some_iff.mp H; obtain ⟨t169, A390, H⟩ := H; replace H : (if t169 = true then (spec_MemOk.l0 k3 l1 t160 (wrap64 (x8_3 + 1))) else (some false)) = some r := H; have A39 := am A390; clear A390
                by_cases c40 : t169 = true
                ·subst c40
                 have H1 : (spec_MemOk.l0 k3 l1 t160 (wrap64 (x8_3 + 1))) = some r := by rw [if_pos rfl] at H; exact H
                 clear H; have H := H1; clear H1; have H' := am H; clear H; have p166 : 0 ≤ ((ji31) : Int) := of_decide_eq_true (by first | (with_reducible assumption) | assumption); have q166 : (ji31) < (l1.length : Int) := of_decide_eq_true (by first | (with_reducible assumption) | assumption); obtain ⟨ad166, e166, hx166_0⟩ := Kd.at_int HR1.out (ji31) p166 q166; obtain rfl : ad158 = ad166 := (by injection e166); replace hx166_0 := (HB.out.cell (World.block_lt_of_cell? w _ hx166_0)).trans hx166_0; replace p166 := eq_true p166; replace q166 := eq_true q166
                 go_wp2_with (first | ((with_reducible refine gate_callee (f := 42) rfl ?_); refine goesL_ (some 59) rfl rfl Try.func42 (by kernel_rfl) rfl #[.int .i64 (rd l1 (ji31)), .int .i64 0, .int .i64 7] rfl (by (try simp only [List.map_toArray, List.map_cons, List.map_nil]); first | done | (simp only [hji31]; rfl) | rfl | (simp only [List.length_drop, List.length_take]; rfl)) ?_; (with_reducible refine (spec_l01In.calls (rd l1 (ji31)) 0 7 true _ A34.out).mono ?_); rintro e w' ⟨rfl, ⟨nd, rfl⟩⟩; refine ⟨_, rfl, ?_⟩; have p168 : 0 ≤ ((ji36) : Int) := of_decide_eq_true (by first | (with_reducible assumption) | assumption); have q168 : (ji36) < (l1.length : Int) := of_decide_eq_true (by first | (with_reducible assumption) | assumption); obtain ⟨ad168, e168, hx168_0⟩ := Kd.at_int HR1.out (ji36) p168 q168; obtain rfl : ad158 = ad168 := (by injection e168); replace hx168_0 := (HB.out.cell (World.block_lt_of_cell? w _ hx168_0)).trans hx168_0; replace p168 := eq_true p168; replace q168 := eq_true q168) | (go_at_call 68; (with_reducible refine (spec_IsValue.calls (rd l1 (ji36)) true _ A39.out).mono ?_); rintro e w' ⟨rfl, ⟨nd, rfl⟩⟩))
                 go_roundg k3
                 case measure => have := HJ2.out; have := HJ13.out; have := HK3.out; omega
                 case rel => exact ⟨(wrap64 (x8_3 + 1)), (by first | rfl | (simp; done) | (simp [*]; done)), H', ⟨by have := HJ2.out; have := HJ13.out; have := HK3.out; omega⟩, ⟨by (with_reducible repeat (first | apply kN | apply k1 | apply kA)); exact BK156.out⟩, ⟨by repeat (first | (with_reducible first | exact HB.out | apply bA | apply bN | apply b1 | refine bS ?_ (by assumption)) | exact HB.out)⟩⟩
                ·replace c40 := Bool.eq_false_iff.mpr c40
                 subst c40
                 have H1 : (some false) = some r := by rw [if_neg (show ¬ (false = true) by decide)] at H; exact H
                 clear H; have H := H1; clear H1; obtain rfl := Option.some.inj H; have p166 : 0 ≤ ((ji31) : Int) := of_decide_eq_true (by first | (with_reducible assumption) | assumption); have q166 : (ji31) < (l1.length : Int) := of_decide_eq_true (by first | (with_reducible assumption) | assumption); obtain ⟨ad166, e166, hx166_0⟩ := Kd.at_int HR1.out (ji31) p166 q166; obtain rfl : ad158 = ad166 := (by injection e166); replace hx166_0 := (HB.out.cell (World.block_lt_of_cell? w _ hx166_0)).trans hx166_0; replace p166 := eq_true p166; replace q166 := eq_true q166
                 go_wp2_with (first | ((with_reducible refine gate_callee (f := 42) rfl ?_); refine goesL_ (some 59) rfl rfl Try.func42 (by kernel_rfl) rfl #[.int .i64 (rd l1 (ji31)), .int .i64 0, .int .i64 7] rfl (by (try simp only [List.map_toArray, List.map_cons, List.map_nil]); first | done | (simp only [hji31]; rfl) | rfl | (simp only [List.length_drop, List.length_take]; rfl)) ?_; (with_reducible refine (spec_l01In.calls (rd l1 (ji31)) 0 7 true _ A34.out).mono ?_); rintro e w' ⟨rfl, ⟨nd, rfl⟩⟩; refine ⟨_, rfl, ?_⟩; have p168 : 0 ≤ ((ji36) : Int) := of_decide_eq_true (by first | (with_reducible assumption) | assumption); have q168 : (ji36) < (l1.length : Int) := of_decide_eq_true (by first | (with_reducible assumption) | assumption); obtain ⟨ad168, e168, hx168_0⟩ := Kd.at_int HR1.out (ji36) p168 q168; obtain rfl : ad158 = ad168 := (by injection e168); replace hx168_0 := (HB.out.cell (World.block_lt_of_cell? w _ hx168_0)).trans hx168_0; replace p168 := eq_true p168; replace q168 := eq_true q168) | (go_at_call 68; (with_reducible refine (spec_IsValue.calls (rd l1 (ji36)) false _ A39.out).mono ?_); rintro e w' ⟨rfl, ⟨nd, rfl⟩⟩))
                 go_ret
                 exact ⟨by first | rfl | (simp [errW_none, errW_some] <;> rfl) | (simp only [← hji31, ← hji36]; first | rfl | (simp [errW_none, errW_some] <;> rfl)) | (simp [*, errW_none, errW_some] <;> rfl), by repeat (first | (with_reducible first | exact HB.out | apply bA | apply bN | apply b1 | refine bS ?_ (by assumption)) | exact HB.out)⟩
               ·rw [if_neg c38] at H
                exact absurd H (by simp)
              ·rw [if_neg c37] at H
               exact absurd H (by simp)
             ·replace c35 := Bool.eq_false_iff.mpr c35
              subst c35
              have H1 : (some false) = some r := by rw [if_neg (show ¬ (false = true) by decide)] at H; exact H
              clear H; have H := H1; clear H1; obtain rfl := Option.some.inj H; have p166 : 0 ≤ ((ji31) : Int) := of_decide_eq_true (by first | (with_reducible assumption) | assumption); have q166 : (ji31) < (l1.length : Int) := of_decide_eq_true (by first | (with_reducible assumption) | assumption); obtain ⟨ad166, e166, hx166_0⟩ := Kd.at_int HR1.out (ji31) p166 q166; obtain rfl : ad158 = ad166 := (by injection e166); replace hx166_0 := (HB.out.cell (World.block_lt_of_cell? w _ hx166_0)).trans hx166_0; replace p166 := eq_true p166; replace q166 := eq_true q166
              go_wp2_with (first | ((with_reducible refine gate_callee (f := 42) rfl ?_); refine goesL_ (some 59) rfl rfl Try.func42 (by kernel_rfl) rfl #[.int .i64 (rd l1 (ji31)), .int .i64 0, .int .i64 7] rfl (by (try simp only [List.map_toArray, List.map_cons, List.map_nil]); first | done | (simp only [hji31]; rfl) | rfl | (simp only [List.length_drop, List.length_take]; rfl)) ?_; (with_reducible refine (spec_l01In.calls (rd l1 (ji31)) 0 7 false _ A34.out).mono ?_); rintro e w' ⟨rfl, ⟨nd, rfl⟩⟩; refine ⟨_, rfl, ?_⟩))
              go_ret
              exact ⟨by first | rfl | (simp [errW_none, errW_some] <;> rfl) | (simp only [← hji31]; first | rfl | (simp [errW_none, errW_some] <;> rfl)) | (simp [*, errW_none, errW_some] <;> rfl), by repeat (first | (with_reducible first | exact HB.out | apply bA | apply bN | apply b1 | refine bS ?_ (by assumption)) | exact HB.out)⟩
            ·rw [if_neg c33] at H
             exact absurd H (by simp)
           ·rw [if_neg c32] at H
            exact absurd H (by simp)
          ·rw [if_neg c30] at H
           have c30b0 : decide (x8_3 < t160) = false := decide_eq_false c30; clear c30; obtain rfl := Option.some.inj H
           go_wp2
           go_ret
           exact ⟨by first | rfl | (simp [errW_none, errW_some] <;> rfl) | (simp [*, errW_none, errW_some] <;> rfl), by repeat (first | (with_reducible first | exact HB.out | apply bA | apply bN | apply b1 | refine bS ?_ (by assumption)) | exact HB.out)⟩
    ·rw [if_neg c12] at H
     exact absurd H (by simp)

/-! ### spec_StoreOk: function 40 -/
def spec_StoreOk.f (a0_0 : Int) (a0_1 : Int) (a0_2 : Int) (a0_3 : Int) : Option (Bool) := (spec_l01In.f a0_1 1 5000).bind fun t171 => (if t171 = true then ((spec_l01In.f a0_0 0 a0_1).bind fun t172 => (if t172 = true then ((spec_l01In.f a0_2 1 a0_1).bind fun t173 => (if t173 = true then ((spec_l01In.f a0_3 0 100).bind fun t174 => (some t174)) else (some false))) else (some false))) else (some false))
theorem spec_StoreOk.calls (a0_0 : Int) (a0_1 : Int) (a0_2 : Int) (a0_3 : Int) (r : Bool) (w : World) (h : spec_StoreOk.f a0_0 a0_1 a0_2 a0_3 = some r) :
  Calls Try.prog 40 #[.agg #[.int .i64 a0_0, .int .i64 a0_1, .int .i64 a0_2, .int .i64 a0_3]] w fun e w' => e = .returned (.bool r) ∧ Below w.heap.size w w' := by
 have hu65 := Try.underlying65; have HB := am (Below.refl w.heap.size w); have H : ((spec_l01In.f a0_1 1 5000).bind fun t171 => (if t171 = true then ((spec_l01In.f a0_0 0 a0_1).bind fun t172 => (if t172 = true then ((spec_l01In.f a0_2 1 a0_1).bind fun t173 => (if t173 = true then ((spec_l01In.f a0_3 0 100).bind fun t174 => (some t174)) else (some false))) else (some false))) else (some false))) = some r := h; clear h; replace H := Option.bind_eq_some_iff.mp H; obtain ⟨t171, A20, H⟩ := H; replace H : (if t171 = true then ((spec_l01In.f a0_0 0 a0_1).bind fun t172 => (if t172 = true then ((spec_l01In.f a0_2 1 a0_1).bind fun t173 => (if t173 = true then ((spec_l01In.f a0_3 0 100).bind fun t174 => (some t174)) else (some false))) else (some false))) else (some false)) = some r := H; have A2 := am A20; clear A20
 by_cases c3 : t171 = true
 ·subst c3
  have H1 : ((spec_l01In.f a0_0 0 a0_1).bind fun t172 => (if t172 = true then ((spec_l01In.f a0_2 1 a0_1).bind fun t173 => (if t173 = true then ((spec_l01In.f a0_3 0 100).bind fun t174 => (some t174)) else (some false))) else (some false))) = some r := by rw [if_pos rfl] at H; exact H
  clear H; have H := H1; clear H1; replace H := Option.bind_eq_some_iff.mp H; obtain ⟨t172, A40, H⟩ := H; replace H : (if t172 = true then ((spec_l01In.f a0_2 1 a0_1).bind fun t173 => (if t173 = true then ((spec_l01In.f a0_3 0 100).bind fun t174 => (some t174)) else (some false))) else (some false)) = some r := H; have A4 := am A40; clear A40
  by_cases c5 : t172 = true
  ·subst c5
   have H1 : ((spec_l01In.f a0_2 1 a0_1).bind fun t173 => (if t173 = true then ((spec_l01In.f a0_3 0 100).bind fun t174 => (some t174)) else (some false))) = some r := by rw [if_pos rfl] at H; exact H
   clear H; have H := H1; clear H1; replace H := Option.bind_eq_some_iff.mp H; obtain ⟨t173, A60, H⟩ := H; replace H : (if t173 = true then ((spec_l01In.f a0_3 0 100).bind fun t174 => (some t174)) else (some false)) = some r := H; have A6 := am A60; clear A60
   by_cases c7 : t173 = true
   ·subst c7
    have H1 : ((spec_l01In.f a0_3 0 100).bind fun t174 => (some t174)) = some r := by rw [if_pos rfl] at H; exact H
    clear H; have H := H1; clear H1; replace H := Option.bind_eq_some_iff.mp H; obtain ⟨t174, A80, H⟩ := H; replace H : (some t174) = some r := H; have A8 := am A80; clear A80; obtain rfl := Option.some.inj H; go_enter Try.func40, Try.ntmps40
    go_wp2_with (first | ((with_reducible refine gate_dst (N := 1) rfl ?_); refine box_event ?hg (N := 1) ?hd (cs := #[.int .i64 a0_0, .int .i64 a0_1, .int .i64 a0_2, .int .i64 a0_3]) (t := 65) ?hr ?_; (case hd => rfl); (case hg => rfl); (case hr => first | (go_simp; done) | (go_simp; rfl)); intro gb170 hg w9 hbox hb; have BK170 := am (hbox); have GW170 := am ((by rw [hg]; exact (below_size (pkh HB.out)) : w.heap.size ≤ gb170)); replace HB := am (below_step (pkh HB.out) hb); have GE170 := GW170; clear hb hbox hg; obtain ⟨hcz10_0, hcz10_1, hcz10_2, hcz10_3, hfz10_0, hfz10_1, hfz10_2, hfz10_3⟩ := pq4 BK170.out) | ((with_reducible refine gate_callee (f := 42) rfl ?_); refine goesL_ (some 5) rfl rfl Try.func42 (by kernel_rfl) rfl #[.int .i64 a0_1, .int .i64 1, .int .i64 5000] rfl (by (try simp only [List.map_toArray, List.map_cons, List.map_nil]); first | done | rfl | (simp only [List.length_drop, List.length_take]; rfl)) ?_; (with_reducible refine (spec_l01In.calls a0_1 1 5000 true _ A2.out).mono ?_); rintro e w' ⟨rfl, ⟨nd, rfl⟩⟩; refine ⟨_, rfl, ?_⟩) | (go_at_call 42; (with_reducible refine (spec_l01In.calls a0_0 0 a0_1 true _ A4.out).mono ?_); rintro e w' ⟨rfl, ⟨nd, rfl⟩⟩) | (go_at_call 42; (with_reducible refine (spec_l01In.calls a0_2 1 a0_1 true _ A6.out).mono ?_); rintro e w' ⟨rfl, ⟨nd, rfl⟩⟩) | (go_at_call 42; (with_reducible refine (spec_l01In.calls a0_3 0 100 t174 _ A8.out).mono ?_); rintro e w' ⟨rfl, ⟨nd, rfl⟩⟩))
    go_ret
    exact ⟨by first | rfl | (simp [errW_none, errW_some] <;> rfl) | (simp [*, errW_none, errW_some] <;> rfl), by repeat (first | (with_reducible first | exact HB.out | apply bA | apply bN | apply b1 | refine bS ?_ (by assumption)) | exact HB.out)⟩
   ·replace c7 := Bool.eq_false_iff.mpr c7
    subst c7
    have H1 : (some false) = some r := by rw [if_neg (show ¬ (false = true) by decide)] at H; exact H
    clear H; have H := H1; clear H1; obtain rfl := Option.some.inj H; go_enter Try.func40, Try.ntmps40
    go_wp2_with (first | ((with_reducible refine gate_dst (N := 1) rfl ?_); refine box_event ?hg (N := 1) ?hd (cs := #[.int .i64 a0_0, .int .i64 a0_1, .int .i64 a0_2, .int .i64 a0_3]) (t := 65) ?hr ?_; (case hd => rfl); (case hg => rfl); (case hr => first | (go_simp; done) | (go_simp; rfl)); intro gb170 hg w11 hbox hb; have BK170 := am (hbox); have GW170 := am ((by rw [hg]; exact (below_size (pkh HB.out)) : w.heap.size ≤ gb170)); replace HB := am (below_step (pkh HB.out) hb); have GE170 := GW170; clear hb hbox hg; obtain ⟨hcz12_0, hcz12_1, hcz12_2, hcz12_3, hfz12_0, hfz12_1, hfz12_2, hfz12_3⟩ := pq4 BK170.out) | ((with_reducible refine gate_callee (f := 42) rfl ?_); refine goesL_ (some 5) rfl rfl Try.func42 (by kernel_rfl) rfl #[.int .i64 a0_1, .int .i64 1, .int .i64 5000] rfl (by (try simp only [List.map_toArray, List.map_cons, List.map_nil]); first | done | rfl | (simp only [List.length_drop, List.length_take]; rfl)) ?_; (with_reducible refine (spec_l01In.calls a0_1 1 5000 true _ A2.out).mono ?_); rintro e w' ⟨rfl, ⟨nd, rfl⟩⟩; refine ⟨_, rfl, ?_⟩) | (go_at_call 42; (with_reducible refine (spec_l01In.calls a0_0 0 a0_1 true _ A4.out).mono ?_); rintro e w' ⟨rfl, ⟨nd, rfl⟩⟩) | (go_at_call 42; (with_reducible refine (spec_l01In.calls a0_2 1 a0_1 false _ A6.out).mono ?_); rintro e w' ⟨rfl, ⟨nd, rfl⟩⟩))
    go_ret
    exact ⟨by first | rfl | (simp [errW_none, errW_some] <;> rfl) | (simp [*, errW_none, errW_some] <;> rfl), by repeat (first | (with_reducible first | exact HB.out | apply bA | apply bN | apply b1 | refine bS ?_ (by assumption)) | exact HB.out)⟩
  ·replace c5 := Bool.eq_false_iff.mpr c5
   subst c5
   have H1 : (some false) = some r := by rw [if_neg (show ¬ (false = true) by decide)] at H; exact H
   clear H; have H := H1; clear H1; obtain rfl := Option.some.inj H; go_enter Try.func40, Try.ntmps40
   go_wp2_with (first | ((with_reducible refine gate_dst (N := 1) rfl ?_); refine box_event ?hg (N := 1) ?hd (cs := #[.int .i64 a0_0, .int .i64 a0_1, .int .i64 a0_2, .int .i64 a0_3]) (t := 65) ?hr ?_; (case hd => rfl); (case hg => rfl); (case hr => first | (go_simp; done) | (go_simp; rfl)); intro gb170 hg w13 hbox hb; have BK170 := am (hbox); have GW170 := am ((by rw [hg]; exact (below_size (pkh HB.out)) : w.heap.size ≤ gb170)); replace HB := am (below_step (pkh HB.out) hb); have GE170 := GW170; clear hb hbox hg; obtain ⟨hcz14_0, hcz14_1, hcz14_2, hcz14_3, hfz14_0, hfz14_1, hfz14_2, hfz14_3⟩ := pq4 BK170.out) | ((with_reducible refine gate_callee (f := 42) rfl ?_); refine goesL_ (some 5) rfl rfl Try.func42 (by kernel_rfl) rfl #[.int .i64 a0_1, .int .i64 1, .int .i64 5000] rfl (by (try simp only [List.map_toArray, List.map_cons, List.map_nil]); first | done | rfl | (simp only [List.length_drop, List.length_take]; rfl)) ?_; (with_reducible refine (spec_l01In.calls a0_1 1 5000 true _ A2.out).mono ?_); rintro e w' ⟨rfl, ⟨nd, rfl⟩⟩; refine ⟨_, rfl, ?_⟩) | (go_at_call 42; (with_reducible refine (spec_l01In.calls a0_0 0 a0_1 false _ A4.out).mono ?_); rintro e w' ⟨rfl, ⟨nd, rfl⟩⟩))
   go_ret
   exact ⟨by first | rfl | (simp [errW_none, errW_some] <;> rfl) | (simp [*, errW_none, errW_some] <;> rfl), by repeat (first | (with_reducible first | exact HB.out | apply bA | apply bN | apply b1 | refine bS ?_ (by assumption)) | exact HB.out)⟩
 ·replace c3 := Bool.eq_false_iff.mpr c3
  subst c3
  have H1 : (some false) = some r := by rw [if_neg (show ¬ (false = true) by decide)] at H; exact H
  clear H; have H := H1; clear H1; obtain rfl := Option.some.inj H; go_enter Try.func40, Try.ntmps40
  go_wp2_with (first | ((with_reducible refine gate_dst (N := 1) rfl ?_); refine box_event ?hg (N := 1) ?hd (cs := #[.int .i64 a0_0, .int .i64 a0_1, .int .i64 a0_2, .int .i64 a0_3]) (t := 65) ?hr ?_; (case hd => rfl); (case hg => rfl); (case hr => first | (go_simp; done) | (go_simp; rfl)); intro gb170 hg w15 hbox hb; have BK170 := am (hbox); have GW170 := am ((by rw [hg]; exact (below_size (pkh HB.out)) : w.heap.size ≤ gb170)); replace HB := am (below_step (pkh HB.out) hb); have GE170 := GW170; clear hb hbox hg; obtain ⟨hcz16_0, hcz16_1, hcz16_2, hcz16_3, hfz16_0, hfz16_1, hfz16_2, hfz16_3⟩ := pq4 BK170.out) | ((with_reducible refine gate_callee (f := 42) rfl ?_); refine goesL_ (some 5) rfl rfl Try.func42 (by kernel_rfl) rfl #[.int .i64 a0_1, .int .i64 1, .int .i64 5000] rfl (by (try simp only [List.map_toArray, List.map_cons, List.map_nil]); first | done | rfl | (simp only [List.length_drop, List.length_take]; rfl)) ?_; (with_reducible refine (spec_l01In.calls a0_1 1 5000 false _ A2.out).mono ?_); rintro e w' ⟨rfl, ⟨nd, rfl⟩⟩; refine ⟨_, rfl, ?_⟩))
  go_ret
  exact ⟨by first | rfl | (simp [errW_none, errW_some] <;> rfl) | (simp [*, errW_none, errW_some] <;> rfl), by repeat (first | (with_reducible first | exact HB.out | apply bA | apply bN | apply b1 | refine bS ?_ (by assumption)) | exact HB.out)⟩

/-! ### spec_SpanOk: function 43 -/
def spec_SpanOk.f (a0_0 : Int) (a0_1 : Int) : Option (Bool) := if a0_0 ≥ 0 then (if a0_0 ≤ a0_1 then (some (decide (a0_1 ≤ 1000000))) else (some false)) else (some false)
theorem spec_SpanOk.calls (a0_0 : Int) (a0_1 : Int) (r : Bool) (w : World) (h : spec_SpanOk.f a0_0 a0_1 = some r) :
  Calls Try.prog 43 #[.agg #[.int .i64 a0_0, .int .i64 a0_1]] w fun e w' => e = .returned (.bool r) ∧ Below w.heap.size w w' := by
 have hu66 := Try.underlying66; have HB := am (Below.refl w.heap.size w); have H : (if a0_0 ≥ 0 then (if a0_0 ≤ a0_1 then (some (decide (a0_1 ≤ 1000000))) else (some false)) else (some false)) = some r := h; clear h
 by_cases c2 : a0_0 ≥ 0
 ·rw [if_pos c2] at H
  have c2b0 : decide (0 ≤ a0_0) = true := decide_eq_true c2; clear c2
  by_cases c3 : a0_0 ≤ a0_1
  ·rw [if_pos c3] at H
   have c3b0 : decide (a0_0 ≤ a0_1) = true := decide_eq_true c3; clear c3; obtain rfl := Option.some.inj H; go_enter Try.func43, Try.ntmps43
   go_wp2_with (first | ((with_reducible refine gate_dst (N := 1) rfl ?_); refine box_event ?hg (N := 1) ?hd (cs := #[.int .i64 a0_0, .int .i64 a0_1]) (t := 66) ?hr ?_; (case hd => rfl); (case hg => rfl); (case hr => first | (go_simp; done) | (go_simp; rfl)); intro gb175 hg w4 hbox hb; have BK175 := am (hbox); have GW175 := am ((by rw [hg]; exact (below_size (pkh HB.out)) : w.heap.size ≤ gb175)); replace HB := am (below_step (pkh HB.out) hb); have GE175 := GW175; clear hb hbox hg; obtain ⟨hcz5_0, hcz5_1, hfz5_0, hfz5_1⟩ := pq2 BK175.out))
   go_ret
   exact ⟨by first | rfl | (simp [errW_none, errW_some] <;> rfl) | (simp [*, errW_none, errW_some] <;> rfl), by repeat (first | (with_reducible first | exact HB.out | apply bA | apply bN | apply b1 | refine bS ?_ (by assumption)) | exact HB.out)⟩
  ·rw [if_neg c3] at H
   have c3b0 : decide (a0_0 ≤ a0_1) = false := decide_eq_false c3; clear c3; obtain rfl := Option.some.inj H; go_enter Try.func43, Try.ntmps43
   go_wp2_with (first | ((with_reducible refine gate_dst (N := 1) rfl ?_); refine box_event ?hg (N := 1) ?hd (cs := #[.int .i64 a0_0, .int .i64 a0_1]) (t := 66) ?hr ?_; (case hd => rfl); (case hg => rfl); (case hr => first | (go_simp; done) | (go_simp; rfl)); intro gb175 hg w6 hbox hb; have BK175 := am (hbox); have GW175 := am ((by rw [hg]; exact (below_size (pkh HB.out)) : w.heap.size ≤ gb175)); replace HB := am (below_step (pkh HB.out) hb); have GE175 := GW175; clear hb hbox hg; obtain ⟨hcz7_0, hcz7_1, hfz7_0, hfz7_1⟩ := pq2 BK175.out))
   go_ret
   exact ⟨by first | rfl | (simp [errW_none, errW_some] <;> rfl) | (simp [*, errW_none, errW_some] <;> rfl), by repeat (first | (with_reducible first | exact HB.out | apply bA | apply bN | apply b1 | refine bS ?_ (by assumption)) | exact HB.out)⟩
 ·rw [if_neg c2] at H
  have c2b0 : decide (0 ≤ a0_0) = false := decide_eq_false c2; clear c2; obtain rfl := Option.some.inj H; go_enter Try.func43, Try.ntmps43
  go_wp2_with (first | ((with_reducible refine gate_dst (N := 1) rfl ?_); refine box_event ?hg (N := 1) ?hd (cs := #[.int .i64 a0_0, .int .i64 a0_1]) (t := 66) ?hr ?_; (case hd => rfl); (case hg => rfl); (case hr => first | (go_simp; done) | (go_simp; rfl)); intro gb175 hg w8 hbox hb; have BK175 := am (hbox); have GW175 := am ((by rw [hg]; exact (below_size (pkh HB.out)) : w.heap.size ≤ gb175)); replace HB := am (below_step (pkh HB.out) hb); have GE175 := GW175; clear hb hbox hg; obtain ⟨hcz9_0, hcz9_1, hfz9_0, hfz9_1⟩ := pq2 BK175.out))
  go_ret
  exact ⟨by first | rfl | (simp [errW_none, errW_some] <;> rfl) | (simp [*, errW_none, errW_some] <;> rfl), by repeat (first | (with_reducible first | exact HB.out | apply bA | apply bN | apply b1 | refine bS ?_ (by assumption)) | exact HB.out)⟩

/-! ### spec_MemSent: function 61 -/
def spec_MemSent.f (k : Nat) (l0 : List Int) : Option (List Int) := if (l0.length : Int) = 49 then (if 8 < (l0.length : Int) then ((spec_UnpackControl.f k (rd l0 8)).bind fun bt177 => (if bt177.2.2 < 0 then (some (([] : List Int))) else ((some (([] : List Int) : List Int)).bind fun y183 => (if 25 ≤ (wrap64 (25 + bt177.2.2)) then (if (wrap64 (25 + bt177.2.2)) ≤ (l0.length : Int) then (if y183.length + ((l0.take ((wrap64 (25 + bt177.2.2)) : Int).toNat).drop 25).length < 17592186044416 then (some (y183 ++ ((l0.take ((wrap64 (25 + bt177.2.2)) : Int).toNat).drop 25))) else (none)) else (none)) else (none))))) else (none)) else (some (([] : List Int)))
theorem spec_MemSent.mono : ∀ a0 k, LeO (spec_MemSent.f k a0) (spec_MemSent.f (k + 1) a0) := by
 intro a0 k; unfold spec_MemSent.f
 repeat' first
   | (with_reducible exact spec_UnpackControl.mono _ _)
   | (with_reducible exact LeO.refl _)
   | (with_reducible exact LeO.none _)
   | (with_reducible refine LeO.ite ?_ ?_)
   | (with_reducible refine LeO.bind ?_ (fun _ => ?_))
   | exact spec_UnpackControl.mono _ _
   | exact LeO.none _
   | refine LeO.ite ?_ ?_
   | refine LeO.bind ?_ (fun _ => ?_)
theorem spec_MemSent.calls (k : Nat) (A0 : Option Addr) (c0 : Nat) (l0 : List Int) (r : List Int) (w : World) (hr0 : Kd.C (Kd.int .i64) w A0 l0.length l0) (hc0 : l0.length ≤ c0) (h : spec_MemSent.f k l0 = some r) :
  Calls Try.prog 61 #[.slice A0 l0.length c0] w fun e w' => ∃ v0_ : Value, e = .returned (v0_) ∧ Kd.R (Kd.int .i64) 3 w' w.heap.size (fun _ => True) v0_ r ∧ Below w.heap.size w w' := by
 have HR0 := am hr0; have HC0 := am hc0; clear hr0 hc0; have HB := am (Below.refl w.heap.size w); have H : (if (l0.length : Int) = 49 then (if 8 < (l0.length : Int) then ((spec_UnpackControl.f k (rd l0 8)).bind fun bt177 => (if bt177.2.2 < 0 then (some (([] : List Int))) else ((some (([] : List Int) : List Int)).bind fun y183 => (if 25 ≤ (wrap64 (25 + bt177.2.2)) then (if (wrap64 (25 + bt177.2.2)) ≤ (l0.length : Int) then (if y183.length + ((l0.take ((wrap64 (25 + bt177.2.2)) : Int).toNat).drop 25).length < 17592186044416 then (some (y183 ++ ((l0.take ((wrap64 (25 + bt177.2.2)) : Int).toNat).drop 25))) else (none)) else (none)) else (none))))) else (none)) else (some (([] : List Int)))) = some r := h; clear h
 by_cases c2 : (l0.length : Int) = 49
 ·rw [if_pos c2] at H
  have c2b0 : ((l0.length : Int) == 49) = true := beq_iff_eq.mpr c2; have c2b1 : ((l0.length : Int) != 49) = false := bne_eq_false_iff_eq.mpr c2; clear c2
  by_cases c3 : 8 < (l0.length : Int)
  ·rw [if_pos c3] at H
   have c3b0 : decide (8 < (l0.length : Int)) = true := decide_eq_true c3; have c3b1 : decide (8 < l0.length) = true := decide_eq_true (by omega); clear c3; replace H := Option.bind_eq_some_iff.mp H; obtain ⟨⟨t177, t178, t179⟩, A40, H⟩ := H; replace H : (if t179 < 0 then (some (([] : List Int))) else ((some (([] : List Int) : List Int)).bind fun y183 => (if 25 ≤ (wrap64 (25 + t179)) then (if (wrap64 (25 + t179)) ≤ (l0.length : Int) then (if y183.length + ((l0.take ((wrap64 (25 + t179)) : Int).toNat).drop 25).length < 17592186044416 then (some (y183 ++ ((l0.take ((wrap64 (25 + t179)) : Int).toNat).drop 25))) else (none)) else (none)) else (none)))) = some r := H; have A4 := am A40; clear A40
   by_cases c5 : t179 < 0
   ·rw [if_pos c5] at H
    have c5b0 : decide (t179 < 0) = true := decide_eq_true c5; clear c5; obtain ⟨y180, hy180⟩ : ∃ y_ : List Int, y_ = (([] : List Int)) := ⟨_, rfl⟩
    replace H : (some y180) = some r := by first | (rw [hy180]; with_reducible exact H) | (have H2_ := (Option.bind_some _ _).symm.trans H; rw [hy180]; with_reducible exact H2_) | (have H2_ := (Option.bind_some _ _).symm.trans H; with_reducible exact H2_) | with_reducible exact H | (rw [hy180]; exact H) | exact H
    have Ny180 := am hy180; clear hy180; obtain rfl := Option.some.inj H; have p176 : 0 ≤ (8 : Int) := (by omega); have q176 : 8 < (l0.length : Int) := of_decide_eq_true (by first | (with_reducible assumption) | assumption); obtain ⟨ad176, e176, hx176_0⟩ := Kd.at_int HR0.out 8 p176 q176; cases e176; (try simp only [show (8 : Int).toNat = 8 from rfl, Nat.reduceMul, Nat.reduceEqDiff, Go.Addr.add, ↓reduceIte] at hx176_0); have qi176 : (8 < l0.length) = True := eq_true (by omega); (try rw [show ((8 : Int)).toNat = 8 from rfl] at hx176_0); replace p176 := eq_true p176; replace q176 := eq_true q176; go_enter Try.func61, Try.ntmps61
    go_wp2_with (first | ((with_reducible refine gate_callee (f := 67) rfl ?_); refine goesL_ (some 14) rfl rfl Try.func67 (by kernel_rfl) rfl #[.int .i64 (rd l0 8)] rfl (by (try simp only [List.map_toArray, List.map_cons, List.map_nil]); first | done | rfl | (simp only [List.length_drop, List.length_take]; rfl)) ?_; (with_reducible refine (spec_UnpackControl.calls k (rd l0 8) t177 t178 t179 _ A4.out).mono ?_); rintro e w' ⟨rfl, ⟨nd, rfl⟩⟩; refine ⟨_, rfl, ?_⟩) | ((with_reducible refine gate_dst (N := 20) rfl ?_); refine Kd.R_lit (Kd.int .i64) _ 3 ?hg (N := 20) ?hd (xs := ([] : List Int)) (inner := []) (ok := fun _ => True) (okp := fun _ => True) ?hr ?hp (fun _ hk => hk) trivial (Below.refl _ _) (Nat.le_refl _) (by simp) ?_; (case hd => rfl); (case hg => rfl); (case hr => first | (go_simp; done) | (go_simp; rfl)); (case hp => exact (Reps.none _ _)); intro v181 w6 ho7 hb hg_ hnew_; clear hg_ hnew_; (first | rw [← Ny180.out] at ho7 | (simp only [Int.reduceToNat] at ho7; rw [← Ny180.out] at ho7)); have HO182 := am (Kd.R_lower ho7 (below_size (pkh HB.out))); replace HB := am (below_step (pkh HB.out) hb); clear hb ho7))
    go_ret
    exact ⟨_, by first | rfl | (simp [errW_none, errW_some] <;> rfl) | (simp [*, errW_none, errW_some] <;> rfl), by (with_reducible repeat (first | apply Kd.R_alloc | apply Kd.R_drewN | apply Kd.R_drew)); exact HO182.out, by repeat (first | (with_reducible first | exact HB.out | apply bA | apply bN | apply b1) | exact HB.out)⟩
   ·rw [if_neg c5] at H
    have c5b0 : decide (t179 < 0) = false := decide_eq_false c5; clear c5; obtain ⟨y183, hy183⟩ : ∃ y_ : List Int, y_ = (([] : List Int)) := ⟨_, rfl⟩
    replace H : (if 25 ≤ (wrap64 (25 + t179)) then (if (wrap64 (25 + t179)) ≤ (l0.length : Int) then (if y183.length + ((l0.take ((wrap64 (25 + t179)) : Int).toNat).drop 25).length < 17592186044416 then (some (y183 ++ ((l0.take ((wrap64 (25 + t179)) : Int).toNat).drop 25))) else (none)) else (none)) else (none)) = some r := by first | (rw [hy183]; with_reducible exact H) | (have H2_ := (Option.bind_some _ _).symm.trans H; rw [hy183]; with_reducible exact H2_) | (have H2_ := (Option.bind_some _ _).symm.trans H; with_reducible exact H2_) | with_reducible exact H | (rw [hy183]; exact H) | exact H
    have Ny183 := am hy183; clear hy183
    by_cases c8 : 25 ≤ (wrap64 (25 + t179))
    ·rw [if_pos c8] at H
     have c8b0 := eq_true c8; have c8b1 : decide (25 ≤ (wrap64 (25 + t179))) = true := decide_eq_true c8
     by_cases c9 : (wrap64 (25 + t179)) ≤ (l0.length : Int)
     ·rw [if_pos c9] at H
      have c9b0 := eq_true c9; have c9b1 : decide ((wrap64 (25 + t179)) ≤ (l0.length : Int)) = true := decide_eq_true c9
      by_cases c10 : y183.length + ((l0.take ((wrap64 (25 + t179)) : Int).toNat).drop 25).length < 17592186044416
      ·rw [if_pos c10] at H
       have LMc10 := am c10; clear c10; obtain ⟨y187, hy187⟩ : ∃ y_ : List Int, y_ = (y183 ++ ((l0.take ((wrap64 (25 + t179)) : Int).toNat).drop 25)) := ⟨_, rfl⟩
       replace H : (some y187) = some r := by first | (rw [hy187]; with_reducible exact H) | (have H2_ := (Option.bind_some _ _).symm.trans H; rw [hy187]; with_reducible exact H2_) | (have H2_ := (Option.bind_some _ _).symm.trans H; with_reducible exact H2_) | with_reducible exact H | (rw [hy187]; exact H) | exact H
       have Ny187 := am hy187; clear hy187; obtain rfl := Option.some.inj H; have p176 : 0 ≤ (8 : Int) := (by omega); have q176 : 8 < (l0.length : Int) := of_decide_eq_true (by first | (with_reducible assumption) | assumption); obtain ⟨ad176, e176, hx176_0⟩ := Kd.at_int HR0.out 8 p176 q176; cases e176; (try simp only [show (8 : Int).toNat = 8 from rfl, Nat.reduceMul, Nat.reduceEqDiff, Go.Addr.add, ↓reduceIte] at hx176_0); have qi176 : (8 < l0.length) = True := eq_true (by omega); (try rw [show ((8 : Int)).toNat = 8 from rfl] at hx176_0); replace p176 := eq_true p176; replace q176 := eq_true q176; go_enter Try.func61, Try.ntmps61
       go_wp2_with (first | ((with_reducible refine gate_callee (f := 67) rfl ?_); refine goesL_ (some 14) rfl rfl Try.func67 (by kernel_rfl) rfl #[.int .i64 (rd l0 8)] rfl (by (try simp only [List.map_toArray, List.map_cons, List.map_nil]); first | done | rfl | (simp only [List.length_drop, List.length_take]; rfl)) ?_; (with_reducible refine (spec_UnpackControl.calls k (rd l0 8) t177 t178 t179 _ A4.out).mono ?_); rintro e w' ⟨rfl, ⟨nd, rfl⟩⟩; refine ⟨_, rfl, ?_⟩) | ((with_reducible refine gate_dst (N := 21) rfl ?_); refine Kd.R_lit (Kd.int .i64) _ 3 ?hg (N := 21) ?hd (xs := ([] : List Int)) (inner := []) (ok := fun _ => True) (okp := fun _ => True) ?hr ?hp (fun _ hk => hk) trivial (Below.refl _ _) (Nat.le_refl _) (by simp) ?_; (case hd => rfl); (case hg => rfl); (case hr => first | (go_simp; done) | (go_simp; rfl)); (case hp => exact (Reps.none _ _)); intro v184 w11 ho12 hb hg_ hnew_; clear hg_ hnew_; (first | rw [← Ny183.out] at ho12 | (simp only [Int.reduceToNat] at ho12; rw [← Ny183.out] at ho12)); have HO185 := am (Kd.R_lower ho12 (below_size (pkh HB.out))); replace HB := am (below_step (pkh HB.out) hb); clear hb ho12; obtain ⟨i013, hi013, _, hsz13, _⟩ := info_parts info3; obtain ⟨A13, hcut13, hA13, hC13⟩ := print_mid_of (P := Try.prog) (Value.int .i64) 0 24 3 .i64 .i64 Try.underlying24 hi013 hsz13 (some ad176) c0 l0 25 (wrap64 (25 + t179)) (by omega) (by first | omega | exact of_decide_eq_true (by first | (with_reducible assumption) | assumption)) (of_decide_eq_true (by first | (with_reducible assumption) | assumption)) HC0.out; have HR186 := am (Kd.C_of_reads (h1 := fun _ => rfl) (hA13 _ (Kd.reads_of_C HR0.out))); have HC186 := am hC13; clear hA13 hC13 hi013 hsz13) | ((with_reducible refine gate_builtin (b := .append) (xs := #[.tmp 21, .tmp 25]) rfl ?_); at_builtin; refine Kd.R_append_rows (Kd.int .i64) (w0 := w) w.heap.size rfl (.tmp 21) (.tmp 25) 24 3 (.int .i64 0) 8 rfl Try.underlying24 info3 rfl (by decide) (by omega) v184 y183 ((l0.take ((wrap64 (25 + t179)) : Int).toNat).drop 25) _ _ _ (fun _ => True) (fun _ => False) rfl rfl ?aO ?aR (fun _ _ h => h) (fun _ h => h.elim) ?aF ?aB ?aS ?aL ?_; (case aR => first | (rw [← show ((l0.take ((wrap64 (25 + t179)) : Int).toNat).drop 25).length = ((wrap64 (25 + t179)).toNat - 25) from (by rw [List.length_drop, List.length_take]; have h_ : ((wrap64 (25 + t179)) : Int) ≤ (l0.length : Int) := of_decide_eq_true (by first | (with_reducible assumption) | assumption); omega)]; repeat (first | exact (Kd.C_below HR186.out HB.out) | (with_reducible refine Kd.C_alloc ?_ _) | (with_reducible refine Kd.C_drewN ?_ _) | (with_reducible refine Kd.C_drew ?_))) | (repeat (first | exact (Kd.C_below HR186.out HB.out) | (with_reducible refine Kd.C_alloc ?_ _) | (with_reducible refine Kd.C_drewN ?_ _) | (with_reducible refine Kd.C_drew ?_)))); (case aB => exact (pkh HB.out)); (case aF => exact (fun _ _ => trivial)); (case aO => exact (pkr HO185.out)); (case aS => exact (below_size (pkh HB.out))); (case aL => have := LMc10.out; have hlx_ := (show ((l0.take ((wrap64 (25 + t179)) : Int).toNat).drop 25).length = ((wrap64 (25 + t179)).toNat - 25) from (by rw [List.length_drop, List.length_take]; have h_ : ((wrap64 (25 + t179)) : Int) ≤ (l0.length : Int) := of_decide_eq_true (by first | (with_reducible assumption) | assumption); omega)); omega); intro v188 w14 ho hb hg hat; rw [← Ny187.out] at ho; replace HB := am (hb); have HO189 := am (ho); clear HO185; clear ho hb hg hat))
       go_ret
       exact ⟨_, by first | rfl | (simp [errW_none, errW_some] <;> rfl) | (simp [*, errW_none, errW_some] <;> rfl), by (with_reducible repeat (first | apply Kd.R_alloc | apply Kd.R_drewN | apply Kd.R_drew)); exact HO189.out, by repeat (first | (with_reducible first | exact HB.out | apply bA | apply bN | apply b1) | exact HB.out)⟩
      ·rw [if_neg c10] at H
       exact absurd H (by simp)
     ·rw [if_neg c9] at H
      exact absurd H (by simp)
    ·rw [if_neg c8] at H
     exact absurd H (by simp)
  ·rw [if_neg c3] at H
   exact absurd H (by simp)
 ·rw [if_neg c2] at H
  have c2b0 : ((l0.length : Int) == 49) = false := beq_eq_false_iff_ne.mpr c2; have c2b1 : ((l0.length : Int) != 49) = true := bne_iff_ne.mpr c2; obtain ⟨y190, hy190⟩ : ∃ y_ : List Int, y_ = (([] : List Int)) := ⟨_, rfl⟩
  replace H : (some y190) = some r := by first | (rw [hy190]; with_reducible exact H) | (have H2_ := (Option.bind_some _ _).symm.trans H; rw [hy190]; with_reducible exact H2_) | (have H2_ := (Option.bind_some _ _).symm.trans H; with_reducible exact H2_) | with_reducible exact H | (rw [hy190]; exact H) | exact H
  have Ny190 := am hy190; clear hy190; obtain rfl := Option.some.inj H; go_enter Try.func61, Try.ntmps61
  go_wp2_with (first | ((with_reducible refine gate_dst (N := 9) rfl ?_); refine Kd.R_lit (Kd.int .i64) _ 3 ?hg (N := 9) ?hd (xs := ([] : List Int)) (inner := []) (ok := fun _ => True) (okp := fun _ => True) ?hr ?hp (fun _ hk => hk) trivial (Below.refl _ _) (Nat.le_refl _) (by simp) ?_; (case hd => rfl); (case hg => rfl); (case hr => first | (go_simp; done) | (go_simp; rfl)); (case hp => exact (Reps.none _ _)); intro v191 w15 ho16 hb hg_ hnew_; clear hg_ hnew_; (first | rw [← Ny190.out] at ho16 | (simp only [Int.reduceToNat] at ho16; rw [← Ny190.out] at ho16)); have HO192 := am (Kd.R_lower ho16 (below_size (pkh HB.out))); replace HB := am (below_step (pkh HB.out) hb); clear hb ho16))
  go_ret
  exact ⟨_, by first | rfl | (simp [errW_none, errW_some] <;> rfl) | (simp [*, errW_none, errW_some] <;> rfl), by (with_reducible repeat (first | apply Kd.R_alloc | apply Kd.R_drewN | apply Kd.R_drew)); exact HO192.out, by repeat (first | (with_reducible first | exact HB.out | apply bA | apply bN | apply b1) | exact HB.out)⟩

end Go.Proofs.Ytdmmogcpamgdnaa.PFnExactNodeOk
