-- written by xprint.py for this seat
import Derived.Test.YtdmmogcpamgdnaaPFnExactNodeOkx0
import Derived.Test.YtdmmogcpamgdnaaPFnExactNodeOkx9
import Derived.Test.YtdmmogcpamgdnaaPFnExactNodeOkx10
import Derived.Test.YtdmmogcpamgdnaaPFnExactNodeOkx12
namespace Go.Proofs.Ytdmmogcpamgdnaa.PFnExactNodeOk
set_option maxHeartbeats 8000000
set_option maxRecDepth 100000
open Go.RowKit Go.Proofs.YtdmmogcpamgdnaaW.PrintWords Go.Proofs.YtdmmogcpamgdnaaW.PrintLast Go.Proofs.YtdmmogcpamgdnaaW.PrintMore
attribute [local go_sem] max2_int min2_int max_two min_two max_three min_three max_four min_four   -- for this text's walks alone
set_option linter.unusedVariables false
set_option linter.unusedSimpArgs false

/-! ### impl_MemOk: function 50 -/
mutual
def impl_MemOk.j0 : Nat → List Int → Bool → List (S117) → Option (Bool)
 | 0, _, _, _ => none
 | k + 1, x1, x22, x365000 => if x22 = true then (some false) else (if 8 < (x1.length : Int) then ((impl_UnpackControl.f (rd x1 8)).bind fun bt369 => (if bt369.1 < 0 then (impl_MemOk.j1 k x1 bt369.2.1 true) else (if bt369.1 ≥ (x365000.length : Int) then (impl_MemOk.j1 k x1 bt369.2.1 true) else (if 25 ≤ (wrap64 (25 + bt369.2.2)) then (if (wrap64 (25 + bt369.2.2)) ≤ (x1.length : Int) then ((impl_areValues.f k ((x1.take ((wrap64 (25 + bt369.2.2)) : Int).toNat).drop 25)).bind fun t373 => (impl_MemOk.j1 k x1 bt369.2.1 (!t373))) else (none)) else (none))))) else (none))
def impl_MemOk.j1 : Nat → List Int → Int → Bool → Option (Bool)
 | 0, _, _, _ => none
 | k + 1, x1, x6, x47 => if x47 = true then (some false) else (impl_MemOk.l0 k x1 x6 0)
def impl_MemOk.l0 : Nat → List Int → Int → Int → Option (Bool)
 | 0, _, _, _ => none
 | k + 1, x1, x48, x49 => if x49 < x48 then (if 0 ≤ (wrap64 (9 + (wrap64 (2 * x49)))) then (if (wrap64 (9 + (wrap64 (2 * x49)))) < (x1.length : Int) then ((impl_isVar.f (rd x1 (wrap64 (9 + (wrap64 (2 * x49)))))).bind fun t375 => (if t375 = true then (if 0 ≤ (wrap64 ((wrap64 (9 + (wrap64 (2 * x49)))) + 1)) then (if (wrap64 ((wrap64 (9 + (wrap64 (2 * x49)))) + 1)) < (x1.length : Int) then ((impl_IsValue.f (rd x1 (wrap64 ((wrap64 (9 + (wrap64 (2 * x49)))) + 1)))).bind fun t377 => (if t377 = true then (impl_MemOk.l0 k x1 x48 (wrap64 (x49 + 1))) else (some false))) else (none)) else (none)) else (some false))) else (none)) else (none)) else (some true)
end
def impl_MemOk.f (k : Nat) (l0_0 : List (S117)) (l1 : List Int) : Option (Bool) := (impl_ProgramOk.f k l0_0).bind fun t365 => (if t365 = true then (if (l1.length : Int) = 49 then (if 8 ≤ (l1.length : Int) then ((impl_areValues.f k (l1.take 8)).bind fun t367 => (impl_MemOk.j0 k l1 (!t367) l0_0)) else (none)) else (impl_MemOk.j0 k l1 true l0_0)) else (impl_MemOk.j0 k l1 true l0_0))
theorem impl_MemOk.mono_l : ∀ k, (∀ y0 y1 y2, LeO (impl_MemOk.j0 k y0 y1 y2) (impl_MemOk.j0 (k + 1) y0 y1 y2)) ∧ (∀ y0 y1 y2, LeO (impl_MemOk.j1 k y0 y1 y2) (impl_MemOk.j1 (k + 1) y0 y1 y2)) ∧ (∀ y0 y1 y2, LeO (impl_MemOk.l0 k y0 y1 y2) (impl_MemOk.l0 (k + 1) y0 y1 y2))
 | 0 => ⟨fun _ _ _ r h => by simp [impl_MemOk.j0] at h, fun _ _ _ r h => by simp [impl_MemOk.j1] at h, fun _ _ _ r h => by simp [impl_MemOk.l0] at h⟩
 | k + 1 => by
  obtain ⟨ih0, ih1, ih2⟩ := impl_MemOk.mono_l k; refine ⟨?_, ?_, ?_⟩
  ·intro y0 y1 y2
   unfold impl_MemOk.j0
   repeat' first
   | (with_reducible exact ih0 _ _ _)
   | (with_reducible exact ih1 _ _ _)
   | (with_reducible exact ih2 _ _ _)
   | (with_reducible exact impl_ProgramOk.mono _ _)
   | (with_reducible exact impl_areValues.mono _ _)
   | (with_reducible exact LeO.refl _)
   | (with_reducible exact LeO.none _)
   | (with_reducible refine LeO.ite ?_ ?_)
   | (with_reducible refine LeO.bind ?_ (fun _ => ?_))
   | exact ih0 _ _ _
   | exact ih1 _ _ _
   | exact ih2 _ _ _
   | exact impl_ProgramOk.mono _ _
   | exact impl_areValues.mono _ _
   | exact LeO.none _
   | refine LeO.ite ?_ ?_
   | refine LeO.bind ?_ (fun _ => ?_)
  ·intro y0 y1 y2
   unfold impl_MemOk.j1
   repeat' first
   | (with_reducible exact ih0 _ _ _)
   | (with_reducible exact ih1 _ _ _)
   | (with_reducible exact ih2 _ _ _)
   | (with_reducible exact impl_ProgramOk.mono _ _)
   | (with_reducible exact impl_areValues.mono _ _)
   | (with_reducible exact LeO.refl _)
   | (with_reducible exact LeO.none _)
   | (with_reducible refine LeO.ite ?_ ?_)
   | (with_reducible refine LeO.bind ?_ (fun _ => ?_))
   | exact ih0 _ _ _
   | exact ih1 _ _ _
   | exact ih2 _ _ _
   | exact impl_ProgramOk.mono _ _
   | exact impl_areValues.mono _ _
   | exact LeO.none _
   | refine LeO.ite ?_ ?_
   | refine LeO.bind ?_ (fun _ => ?_)
  ·intro y0 y1 y2
   unfold impl_MemOk.l0
   repeat' first
   | (with_reducible exact ih0 _ _ _)
   | (with_reducible exact ih1 _ _ _)
   | (with_reducible exact ih2 _ _ _)
   | (with_reducible exact impl_ProgramOk.mono _ _)
   | (with_reducible exact impl_areValues.mono _ _)
   | (with_reducible exact LeO.refl _)
   | (with_reducible exact LeO.none _)
   | (with_reducible refine LeO.ite ?_ ?_)
   | (with_reducible refine LeO.bind ?_ (fun _ => ?_))
   | exact ih0 _ _ _
   | exact ih1 _ _ _
   | exact ih2 _ _ _
   | exact impl_ProgramOk.mono _ _
   | exact impl_areValues.mono _ _
   | exact LeO.none _
   | refine LeO.ite ?_ ?_
   | refine LeO.bind ?_ (fun _ => ?_)
theorem impl_MemOk.mono : ∀ a0 a1 k, LeO (impl_MemOk.f k a0 a1) (impl_MemOk.f (k + 1) a0 a1) := by
 intro a0 a1 k; obtain ⟨ih0, ih1, ih2⟩ := impl_MemOk.mono_l k; unfold impl_MemOk.f
 repeat' first
   | (with_reducible exact ih0 _ _ _)
   | (with_reducible exact ih1 _ _ _)
   | (with_reducible exact ih2 _ _ _)
   | (with_reducible exact impl_ProgramOk.mono _ _)
   | (with_reducible exact impl_areValues.mono _ _)
   | (with_reducible exact LeO.refl _)
   | (with_reducible exact LeO.none _)
   | (with_reducible refine LeO.ite ?_ ?_)
   | (with_reducible refine LeO.bind ?_ (fun _ => ?_))
   | exact ih0 _ _ _
   | exact ih1 _ _ _
   | exact ih2 _ _ _
   | exact impl_ProgramOk.mono _ _
   | exact impl_areValues.mono _ _
   | exact LeO.none _
   | refine LeO.ite ?_ ?_
   | refine LeO.bind ?_ (fun _ => ?_)
theorem impl_MemOk.calls (k : Nat) (A0_0 : Option Addr) (c0_0 : Nat) (l0_0 : List (S117)) (A1 : Option Addr) (c1 : Nat) (l1 : List Int) (r : Bool) (w : World) (hr0_0 : Kd.C k117 w A0_0 l0_0.length l0_0) (hc0_0 : l0_0.length ≤ c0_0) (hr1 : Kd.C (Kd.int .i64) w A1 l1.length l1) (hc1 : l1.length ≤ c1) (h : impl_MemOk.f k l0_0 l1 = some r) :
  Calls Try.prog 50 #[.agg #[.slice A0_0 l0_0.length c0_0], .slice A1 l1.length c1] w fun e w' => e = .returned (.bool r) ∧ Below w.heap.size w w' := by
 have hu64 := Try.underlying64; have HR0_0 := am hr0_0; have HC0_0 := am hc0_0; clear hr0_0 hc0_0; have HR1 := am hr1; have HC1 := am hc1; clear hr1 hc1; have HB := am (Below.refl w.heap.size w); have H : ((impl_ProgramOk.f k l0_0).bind fun t365 => (if t365 = true then (if (l1.length : Int) = 49 then (if 8 ≤ (l1.length : Int) then ((impl_areValues.f k (l1.take 8)).bind fun t367 => (impl_MemOk.j0 k l1 (!t367) l0_0)) else (none)) else (impl_MemOk.j0 k l1 true l0_0)) else (impl_MemOk.j0 k l1 true l0_0))) = some r := h; clear h; have HC3 := am H; clear H; go_enter Try.func50, Try.ntmps50
 go_upto_region 1 with (first | ((with_reducible refine gate_dst (N := 2) rfl ?_); (try (refine gate_guard (by rfl) ?_; dsimp only)); refine box_event ?hg (N := 2) ?hd (cs := #[.slice A0_0 l0_0.length c0_0]) (t := 64) ?hr ?_; (case hd => rfl); (case hg => rfl); (case hr => first | (go_simp; done) | (go_simp; rfl)); intro gb364 hg w4 hbox hb; have BK364 := am (hbox); have GW364 := am ((by rw [hg]; exact (below_size (pkh HB.out)) : w.heap.size ≤ gb364)); replace HB := am (below_step (pkh HB.out) hb); have GE364 := GW364; clear hb hbox hg))
 (try simp only [Act.put, sa, s0, s1])
 go_cut [22] (fun v22 wc => ∃ (kq : Nat) (x22_2 : Bool), v22 = .bool x22_2 ∧ Aside0 (impl_MemOk.j0 kq l1 x22_2 l0_0 = some r) ∧ Aside0 (kq ≤ k) ∧ Aside0 (wc.heap[gb364]? = some (.cells #[(.slice A0_0 l0_0.length c0_0)] 64 (0, 0))) ∧ Aside0 (Below w.heap.size w wc))
 case first =>
  have H := HC3.out; clear HC3; replace H := Option.bind_eq_some_iff.mp H; obtain ⟨t365, A50, H⟩ := H; replace H : (if t365 = true then (if (l1.length : Int) = 49 then (if 8 ≤ (l1.length : Int) then ((impl_areValues.f k (l1.take 8)).bind fun t367 => (impl_MemOk.j0 k l1 (!t367) l0_0)) else (none)) else (impl_MemOk.j0 k l1 true l0_0)) else (impl_MemOk.j0 k l1 true l0_0)) = some r := H; have A5 := am A50; clear A50
  by_cases c6 : t365 = true
  ·subst c6
   have H1 : (if (l1.length : Int) = 49 then (if 8 ≤ (l1.length : Int) then ((impl_areValues.f k (l1.take 8)).bind fun t367 => (impl_MemOk.j0 k l1 (!t367) l0_0)) else (none)) else (impl_MemOk.j0 k l1 true l0_0)) = some r := by rw [if_pos rfl] at H; exact H
   clear H; have H := H1; clear H1
   by_cases c7 : (l1.length : Int) = 49
   ·rw [if_pos c7] at H
    have c7b0 : ((l1.length : Int) == 49) = true := beq_iff_eq.mpr c7; have c7b1 : ((l1.length : Int) != 49) = false := bne_eq_false_iff_eq.mpr c7; clear c7; (first | rw [c7b0] | (simp only [i64_w, i32_w]; rw [c7b0]) | skip)
    by_cases c8 : 8 ≤ (l1.length : Int)
    ·rw [if_pos c8] at H
     have c8b0 := eq_true c8; have c8b1 : decide (8 ≤ (l1.length : Int)) = true := decide_eq_true c8; clear c8; replace H := Option.bind_eq_some_iff.mp H; obtain ⟨t367, A90, H⟩ := H; replace H : (impl_MemOk.j0 k l1 (!t367) l0_0) = some r := H; have A9 := am A90; clear A90; have H' := am H; clear H; obtain ⟨hcz10_0, hfz10_0⟩ := pq1 BK364.out
     go_wp2_with (first | ((with_reducible refine gate_callee (f := 72) rfl ?_); refine goesL_ (some 10) rfl rfl Try.func72 (by kernel_rfl) rfl #[.agg #[.slice A0_0 l0_0.length c0_0]] rfl (by (try simp only [List.map_toArray, List.map_cons, List.map_nil]); first | done | rfl | (simp only [List.length_drop, List.length_take]; rfl)) ?_; (with_reducible refine (impl_ProgramOk.calls k _ _ l0_0 true _ ?side1 ?side2 A5.out).mono ?_); (case side1 => exact pkc (Kd.C_below HR0_0.out HB.out)); (case side2 => exact HC0_0.out); rintro e w11 ⟨rfl, hb⟩; refine ⟨_, rfl, ?_⟩; replace BK364 := am (blk_below (pkb BK364.out) hb); replace HB := am (below_step (pkh HB.out) hb); (try clear hb); (try clear hb2); (try clear hk); (try clear hi); obtain ⟨i012, hi012, _, hsz12, _⟩ := info_parts info3; obtain ⟨hcut12, hA12, hC12⟩ := print_take_of (P := Try.prog) (Value.int .i64) 0 24 3 .i64 Try.underlying24 hi012 hsz12 A1 c1 l1 8 (by omega) (of_decide_eq_true (by first | (with_reducible assumption) | assumption)) HC1.out; have HR366 := am (Kd.C_of_reads (h1 := fun _ => rfl) (hA12 _ (Kd.reads_of_C HR1.out))); have HC366 := am hC12; clear hA12 hC12 hi012 hsz12) | (go_at_call 52; (first | with_reducible refine (impl_areValues.calls k _ _ (l1.take 8) t367 _ ?side1 ?side2 A9.out).mono ?_ | (rw [← List.length_take]; with_reducible refine (impl_areValues.calls k _ _ (l1.take 8) t367 _ ?side1 ?side2 A9.out).mono ?_)); (case side1 => exact pkc (Kd.C_below HR366.out HB.out)); (case side2 => exact HC366.out); rintro e w' ⟨rfl, ⟨nd, rfl⟩⟩))
     go_meet
     case rel => exact ⟨_, (!t367), (by first | rfl | (simp; done) | (simp [*]; done)), H', ⟨by first | omega | exact Nat.le_refl _⟩, ⟨by (with_reducible repeat (first | apply kN | apply k1 | apply kA)); exact BK364.out⟩, ⟨by repeat (first | (with_reducible first | exact HB.out | apply bA | apply bN | apply b1 | refine bS ?_ (by assumption)) | exact HB.out)⟩⟩
    ·rw [if_neg c8] at H
     exact absurd H (by simp)
   ·rw [if_neg c7] at H
    have c7b0 : ((l1.length : Int) == 49) = false := beq_eq_false_iff_ne.mpr c7; have c7b1 : ((l1.length : Int) != 49) = true := bne_iff_ne.mpr c7; (first | rw [c7b0] | (simp only [i64_w, i32_w]; rw [c7b0]) | skip); have H' := am H; clear H; obtain ⟨hcz13_0, hfz13_0⟩ := pq1 BK364.out
    go_wp2_with (first | ((with_reducible refine gate_callee (f := 72) rfl ?_); refine goesL_ (some 10) rfl rfl Try.func72 (by kernel_rfl) rfl #[.agg #[.slice A0_0 l0_0.length c0_0]] rfl (by (try simp only [List.map_toArray, List.map_cons, List.map_nil]); first | done | rfl | (simp only [List.length_drop, List.length_take]; rfl)) ?_; (with_reducible refine (impl_ProgramOk.calls k _ _ l0_0 true _ ?side1 ?side2 A5.out).mono ?_); (case side1 => exact pkc (Kd.C_below HR0_0.out HB.out)); (case side2 => exact HC0_0.out); rintro e w14 ⟨rfl, hb⟩; refine ⟨_, rfl, ?_⟩; replace BK364 := am (blk_below (pkb BK364.out) hb); replace HB := am (below_step (pkh HB.out) hb); (try clear hb); (try clear hb2); (try clear hk); (try clear hi)))
    go_meet
    case rel => exact ⟨_, (true), (by first | rfl | (simp; done) | (simp [*]; done)), H', ⟨by first | omega | exact Nat.le_refl _⟩, ⟨by (with_reducible repeat (first | apply kN | apply k1 | apply kA)); exact BK364.out⟩, ⟨by repeat (first | (with_reducible first | exact HB.out | apply bA | apply bN | apply b1 | refine bS ?_ (by assumption)) | exact HB.out)⟩⟩
  ·replace c6 := Bool.eq_false_iff.mpr c6
   subst c6
   have H1 : (impl_MemOk.j0 k l1 true l0_0) = some r := by rw [if_neg (show ¬ (false = true) by decide)] at H; exact H
   clear H; have H := H1; clear H1; have H' := am H; clear H; obtain ⟨hcz15_0, hfz15_0⟩ := pq1 BK364.out
   go_wp2_with (first | ((with_reducible refine gate_callee (f := 72) rfl ?_); refine goesL_ (some 10) rfl rfl Try.func72 (by kernel_rfl) rfl #[.agg #[.slice A0_0 l0_0.length c0_0]] rfl (by (try simp only [List.map_toArray, List.map_cons, List.map_nil]); first | done | rfl | (simp only [List.length_drop, List.length_take]; rfl)) ?_; (with_reducible refine (impl_ProgramOk.calls k _ _ l0_0 false _ ?side1 ?side2 A5.out).mono ?_); (case side1 => exact pkc (Kd.C_below HR0_0.out HB.out)); (case side2 => exact HC0_0.out); rintro e w16 ⟨rfl, hb⟩; refine ⟨_, rfl, ?_⟩; replace BK364 := am (blk_below (pkb BK364.out) hb); replace HB := am (below_step (pkh HB.out) hb); (try clear hb); (try clear hb2); (try clear hk); (try clear hi)))
   go_meet
   case rel => exact ⟨_, (true), (by first | rfl | (simp; done) | (simp [*]; done)), H', ⟨by first | omega | exact Nat.le_refl _⟩, ⟨by (with_reducible repeat (first | apply kN | apply k1 | apply kA)); exact BK364.out⟩, ⟨by repeat (first | (with_reducible first | exact HB.out | apply bA | apply bN | apply b1 | refine bS ?_ (by assumption)) | exact HB.out)⟩⟩
 case rest =>
  clear HC3; (try clear p2); (try clear c7b0); (try clear c7b1); (try clear c8b0); (try clear c8b1); (try clear hcz10_0); (try clear hcz13_0); (try clear hcz15_0); (try clear hfz10_0); (try clear hfz13_0); (try clear hfz15_0); obtain ⟨kq, x22_2, rfl, HA, HJ2, BK364, HB⟩ := hcut; cases kq with
  | zero => exact absurd HA.out (by simp [impl_MemOk.j0])
  | succ kj2 =>
   have H := HA.out; clear HA; simp only [impl_MemOk.j0] at H
   by_cases c17 : x22_2 = true
   ·subst c17
    have H1 : (some false) = some r := by rw [if_pos rfl] at H; exact H
    clear H; have H := H1; clear H1; obtain rfl := Option.some.inj H
    go_wp2
    go_ret
    exact ⟨by first | rfl | (simp [errW_none, errW_some] <;> rfl) | (simp [*, errW_none, errW_some] <;> rfl), by repeat (first | (with_reducible first | exact HB.out | apply bA | apply bN | apply b1 | refine bS ?_ (by assumption)) | exact HB.out)⟩
   ·replace c17 := Bool.eq_false_iff.mpr c17
    subst c17
    have H1 : (if 8 < (l1.length : Int) then ((impl_UnpackControl.f (rd l1 8)).bind fun bt369 => (if bt369.1 < 0 then (impl_MemOk.j1 kj2 l1 bt369.2.1 true) else (if bt369.1 ≥ (l0_0.length : Int) then (impl_MemOk.j1 kj2 l1 bt369.2.1 true) else (if 25 ≤ (wrap64 (25 + bt369.2.2)) then (if (wrap64 (25 + bt369.2.2)) ≤ (l1.length : Int) then ((impl_areValues.f kj2 ((l1.take ((wrap64 (25 + bt369.2.2)) : Int).toNat).drop 25)).bind fun t373 => (impl_MemOk.j1 kj2 l1 bt369.2.1 (!t373))) else (none)) else (none))))) else (none)) = some r := by rw [if_neg (show ¬ (false = true) by decide)] at H; exact H
    clear H; have H := H1; clear H1
    by_cases c18 : 8 < (l1.length : Int)
    ·rw [if_pos c18] at H
     have c18b0 : decide (8 < (l1.length : Int)) = true := decide_eq_true c18; have c18b1 : decide (8 < l1.length) = true := decide_eq_true (by omega); clear c18; replace H := Option.bind_eq_some_iff.mp H; obtain ⟨⟨t369, t370, t371⟩, A190, H⟩ := H; replace H : (if t369 < 0 then (impl_MemOk.j1 kj2 l1 t370 true) else (if t369 ≥ (l0_0.length : Int) then (impl_MemOk.j1 kj2 l1 t370 true) else (if 25 ≤ (wrap64 (25 + t371)) then (if (wrap64 (25 + t371)) ≤ (l1.length : Int) then ((impl_areValues.f kj2 ((l1.take ((wrap64 (25 + t371)) : Int).toNat).drop 25)).bind fun t373 => (impl_MemOk.j1 kj2 l1 t370 (!t373))) else (none)) else (none)))) = some r := H; have A19 := am A190; clear A190; have HC20 := am H; clear H; have p368 : 0 ≤ (8 : Int) := (by omega); have q368 : 8 < (l1.length : Int) := of_decide_eq_true (by first | (with_reducible assumption) | assumption); obtain ⟨ad368, e368, hx368_0⟩ := Kd.at_int HR1.out 8 p368 q368; cases e368; (try simp only [show (8 : Int).toNat = 8 from rfl, Nat.reduceMul, Nat.reduceEqDiff, Go.Addr.add, ↓reduceIte] at hx368_0); have qi368 : (8 < l1.length) = True := eq_true (by omega); (try rw [show ((8 : Int)).toNat = 8 from rfl] at hx368_0); replace hx368_0 := (HB.out.cell (World.block_lt_of_cell? w _ hx368_0)).trans hx368_0; replace p368 := eq_true p368; replace q368 := eq_true q368
     go_upto_region 4 with (first | ((with_reducible refine gate_callee (f := 33) rfl ?_); refine goesL_ (some 27) rfl rfl Try.func33 (by kernel_rfl) rfl #[.int .i64 (rd l1 8)] rfl (by (try simp only [List.map_toArray, List.map_cons, List.map_nil]); first | done | rfl | (simp only [List.length_drop, List.length_take]; rfl)) ?_; (with_reducible refine (impl_UnpackControl.calls (rd l1 8) t369 t370 t371 _ A19.out).mono ?_); rintro e w' ⟨rfl, ⟨nd, rfl⟩⟩; refine ⟨_, rfl, ?_⟩))
     (try simp only [Act.put, sa, s0, s1])
     go_cut [47] (fun v47 wc => ∃ (kq : Nat) (x47_19 : Bool), v47 = .bool x47_19 ∧ Aside0 (impl_MemOk.j1 kq l1 t370 x47_19 = some r) ∧ Aside0 (kq ≤ kj2) ∧ Aside0 (wc.heap[gb364]? = some (.cells #[(.slice A0_0 l0_0.length c0_0)] 64 (0, 0))) ∧ Aside0 (Below w.heap.size w wc))
     case first =>
      have H := HC20.out; clear HC20
      by_cases c21 : t369 < 0
      ·rw [if_pos c21] at H
       have c21b0 : decide (t369 < 0) = true := decide_eq_true c21; clear c21; (first | rw [c21b0] | (simp only [i64_w, i32_w]; rw [c21b0]) | skip); have H' := am H; clear H
       go_wp2
       go_meet
       case rel => exact ⟨_, (true), (by first | rfl | (simp; done) | (simp [*]; done)), H', ⟨by have := HJ2.out; first | omega | exact Nat.le_refl _⟩, ⟨by (with_reducible repeat (first | apply kN | apply k1 | apply kA)); exact BK364.out⟩, ⟨by repeat (first | (with_reducible first | exact HB.out | apply bA | apply bN | apply b1 | refine bS ?_ (by assumption)) | exact HB.out)⟩⟩
      ·rw [if_neg c21] at H
       have c21b0 : decide (t369 < 0) = false := decide_eq_false c21; clear c21; (first | rw [c21b0] | (simp only [i64_w, i32_w]; rw [c21b0]) | skip)
       by_cases c22 : t369 ≥ (l0_0.length : Int)
       ·rw [if_pos c22] at H
        have c22b0 : decide ((l0_0.length : Int) ≤ t369) = true := decide_eq_true c22; clear c22; have H' := am H; clear H; obtain ⟨hcz23_0, hfz23_0⟩ := pq1 BK364.out
        go_wp2
        go_meet
        case rel => exact ⟨_, (true), (by first | rfl | (simp; done) | (simp [*]; done)), H', ⟨by have := HJ2.out; first | omega | exact Nat.le_refl _⟩, ⟨by (with_reducible repeat (first | apply kN | apply k1 | apply kA)); exact BK364.out⟩, ⟨by repeat (first | (with_reducible first | exact HB.out | apply bA | apply bN | apply b1 | refine bS ?_ (by assumption)) | exact HB.out)⟩⟩
       ·rw [if_neg c22] at H
        have c22b0 : decide ((l0_0.length : Int) ≤ t369) = false := decide_eq_false c22; clear c22
        by_cases c24 : 25 ≤ (wrap64 (25 + t371))
        ·rw [if_pos c24] at H
         have c24b0 := eq_true c24; have c24b1 : decide (25 ≤ (wrap64 (25 + t371))) = true := decide_eq_true c24
         by_cases c25 : (wrap64 (25 + t371)) ≤ (l1.length : Int)
         ·rw [if_pos c25] at H
          have c25b0 := eq_true c25; have c25b1 : decide ((wrap64 (25 + t371)) ≤ (l1.length : Int)) = true := decide_eq_true c25; replace H := Option.bind_eq_some_iff.mp H; obtain ⟨t373, A260, H⟩ := H; replace H : (impl_MemOk.j1 kj2 l1 t370 (!t373)) = some r := H; have A26 := am A260; clear A260; have H' := am H; clear H; obtain ⟨hcz27_0, hfz27_0⟩ := pq1 BK364.out; obtain ⟨i028, hi028, _, hsz28, _⟩ := info_parts info3; obtain ⟨A28, hcut28, hA28, hC28⟩ := print_mid_of (P := Try.prog) (Value.int .i64) 0 24 3 .i64 .i64 Try.underlying24 hi028 hsz28 (some ad368) c1 l1 25 (wrap64 (25 + t371)) (by omega) (by first | omega | exact of_decide_eq_true (by first | (with_reducible assumption) | assumption)) (of_decide_eq_true (by first | (with_reducible assumption) | assumption)) HC1.out; have HR372 := am (Kd.C_of_reads (h1 := fun _ => rfl) (hA28 _ (Kd.reads_of_C HR1.out))); have HC372 := am hC28; clear hA28 hC28 hi028 hsz28
          go_wp2_with (first | (go_at_call 52; (first | with_reducible refine (impl_areValues.calls kj2 _ _ ((l1.take ((wrap64 (25 + t371)) : Int).toNat).drop 25) t373 _ ?side1 ?side2 A26.out).mono ?_ | (refine calls_of_args (args' := #[.slice _ ((l1.take ((wrap64 (25 + t371)) : Int).toNat).drop 25).length _]) (by (rw [List.length_drop, List.length_take, Nat.min_eq_left (by have h_ := of_decide_eq_true (by assumption : decide ((wrap64 (25 + t371)) ≤ (l1.length : Int)) = true); omega)])) ?_; with_reducible refine (impl_areValues.calls kj2 _ _ ((l1.take ((wrap64 (25 + t371)) : Int).toNat).drop 25) t373 _ ?side1 ?side2 A26.out).mono ?_)); (case side1 => exact pkc (Kd.C_below HR372.out HB.out)); (case side2 => exact HC372.out); rintro e w' ⟨rfl, ⟨nd, rfl⟩⟩))
          go_meet
          case rel => exact ⟨_, (!t373), (by first | rfl | (simp; done) | (simp [*]; done)), H', ⟨by have := HJ2.out; first | omega | exact Nat.le_refl _⟩, ⟨by (with_reducible repeat (first | apply kN | apply k1 | apply kA)); exact BK364.out⟩, ⟨by repeat (first | (with_reducible first | exact HB.out | apply bA | apply bN | apply b1 | refine bS ?_ (by assumption)) | exact HB.out)⟩⟩
         ·rw [if_neg c25] at H
          exact absurd H (by simp)
        ·rw [if_neg c24] at H
         exact absurd H (by simp)
     case rest =>
      clear HC20; (try clear p2); (try clear p3); (try clear q3); (try clear hx3); (try clear qi3); (try clear p6); (try clear c7b0); (try clear c7b1); (try clear c8b0); (try clear c8b1); (try clear c18b0); (try clear c18b1); (try clear c21b0); (try clear c22b0); (try clear c24b0); (try clear c24b1); (try clear c25b0); (try clear c25b1); (try clear hcz10_0); (try clear hcz13_0); (try clear hcz15_0); (try clear hcz23_0); (try clear hcz27_0); (try clear hfz10_0); (try clear hfz13_0); (try clear hfz15_0); (try clear hfz23_0); (try clear hfz27_0); (try clear hx368_0); (try clear p2); (try clear p368); (try clear q368); obtain ⟨kq, x47_19, rfl, HA, HJ19, BK364, HB⟩ := hcut; cases kq with
      | zero => exact absurd HA.out (by simp [impl_MemOk.j1])
      | succ kj19 =>
       have H := HA.out; clear HA; simp only [impl_MemOk.j1] at H
       by_cases c29 : x47_19 = true
       ·subst c29
        have H1 : (some false) = some r := by rw [if_pos rfl] at H; exact H
        clear H; have H := H1; clear H1; obtain rfl := Option.some.inj H
        go_wp2
        go_ret
        exact ⟨by first | rfl | (simp [errW_none, errW_some] <;> rfl) | (simp [*, errW_none, errW_some] <;> rfl), by repeat (first | (with_reducible first | exact HB.out | apply bA | apply bN | apply b1 | refine bS ?_ (by assumption)) | exact HB.out)⟩
       ·replace c29 := Bool.eq_false_iff.mpr c29
        subst c29
        have H1 : (impl_MemOk.l0 kj19 l1 t370 0) = some r := by rw [if_neg (show ¬ (false = true) by decide)] at H; exact H
        clear H; have H := H1; clear H1; have H' := am H; clear H
        go_wp2
        go_loopg [49] kj19 (fun kq v49 w' => ∃ (x49_3 : Int), v49 = .int .i64 x49_3 ∧ Aside0 (impl_MemOk.l0 kq l1 t370 x49_3 = some r) ∧ Aside0 (kq ≤ kj19) ∧ Aside0 (w'.heap[gb364]? = some (.cells #[(.slice A0_0 l0_0.length c0_0)] 64 (0, 0))) ∧ Aside0 (Below w.heap.size w w'))
        case atStart => exact ⟨(0), (by first | rfl | (simp; done) | (simp [*]; done)), H', ⟨Nat.le_refl _⟩, ⟨by (with_reducible repeat (first | apply kN | apply k1 | apply kA)); exact BK364.out⟩, ⟨by repeat (first | (with_reducible first | exact HB.out | apply bA | apply bN | apply b1 | refine bS ?_ (by assumption)) | exact HB.out)⟩⟩
        case round =>
         clear H'; (try clear p2); (try clear p3); (try clear q3); (try clear hx3); (try clear qi3); (try clear p6); (try clear c7b0); (try clear c7b1); (try clear c8b0); (try clear c8b1); (try clear c18b0); (try clear c18b1); (try clear c21b0); (try clear c22b0); (try clear c24b0); (try clear c24b1); (try clear c25b0); (try clear c25b1); (try clear hcz10_0); (try clear hcz13_0); (try clear hcz15_0); (try clear hcz23_0); (try clear hcz27_0); (try clear hfz10_0); (try clear hfz13_0); (try clear hfz15_0); (try clear hfz23_0); (try clear hfz27_0); (try clear hx368_0); (try clear p2); (try clear p3); (try clear p368); (try clear p6); (try clear q3); (try clear q368); obtain ⟨x49_3, rfl, HA, HK3, BK364, HB⟩ := hrel; cases gk with
         | zero => exact absurd HA.out (by simp [impl_MemOk.l0])
         | succ k3 =>
          have H := HA.out; clear HA; simp only [impl_MemOk.l0] at H
          by_cases c30 : x49_3 < t370
          ·rw [if_pos c30] at H
           have c30b0 : decide (x49_3 < t370) = true := decide_eq_true c30; clear c30; obtain ⟨ji31, hji31⟩ : ∃ j_ : Int, (wrap64 (9 + (wrap64 (2 * x49_3)))) = j_ := ⟨_, rfl⟩
           replace H : (if 0 ≤ (ji31) then (if (ji31) < (l1.length : Int) then ((impl_isVar.f (rd l1 (ji31))).bind fun t375 => (if t375 = true then (if 0 ≤ (wrap64 ((ji31) + 1)) then (if (wrap64 ((ji31) + 1)) < (l1.length : Int) then ((impl_IsValue.f (rd l1 (wrap64 ((ji31) + 1)))).bind fun t377 => (if t377 = true then (impl_MemOk.l0 k3 l1 t370 (wrap64 (x49_3 + 1))) else (some false))) else (none)) else (none)) else (some false))) else (none)) else (none)) = some r := by first | (rw [hji31] at H; exact H) | (simp only [hji31] at H ⊢; exact H)
           have hji31w : (IntKind.i64.wrap (9 + (wrap64 (2 * x49_3)))) = ji31 := (i64_w _).trans hji31
           by_cases c32 : 0 ≤ (ji31)
           ·rw [if_pos c32] at H
            have c32b0 : decide (0 ≤ (ji31)) = true := decide_eq_true c32; clear c32
            by_cases c33 : (ji31) < (l1.length : Int)
            ·rw [if_pos c33] at H
             have c33b0 : decide ((ji31) < (l1.length : Int)) = true := decide_eq_true c33; clear c33; replace H := Option.bind_eq_some_iff.mp H; obtain ⟨t375, A340, H⟩ := H; replace H : (if t375 = true then (if 0 ≤ (wrap64 ((ji31) + 1)) then (if (wrap64 ((ji31) + 1)) < (l1.length : Int) then ((impl_IsValue.f (rd l1 (wrap64 ((ji31) + 1)))).bind fun t377 => (if t377 = true then (impl_MemOk.l0 k3 l1 t370 (wrap64 (x49_3 + 1))) else (some false))) else (none)) else (none)) else (some false)) = some r := H; have A34 := am A340; clear A340
             by_cases c35 : t375 = true
             ·subst c35
              have H1 : (if 0 ≤ (wrap64 ((ji31) + 1)) then (if (wrap64 ((ji31) + 1)) < (l1.length : Int) then ((impl_IsValue.f (rd l1 (wrap64 ((ji31) + 1)))).bind fun t377 => (if t377 = true then (impl_MemOk.l0 k3 l1 t370 (wrap64 (x49_3 + 1))) else (some false))) else (none)) else (none)) = some r := by rw [if_pos rfl] at H; exact H
              clear H; have H := H1; clear H1; obtain ⟨ji36, hji36⟩ : ∃ j_ : Int, (wrap64 ((ji31) + 1)) = j_ := ⟨_, rfl⟩
              replace H : (if 0 ≤ (ji36) then (if (ji36) < (l1.length : Int) then ((impl_IsValue.f (rd l1 (ji36))).bind fun t377 => (if t377 = true then (impl_MemOk.l0 k3 l1 t370 (wrap64 (x49_3 + 1))) else (some false))) else (none)) else (none)) = some r := by first | (rw [hji36] at H; exact H) | (simp only [hji36] at H ⊢; exact H)
              (try rw [hji36] at A34); have hji36w : (IntKind.i64.wrap ((ji31) + 1)) = ji36 := (i64_w _).trans hji36
              by_cases c37 : 0 ≤ (ji36)
              ·rw [if_pos c37] at H
               have c37b0 : decide (0 ≤ (ji36)) = true := decide_eq_true c37; clear c37
               by_cases c38 : (ji36) < (l1.length : Int)
               ·rw [if_pos c38] at H
                have c38b0 : decide ((ji36) < (l1.length : Int)) = true := decide_eq_true c38; clear c38; replace H := Option.bind_eq_some_iff.mp H; obtain ⟨t377, A390, H⟩ := H; replace H : (if t377 = true then (impl_MemOk.l0 k3 l1 t370 (wrap64 (x49_3 + 1))) else (some false)) = some r := H; have A39 := am A390; clear A390
                by_cases c40 : t377 = true
                ·subst c40
                 have H1 : (impl_MemOk.l0 k3 l1 t370 (wrap64 (x49_3 + 1))) = some r := by rw [if_pos rfl] at H; exact H
                 clear H; have H := H1; clear H1; have H' := am H; clear H; have p374 : 0 ≤ ((ji31) : Int) := of_decide_eq_true (by first | (with_reducible assumption) | assumption); have q374 : (ji31) < (l1.length : Int) := of_decide_eq_true (by first | (with_reducible assumption) | assumption); obtain ⟨ad374, e374, hx374_0⟩ := Kd.at_int HR1.out (ji31) p374 q374; obtain rfl : ad368 = ad374 := (by injection e374); replace hx374_0 := (HB.out.cell (World.block_lt_of_cell? w _ hx374_0)).trans hx374_0; replace p374 := eq_true p374; replace q374 := eq_true q374
                 go_wp2_with (first | ((with_reducible refine gate_callee (f := 73) rfl ?_); refine goesL_ (some 58) rfl rfl Try.func73 (by kernel_rfl) rfl #[.int .i64 (rd l1 (ji31))] rfl (by (try simp only [List.map_toArray, List.map_cons, List.map_nil]); first | done | (simp only [hji31]; rfl) | rfl | (simp only [List.length_drop, List.length_take]; rfl)) ?_; (with_reducible refine (impl_isVar.calls (rd l1 (ji31)) true _ A34.out).mono ?_); rintro e w' ⟨rfl, ⟨nd, rfl⟩⟩; refine ⟨_, rfl, ?_⟩; have p376 : 0 ≤ ((ji36) : Int) := of_decide_eq_true (by first | (with_reducible assumption) | assumption); have q376 : (ji36) < (l1.length : Int) := of_decide_eq_true (by first | (with_reducible assumption) | assumption); obtain ⟨ad376, e376, hx376_0⟩ := Kd.at_int HR1.out (ji36) p376 q376; obtain rfl : ad368 = ad376 := (by injection e376); replace hx376_0 := (HB.out.cell (World.block_lt_of_cell? w _ hx376_0)).trans hx376_0; replace p376 := eq_true p376; replace q376 := eq_true q376) | (go_at_call 74; (with_reducible refine (impl_IsValue.calls (rd l1 (ji36)) true _ A39.out).mono ?_); rintro e w' ⟨rfl, ⟨nd, rfl⟩⟩))
                 go_roundg k3
                 case measure => have := HJ2.out; have := HJ19.out; have := HK3.out; omega
                 case rel => exact ⟨(wrap64 (x49_3 + 1)), (by first | rfl | (simp; done) | (simp [*]; done)), H', ⟨by have := HJ2.out; have := HJ19.out; have := HK3.out; omega⟩, ⟨by (with_reducible repeat (first | apply kN | apply k1 | apply kA)); exact BK364.out⟩, ⟨by repeat (first | (with_reducible first | exact HB.out | apply bA | apply bN | apply b1 | refine bS ?_ (by assumption)) | exact HB.out)⟩⟩
                ·replace c40 := Bool.eq_false_iff.mpr c40
                 subst c40
                 have H1 : (some false) = some r := by rw [if_neg (show ¬ (false = true) by decide)] at H; exact H
                 clear H; have H := H1; clear H1; obtain rfl := Option.some.inj H; have p374 : 0 ≤ ((ji31) : Int) := of_decide_eq_true (by first | (with_reducible assumption) | assumption); have q374 : (ji31) < (l1.length : Int) := of_decide_eq_true (by first | (with_reducible assumption) | assumption); obtain ⟨ad374, e374, hx374_0⟩ := Kd.at_int HR1.out (ji31) p374 q374; obtain rfl : ad368 = ad374 := (by injection e374); replace hx374_0 := (HB.out.cell (World.block_lt_of_cell? w _ hx374_0)).trans hx374_0; replace p374 := eq_true p374; replace q374 := eq_true q374
                 go_wp2_with (first | ((with_reducible refine gate_callee (f := 73) rfl ?_); refine goesL_ (some 58) rfl rfl Try.func73 (by kernel_rfl) rfl #[.int .i64 (rd l1 (ji31))] rfl (by (try simp only [List.map_toArray, List.map_cons, List.map_nil]); first | done | (simp only [hji31]; rfl) | rfl | (simp only [List.length_drop, List.length_take]; rfl)) ?_; (with_reducible refine (impl_isVar.calls (rd l1 (ji31)) true _ A34.out).mono ?_); rintro e w' ⟨rfl, ⟨nd, rfl⟩⟩; refine ⟨_, rfl, ?_⟩; have p376 : 0 ≤ ((ji36) : Int) := of_decide_eq_true (by first | (with_reducible assumption) | assumption); have q376 : (ji36) < (l1.length : Int) := of_decide_eq_true (by first | (with_reducible assumption) | assumption); obtain ⟨ad376, e376, hx376_0⟩ := Kd.at_int HR1.out (ji36) p376 q376; obtain rfl : ad368 = ad376 := (by injection e376); replace hx376_0 := (HB.out.cell (World.block_lt_of_cell? w _ hx376_0)).trans hx376_0; replace p376 := eq_true p376; replace q376 := eq_true q376) | (go_at_call 74; (with_reducible refine (impl_IsValue.calls (rd l1 (ji36)) false _ A39.out).mono ?_); rintro e w' ⟨rfl, ⟨nd, rfl⟩⟩))
                 go_ret
                 exact ⟨by first | rfl | (simp [errW_none, errW_some] <;> rfl) | (simp only [← hji31, ← hji36]; first | rfl | (simp [errW_none, errW_some] <;> rfl)) | (simp [*, errW_none, errW_some] <;> rfl), by repeat (first | (with_reducible first | exact HB.out | apply bA | apply bN | apply b1 | refine bS ?_ (by assumption)) | exact HB.out)⟩
               ·rw [if_neg c38] at H
                exact absurd H (by simp)
              ·rw [if_neg c37] at H
               exact absurd H (by simp)
             ·replace c35 := Bool.eq_false_iff.mpr c35
              subst c35
              have H1 : (some false) = some r := by rw [if_neg (show ¬ (false = true) by decide)] at H; exact H
              clear H; have H := H1; clear H1; obtain rfl := Option.some.inj H; have p374 : 0 ≤ ((ji31) : Int) := of_decide_eq_true (by first | (with_reducible assumption) | assumption); have q374 : (ji31) < (l1.length : Int) := of_decide_eq_true (by first | (with_reducible assumption) | assumption); obtain ⟨ad374, e374, hx374_0⟩ := Kd.at_int HR1.out (ji31) p374 q374; obtain rfl : ad368 = ad374 := (by injection e374); replace hx374_0 := (HB.out.cell (World.block_lt_of_cell? w _ hx374_0)).trans hx374_0; replace p374 := eq_true p374; replace q374 := eq_true q374
              go_wp2_with (first | ((with_reducible refine gate_callee (f := 73) rfl ?_); refine goesL_ (some 58) rfl rfl Try.func73 (by kernel_rfl) rfl #[.int .i64 (rd l1 (ji31))] rfl (by (try simp only [List.map_toArray, List.map_cons, List.map_nil]); first | done | (simp only [hji31]; rfl) | rfl | (simp only [List.length_drop, List.length_take]; rfl)) ?_; (with_reducible refine (impl_isVar.calls (rd l1 (ji31)) false _ A34.out).mono ?_); rintro e w' ⟨rfl, ⟨nd, rfl⟩⟩; refine ⟨_, rfl, ?_⟩))
              go_ret
              exact ⟨by first | rfl | (simp [errW_none, errW_some] <;> rfl) | (simp only [← hji31]; first | rfl | (simp [errW_none, errW_some] <;> rfl)) | (simp [*, errW_none, errW_some] <;> rfl), by repeat (first | (with_reducible first | exact HB.out | apply bA | apply bN | apply b1 | refine bS ?_ (by assumption)) | exact HB.out)⟩
            ·rw [if_neg c33] at H
             exact absurd H (by simp)
           ·rw [if_neg c32] at H
            exact absurd H (by simp)
          ·rw [if_neg c30] at H
           have c30b0 : decide (x49_3 < t370) = false := decide_eq_false c30; clear c30; obtain rfl := Option.some.inj H
           go_wp2
           go_ret
           exact ⟨by first | rfl | (simp [errW_none, errW_some] <;> rfl) | (simp [*, errW_none, errW_some] <;> rfl), by repeat (first | (with_reducible first | exact HB.out | apply bA | apply bN | apply b1 | refine bS ?_ (by assumption)) | exact HB.out)⟩
    ·rw [if_neg c18] at H
     exact absurd H (by simp)

/-! ### impl_StoreOk: function 51 -/
def impl_StoreOk.f (a0_0 : Int) (a0_1 : Int) (a0_2 : Int) (a0_3 : Int) : Option (Bool) := (impl_within.f a0_1 1 5000).bind fun t379 => (if t379 = true then ((impl_within.f a0_0 0 a0_1).bind fun t380 => (if t380 = true then ((impl_within.f a0_2 1 a0_1).bind fun t381 => (if t381 = true then ((impl_within.f a0_3 0 100).bind fun t382 => (some t382)) else (some false))) else (some false))) else (some false))
theorem impl_StoreOk.calls (a0_0 : Int) (a0_1 : Int) (a0_2 : Int) (a0_3 : Int) (r : Bool) (w : World) (h : impl_StoreOk.f a0_0 a0_1 a0_2 a0_3 = some r) :
  Calls Try.prog 51 #[.agg #[.int .i64 a0_0, .int .i64 a0_1, .int .i64 a0_2, .int .i64 a0_3]] w fun e w' => e = .returned (.bool r) ∧ Below w.heap.size w w' := by
 have hu65 := Try.underlying65; have HB := am (Below.refl w.heap.size w); have H : ((impl_within.f a0_1 1 5000).bind fun t379 => (if t379 = true then ((impl_within.f a0_0 0 a0_1).bind fun t380 => (if t380 = true then ((impl_within.f a0_2 1 a0_1).bind fun t381 => (if t381 = true then ((impl_within.f a0_3 0 100).bind fun t382 => (some t382)) else (some false))) else (some false))) else (some false))) = some r := h; clear h; replace H := Option.bind_eq_some_iff.mp H; obtain ⟨t379, A20, H⟩ := H; replace H : (if t379 = true then ((impl_within.f a0_0 0 a0_1).bind fun t380 => (if t380 = true then ((impl_within.f a0_2 1 a0_1).bind fun t381 => (if t381 = true then ((impl_within.f a0_3 0 100).bind fun t382 => (some t382)) else (some false))) else (some false))) else (some false)) = some r := H; have A2 := am A20; clear A20
 by_cases c3 : t379 = true
 ·subst c3
  have H1 : ((impl_within.f a0_0 0 a0_1).bind fun t380 => (if t380 = true then ((impl_within.f a0_2 1 a0_1).bind fun t381 => (if t381 = true then ((impl_within.f a0_3 0 100).bind fun t382 => (some t382)) else (some false))) else (some false))) = some r := by rw [if_pos rfl] at H; exact H
  clear H; have H := H1; clear H1; replace H := Option.bind_eq_some_iff.mp H; obtain ⟨t380, A40, H⟩ := H; replace H : (if t380 = true then ((impl_within.f a0_2 1 a0_1).bind fun t381 => (if t381 = true then ((impl_within.f a0_3 0 100).bind fun t382 => (some t382)) else (some false))) else (some false)) = some r := H; have A4 := am A40; clear A40
  by_cases c5 : t380 = true
  ·subst c5
   have H1 : ((impl_within.f a0_2 1 a0_1).bind fun t381 => (if t381 = true then ((impl_within.f a0_3 0 100).bind fun t382 => (some t382)) else (some false))) = some r := by rw [if_pos rfl] at H; exact H
   clear H; have H := H1; clear H1; replace H := Option.bind_eq_some_iff.mp H; obtain ⟨t381, A60, H⟩ := H; replace H : (if t381 = true then ((impl_within.f a0_3 0 100).bind fun t382 => (some t382)) else (some false)) = some r := H; have A6 := am A60; clear A60
   by_cases c7 : t381 = true
   ·subst c7
    have H1 : ((impl_within.f a0_3 0 100).bind fun t382 => (some t382)) = some r := by rw [if_pos rfl] at H; exact H
    clear H; have H := H1; clear H1; replace H := Option.bind_eq_some_iff.mp H; obtain ⟨t382, A80, H⟩ := H; replace H : (some t382) = some r := H; have A8 := am A80; clear A80; obtain rfl := Option.some.inj H; go_enter Try.func51, Try.ntmps51
    go_wp2_with (first | ((with_reducible refine gate_dst (N := 1) rfl ?_); refine box_event ?hg (N := 1) ?hd (cs := #[.int .i64 a0_0, .int .i64 a0_1, .int .i64 a0_2, .int .i64 a0_3]) (t := 65) ?hr ?_; (case hd => rfl); (case hg => rfl); (case hr => first | (go_simp; done) | (go_simp; rfl)); intro gb378 hg w9 hbox hb; have BK378 := am (hbox); have GW378 := am ((by rw [hg]; exact (below_size (pkh HB.out)) : w.heap.size ≤ gb378)); replace HB := am (below_step (pkh HB.out) hb); have GE378 := GW378; clear hb hbox hg; obtain ⟨hcz10_0, hcz10_1, hcz10_2, hcz10_3, hfz10_0, hfz10_1, hfz10_2, hfz10_3⟩ := pq4 BK378.out) | ((with_reducible refine gate_callee (f := 31) rfl ?_); refine goesL_ (some 5) rfl rfl Try.func31 (by kernel_rfl) rfl #[.int .i64 a0_1, .int .i64 1, .int .i64 5000] rfl (by (try simp only [List.map_toArray, List.map_cons, List.map_nil]); first | done | rfl | (simp only [List.length_drop, List.length_take]; rfl)) ?_; (with_reducible refine (impl_within.calls a0_1 1 5000 true _ A2.out).mono ?_); rintro e w' ⟨rfl, ⟨nd, rfl⟩⟩; refine ⟨_, rfl, ?_⟩) | (go_at_call 31; (with_reducible refine (impl_within.calls a0_0 0 a0_1 true _ A4.out).mono ?_); rintro e w' ⟨rfl, ⟨nd, rfl⟩⟩) | (go_at_call 31; (with_reducible refine (impl_within.calls a0_2 1 a0_1 true _ A6.out).mono ?_); rintro e w' ⟨rfl, ⟨nd, rfl⟩⟩) | (go_at_call 31; (with_reducible refine (impl_within.calls a0_3 0 100 t382 _ A8.out).mono ?_); rintro e w' ⟨rfl, ⟨nd, rfl⟩⟩))
    go_ret
    exact ⟨by first | rfl | (simp [errW_none, errW_some] <;> rfl) | (simp [*, errW_none, errW_some] <;> rfl), by repeat (first | (with_reducible first | exact HB.out | apply bA | apply bN | apply b1 | refine bS ?_ (by assumption)) | exact HB.out)⟩
   ·replace c7 := Bool.eq_false_iff.mpr c7
    subst c7
    have H1 : (some false) = some r := by rw [if_neg (show ¬ (false = true) by decide)] at H; exact H
    clear H; have H := H1; clear H1; obtain rfl := Option.some.inj H; go_enter Try.func51, Try.ntmps51
    go_wp2_with (first | ((with_reducible refine gate_dst (N := 1) rfl ?_); refine box_event ?hg (N := 1) ?hd (cs := #[.int .i64 a0_0, .int .i64 a0_1, .int .i64 a0_2, .int .i64 a0_3]) (t := 65) ?hr ?_; (case hd => rfl); (case hg => rfl); (case hr => first | (go_simp; done) | (go_simp; rfl)); intro gb378 hg w11 hbox hb; have BK378 := am (hbox); have GW378 := am ((by rw [hg]; exact (below_size (pkh HB.out)) : w.heap.size ≤ gb378)); replace HB := am (below_step (pkh HB.out) hb); have GE378 := GW378; clear hb hbox hg; obtain ⟨hcz12_0, hcz12_1, hcz12_2, hcz12_3, hfz12_0, hfz12_1, hfz12_2, hfz12_3⟩ := pq4 BK378.out) | ((with_reducible refine gate_callee (f := 31) rfl ?_); refine goesL_ (some 5) rfl rfl Try.func31 (by kernel_rfl) rfl #[.int .i64 a0_1, .int .i64 1, .int .i64 5000] rfl (by (try simp only [List.map_toArray, List.map_cons, List.map_nil]); first | done | rfl | (simp only [List.length_drop, List.length_take]; rfl)) ?_; (with_reducible refine (impl_within.calls a0_1 1 5000 true _ A2.out).mono ?_); rintro e w' ⟨rfl, ⟨nd, rfl⟩⟩; refine ⟨_, rfl, ?_⟩) | (go_at_call 31; (with_reducible refine (impl_within.calls a0_0 0 a0_1 true _ A4.out).mono ?_); rintro e w' ⟨rfl, ⟨nd, rfl⟩⟩) | (go_at_call 31; (with_reducible refine (impl_within.calls a0_2 1 a0_1 false _ A6.out).mono ?_); rintro e w' ⟨rfl, ⟨nd, rfl⟩⟩))
    go_ret
    exact ⟨by first | rfl | (simp [errW_none, errW_some] <;> rfl) | (simp [*, errW_none, errW_some] <;> rfl), by repeat (first | (with_reducible first | exact HB.out | apply bA | apply bN | apply b1 | refine bS ?_ (by assumption)) | exact HB.out)⟩
  ·replace c5 := Bool.eq_false_iff.mpr c5
   subst c5
   have H1 : (some false) = some r := by rw [if_neg (show ¬ (false = true) by decide)] at H; exact H
   clear H; have H := H1; clear H1; obtain rfl := Option.some.inj H; go_enter Try.func51, Try.ntmps51
   go_wp2_with (first | ((with_reducible refine gate_dst (N := 1) rfl ?_); refine box_event ?hg (N := 1) ?hd (cs := #[.int .i64 a0_0, .int .i64 a0_1, .int .i64 a0_2, .int .i64 a0_3]) (t := 65) ?hr ?_; (case hd => rfl); (case hg => rfl); (case hr => first | (go_simp; done) | (go_simp; rfl)); intro gb378 hg w13 hbox hb; have BK378 := am (hbox); have GW378 := am ((by rw [hg]; exact (below_size (pkh HB.out)) : w.heap.size ≤ gb378)); replace HB := am (below_step (pkh HB.out) hb); have GE378 := GW378; clear hb hbox hg; obtain ⟨hcz14_0, hcz14_1, hcz14_2, hcz14_3, hfz14_0, hfz14_1, hfz14_2, hfz14_3⟩ := pq4 BK378.out) | ((with_reducible refine gate_callee (f := 31) rfl ?_); refine goesL_ (some 5) rfl rfl Try.func31 (by kernel_rfl) rfl #[.int .i64 a0_1, .int .i64 1, .int .i64 5000] rfl (by (try simp only [List.map_toArray, List.map_cons, List.map_nil]); first | done | rfl | (simp only [List.length_drop, List.length_take]; rfl)) ?_; (with_reducible refine (impl_within.calls a0_1 1 5000 true _ A2.out).mono ?_); rintro e w' ⟨rfl, ⟨nd, rfl⟩⟩; refine ⟨_, rfl, ?_⟩) | (go_at_call 31; (with_reducible refine (impl_within.calls a0_0 0 a0_1 false _ A4.out).mono ?_); rintro e w' ⟨rfl, ⟨nd, rfl⟩⟩))
   go_ret
   exact ⟨by first | rfl | (simp [errW_none, errW_some] <;> rfl) | (simp [*, errW_none, errW_some] <;> rfl), by repeat (first | (with_reducible first | exact HB.out | apply bA | apply bN | apply b1 | refine bS ?_ (by assumption)) | exact HB.out)⟩
 ·replace c3 := Bool.eq_false_iff.mpr c3
  subst c3
  have H1 : (some false) = some r := by rw [if_neg (show ¬ (false = true) by decide)] at H; exact H
  clear H; have H := H1; clear H1; obtain rfl := Option.some.inj H; go_enter Try.func51, Try.ntmps51
  go_wp2_with (first | ((with_reducible refine gate_dst (N := 1) rfl ?_); refine box_event ?hg (N := 1) ?hd (cs := #[.int .i64 a0_0, .int .i64 a0_1, .int .i64 a0_2, .int .i64 a0_3]) (t := 65) ?hr ?_; (case hd => rfl); (case hg => rfl); (case hr => first | (go_simp; done) | (go_simp; rfl)); intro gb378 hg w15 hbox hb; have BK378 := am (hbox); have GW378 := am ((by rw [hg]; exact (below_size (pkh HB.out)) : w.heap.size ≤ gb378)); replace HB := am (below_step (pkh HB.out) hb); have GE378 := GW378; clear hb hbox hg; obtain ⟨hcz16_0, hcz16_1, hcz16_2, hcz16_3, hfz16_0, hfz16_1, hfz16_2, hfz16_3⟩ := pq4 BK378.out) | ((with_reducible refine gate_callee (f := 31) rfl ?_); refine goesL_ (some 5) rfl rfl Try.func31 (by kernel_rfl) rfl #[.int .i64 a0_1, .int .i64 1, .int .i64 5000] rfl (by (try simp only [List.map_toArray, List.map_cons, List.map_nil]); first | done | rfl | (simp only [List.length_drop, List.length_take]; rfl)) ?_; (with_reducible refine (impl_within.calls a0_1 1 5000 false _ A2.out).mono ?_); rintro e w' ⟨rfl, ⟨nd, rfl⟩⟩; refine ⟨_, rfl, ?_⟩))
  go_ret
  exact ⟨by first | rfl | (simp [errW_none, errW_some] <;> rfl) | (simp [*, errW_none, errW_some] <;> rfl), by repeat (first | (with_reducible first | exact HB.out | apply bA | apply bN | apply b1 | refine bS ?_ (by assumption)) | exact HB.out)⟩

/-! ### impl_SpanOk: function 53 -/
def impl_SpanOk.f (a0_0 : Int) (a0_1 : Int) : Option (Bool) := if a0_0 ≥ 0 then (if a0_0 ≤ a0_1 then (some (decide (a0_1 ≤ 1000000))) else (some false)) else (some false)
theorem impl_SpanOk.calls (a0_0 : Int) (a0_1 : Int) (r : Bool) (w : World) (h : impl_SpanOk.f a0_0 a0_1 = some r) :
  Calls Try.prog 53 #[.agg #[.int .i64 a0_0, .int .i64 a0_1]] w fun e w' => e = .returned (.bool r) ∧ Below w.heap.size w w' := by
 have hu66 := Try.underlying66; have HB := am (Below.refl w.heap.size w); have H : (if a0_0 ≥ 0 then (if a0_0 ≤ a0_1 then (some (decide (a0_1 ≤ 1000000))) else (some false)) else (some false)) = some r := h; clear h
 by_cases c2 : a0_0 ≥ 0
 ·rw [if_pos c2] at H
  have c2b0 : decide (0 ≤ a0_0) = true := decide_eq_true c2; clear c2
  by_cases c3 : a0_0 ≤ a0_1
  ·rw [if_pos c3] at H
   have c3b0 : decide (a0_0 ≤ a0_1) = true := decide_eq_true c3; clear c3; obtain rfl := Option.some.inj H; go_enter Try.func53, Try.ntmps53
   go_wp2_with (first | ((with_reducible refine gate_dst (N := 1) rfl ?_); refine box_event ?hg (N := 1) ?hd (cs := #[.int .i64 a0_0, .int .i64 a0_1]) (t := 66) ?hr ?_; (case hd => rfl); (case hg => rfl); (case hr => first | (go_simp; done) | (go_simp; rfl)); intro gb383 hg w4 hbox hb; have BK383 := am (hbox); have GW383 := am ((by rw [hg]; exact (below_size (pkh HB.out)) : w.heap.size ≤ gb383)); replace HB := am (below_step (pkh HB.out) hb); have GE383 := GW383; clear hb hbox hg; obtain ⟨hcz5_0, hcz5_1, hfz5_0, hfz5_1⟩ := pq2 BK383.out))
   go_ret
   exact ⟨by first | rfl | (simp [errW_none, errW_some] <;> rfl) | (simp [*, errW_none, errW_some] <;> rfl), by repeat (first | (with_reducible first | exact HB.out | apply bA | apply bN | apply b1 | refine bS ?_ (by assumption)) | exact HB.out)⟩
  ·rw [if_neg c3] at H
   have c3b0 : decide (a0_0 ≤ a0_1) = false := decide_eq_false c3; clear c3; obtain rfl := Option.some.inj H; go_enter Try.func53, Try.ntmps53
   go_wp2_with (first | ((with_reducible refine gate_dst (N := 1) rfl ?_); refine box_event ?hg (N := 1) ?hd (cs := #[.int .i64 a0_0, .int .i64 a0_1]) (t := 66) ?hr ?_; (case hd => rfl); (case hg => rfl); (case hr => first | (go_simp; done) | (go_simp; rfl)); intro gb383 hg w6 hbox hb; have BK383 := am (hbox); have GW383 := am ((by rw [hg]; exact (below_size (pkh HB.out)) : w.heap.size ≤ gb383)); replace HB := am (below_step (pkh HB.out) hb); have GE383 := GW383; clear hb hbox hg; obtain ⟨hcz7_0, hcz7_1, hfz7_0, hfz7_1⟩ := pq2 BK383.out))
   go_ret
   exact ⟨by first | rfl | (simp [errW_none, errW_some] <;> rfl) | (simp [*, errW_none, errW_some] <;> rfl), by repeat (first | (with_reducible first | exact HB.out | apply bA | apply bN | apply b1 | refine bS ?_ (by assumption)) | exact HB.out)⟩
 ·rw [if_neg c2] at H
  have c2b0 : decide (0 ≤ a0_0) = false := decide_eq_false c2; clear c2; obtain rfl := Option.some.inj H; go_enter Try.func53, Try.ntmps53
  go_wp2_with (first | ((with_reducible refine gate_dst (N := 1) rfl ?_); refine box_event ?hg (N := 1) ?hd (cs := #[.int .i64 a0_0, .int .i64 a0_1]) (t := 66) ?hr ?_; (case hd => rfl); (case hg => rfl); (case hr => first | (go_simp; done) | (go_simp; rfl)); intro gb383 hg w8 hbox hb; have BK383 := am (hbox); have GW383 := am ((by rw [hg]; exact (below_size (pkh HB.out)) : w.heap.size ≤ gb383)); replace HB := am (below_step (pkh HB.out) hb); have GE383 := GW383; clear hb hbox hg; obtain ⟨hcz9_0, hcz9_1, hfz9_0, hfz9_1⟩ := pq2 BK383.out))
  go_ret
  exact ⟨by first | rfl | (simp [errW_none, errW_some] <;> rfl) | (simp [*, errW_none, errW_some] <;> rfl), by repeat (first | (with_reducible first | exact HB.out | apply bA | apply bN | apply b1 | refine bS ?_ (by assumption)) | exact HB.out)⟩

/-! ### impl_NodeOk: function 25 -/
def impl_NodeOk.f (k : Nat) (l0_0 : List (S117)) (l0_1 : List Int) (l0_2 : List Int) (a0_3 : Int) (a0_4 : Int) (a0_5 : Int) (a0_6 : Int) (a0_7 : Int) (a0_8 : Int) (a0_9 : Int) (a0_10 : Int) (l0_11 : List Int) (a0_12 : Int) : Option (Bool) := (impl_MemOk.f k l0_0 l0_1).bind fun t385 => (if t385 = true then ((impl_StoreOk.f a0_4 a0_5 a0_6 a0_7).bind fun t386 => (if t386 = true then ((impl_areValues.f k l0_2).bind fun t387 => (if t387 = true then ((impl_within.f a0_3 0 400000).bind fun t388 => (if t388 = true then ((impl_SpanOk.f a0_8 a0_9).bind fun t389 => (if t389 = true then ((impl_LinkOk.f k l0_1 a0_10 l0_11).bind fun t390 => (if t390 = true then ((impl_within.f a0_12 0 100000).bind fun t391 => (some t391)) else (some false))) else (some false))) else (some false))) else (some false))) else (some false))) else (some false))
theorem impl_NodeOk.mono : ∀ a0 a1 a2 a3 a4 a5 a6 a7 a8 a9 a10 a11 a12 k, LeO (impl_NodeOk.f k a0 a1 a2 a3 a4 a5 a6 a7 a8 a9 a10 a11 a12) (impl_NodeOk.f (k + 1) a0 a1 a2 a3 a4 a5 a6 a7 a8 a9 a10 a11 a12) := by
 intro a0 a1 a2 a3 a4 a5 a6 a7 a8 a9 a10 a11 a12 k; unfold impl_NodeOk.f
 repeat' first
   | (with_reducible exact impl_LinkOk.mono _ _ _ _)
   | (with_reducible exact impl_MemOk.mono _ _ _)
   | (with_reducible exact impl_areValues.mono _ _)
   | (with_reducible exact LeO.refl _)
   | (with_reducible exact LeO.none _)
   | (with_reducible refine LeO.ite ?_ ?_)
   | (with_reducible refine LeO.bind ?_ (fun _ => ?_))
   | exact impl_LinkOk.mono _ _ _ _
   | exact impl_MemOk.mono _ _ _
   | exact impl_areValues.mono _ _
   | exact LeO.none _
   | refine LeO.ite ?_ ?_
   | refine LeO.bind ?_ (fun _ => ?_)
theorem impl_NodeOk.calls (k : Nat) (A0_0 : Option Addr) (c0_0 : Nat) (l0_0 : List (S117)) (A0_1 : Option Addr) (c0_1 : Nat) (l0_1 : List Int) (A0_2 : Option Addr) (c0_2 : Nat) (l0_2 : List Int) (a0_3 : Int) (a0_4 : Int) (a0_5 : Int) (a0_6 : Int) (a0_7 : Int) (a0_8 : Int) (a0_9 : Int) (a0_10 : Int) (A0_11 : Option Addr) (c0_11 : Nat) (l0_11 : List Int) (a0_12 : Int) (r : Bool) (w : World) (hr0_0 : Kd.C k117 w A0_0 l0_0.length l0_0) (hc0_0 : l0_0.length ≤ c0_0) (hr0_1 : Kd.C (Kd.int .i64) w A0_1 l0_1.length l0_1) (hc0_1 : l0_1.length ≤ c0_1) (hr0_2 : Kd.C (Kd.int .i64) w A0_2 l0_2.length l0_2) (hc0_2 : l0_2.length ≤ c0_2) (hr0_11 : Kd.C (Kd.int .i64) w A0_11 l0_11.length l0_11) (hc0_11 : l0_11.length ≤ c0_11) (h : impl_NodeOk.f k l0_0 l0_1 l0_2 a0_3 a0_4 a0_5 a0_6 a0_7 a0_8 a0_9 a0_10 l0_11 a0_12 = some r) :
  Calls Try.prog 25 #[.agg #[.slice A0_0 l0_0.length c0_0, .slice A0_1 l0_1.length c0_1, .slice A0_2 l0_2.length c0_2, .int .i64 a0_3, .int .i64 a0_4, .int .i64 a0_5, .int .i64 a0_6, .int .i64 a0_7, .int .i64 a0_8, .int .i64 a0_9, .int .i64 a0_10, .slice A0_11 l0_11.length c0_11, .int .i64 a0_12]] w fun e w' => e = .returned (.bool r) ∧ Below w.heap.size w w' := by
 have hu68 := Try.underlying68; have hu64 := Try.underlying64; have hu65 := Try.underlying65; have hu66 := Try.underlying66; have hu28 := Try.underlying28; have HR0_0 := am hr0_0; have HC0_0 := am hc0_0; clear hr0_0 hc0_0; have HR0_1 := am hr0_1; have HC0_1 := am hc0_1; clear hr0_1 hc0_1; have HR0_2 := am hr0_2; have HC0_2 := am hc0_2; clear hr0_2 hc0_2; have HR0_11 := am hr0_11; have HC0_11 := am hc0_11; clear hr0_11 hc0_11; have HB := am (Below.refl w.heap.size w); have H : ((impl_MemOk.f k l0_0 l0_1).bind fun t385 => (if t385 = true then ((impl_StoreOk.f a0_4 a0_5 a0_6 a0_7).bind fun t386 => (if t386 = true then ((impl_areValues.f k l0_2).bind fun t387 => (if t387 = true then ((impl_within.f a0_3 0 400000).bind fun t388 => (if t388 = true then ((impl_SpanOk.f a0_8 a0_9).bind fun t389 => (if t389 = true then ((impl_LinkOk.f k l0_1 a0_10 l0_11).bind fun t390 => (if t390 = true then ((impl_within.f a0_12 0 100000).bind fun t391 => (some t391)) else (some false))) else (some false))) else (some false))) else (some false))) else (some false))) else (some false))) = some r := h; clear h; replace H := Option.bind_eq_some_iff.mp H; obtain ⟨t385, A20, H⟩ := H; replace H : (if t385 = true then ((impl_StoreOk.f a0_4 a0_5 a0_6 a0_7).bind fun t386 => (if t386 = true then ((impl_areValues.f k l0_2).bind fun t387 => (if t387 = true then ((impl_within.f a0_3 0 400000).bind fun t388 => (if t388 = true then ((impl_SpanOk.f a0_8 a0_9).bind fun t389 => (if t389 = true then ((impl_LinkOk.f k l0_1 a0_10 l0_11).bind fun t390 => (if t390 = true then ((impl_within.f a0_12 0 100000).bind fun t391 => (some t391)) else (some false))) else (some false))) else (some false))) else (some false))) else (some false))) else (some false)) = some r := H; have A2 := am A20; clear A20
 by_cases c3 : t385 = true
 ·subst c3
  have H1 : ((impl_StoreOk.f a0_4 a0_5 a0_6 a0_7).bind fun t386 => (if t386 = true then ((impl_areValues.f k l0_2).bind fun t387 => (if t387 = true then ((impl_within.f a0_3 0 400000).bind fun t388 => (if t388 = true then ((impl_SpanOk.f a0_8 a0_9).bind fun t389 => (if t389 = true then ((impl_LinkOk.f k l0_1 a0_10 l0_11).bind fun t390 => (if t390 = true then ((impl_within.f a0_12 0 100000).bind fun t391 => (some t391)) else (some false))) else (some false))) else (some false))) else (some false))) else (some false))) = some r := by rw [if_pos rfl] at H; exact H
  clear H; have H := H1; clear H1; replace H := Option.bind_eq_some_iff.mp H; obtain ⟨t386, A40, H⟩ := H; replace H : (if t386 = true then ((impl_areValues.f k l0_2).bind fun t387 => (if t387 = true then ((impl_within.f a0_3 0 400000).bind fun t388 => (if t388 = true then ((impl_SpanOk.f a0_8 a0_9).bind fun t389 => (if t389 = true then ((impl_LinkOk.f k l0_1 a0_10 l0_11).bind fun t390 => (if t390 = true then ((impl_within.f a0_12 0 100000).bind fun t391 => (some t391)) else (some false))) else (some false))) else (some false))) else (some false))) else (some false)) = some r := H; have A4 := am A40; clear A40
  by_cases c5 : t386 = true
  ·subst c5
   have H1 : ((impl_areValues.f k l0_2).bind fun t387 => (if t387 = true then ((impl_within.f a0_3 0 400000).bind fun t388 => (if t388 = true then ((impl_SpanOk.f a0_8 a0_9).bind fun t389 => (if t389 = true then ((impl_LinkOk.f k l0_1 a0_10 l0_11).bind fun t390 => (if t390 = true then ((impl_within.f a0_12 0 100000).bind fun t391 => (some t391)) else (some false))) else (some false))) else (some false))) else (some false))) = some r := by rw [if_pos rfl] at H; exact H
   clear H; have H := H1; clear H1; replace H := Option.bind_eq_some_iff.mp H; obtain ⟨t387, A60, H⟩ := H; replace H : (if t387 = true then ((impl_within.f a0_3 0 400000).bind fun t388 => (if t388 = true then ((impl_SpanOk.f a0_8 a0_9).bind fun t389 => (if t389 = true then ((impl_LinkOk.f k l0_1 a0_10 l0_11).bind fun t390 => (if t390 = true then ((impl_within.f a0_12 0 100000).bind fun t391 => (some t391)) else (some false))) else (some false))) else (some false))) else (some false)) = some r := H; have A6 := am A60; clear A60
   by_cases c7 : t387 = true
   ·subst c7
    have H1 : ((impl_within.f a0_3 0 400000).bind fun t388 => (if t388 = true then ((impl_SpanOk.f a0_8 a0_9).bind fun t389 => (if t389 = true then ((impl_LinkOk.f k l0_1 a0_10 l0_11).bind fun t390 => (if t390 = true then ((impl_within.f a0_12 0 100000).bind fun t391 => (some t391)) else (some false))) else (some false))) else (some false))) = some r := by rw [if_pos rfl] at H; exact H
    clear H; have H := H1; clear H1; replace H := Option.bind_eq_some_iff.mp H; obtain ⟨t388, A80, H⟩ := H; replace H : (if t388 = true then ((impl_SpanOk.f a0_8 a0_9).bind fun t389 => (if t389 = true then ((impl_LinkOk.f k l0_1 a0_10 l0_11).bind fun t390 => (if t390 = true then ((impl_within.f a0_12 0 100000).bind fun t391 => (some t391)) else (some false))) else (some false))) else (some false)) = some r := H; have A8 := am A80; clear A80
    by_cases c9 : t388 = true
    ·subst c9
     have H1 : ((impl_SpanOk.f a0_8 a0_9).bind fun t389 => (if t389 = true then ((impl_LinkOk.f k l0_1 a0_10 l0_11).bind fun t390 => (if t390 = true then ((impl_within.f a0_12 0 100000).bind fun t391 => (some t391)) else (some false))) else (some false))) = some r := by rw [if_pos rfl] at H; exact H
     clear H; have H := H1; clear H1; replace H := Option.bind_eq_some_iff.mp H; obtain ⟨t389, A100, H⟩ := H; replace H : (if t389 = true then ((impl_LinkOk.f k l0_1 a0_10 l0_11).bind fun t390 => (if t390 = true then ((impl_within.f a0_12 0 100000).bind fun t391 => (some t391)) else (some false))) else (some false)) = some r := H; have A10 := am A100; clear A100
     by_cases c11 : t389 = true
     ·subst c11
      have H1 : ((impl_LinkOk.f k l0_1 a0_10 l0_11).bind fun t390 => (if t390 = true then ((impl_within.f a0_12 0 100000).bind fun t391 => (some t391)) else (some false))) = some r := by rw [if_pos rfl] at H; exact H
      clear H; have H := H1; clear H1; replace H := Option.bind_eq_some_iff.mp H; obtain ⟨t390, A120, H⟩ := H; replace H : (if t390 = true then ((impl_within.f a0_12 0 100000).bind fun t391 => (some t391)) else (some false)) = some r := H; have A12 := am A120; clear A120
      by_cases c13 : t390 = true
      ·subst c13
       have H1 : ((impl_within.f a0_12 0 100000).bind fun t391 => (some t391)) = some r := by rw [if_pos rfl] at H; exact H
       clear H; have H := H1; clear H1; replace H := Option.bind_eq_some_iff.mp H; obtain ⟨t391, A140, H⟩ := H; replace H : (some t391) = some r := H; have A14 := am A140; clear A140; obtain rfl := Option.some.inj H; go_enter Try.func25, Try.ntmps25
       go_wp2_with (first | ((with_reducible refine gate_dst (N := 1) rfl ?_); refine box_event ?hg (N := 1) ?hd (cs := #[.slice A0_0 l0_0.length c0_0, .slice A0_1 l0_1.length c0_1, .slice A0_2 l0_2.length c0_2, .int .i64 a0_3, .int .i64 a0_4, .int .i64 a0_5, .int .i64 a0_6, .int .i64 a0_7, .int .i64 a0_8, .int .i64 a0_9, .int .i64 a0_10, .slice A0_11 l0_11.length c0_11, .int .i64 a0_12]) (t := 68) ?hr ?_; (case hd => rfl); (case hg => rfl); (case hr => first | (go_simp; done) | (go_simp; rfl)); intro gb384 hg w15 hbox hb; have BK384 := am (hbox); have GW384 := am ((by rw [hg]; exact (below_size (pkh HB.out)) : w.heap.size ≤ gb384)); replace HB := am (below_step (pkh HB.out) hb); have GE384 := GW384; clear hb hbox hg; obtain ⟨hcz16_0, hcz16_1, hcz16_2, hcz16_3, hcz16_4, hcz16_5, hcz16_6, hcz16_7, hcz16_8, hcz16_9, hcz16_10, hcz16_11, hcz16_12, hfz16_0, hfz16_1, hfz16_2, hfz16_3, hfz16_4, hfz16_5, hfz16_6, hfz16_7, hfz16_8, hfz16_9, hfz16_10, hfz16_11, hfz16_12⟩ := pq13 BK384.out) | ((with_reducible refine gate_callee (f := 50) rfl ?_); refine goesL_ (some 7) rfl rfl Try.func50 (by kernel_rfl) rfl #[.agg #[.slice A0_0 l0_0.length c0_0], .slice A0_1 l0_1.length c0_1] rfl (by (try simp only [List.map_toArray, List.map_cons, List.map_nil]); first | done | rfl | (simp only [List.length_drop, List.length_take]; rfl)) ?_; (with_reducible refine (impl_MemOk.calls k _ _ l0_0 _ _ l0_1 true _ ?side1 ?side2 ?side3 ?side4 A2.out).mono ?_); (case side1 => exact pkc (Kd.C_below HR0_0.out HB.out)); (case side2 => exact HC0_0.out); (case side3 => exact pkc (Kd.C_below HR0_1.out HB.out)); (case side4 => exact HC0_1.out); rintro e w17 ⟨rfl, hb⟩; refine ⟨_, rfl, ?_⟩; replace BK384 := am (blk_below (pkb BK384.out) hb); replace HB := am (below_step (pkh HB.out) hb); (try clear hb); (try clear hb2); (try clear hk); (try clear hi); obtain ⟨hcz18_0, hcz18_1, hcz18_2, hcz18_3, hcz18_4, hcz18_5, hcz18_6, hcz18_7, hcz18_8, hcz18_9, hcz18_10, hcz18_11, hcz18_12, hfz18_0, hfz18_1, hfz18_2, hfz18_3, hfz18_4, hfz18_5, hfz18_6, hfz18_7, hfz18_8, hfz18_9, hfz18_10, hfz18_11, hfz18_12⟩ := pq13 BK384.out) | (go_at_call 51; (with_reducible refine (impl_StoreOk.calls a0_4 a0_5 a0_6 a0_7 true _ A4.out).mono ?_); rintro e w19 ⟨rfl, hb⟩; replace BK384 := am (blk_below (pkb BK384.out) hb); replace HB := am (below_step (pkh HB.out) hb); (try clear hb); (try clear hb2); (try clear hk); (try clear hi); obtain ⟨hcz20_0, hcz20_1, hcz20_2, hcz20_3, hcz20_4, hcz20_5, hcz20_6, hcz20_7, hcz20_8, hcz20_9, hcz20_10, hcz20_11, hcz20_12, hfz20_0, hfz20_1, hfz20_2, hfz20_3, hfz20_4, hfz20_5, hfz20_6, hfz20_7, hfz20_8, hfz20_9, hfz20_10, hfz20_11, hfz20_12⟩ := pq13 BK384.out) | (go_at_call 52; (with_reducible refine (impl_areValues.calls k _ _ l0_2 true _ ?side1 ?side2 A6.out).mono ?_); (case side1 => exact pkc (Kd.C_below HR0_2.out HB.out)); (case side2 => exact HC0_2.out); rintro e w' ⟨rfl, ⟨nd, rfl⟩⟩) | (go_at_call 31; (with_reducible refine (impl_within.calls a0_3 0 400000 true _ A8.out).mono ?_); rintro e w' ⟨rfl, ⟨nd, rfl⟩⟩) | (go_at_call 53; (with_reducible refine (impl_SpanOk.calls a0_8 a0_9 true _ A10.out).mono ?_); rintro e w21 ⟨rfl, hb⟩; replace BK384 := am (blk_below (pkb BK384.out) hb); replace HB := am (below_step (pkh HB.out) hb); (try clear hb); (try clear hb2); (try clear hk); (try clear hi); obtain ⟨hcz22_0, hcz22_1, hcz22_2, hcz22_3, hcz22_4, hcz22_5, hcz22_6, hcz22_7, hcz22_8, hcz22_9, hcz22_10, hcz22_11, hcz22_12, hfz22_0, hfz22_1, hfz22_2, hfz22_3, hfz22_4, hfz22_5, hfz22_6, hfz22_7, hfz22_8, hfz22_9, hfz22_10, hfz22_11, hfz22_12⟩ := pq13 BK384.out) | (go_at_call 13; (with_reducible refine (impl_LinkOk.calls k _ _ l0_1 a0_10 _ _ l0_11 true _ ?side1 ?side2 ?side3 ?side4 A12.out).mono ?_); (case side1 => exact pkc (Kd.C_below HR0_1.out HB.out)); (case side2 => exact HC0_1.out); (case side3 => exact pkc (Kd.C_below HR0_11.out HB.out)); (case side4 => exact HC0_11.out); rintro e w23 ⟨rfl, hb⟩; replace BK384 := am (blk_below (pkb BK384.out) hb); replace HB := am (below_step (pkh HB.out) hb); (try clear hb); (try clear hb2); (try clear hk); (try clear hi); obtain ⟨hcz24_0, hcz24_1, hcz24_2, hcz24_3, hcz24_4, hcz24_5, hcz24_6, hcz24_7, hcz24_8, hcz24_9, hcz24_10, hcz24_11, hcz24_12, hfz24_0, hfz24_1, hfz24_2, hfz24_3, hfz24_4, hfz24_5, hfz24_6, hfz24_7, hfz24_8, hfz24_9, hfz24_10, hfz24_11, hfz24_12⟩ := pq13 BK384.out) | (go_at_call 31; (with_reducible refine (impl_within.calls a0_12 0 100000 t391 _ A14.out).mono ?_); rintro e w' ⟨rfl, ⟨nd, rfl⟩⟩))
       go_ret
       exact ⟨by first | rfl | (simp [errW_none, errW_some] <;> rfl) | (simp [*, errW_none, errW_some] <;> rfl), by repeat (first | (with_reducible first | exact HB.out | apply bA | apply bN | apply b1 | refine bS ?_ (by assumption)) | exact HB.out)⟩
      ·replace c13 := Bool.eq_false_iff.mpr c13
       subst c13
       have H1 : (some false) = some r := by rw [if_neg (show ¬ (false = true) by decide)] at H; exact H
       clear H; have H := H1; clear H1; obtain rfl := Option.some.inj H; go_enter Try.func25, Try.ntmps25
       go_wp2_with (first | ((with_reducible refine gate_dst (N := 1) rfl ?_); refine box_event ?hg (N := 1) ?hd (cs := #[.slice A0_0 l0_0.length c0_0, .slice A0_1 l0_1.length c0_1, .slice A0_2 l0_2.length c0_2, .int .i64 a0_3, .int .i64 a0_4, .int .i64 a0_5, .int .i64 a0_6, .int .i64 a0_7, .int .i64 a0_8, .int .i64 a0_9, .int .i64 a0_10, .slice A0_11 l0_11.length c0_11, .int .i64 a0_12]) (t := 68) ?hr ?_; (case hd => rfl); (case hg => rfl); (case hr => first | (go_simp; done) | (go_simp; rfl)); intro gb384 hg w25 hbox hb; have BK384 := am (hbox); have GW384 := am ((by rw [hg]; exact (below_size (pkh HB.out)) : w.heap.size ≤ gb384)); replace HB := am (below_step (pkh HB.out) hb); have GE384 := GW384; clear hb hbox hg; obtain ⟨hcz26_0, hcz26_1, hcz26_2, hcz26_3, hcz26_4, hcz26_5, hcz26_6, hcz26_7, hcz26_8, hcz26_9, hcz26_10, hcz26_11, hcz26_12, hfz26_0, hfz26_1, hfz26_2, hfz26_3, hfz26_4, hfz26_5, hfz26_6, hfz26_7, hfz26_8, hfz26_9, hfz26_10, hfz26_11, hfz26_12⟩ := pq13 BK384.out) | ((with_reducible refine gate_callee (f := 50) rfl ?_); refine goesL_ (some 7) rfl rfl Try.func50 (by kernel_rfl) rfl #[.agg #[.slice A0_0 l0_0.length c0_0], .slice A0_1 l0_1.length c0_1] rfl (by (try simp only [List.map_toArray, List.map_cons, List.map_nil]); first | done | rfl | (simp only [List.length_drop, List.length_take]; rfl)) ?_; (with_reducible refine (impl_MemOk.calls k _ _ l0_0 _ _ l0_1 true _ ?side1 ?side2 ?side3 ?side4 A2.out).mono ?_); (case side1 => exact pkc (Kd.C_below HR0_0.out HB.out)); (case side2 => exact HC0_0.out); (case side3 => exact pkc (Kd.C_below HR0_1.out HB.out)); (case side4 => exact HC0_1.out); rintro e w27 ⟨rfl, hb⟩; refine ⟨_, rfl, ?_⟩; replace BK384 := am (blk_below (pkb BK384.out) hb); replace HB := am (below_step (pkh HB.out) hb); (try clear hb); (try clear hb2); (try clear hk); (try clear hi); obtain ⟨hcz28_0, hcz28_1, hcz28_2, hcz28_3, hcz28_4, hcz28_5, hcz28_6, hcz28_7, hcz28_8, hcz28_9, hcz28_10, hcz28_11, hcz28_12, hfz28_0, hfz28_1, hfz28_2, hfz28_3, hfz28_4, hfz28_5, hfz28_6, hfz28_7, hfz28_8, hfz28_9, hfz28_10, hfz28_11, hfz28_12⟩ := pq13 BK384.out) | (go_at_call 51; (with_reducible refine (impl_StoreOk.calls a0_4 a0_5 a0_6 a0_7 true _ A4.out).mono ?_); rintro e w29 ⟨rfl, hb⟩; replace BK384 := am (blk_below (pkb BK384.out) hb); replace HB := am (below_step (pkh HB.out) hb); (try clear hb); (try clear hb2); (try clear hk); (try clear hi); obtain ⟨hcz30_0, hcz30_1, hcz30_2, hcz30_3, hcz30_4, hcz30_5, hcz30_6, hcz30_7, hcz30_8, hcz30_9, hcz30_10, hcz30_11, hcz30_12, hfz30_0, hfz30_1, hfz30_2, hfz30_3, hfz30_4, hfz30_5, hfz30_6, hfz30_7, hfz30_8, hfz30_9, hfz30_10, hfz30_11, hfz30_12⟩ := pq13 BK384.out) | (go_at_call 52; (with_reducible refine (impl_areValues.calls k _ _ l0_2 true _ ?side1 ?side2 A6.out).mono ?_); (case side1 => exact pkc (Kd.C_below HR0_2.out HB.out)); (case side2 => exact HC0_2.out); rintro e w' ⟨rfl, ⟨nd, rfl⟩⟩) | (go_at_call 31; (with_reducible refine (impl_within.calls a0_3 0 400000 true _ A8.out).mono ?_); rintro e w' ⟨rfl, ⟨nd, rfl⟩⟩) | (go_at_call 53; (with_reducible refine (impl_SpanOk.calls a0_8 a0_9 true _ A10.out).mono ?_); rintro e w31 ⟨rfl, hb⟩; replace BK384 := am (blk_below (pkb BK384.out) hb); replace HB := am (below_step (pkh HB.out) hb); (try clear hb); (try clear hb2); (try clear hk); (try clear hi); obtain ⟨hcz32_0, hcz32_1, hcz32_2, hcz32_3, hcz32_4, hcz32_5, hcz32_6, hcz32_7, hcz32_8, hcz32_9, hcz32_10, hcz32_11, hcz32_12, hfz32_0, hfz32_1, hfz32_2, hfz32_3, hfz32_4, hfz32_5, hfz32_6, hfz32_7, hfz32_8, hfz32_9, hfz32_10, hfz32_11, hfz32_12⟩ := pq13 BK384.out) | (go_at_call 13; (with_reducible refine (impl_LinkOk.calls k _ _ l0_1 a0_10 _ _ l0_11 false _ ?side1 ?side2 ?side3 ?side4 A12.out).mono ?_); (case side1 => exact pkc (Kd.C_below HR0_1.out HB.out)); (case side2 => exact HC0_1.out); (case side3 => exact pkc (Kd.C_below HR0_11.out HB.out)); (case side4 => exact HC0_11.out); rintro e w33 ⟨rfl, hb⟩; replace BK384 := am (blk_below (pkb BK384.out) hb); replace HB := am (below_step (pkh HB.out) hb); (try clear hb); (try clear hb2); (try clear hk); (try clear hi)))
       go_ret
       exact ⟨by first | rfl | (simp [errW_none, errW_some] <;> rfl) | (simp [*, errW_none, errW_some] <;> rfl), by repeat (first | (with_reducible first | exact HB.out | apply bA | apply bN | apply b1 | refine bS ?_ (by assumption)) | exact HB.out)⟩
     ·replace c11 := Bool.eq_false_iff.mpr c11
      subst c11
      have H1 : (some false) = some r := by rw [if_neg (show ¬ (false = true) by decide)] at H; exact H
      clear H; have H := H1; clear H1; obtain rfl := Option.some.inj H; go_enter Try.func25, Try.ntmps25
      go_wp2_with (first | ((with_reducible refine gate_dst (N := 1) rfl ?_); refine box_event ?hg (N := 1) ?hd (cs := #[.slice A0_0 l0_0.length c0_0, .slice A0_1 l0_1.length c0_1, .slice A0_2 l0_2.length c0_2, .int .i64 a0_3, .int .i64 a0_4, .int .i64 a0_5, .int .i64 a0_6, .int .i64 a0_7, .int .i64 a0_8, .int .i64 a0_9, .int .i64 a0_10, .slice A0_11 l0_11.length c0_11, .int .i64 a0_12]) (t := 68) ?hr ?_; (case hd => rfl); (case hg => rfl); (case hr => first | (go_simp; done) | (go_simp; rfl)); intro gb384 hg w34 hbox hb; have BK384 := am (hbox); have GW384 := am ((by rw [hg]; exact (below_size (pkh HB.out)) : w.heap.size ≤ gb384)); replace HB := am (below_step (pkh HB.out) hb); have GE384 := GW384; clear hb hbox hg; obtain ⟨hcz35_0, hcz35_1, hcz35_2, hcz35_3, hcz35_4, hcz35_5, hcz35_6, hcz35_7, hcz35_8, hcz35_9, hcz35_10, hcz35_11, hcz35_12, hfz35_0, hfz35_1, hfz35_2, hfz35_3, hfz35_4, hfz35_5, hfz35_6, hfz35_7, hfz35_8, hfz35_9, hfz35_10, hfz35_11, hfz35_12⟩ := pq13 BK384.out) | ((with_reducible refine gate_callee (f := 50) rfl ?_); refine goesL_ (some 7) rfl rfl Try.func50 (by kernel_rfl) rfl #[.agg #[.slice A0_0 l0_0.length c0_0], .slice A0_1 l0_1.length c0_1] rfl (by (try simp only [List.map_toArray, List.map_cons, List.map_nil]); first | done | rfl | (simp only [List.length_drop, List.length_take]; rfl)) ?_; (with_reducible refine (impl_MemOk.calls k _ _ l0_0 _ _ l0_1 true _ ?side1 ?side2 ?side3 ?side4 A2.out).mono ?_); (case side1 => exact pkc (Kd.C_below HR0_0.out HB.out)); (case side2 => exact HC0_0.out); (case side3 => exact pkc (Kd.C_below HR0_1.out HB.out)); (case side4 => exact HC0_1.out); rintro e w36 ⟨rfl, hb⟩; refine ⟨_, rfl, ?_⟩; replace BK384 := am (blk_below (pkb BK384.out) hb); replace HB := am (below_step (pkh HB.out) hb); (try clear hb); (try clear hb2); (try clear hk); (try clear hi); obtain ⟨hcz37_0, hcz37_1, hcz37_2, hcz37_3, hcz37_4, hcz37_5, hcz37_6, hcz37_7, hcz37_8, hcz37_9, hcz37_10, hcz37_11, hcz37_12, hfz37_0, hfz37_1, hfz37_2, hfz37_3, hfz37_4, hfz37_5, hfz37_6, hfz37_7, hfz37_8, hfz37_9, hfz37_10, hfz37_11, hfz37_12⟩ := pq13 BK384.out) | (go_at_call 51; (with_reducible refine (impl_StoreOk.calls a0_4 a0_5 a0_6 a0_7 true _ A4.out).mono ?_); rintro e w38 ⟨rfl, hb⟩; replace BK384 := am (blk_below (pkb BK384.out) hb); replace HB := am (below_step (pkh HB.out) hb); (try clear hb); (try clear hb2); (try clear hk); (try clear hi); obtain ⟨hcz39_0, hcz39_1, hcz39_2, hcz39_3, hcz39_4, hcz39_5, hcz39_6, hcz39_7, hcz39_8, hcz39_9, hcz39_10, hcz39_11, hcz39_12, hfz39_0, hfz39_1, hfz39_2, hfz39_3, hfz39_4, hfz39_5, hfz39_6, hfz39_7, hfz39_8, hfz39_9, hfz39_10, hfz39_11, hfz39_12⟩ := pq13 BK384.out) | (go_at_call 52; (with_reducible refine (impl_areValues.calls k _ _ l0_2 true _ ?side1 ?side2 A6.out).mono ?_); (case side1 => exact pkc (Kd.C_below HR0_2.out HB.out)); (case side2 => exact HC0_2.out); rintro e w' ⟨rfl, ⟨nd, rfl⟩⟩) | (go_at_call 31; (with_reducible refine (impl_within.calls a0_3 0 400000 true _ A8.out).mono ?_); rintro e w' ⟨rfl, ⟨nd, rfl⟩⟩) | (go_at_call 53; (with_reducible refine (impl_SpanOk.calls a0_8 a0_9 false _ A10.out).mono ?_); rintro e w40 ⟨rfl, hb⟩; replace BK384 := am (blk_below (pkb BK384.out) hb); replace HB := am (below_step (pkh HB.out) hb); (try clear hb); (try clear hb2); (try clear hk); (try clear hi)))
      go_ret
      exact ⟨by first | rfl | (simp [errW_none, errW_some] <;> rfl) | (simp [*, errW_none, errW_some] <;> rfl), by repeat (first | (with_reducible first | exact HB.out | apply bA | apply bN | apply b1 | refine bS ?_ (by assumption)) | exact HB.out)⟩
    ·replace c9 := Bool.eq_false_iff.mpr c9
     subst c9
     have H1 : (some false) = some r := by rw [if_neg (show ¬ (false = true) by decide)] at H; exact H
     clear H; have H := H1; clear H1; obtain rfl := Option.some.inj H; go_enter Try.func25, Try.ntmps25
     go_wp2_with (first | ((with_reducible refine gate_dst (N := 1) rfl ?_); refine box_event ?hg (N := 1) ?hd (cs := #[.slice A0_0 l0_0.length c0_0, .slice A0_1 l0_1.length c0_1, .slice A0_2 l0_2.length c0_2, .int .i64 a0_3, .int .i64 a0_4, .int .i64 a0_5, .int .i64 a0_6, .int .i64 a0_7, .int .i64 a0_8, .int .i64 a0_9, .int .i64 a0_10, .slice A0_11 l0_11.length c0_11, .int .i64 a0_12]) (t := 68) ?hr ?_; (case hd => rfl); (case hg => rfl); (case hr => first | (go_simp; done) | (go_simp; rfl)); intro gb384 hg w41 hbox hb; have BK384 := am (hbox); have GW384 := am ((by rw [hg]; exact (below_size (pkh HB.out)) : w.heap.size ≤ gb384)); replace HB := am (below_step (pkh HB.out) hb); have GE384 := GW384; clear hb hbox hg; obtain ⟨hcz42_0, hcz42_1, hcz42_2, hcz42_3, hcz42_4, hcz42_5, hcz42_6, hcz42_7, hcz42_8, hcz42_9, hcz42_10, hcz42_11, hcz42_12, hfz42_0, hfz42_1, hfz42_2, hfz42_3, hfz42_4, hfz42_5, hfz42_6, hfz42_7, hfz42_8, hfz42_9, hfz42_10, hfz42_11, hfz42_12⟩ := pq13 BK384.out) | ((with_reducible refine gate_callee (f := 50) rfl ?_); refine goesL_ (some 7) rfl rfl Try.func50 (by kernel_rfl) rfl #[.agg #[.slice A0_0 l0_0.length c0_0], .slice A0_1 l0_1.length c0_1] rfl (by (try simp only [List.map_toArray, List.map_cons, List.map_nil]); first | done | rfl | (simp only [List.length_drop, List.length_take]; rfl)) ?_; (with_reducible refine (impl_MemOk.calls k _ _ l0_0 _ _ l0_1 true _ ?side1 ?side2 ?side3 ?side4 A2.out).mono ?_); (case side1 => exact pkc (Kd.C_below HR0_0.out HB.out)); (case side2 => exact HC0_0.out); (case side3 => exact pkc (Kd.C_below HR0_1.out HB.out)); (case side4 => exact HC0_1.out); rintro e w43 ⟨rfl, hb⟩; refine ⟨_, rfl, ?_⟩; replace BK384 := am (blk_below (pkb BK384.out) hb); replace HB := am (below_step (pkh HB.out) hb); (try clear hb); (try clear hb2); (try clear hk); (try clear hi); obtain ⟨hcz44_0, hcz44_1, hcz44_2, hcz44_3, hcz44_4, hcz44_5, hcz44_6, hcz44_7, hcz44_8, hcz44_9, hcz44_10, hcz44_11, hcz44_12, hfz44_0, hfz44_1, hfz44_2, hfz44_3, hfz44_4, hfz44_5, hfz44_6, hfz44_7, hfz44_8, hfz44_9, hfz44_10, hfz44_11, hfz44_12⟩ := pq13 BK384.out) | (go_at_call 51; (with_reducible refine (impl_StoreOk.calls a0_4 a0_5 a0_6 a0_7 true _ A4.out).mono ?_); rintro e w45 ⟨rfl, hb⟩; replace BK384 := am (blk_below (pkb BK384.out) hb); replace HB := am (below_step (pkh HB.out) hb); (try clear hb); (try clear hb2); (try clear hk); (try clear hi); obtain ⟨hcz46_0, hcz46_1, hcz46_2, hcz46_3, hcz46_4, hcz46_5, hcz46_6, hcz46_7, hcz46_8, hcz46_9, hcz46_10, hcz46_11, hcz46_12, hfz46_0, hfz46_1, hfz46_2, hfz46_3, hfz46_4, hfz46_5, hfz46_6, hfz46_7, hfz46_8, hfz46_9, hfz46_10, hfz46_11, hfz46_12⟩ := pq13 BK384.out) | (go_at_call 52; (with_reducible refine (impl_areValues.calls k _ _ l0_2 true _ ?side1 ?side2 A6.out).mono ?_); (case side1 => exact pkc (Kd.C_below HR0_2.out HB.out)); (case side2 => exact HC0_2.out); rintro e w' ⟨rfl, ⟨nd, rfl⟩⟩) | (go_at_call 31; (with_reducible refine (impl_within.calls a0_3 0 400000 false _ A8.out).mono ?_); rintro e w' ⟨rfl, ⟨nd, rfl⟩⟩))
     go_ret
     exact ⟨by first | rfl | (simp [errW_none, errW_some] <;> rfl) | (simp [*, errW_none, errW_some] <;> rfl), by repeat (first | (with_reducible first | exact HB.out | apply bA | apply bN | apply b1 | refine bS ?_ (by assumption)) | exact HB.out)⟩
   ·replace c7 := Bool.eq_false_iff.mpr c7
    subst c7
    have H1 : (some false) = some r := by rw [if_neg (show ¬ (false = true) by decide)] at H; exact H
    clear H; have H := H1; clear H1; obtain rfl := Option.some.inj H; go_enter Try.func25, Try.ntmps25
    go_wp2_with (first | ((with_reducible refine gate_dst (N := 1) rfl ?_); refine box_event ?hg (N := 1) ?hd (cs := #[.slice A0_0 l0_0.length c0_0, .slice A0_1 l0_1.length c0_1, .slice A0_2 l0_2.length c0_2, .int .i64 a0_3, .int .i64 a0_4, .int .i64 a0_5, .int .i64 a0_6, .int .i64 a0_7, .int .i64 a0_8, .int .i64 a0_9, .int .i64 a0_10, .slice A0_11 l0_11.length c0_11, .int .i64 a0_12]) (t := 68) ?hr ?_; (case hd => rfl); (case hg => rfl); (case hr => first | (go_simp; done) | (go_simp; rfl)); intro gb384 hg w47 hbox hb; have BK384 := am (hbox); have GW384 := am ((by rw [hg]; exact (below_size (pkh HB.out)) : w.heap.size ≤ gb384)); replace HB := am (below_step (pkh HB.out) hb); have GE384 := GW384; clear hb hbox hg; obtain ⟨hcz48_0, hcz48_1, hcz48_2, hcz48_3, hcz48_4, hcz48_5, hcz48_6, hcz48_7, hcz48_8, hcz48_9, hcz48_10, hcz48_11, hcz48_12, hfz48_0, hfz48_1, hfz48_2, hfz48_3, hfz48_4, hfz48_5, hfz48_6, hfz48_7, hfz48_8, hfz48_9, hfz48_10, hfz48_11, hfz48_12⟩ := pq13 BK384.out) | ((with_reducible refine gate_callee (f := 50) rfl ?_); refine goesL_ (some 7) rfl rfl Try.func50 (by kernel_rfl) rfl #[.agg #[.slice A0_0 l0_0.length c0_0], .slice A0_1 l0_1.length c0_1] rfl (by (try simp only [List.map_toArray, List.map_cons, List.map_nil]); first | done | rfl | (simp only [List.length_drop, List.length_take]; rfl)) ?_; (with_reducible refine (impl_MemOk.calls k _ _ l0_0 _ _ l0_1 true _ ?side1 ?side2 ?side3 ?side4 A2.out).mono ?_); (case side1 => exact pkc (Kd.C_below HR0_0.out HB.out)); (case side2 => exact HC0_0.out); (case side3 => exact pkc (Kd.C_below HR0_1.out HB.out)); (case side4 => exact HC0_1.out); rintro e w49 ⟨rfl, hb⟩; refine ⟨_, rfl, ?_⟩; replace BK384 := am (blk_below (pkb BK384.out) hb); replace HB := am (below_step (pkh HB.out) hb); (try clear hb); (try clear hb2); (try clear hk); (try clear hi); obtain ⟨hcz50_0, hcz50_1, hcz50_2, hcz50_3, hcz50_4, hcz50_5, hcz50_6, hcz50_7, hcz50_8, hcz50_9, hcz50_10, hcz50_11, hcz50_12, hfz50_0, hfz50_1, hfz50_2, hfz50_3, hfz50_4, hfz50_5, hfz50_6, hfz50_7, hfz50_8, hfz50_9, hfz50_10, hfz50_11, hfz50_12⟩ := pq13 BK384.out) | (go_at_call 51; (with_reducible refine (impl_StoreOk.calls a0_4 a0_5 a0_6 a0_7 true _ A4.out).mono ?_); rintro e w51 ⟨rfl, hb⟩; replace BK384 := am (blk_below (pkb BK384.out) hb); replace HB := am (below_step (pkh HB.out) hb); (try clear hb); (try clear hb2); (try clear hk); (try clear hi); obtain ⟨hcz52_0, hcz52_1, hcz52_2, hcz52_3, hcz52_4, hcz52_5, hcz52_6, hcz52_7, hcz52_8, hcz52_9, hcz52_10, hcz52_11, hcz52_12, hfz52_0, hfz52_1, hfz52_2, hfz52_3, hfz52_4, hfz52_5, hfz52_6, hfz52_7, hfz52_8, hfz52_9, hfz52_10, hfz52_11, hfz52_12⟩ := pq13 BK384.out) | (go_at_call 52; (with_reducible refine (impl_areValues.calls k _ _ l0_2 false _ ?side1 ?side2 A6.out).mono ?_); (case side1 => exact pkc (Kd.C_below HR0_2.out HB.out)); (case side2 => exact HC0_2.out); rintro e w' ⟨rfl, ⟨nd, rfl⟩⟩))
    go_ret
    exact ⟨by first | rfl | (simp [errW_none, errW_some] <;> rfl) | (simp [*, errW_none, errW_some] <;> rfl), by repeat (first | (with_reducible first | exact HB.out | apply bA | apply bN | apply b1 | refine bS ?_ (by assumption)) | exact HB.out)⟩
  ·replace c5 := Bool.eq_false_iff.mpr c5
   subst c5
   have H1 : (some false) = some r := by rw [if_neg (show ¬ (false = true) by decide)] at H; exact H
   clear H; have H := H1; clear H1; obtain rfl := Option.some.inj H; go_enter Try.func25, Try.ntmps25
   go_wp2_with (first | ((with_reducible refine gate_dst (N := 1) rfl ?_); refine box_event ?hg (N := 1) ?hd (cs := #[.slice A0_0 l0_0.length c0_0, .slice A0_1 l0_1.length c0_1, .slice A0_2 l0_2.length c0_2, .int .i64 a0_3, .int .i64 a0_4, .int .i64 a0_5, .int .i64 a0_6, .int .i64 a0_7, .int .i64 a0_8, .int .i64 a0_9, .int .i64 a0_10, .slice A0_11 l0_11.length c0_11, .int .i64 a0_12]) (t := 68) ?hr ?_; (case hd => rfl); (case hg => rfl); (case hr => first | (go_simp; done) | (go_simp; rfl)); intro gb384 hg w53 hbox hb; have BK384 := am (hbox); have GW384 := am ((by rw [hg]; exact (below_size (pkh HB.out)) : w.heap.size ≤ gb384)); replace HB := am (below_step (pkh HB.out) hb); have GE384 := GW384; clear hb hbox hg; obtain ⟨hcz54_0, hcz54_1, hcz54_2, hcz54_3, hcz54_4, hcz54_5, hcz54_6, hcz54_7, hcz54_8, hcz54_9, hcz54_10, hcz54_11, hcz54_12, hfz54_0, hfz54_1, hfz54_2, hfz54_3, hfz54_4, hfz54_5, hfz54_6, hfz54_7, hfz54_8, hfz54_9, hfz54_10, hfz54_11, hfz54_12⟩ := pq13 BK384.out) | ((with_reducible refine gate_callee (f := 50) rfl ?_); refine goesL_ (some 7) rfl rfl Try.func50 (by kernel_rfl) rfl #[.agg #[.slice A0_0 l0_0.length c0_0], .slice A0_1 l0_1.length c0_1] rfl (by (try simp only [List.map_toArray, List.map_cons, List.map_nil]); first | done | rfl | (simp only [List.length_drop, List.length_take]; rfl)) ?_; (with_reducible refine (impl_MemOk.calls k _ _ l0_0 _ _ l0_1 true _ ?side1 ?side2 ?side3 ?side4 A2.out).mono ?_); (case side1 => exact pkc (Kd.C_below HR0_0.out HB.out)); (case side2 => exact HC0_0.out); (case side3 => exact pkc (Kd.C_below HR0_1.out HB.out)); (case side4 => exact HC0_1.out); rintro e w55 ⟨rfl, hb⟩; refine ⟨_, rfl, ?_⟩; replace BK384 := am (blk_below (pkb BK384.out) hb); replace HB := am (below_step (pkh HB.out) hb); (try clear hb); (try clear hb2); (try clear hk); (try clear hi); obtain ⟨hcz56_0, hcz56_1, hcz56_2, hcz56_3, hcz56_4, hcz56_5, hcz56_6, hcz56_7, hcz56_8, hcz56_9, hcz56_10, hcz56_11, hcz56_12, hfz56_0, hfz56_1, hfz56_2, hfz56_3, hfz56_4, hfz56_5, hfz56_6, hfz56_7, hfz56_8, hfz56_9, hfz56_10, hfz56_11, hfz56_12⟩ := pq13 BK384.out) | (go_at_call 51; (with_reducible refine (impl_StoreOk.calls a0_4 a0_5 a0_6 a0_7 false _ A4.out).mono ?_); rintro e w57 ⟨rfl, hb⟩; replace BK384 := am (blk_below (pkb BK384.out) hb); replace HB := am (below_step (pkh HB.out) hb); (try clear hb); (try clear hb2); (try clear hk); (try clear hi)))
   go_ret
   exact ⟨by first | rfl | (simp [errW_none, errW_some] <;> rfl) | (simp [*, errW_none, errW_some] <;> rfl), by repeat (first | (with_reducible first | exact HB.out | apply bA | apply bN | apply b1 | refine bS ?_ (by assumption)) | exact HB.out)⟩
 ·replace c3 := Bool.eq_false_iff.mpr c3
  subst c3
  have H1 : (some false) = some r := by rw [if_neg (show ¬ (false = true) by decide)] at H; exact H
  clear H; have H := H1; clear H1; obtain rfl := Option.some.inj H; go_enter Try.func25, Try.ntmps25
  go_wp2_with (first | ((with_reducible refine gate_dst (N := 1) rfl ?_); refine box_event ?hg (N := 1) ?hd (cs := #[.slice A0_0 l0_0.length c0_0, .slice A0_1 l0_1.length c0_1, .slice A0_2 l0_2.length c0_2, .int .i64 a0_3, .int .i64 a0_4, .int .i64 a0_5, .int .i64 a0_6, .int .i64 a0_7, .int .i64 a0_8, .int .i64 a0_9, .int .i64 a0_10, .slice A0_11 l0_11.length c0_11, .int .i64 a0_12]) (t := 68) ?hr ?_; (case hd => rfl); (case hg => rfl); (case hr => first | (go_simp; done) | (go_simp; rfl)); intro gb384 hg w58 hbox hb; have BK384 := am (hbox); have GW384 := am ((by rw [hg]; exact (below_size (pkh HB.out)) : w.heap.size ≤ gb384)); replace HB := am (below_step (pkh HB.out) hb); have GE384 := GW384; clear hb hbox hg; obtain ⟨hcz59_0, hcz59_1, hcz59_2, hcz59_3, hcz59_4, hcz59_5, hcz59_6, hcz59_7, hcz59_8, hcz59_9, hcz59_10, hcz59_11, hcz59_12, hfz59_0, hfz59_1, hfz59_2, hfz59_3, hfz59_4, hfz59_5, hfz59_6, hfz59_7, hfz59_8, hfz59_9, hfz59_10, hfz59_11, hfz59_12⟩ := pq13 BK384.out) | ((with_reducible refine gate_callee (f := 50) rfl ?_); refine goesL_ (some 7) rfl rfl Try.func50 (by kernel_rfl) rfl #[.agg #[.slice A0_0 l0_0.length c0_0], .slice A0_1 l0_1.length c0_1] rfl (by (try simp only [List.map_toArray, List.map_cons, List.map_nil]); first | done | rfl | (simp only [List.length_drop, List.length_take]; rfl)) ?_; (with_reducible refine (impl_MemOk.calls k _ _ l0_0 _ _ l0_1 false _ ?side1 ?side2 ?side3 ?side4 A2.out).mono ?_); (case side1 => exact pkc (Kd.C_below HR0_0.out HB.out)); (case side2 => exact HC0_0.out); (case side3 => exact pkc (Kd.C_below HR0_1.out HB.out)); (case side4 => exact HC0_1.out); rintro e w60 ⟨rfl, hb⟩; refine ⟨_, rfl, ?_⟩; replace BK384 := am (blk_below (pkb BK384.out) hb); replace HB := am (below_step (pkh HB.out) hb); (try clear hb); (try clear hb2); (try clear hk); (try clear hi)))
  go_ret
  exact ⟨by first | rfl | (simp [errW_none, errW_some] <;> rfl) | (simp [*, errW_none, errW_some] <;> rfl), by repeat (first | (with_reducible first | exact HB.out | apply bA | apply bN | apply b1 | refine bS ?_ (by assumption)) | exact HB.out)⟩

end Go.Proofs.Ytdmmogcpamgdnaa.PFnExactNodeOk
