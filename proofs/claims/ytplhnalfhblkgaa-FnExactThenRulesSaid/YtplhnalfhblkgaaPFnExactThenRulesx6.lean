-- written by xprint.py for this seat
import Derived.Test.YtplhnalfhblkgaaPFnExactThenRulesx0
import Derived.Test.YtplhnalfhblkgaaPFnExactThenRulesx1
import Derived.Test.YtplhnalfhblkgaaPFnExactThenRulesx2
import Derived.Test.YtplhnalfhblkgaaPFnExactThenRulesx4
import Derived.Test.YtplhnalfhblkgaaPFnExactThenRulesx5
namespace Go.Proofs.Ytplhnalfhblkgaa.PFnExactThenRules
open Go.RowKit Go.Proofs.YtplhnalfhblkgaaW.PrintWords Go.Proofs.YtplhnalfhblkgaaW.PrintLast Go.Proofs.YtplhnalfhblkgaaW.PrintMore
attribute [local go_sem] max2_int min2_int max_two min_two max_three min_three max_four min_four   -- for this text's walks alone
set_option linter.unusedVariables false
set_option linter.unusedSimpArgs false

/-! ### laws_FnExactThenRules: function 5 -/
mutual
def laws_FnExactThenRules.j0 : Nat → List Int → List Int → Bool → List Int → List Int → Bool → Bool → List (S162) → List (S162) → List (S110) → List (S110) → Option (Bool)
 | 0, _, _, _, _, _, _, _, _, _, _, _ => none
 | k + 1, x1, x8, x9, x11, x13, x14, x64, x260000, x261000, x280000, x287000 => if x64 = true then (none) else ((laws_toRules.f k x260000).bind fun t292 => ((laws_eqRules.f k x280000 t292).bind fun t295 => (if t295 = true then ((laws_toIntS.f k x1).bind fun t296 => ((laws_eqIntS.f k x11 t296).bind fun t299 => (if t299 = true then ((laws_toRules.f k x261000).bind fun t300 => ((laws_eqRules.f k x287000 t300).bind fun t303 => (if t303 = true then ((laws_markRules.f k x280000 1).bind fun bt304 => ((laws_markIntS.f k x11 bt304.1).bind fun bt306 => ((laws_markRules.f k x287000 bt306.1).bind fun bt308 => (if bt308.1 < 0 then (laws_FnExactThenRules.j1 k x1 x8 x9 x13 true x260000 x261000) else ((laws_eqIntS.f k x13 x8).bind fun t310 => (if t310 = true then (laws_FnExactThenRules.j1 k x1 x8 x9 x13 (x14 != x9) x260000 x261000) else (laws_FnExactThenRules.j1 k x1 x8 x9 x13 true x260000 x261000))))))) else (none)))) else (none)))) else (none))))
def laws_FnExactThenRules.j1 : Nat → List Int → List Int → Bool → List Int → Bool → List (S162) → List (S162) → Option (Bool)
 | 0, _, _, _, _, _, _, _ => none
 | k + 1, x1, x8, x9, x13, x101, x260000, x261000 => if x101 = true then (none) else ((laws_markIntS.f k x13 1).bind fun bt311 => ((laws_heldIntS.f k bt311.2 1).bind fun t313 => (if t313 < 0 then (none) else (if t313 = bt311.1 then ((laws_toRules.f k x260000).bind fun t314 => ((laws_toIntS.f k x1).bind fun t317 => ((laws_toRules.f k x261000).bind fun t320 => ((impl_ThenRules.f k t314 t317 t320).bind fun bt323 => ((laws_eqIntS.f k bt323.1 x8).bind fun t327 => (if t327 = true then (laws_FnExactThenRules.j2 k bt311.2 bt311.1 (bt323.2 != x9)) else (laws_FnExactThenRules.j2 k bt311.2 bt311.1 true))))))) else (none)))))
def laws_FnExactThenRules.j2 : Nat → List Int → Int → Bool → Option (Bool)
 | 0, _, _, _ => none
 | k + 1, x13, x16, x131 => if x131 = true then (none) else ((laws_heldIntS.f k x13 1).bind fun t328 => (if t328 < 0 then (none) else (if t328 = x16 then (some true) else (none))))
end
def laws_FnExactThenRules.f (k : Nat) (l0_0 : List (S162)) (l1 : List Int) (l2_0 : List (S162)) : Option (Bool) := if (l1.length : Int) > 1048576 then (some true) else ((laws_szRules.f l0_0 1048576).bind fun t261 => (if t261 < 0 then (some true) else ((laws_szRules.f l2_0 t261).bind fun t262 => (if t262 < 0 then (some true) else ((laws_toRules.f k l0_0).bind fun t263 => ((laws_toIntS.f k l1).bind fun t266 => ((laws_toRules.f k l2_0).bind fun t269 => ((spec_ThenRules.f k t263 t266 t269).bind fun bt272 => ((laws_toRules.f k l0_0).bind fun t276 => ((laws_toIntS.f k l1).bind fun t280 => ((laws_toRules.f k l2_0).bind fun t283 => ((impl_ThenRules.f k t276 t280 t283).bind fun bt287 => ((laws_eqIntS.f k bt287.1 bt272.1).bind fun t291 => (if t291 = true then (laws_FnExactThenRules.j0 k l1 bt272.1 bt272.2 t280 bt287.1 bt287.2 (bt287.2 != bt272.2) l0_0 l2_0 t276 t283) else (laws_FnExactThenRules.j0 k l1 bt272.1 bt272.2 t280 bt287.1 bt287.2 true l0_0 l2_0 t276 t283)))))))))))))))
theorem laws_FnExactThenRules.mono_l : ∀ k, (∀ y0 y1 y2 y3 y4 y5 y6 y7 y8 y9 y10, LeO (laws_FnExactThenRules.j0 k y0 y1 y2 y3 y4 y5 y6 y7 y8 y9 y10) (laws_FnExactThenRules.j0 (k + 1) y0 y1 y2 y3 y4 y5 y6 y7 y8 y9 y10)) ∧ (∀ y0 y1 y2 y3 y4 y5 y6, LeO (laws_FnExactThenRules.j1 k y0 y1 y2 y3 y4 y5 y6) (laws_FnExactThenRules.j1 (k + 1) y0 y1 y2 y3 y4 y5 y6)) ∧ (∀ y0 y1 y2, LeO (laws_FnExactThenRules.j2 k y0 y1 y2) (laws_FnExactThenRules.j2 (k + 1) y0 y1 y2))
 | 0 => ⟨fun _ _ _ _ _ _ _ _ _ _ _ r h => by simp [laws_FnExactThenRules.j0] at h, fun _ _ _ _ _ _ _ r h => by simp [laws_FnExactThenRules.j1] at h, fun _ _ _ r h => by simp [laws_FnExactThenRules.j2] at h⟩
 | k + 1 => by
  obtain ⟨ih0, ih1, ih2⟩ := laws_FnExactThenRules.mono_l k
  refine ⟨?_, ?_, ?_⟩
  ·intro y0 y1 y2 y3 y4 y5 y6 y7 y8 y9 y10
   unfold laws_FnExactThenRules.j0
   repeat' first
   | (with_reducible exact ih0 _ _ _ _ _ _ _ _ _ _ _)
   | (with_reducible exact ih1 _ _ _ _ _ _ _)
   | (with_reducible exact ih2 _ _ _)
   | (with_reducible exact impl_ThenRules.mono _ _ _ _)
   | (with_reducible exact laws_eqIntS.mono _ _ _)
   | (with_reducible exact laws_eqRules.mono _ _ _)
   | (with_reducible exact laws_heldIntS.mono _ _ _)
   | (with_reducible exact laws_markIntS.mono _ _ _)
   | (with_reducible exact laws_markRules.mono _ _ _)
   | (with_reducible exact laws_toIntS.mono _ _)
   | (with_reducible exact laws_toRules.mono _ _)
   | (with_reducible exact spec_ThenRules.mono _ _ _ _)
   | (with_reducible exact LeO.refl _)
   | (with_reducible exact LeO.none _)
   | (with_reducible refine LeO.ite ?_ ?_)
   | (with_reducible refine LeO.bind ?_ (fun _ => ?_))
   | exact ih0 _ _ _ _ _ _ _ _ _ _ _
   | exact ih1 _ _ _ _ _ _ _
   | exact ih2 _ _ _
   | exact impl_ThenRules.mono _ _ _ _
   | exact laws_eqIntS.mono _ _ _
   | exact laws_eqRules.mono _ _ _
   | exact laws_heldIntS.mono _ _ _
   | exact laws_markIntS.mono _ _ _
   | exact laws_markRules.mono _ _ _
   | exact laws_toIntS.mono _ _
   | exact laws_toRules.mono _ _
   | exact spec_ThenRules.mono _ _ _ _
   | exact LeO.none _
   | refine LeO.ite ?_ ?_
   | refine LeO.bind ?_ (fun _ => ?_)
  ·intro y0 y1 y2 y3 y4 y5 y6
   unfold laws_FnExactThenRules.j1
   repeat' first
   | (with_reducible exact ih0 _ _ _ _ _ _ _ _ _ _ _)
   | (with_reducible exact ih1 _ _ _ _ _ _ _)
   | (with_reducible exact ih2 _ _ _)
   | (with_reducible exact impl_ThenRules.mono _ _ _ _)
   | (with_reducible exact laws_eqIntS.mono _ _ _)
   | (with_reducible exact laws_eqRules.mono _ _ _)
   | (with_reducible exact laws_heldIntS.mono _ _ _)
   | (with_reducible exact laws_markIntS.mono _ _ _)
   | (with_reducible exact laws_markRules.mono _ _ _)
   | (with_reducible exact laws_toIntS.mono _ _)
   | (with_reducible exact laws_toRules.mono _ _)
   | (with_reducible exact spec_ThenRules.mono _ _ _ _)
   | (with_reducible exact LeO.refl _)
   | (with_reducible exact LeO.none _)
   | (with_reducible refine LeO.ite ?_ ?_)
   | (with_reducible refine LeO.bind ?_ (fun _ => ?_))
   | exact ih0 _ _ _ _ _ _ _ _ _ _ _
   | exact ih1 _ _ _ _ _ _ _
   | exact ih2 _ _ _
   | exact impl_ThenRules.mono _ _ _ _
   | exact laws_eqIntS.mono _ _ _
   | exact laws_eqRules.mono _ _ _
   | exact laws_heldIntS.mono _ _ _
   | exact laws_markIntS.mono _ _ _
   | exact laws_markRules.mono _ _ _
   | exact laws_toIntS.mono _ _
   | exact laws_toRules.mono _ _
   | exact spec_ThenRules.mono _ _ _ _
   | exact LeO.none _
   | refine LeO.ite ?_ ?_
   | refine LeO.bind ?_ (fun _ => ?_)
  ·intro y0 y1 y2
   unfold laws_FnExactThenRules.j2
   repeat' first
   | (with_reducible exact ih0 _ _ _ _ _ _ _ _ _ _ _)
   | (with_reducible exact ih1 _ _ _ _ _ _ _)
   | (with_reducible exact ih2 _ _ _)
   | (with_reducible exact impl_ThenRules.mono _ _ _ _)
   | (with_reducible exact laws_eqIntS.mono _ _ _)
   | (with_reducible exact laws_eqRules.mono _ _ _)
   | (with_reducible exact laws_heldIntS.mono _ _ _)
   | (with_reducible exact laws_markIntS.mono _ _ _)
   | (with_reducible exact laws_markRules.mono _ _ _)
   | (with_reducible exact laws_toIntS.mono _ _)
   | (with_reducible exact laws_toRules.mono _ _)
   | (with_reducible exact spec_ThenRules.mono _ _ _ _)
   | (with_reducible exact LeO.refl _)
   | (with_reducible exact LeO.none _)
   | (with_reducible refine LeO.ite ?_ ?_)
   | (with_reducible refine LeO.bind ?_ (fun _ => ?_))
   | exact ih0 _ _ _ _ _ _ _ _ _ _ _
   | exact ih1 _ _ _ _ _ _ _
   | exact ih2 _ _ _
   | exact impl_ThenRules.mono _ _ _ _
   | exact laws_eqIntS.mono _ _ _
   | exact laws_eqRules.mono _ _ _
   | exact laws_heldIntS.mono _ _ _
   | exact laws_markIntS.mono _ _ _
   | exact laws_markRules.mono _ _ _
   | exact laws_toIntS.mono _ _
   | exact laws_toRules.mono _ _
   | exact spec_ThenRules.mono _ _ _ _
   | exact LeO.none _
   | refine LeO.ite ?_ ?_
   | refine LeO.bind ?_ (fun _ => ?_)
theorem laws_FnExactThenRules.mono : ∀ a0 a1 a2 k, LeO (laws_FnExactThenRules.f k a0 a1 a2) (laws_FnExactThenRules.f (k + 1) a0 a1 a2) := by
 intro a0 a1 a2 k
 obtain ⟨ih0, ih1, ih2⟩ := laws_FnExactThenRules.mono_l k
 unfold laws_FnExactThenRules.f
 repeat' first
   | (with_reducible exact ih0 _ _ _ _ _ _ _ _ _ _ _)
   | (with_reducible exact ih1 _ _ _ _ _ _ _)
   | (with_reducible exact ih2 _ _ _)
   | (with_reducible exact impl_ThenRules.mono _ _ _ _)
   | (with_reducible exact laws_eqIntS.mono _ _ _)
   | (with_reducible exact laws_eqRules.mono _ _ _)
   | (with_reducible exact laws_heldIntS.mono _ _ _)
   | (with_reducible exact laws_markIntS.mono _ _ _)
   | (with_reducible exact laws_markRules.mono _ _ _)
   | (with_reducible exact laws_toIntS.mono _ _)
   | (with_reducible exact laws_toRules.mono _ _)
   | (with_reducible exact spec_ThenRules.mono _ _ _ _)
   | (with_reducible exact LeO.refl _)
   | (with_reducible exact LeO.none _)
   | (with_reducible refine LeO.ite ?_ ?_)
   | (with_reducible refine LeO.bind ?_ (fun _ => ?_))
   | exact ih0 _ _ _ _ _ _ _ _ _ _ _
   | exact ih1 _ _ _ _ _ _ _
   | exact ih2 _ _ _
   | exact impl_ThenRules.mono _ _ _ _
   | exact laws_eqIntS.mono _ _ _
   | exact laws_eqRules.mono _ _ _
   | exact laws_heldIntS.mono _ _ _
   | exact laws_markIntS.mono _ _ _
   | exact laws_markRules.mono _ _ _
   | exact laws_toIntS.mono _ _
   | exact laws_toRules.mono _ _
   | exact spec_ThenRules.mono _ _ _ _
   | exact LeO.none _
   | refine LeO.ite ?_ ?_
   | refine LeO.bind ?_ (fun _ => ?_)
def laws_FnExactThenRules.T10 : Bool × List (List Nat × List Nat) := (true, [([], []), ([0], [0]), ([], []), ([2, 1], [2]), ([], []), ([4, 3], [4]), ([1, 3, 5, 5], [1, 3, 5]), ([6], [6]), ([7], [7]), ([7], [7]), ([8, 6, 0, 1, 2, 3, 4, 5, 6, 7, 8], [8]), ([9, 10, 0, 1, 2, 3, 4, 5, 6, 7, 8, 9, 10], [9])])
def laws_FnExactThenRules.B10 : List Nat := [0, 1, 0, 7, 0, 31, 63, 127, 255, 255, 511, 2047]
theorem laws_FnExactThenRules.tab10 : rtab .any (opsOf Try.f5 10) = laws_FnExactThenRules.T10 := by kernel_rfl
theorem laws_FnExactThenRules.bits10 : waitsOk laws_FnExactThenRules.T10.2 laws_FnExactThenRules.B10 = true := by kernel_rfl
def laws_FnExactThenRules.T37 : Bool × List (List Nat × List Nat) := (true, [([], []), ([0], [0]), ([], []), ([2, 1], [2]), ([], []), ([4, 3], [4]), ([1, 3, 5, 5], [1, 3, 5]), ([6], [6]), ([7], [7]), ([7], [7]), ([8, 6, 0, 1, 2, 3, 4, 5, 6, 7, 8], [8]), ([9, 10, 0, 1, 2, 3, 4, 5, 6, 7, 8, 9, 10], [9])])
def laws_FnExactThenRules.B37 : List Nat := [0, 1, 0, 7, 0, 31, 63, 127, 255, 255, 511, 2047]
theorem laws_FnExactThenRules.tab37 : rtab .any (opsOf Try.f5 37) = laws_FnExactThenRules.T37 := by kernel_rfl
theorem laws_FnExactThenRules.bits37 : waitsOk laws_FnExactThenRules.T37.2 laws_FnExactThenRules.B37 = true := by kernel_rfl
set_option maxHeartbeats 8000000 in
set_option maxRecDepth 100000 in
theorem laws_FnExactThenRules.calls (k : Nat) (A0_0 : Option Addr) (c0_0 : Nat) (l0_0 : List (S162)) (A1 : Option Addr) (c1 : Nat) (l1 : List Int) (A2_0 : Option Addr) (c2_0 : Nat) (l2_0 : List (S162)) (r : Bool) (w : World) (hr0_0 : Kd.C k162 w A0_0 l0_0.length l0_0) (hc0_0 : l0_0.length ≤ c0_0) (hr1 : Kd.C (Kd.int .i64) w A1 l1.length l1) (hc1 : l1.length ≤ c1) (hr2_0 : Kd.C k162 w A2_0 l2_0.length l2_0) (hc2_0 : l2_0.length ≤ c2_0) (h : laws_FnExactThenRules.f k l0_0 l1 l2_0 = some r) :
  Calls Try.prog 5 #[.agg #[.slice A0_0 l0_0.length c0_0], .slice A1 l1.length c1, .agg #[.slice A2_0 l2_0.length c2_0]] w fun e w' => e = .returned (.bool r) ∧ Below w.heap.size w w' := by
 have hu25 := Try.underlying25
 have hu32 := Try.underlying32
 have HR0_0 := Aside0.mk hr0_0
 have HC0_0 := Aside0.mk hc0_0
 clear hr0_0 hc0_0
 have HR1 := Aside0.mk hr1
 have HC1 := Aside0.mk hc1
 clear hr1 hc1
 have HR2_0 := Aside0.mk hr2_0
 have HC2_0 := Aside0.mk hc2_0
 clear hr2_0 hc2_0
 have HB := Aside0.mk (Below.refl w.heap.size w)
 have H : (if (l1.length : Int) > 1048576 then (some true) else ((laws_szRules.f l0_0 1048576).bind fun t261 => (if t261 < 0 then (some true) else ((laws_szRules.f l2_0 t261).bind fun t262 => (if t262 < 0 then (some true) else ((laws_toRules.f k l0_0).bind fun t263 => ((laws_toIntS.f k l1).bind fun t266 => ((laws_toRules.f k l2_0).bind fun t269 => ((spec_ThenRules.f k t263 t266 t269).bind fun bt272 => ((laws_toRules.f k l0_0).bind fun t276 => ((laws_toIntS.f k l1).bind fun t280 => ((laws_toRules.f k l2_0).bind fun t283 => ((impl_ThenRules.f k t276 t280 t283).bind fun bt287 => ((laws_eqIntS.f k bt287.1 bt272.1).bind fun t291 => (if t291 = true then (laws_FnExactThenRules.j0 k l1 bt272.1 bt272.2 t280 bt287.1 bt287.2 (bt287.2 != bt272.2) l0_0 l2_0 t276 t283) else (laws_FnExactThenRules.j0 k l1 bt272.1 bt272.2 t280 bt287.1 bt287.2 true l0_0 l2_0 t276 t283)))))))))))))))) = some r := h
 clear h
 by_cases c4 : (l1.length : Int) > 1048576
 ·rw [if_pos c4] at H
  have c4b0 : decide (1048576 < (l1.length : Int)) = true := decide_eq_true c4
  have c4b1 : decide (1048576 < l1.length) = true := decide_eq_true (by omega)
  clear c4
  obtain rfl := Option.some.inj H
  go_enter Try.func5, Try.ntmps5
  go_wp2_with (first | ((with_reducible refine gate_dst (N := 3) rfl ?_); refine box_event ?hg (N := 3) ?hd (cs := #[.slice A0_0 l0_0.length c0_0]) (t := 25) ?hr ?_; (case hd => rfl); (case hg => rfl); (case hr => first | (go_simp; done) | (go_simp; rfl)); intro gb259 hg w5 hbox hb; have n0_ := Aside0.mk (below_step (by repeat (first | (with_reducible first | exact HB.out | apply below_alloc | apply pw_below_drewN | apply below_drew1) | exact HB.out)) hb); have n1_ := Aside0.mk (hbox); have n2_ := Aside0.mk ((by rw [hg]; exact (below_size (by repeat (first | (with_reducible first | exact HB.out | apply below_alloc | apply pw_below_drewN | apply below_drew1) | exact HB.out))) : w.heap.size ≤ gb259)); have n3_ := Aside0.mk ((by rw [hg]; exact (below_size (by repeat (first | (with_reducible first | exact HB.out | apply below_alloc | apply pw_below_drewN | apply below_drew1) | exact HB.out))) : w.heap.size ≤ gb259)); clear HB; have HB := n0_; have BK259 := n1_; have GW259 := n2_; have GE259 := n3_; clear n0_ n1_ n2_ n3_; clear hb hbox hg) | ((with_reducible refine gate_dst (N := 5) rfl ?_); refine box_event ?hg (N := 5) ?hd (cs := #[.slice A2_0 l2_0.length c2_0]) (t := 25) ?hr ?_; (case hd => rfl); (case hg => rfl); (case hr => first | (go_simp; done) | (go_simp; rfl)); intro gb260 hg w6 hbox hb; have n0_ := Aside0.mk (blk_below (g := gb259) (o := .cells #[.slice A0_0 l0_0.length c0_0] 25 (0, 0)) (pkb BK259.out) hb); have n1_ := Aside0.mk (below_step (by repeat (first | (with_reducible first | exact HB.out | apply below_alloc | apply pw_below_drewN | apply below_drew1 | refine below_set ?_ GE259.out) | exact HB.out)) hb); have n2_ := Aside0.mk (hbox); have n3_ := Aside0.mk ((by rw [hg]; exact (below_size (by repeat (first | (with_reducible first | exact HB.out | apply below_alloc | apply pw_below_drewN | apply below_drew1 | refine below_set ?_ GE259.out) | exact HB.out))) : w.heap.size ≤ gb260)); have n4_ := Aside0.mk ((by rw [hg]; exact (below_size (by repeat (first | (with_reducible first | exact HB.out | apply below_alloc | apply pw_below_drewN | apply below_drew1 | refine below_set ?_ GE259.out) | exact HB.out))) : w.heap.size ≤ gb260)); have n5_ := Aside0.mk ((by rw [hg]; exact Nat.ne_of_lt (blk_lt (g := gb259) (o := .cells #[.slice A0_0 l0_0.length c0_0] 25 (0, 0)) (pkb BK259.out)) : gb259 ≠ gb260)); have n6_ := Aside0.mk ((by rw [hg]; exact Nat.ne_of_gt (blk_lt (g := gb259) (o := .cells #[.slice A0_0 l0_0.length c0_0] 25 (0, 0)) (pkb BK259.out)) : gb260 ≠ gb259)); clear BK259; clear HB; have BK259 := n0_; have HB := n1_; have BK260 := n2_; have GW260 := n3_; have GE260 := n4_; have NB259_260 := n5_; have NB260_259 := n6_; clear n0_ n1_ n2_ n3_ n4_ n5_ n6_; clear hb hbox hg))
  go_ret
  exact ⟨by first | rfl | (simp [errW_none, errW_some] <;> rfl) | (simp [*, errW_none, errW_some] <;> rfl), by repeat (first | (with_reducible first | exact HB.out | apply below_alloc | apply pw_below_drewN | apply below_drew1 | refine below_set ?_ GE259.out | refine below_set ?_ GE260.out) | exact HB.out)⟩
 ·rw [if_neg c4] at H
  have c4b0 : decide (1048576 < (l1.length : Int)) = false := decide_eq_false c4
  have c4b1 : decide (1048576 < l1.length) = false := decide_eq_false (by omega)
  clear c4
  replace H := Option.bind_eq_some_iff.mp H
  obtain ⟨t261, A70, H⟩ := H
  replace H : (if t261 < 0 then (some true) else ((laws_szRules.f l2_0 t261).bind fun t262 => (if t262 < 0 then (some true) else ((laws_toRules.f k l0_0).bind fun t263 => ((laws_toIntS.f k l1).bind fun t266 => ((laws_toRules.f k l2_0).bind fun t269 => ((spec_ThenRules.f k t263 t266 t269).bind fun bt272 => ((laws_toRules.f k l0_0).bind fun t276 => ((laws_toIntS.f k l1).bind fun t280 => ((laws_toRules.f k l2_0).bind fun t283 => ((impl_ThenRules.f k t276 t280 t283).bind fun bt287 => ((laws_eqIntS.f k bt287.1 bt272.1).bind fun t291 => (if t291 = true then (laws_FnExactThenRules.j0 k l1 bt272.1 bt272.2 t280 bt287.1 bt287.2 (bt287.2 != bt272.2) l0_0 l2_0 t276 t283) else (laws_FnExactThenRules.j0 k l1 bt272.1 bt272.2 t280 bt287.1 bt287.2 true l0_0 l2_0 t276 t283)))))))))))))) = some r := H
  have A7 := Aside0.mk A70
  clear A70
  by_cases c8 : t261 < 0
  ·rw [if_pos c8] at H
   have c8b0 : decide (t261 < 0) = true := decide_eq_true c8
   clear c8
   obtain rfl := Option.some.inj H
   go_enter Try.func5, Try.ntmps5
   go_wp2_with (first | ((with_reducible refine gate_dst (N := 3) rfl ?_); refine box_event ?hg (N := 3) ?hd (cs := #[.slice A0_0 l0_0.length c0_0]) (t := 25) ?hr ?_; (case hd => rfl); (case hg => rfl); (case hr => first | (go_simp; done) | (go_simp; rfl)); intro gb259 hg w9 hbox hb; have n0_ := Aside0.mk (below_step (by repeat (first | (with_reducible first | exact HB.out | apply below_alloc | apply pw_below_drewN | apply below_drew1) | exact HB.out)) hb); have n1_ := Aside0.mk (hbox); have n2_ := Aside0.mk ((by rw [hg]; exact (below_size (by repeat (first | (with_reducible first | exact HB.out | apply below_alloc | apply pw_below_drewN | apply below_drew1) | exact HB.out))) : w.heap.size ≤ gb259)); have n3_ := Aside0.mk ((by rw [hg]; exact (below_size (by repeat (first | (with_reducible first | exact HB.out | apply below_alloc | apply pw_below_drewN | apply below_drew1) | exact HB.out))) : w.heap.size ≤ gb259)); clear HB; have HB := n0_; have BK259 := n1_; have GW259 := n2_; have GE259 := n3_; clear n0_ n1_ n2_ n3_; clear hb hbox hg) | ((with_reducible refine gate_dst (N := 5) rfl ?_); refine box_event ?hg (N := 5) ?hd (cs := #[.slice A2_0 l2_0.length c2_0]) (t := 25) ?hr ?_; (case hd => rfl); (case hg => rfl); (case hr => first | (go_simp; done) | (go_simp; rfl)); intro gb260 hg w10 hbox hb; have n0_ := Aside0.mk (blk_below (g := gb259) (o := .cells #[.slice A0_0 l0_0.length c0_0] 25 (0, 0)) (pkb BK259.out) hb); have n1_ := Aside0.mk (below_step (by repeat (first | (with_reducible first | exact HB.out | apply below_alloc | apply pw_below_drewN | apply below_drew1 | refine below_set ?_ GE259.out) | exact HB.out)) hb); have n2_ := Aside0.mk (hbox); have n3_ := Aside0.mk ((by rw [hg]; exact (below_size (by repeat (first | (with_reducible first | exact HB.out | apply below_alloc | apply pw_below_drewN | apply below_drew1 | refine below_set ?_ GE259.out) | exact HB.out))) : w.heap.size ≤ gb260)); have n4_ := Aside0.mk ((by rw [hg]; exact (below_size (by repeat (first | (with_reducible first | exact HB.out | apply below_alloc | apply pw_below_drewN | apply below_drew1 | refine below_set ?_ GE259.out) | exact HB.out))) : w.heap.size ≤ gb260)); have n5_ := Aside0.mk ((by rw [hg]; exact Nat.ne_of_lt (blk_lt (g := gb259) (o := .cells #[.slice A0_0 l0_0.length c0_0] 25 (0, 0)) (pkb BK259.out)) : gb259 ≠ gb260)); have n6_ := Aside0.mk ((by rw [hg]; exact Nat.ne_of_gt (blk_lt (g := gb259) (o := .cells #[.slice A0_0 l0_0.length c0_0] 25 (0, 0)) (pkb BK259.out)) : gb260 ≠ gb259)); clear BK259; clear HB; have BK259 := n0_; have HB := n1_; have BK260 := n2_; have GW260 := n3_; have GE260 := n4_; have NB259_260 := n5_; have NB260_259 := n6_; clear n0_ n1_ n2_ n3_ n4_ n5_ n6_; clear hb hbox hg; have hnb11 := NB259_260.out; have hnc11 := NB260_259.out; have hcz12_0 : w10.cell? ⟨gb259, 0, none⟩ = some (.slice A0_0 l0_0.length c0_0) := (blk_cell BK259.out 0).trans rfl; have hfz12_0 := blk_frozen BK259.out 0) | ((with_reducible refine gate_callee (f := 11) rfl ?_); refine goesL_ (some 25) rfl rfl Try.func11 (by kernel_rfl) rfl #[.agg #[.slice A0_0 l0_0.length c0_0], .int .i64 1048576] rfl (by (try simp only [List.map_toArray, List.map_cons, List.map_nil]); first | done | rfl | (simp only [List.length_drop, List.length_take]; rfl)) ?_; (with_reducible refine (laws_szRules.calls _ _ l0_0 1048576 t261 _ ?side1 ?side2 A7.out).mono ?_); (case side1 => repeat (first | exact (Kd.C_below HR0_0.out HB.out) | (with_reducible refine Kd.C_alloc ?_ _) | (with_reducible refine Kd.C_drewN ?_ _) | (with_reducible refine Kd.C_drew ?_))); (case side2 => exact HC0_0.out); rintro e w13 ⟨rfl, hb⟩; refine ⟨_, rfl, ?_⟩; have n0_ := Aside0.mk (blk_below (g := gb259) (o := .cells #[.slice A0_0 l0_0.length c0_0] 25 (0, 0)) (pkb BK259.out) hb); have n1_ := Aside0.mk (blk_below (g := gb260) (o := .cells #[.slice A2_0 l2_0.length c2_0] 25 (0, 0)) (pkb BK260.out) hb); have n2_ := Aside0.mk (below_step (by repeat (first | (with_reducible first | exact HB.out | apply below_alloc | apply pw_below_drewN | apply below_drew1 | refine below_set ?_ GE259.out | refine below_set ?_ GE260.out) | exact HB.out)) hb); clear BK259; clear BK260; clear HB; have BK259 := n0_; have BK260 := n1_; have HB := n2_; clear n0_ n1_ n2_; (try clear hb); (try clear hb2); (try clear hk); (try clear hi)))
   go_ret
   exact ⟨by first | rfl | (simp [errW_none, errW_some] <;> rfl) | (simp [*, errW_none, errW_some] <;> rfl), by repeat (first | (with_reducible first | exact HB.out | apply below_alloc | apply pw_below_drewN | apply below_drew1 | refine below_set ?_ GE259.out | refine below_set ?_ GE260.out) | exact HB.out)⟩
  ·rw [if_neg c8] at H
   have c8b0 : decide (t261 < 0) = false := decide_eq_false c8
   clear c8
   replace H := Option.bind_eq_some_iff.mp H
   obtain ⟨t262, A140, H⟩ := H
   replace H : (if t262 < 0 then (some true) else ((laws_toRules.f k l0_0).bind fun t263 => ((laws_toIntS.f k l1).bind fun t266 => ((laws_toRules.f k l2_0).bind fun t269 => ((spec_ThenRules.f k t263 t266 t269).bind fun bt272 => ((laws_toRules.f k l0_0).bind fun t276 => ((laws_toIntS.f k l1).bind fun t280 => ((laws_toRules.f k l2_0).bind fun t283 => ((impl_ThenRules.f k t276 t280 t283).bind fun bt287 => ((laws_eqIntS.f k bt287.1 bt272.1).bind fun t291 => (if t291 = true then (laws_FnExactThenRules.j0 k l1 bt272.1 bt272.2 t280 bt287.1 bt287.2 (bt287.2 != bt272.2) l0_0 l2_0 t276 t283) else (laws_FnExactThenRules.j0 k l1 bt272.1 bt272.2 t280 bt287.1 bt287.2 true l0_0 l2_0 t276 t283)))))))))))) = some r := H
   have A14 := Aside0.mk A140
   clear A140
   by_cases c15 : t262 < 0
   ·rw [if_pos c15] at H
    have c15b0 : decide (t262 < 0) = true := decide_eq_true c15
    clear c15
    obtain rfl := Option.some.inj H
    go_enter Try.func5, Try.ntmps5
    go_wp2_with (first | ((with_reducible refine gate_dst (N := 3) rfl ?_); refine box_event ?hg (N := 3) ?hd (cs := #[.slice A0_0 l0_0.length c0_0]) (t := 25) ?hr ?_; (case hd => rfl); (case hg => rfl); (case hr => first | (go_simp; done) | (go_simp; rfl)); intro gb259 hg w16 hbox hb; have n0_ := Aside0.mk (below_step (by repeat (first | (with_reducible first | exact HB.out | apply below_alloc | apply pw_below_drewN | apply below_drew1) | exact HB.out)) hb); have n1_ := Aside0.mk (hbox); have n2_ := Aside0.mk ((by rw [hg]; exact (below_size (by repeat (first | (with_reducible first | exact HB.out | apply below_alloc | apply pw_below_drewN | apply below_drew1) | exact HB.out))) : w.heap.size ≤ gb259)); have n3_ := Aside0.mk ((by rw [hg]; exact (below_size (by repeat (first | (with_reducible first | exact HB.out | apply below_alloc | apply pw_below_drewN | apply below_drew1) | exact HB.out))) : w.heap.size ≤ gb259)); clear HB; have HB := n0_; have BK259 := n1_; have GW259 := n2_; have GE259 := n3_; clear n0_ n1_ n2_ n3_; clear hb hbox hg) | ((with_reducible refine gate_dst (N := 5) rfl ?_); refine box_event ?hg (N := 5) ?hd (cs := #[.slice A2_0 l2_0.length c2_0]) (t := 25) ?hr ?_; (case hd => rfl); (case hg => rfl); (case hr => first | (go_simp; done) | (go_simp; rfl)); intro gb260 hg w17 hbox hb; have n0_ := Aside0.mk (blk_below (g := gb259) (o := .cells #[.slice A0_0 l0_0.length c0_0] 25 (0, 0)) (pkb BK259.out) hb); have n1_ := Aside0.mk (below_step (by repeat (first | (with_reducible first | exact HB.out | apply below_alloc | apply pw_below_drewN | apply below_drew1 | refine below_set ?_ GE259.out) | exact HB.out)) hb); have n2_ := Aside0.mk (hbox); have n3_ := Aside0.mk ((by rw [hg]; exact (below_size (by repeat (first | (with_reducible first | exact HB.out | apply below_alloc | apply pw_below_drewN | apply below_drew1 | refine below_set ?_ GE259.out) | exact HB.out))) : w.heap.size ≤ gb260)); have n4_ := Aside0.mk ((by rw [hg]; exact (below_size (by repeat (first | (with_reducible first | exact HB.out | apply below_alloc | apply pw_below_drewN | apply below_drew1 | refine below_set ?_ GE259.out) | exact HB.out))) : w.heap.size ≤ gb260)); have n5_ := Aside0.mk ((by rw [hg]; exact Nat.ne_of_lt (blk_lt (g := gb259) (o := .cells #[.slice A0_0 l0_0.length c0_0] 25 (0, 0)) (pkb BK259.out)) : gb259 ≠ gb260)); have n6_ := Aside0.mk ((by rw [hg]; exact Nat.ne_of_gt (blk_lt (g := gb259) (o := .cells #[.slice A0_0 l0_0.length c0_0] 25 (0, 0)) (pkb BK259.out)) : gb260 ≠ gb259)); clear BK259; clear HB; have BK259 := n0_; have HB := n1_; have BK260 := n2_; have GW260 := n3_; have GE260 := n4_; have NB259_260 := n5_; have NB260_259 := n6_; clear n0_ n1_ n2_ n3_ n4_ n5_ n6_; clear hb hbox hg; have hnb18 := NB259_260.out; have hnc18 := NB260_259.out; have hcz19_0 : w17.cell? ⟨gb259, 0, none⟩ = some (.slice A0_0 l0_0.length c0_0) := (blk_cell BK259.out 0).trans rfl; have hfz19_0 := blk_frozen BK259.out 0) | ((with_reducible refine gate_callee (f := 11) rfl ?_); refine goesL_ (some 25) rfl rfl Try.func11 (by kernel_rfl) rfl #[.agg #[.slice A0_0 l0_0.length c0_0], .int .i64 1048576] rfl (by (try simp only [List.map_toArray, List.map_cons, List.map_nil]); first | done | rfl | (simp only [List.length_drop, List.length_take]; rfl)) ?_; (with_reducible refine (laws_szRules.calls _ _ l0_0 1048576 t261 _ ?side1 ?side2 A7.out).mono ?_); (case side1 => repeat (first | exact (Kd.C_below HR0_0.out HB.out) | (with_reducible refine Kd.C_alloc ?_ _) | (with_reducible refine Kd.C_drewN ?_ _) | (with_reducible refine Kd.C_drew ?_))); (case side2 => exact HC0_0.out); rintro e w20 ⟨rfl, hb⟩; refine ⟨_, rfl, ?_⟩; have n0_ := Aside0.mk (blk_below (g := gb259) (o := .cells #[.slice A0_0 l0_0.length c0_0] 25 (0, 0)) (pkb BK259.out) hb); have n1_ := Aside0.mk (blk_below (g := gb260) (o := .cells #[.slice A2_0 l2_0.length c2_0] 25 (0, 0)) (pkb BK260.out) hb); have n2_ := Aside0.mk (below_step (by repeat (first | (with_reducible first | exact HB.out | apply below_alloc | apply pw_below_drewN | apply below_drew1 | refine below_set ?_ GE259.out | refine below_set ?_ GE260.out) | exact HB.out)) hb); clear BK259; clear BK260; clear HB; have BK259 := n0_; have BK260 := n1_; have HB := n2_; clear n0_ n1_ n2_; (try clear hb); (try clear hb2); (try clear hk); (try clear hi); have hcz21_0 : w20.cell? ⟨gb260, 0, none⟩ = some (.slice A2_0 l2_0.length c2_0) := (blk_cell BK260.out 0).trans rfl; have hfz21_0 := blk_frozen BK260.out 0) | ((with_reducible refine gate_callee (f := 11) rfl ?_); refine goesL_ (some 30) rfl rfl Try.func11 (by kernel_rfl) rfl #[.agg #[.slice A2_0 l2_0.length c2_0], .int .i64 t261] rfl (by (try simp only [List.map_toArray, List.map_cons, List.map_nil]); first | done | rfl | (simp only [List.length_drop, List.length_take]; rfl)) ?_; (with_reducible refine (laws_szRules.calls _ _ l2_0 t261 t262 _ ?side1 ?side2 A14.out).mono ?_); (case side1 => repeat (first | exact (Kd.C_below HR2_0.out HB.out) | (with_reducible refine Kd.C_alloc ?_ _) | (with_reducible refine Kd.C_drewN ?_ _) | (with_reducible refine Kd.C_drew ?_))); (case side2 => exact HC2_0.out); rintro e w22 ⟨rfl, hb⟩; refine ⟨_, rfl, ?_⟩; have n0_ := Aside0.mk (blk_below (g := gb259) (o := .cells #[.slice A0_0 l0_0.length c0_0] 25 (0, 0)) (pkb BK259.out) hb); have n1_ := Aside0.mk (blk_below (g := gb260) (o := .cells #[.slice A2_0 l2_0.length c2_0] 25 (0, 0)) (pkb BK260.out) hb); have n2_ := Aside0.mk (below_step (by repeat (first | (with_reducible first | exact HB.out | apply below_alloc | apply pw_below_drewN | apply below_drew1 | refine below_set ?_ GE259.out | refine below_set ?_ GE260.out) | exact HB.out)) hb); clear BK259; clear BK260; clear HB; have BK259 := n0_; have BK260 := n1_; have HB := n2_; clear n0_ n1_ n2_; (try clear hb); (try clear hb2); (try clear hk); (try clear hi)))
    go_ret
    exact ⟨by first | rfl | (simp [errW_none, errW_some] <;> rfl) | (simp [*, errW_none, errW_some] <;> rfl), by repeat (first | (with_reducible first | exact HB.out | apply below_alloc | apply pw_below_drewN | apply below_drew1 | refine below_set ?_ GE259.out | refine below_set ?_ GE260.out) | exact HB.out)⟩
   ·rw [if_neg c15] at H
    have c15b0 : decide (t262 < 0) = false := decide_eq_false c15
    clear c15
    replace H := Option.bind_eq_some_iff.mp H
    obtain ⟨t263, A230, H⟩ := H
    replace H : ((laws_toIntS.f k l1).bind fun t266 => ((laws_toRules.f k l2_0).bind fun t269 => ((spec_ThenRules.f k t263 t266 t269).bind fun bt272 => ((laws_toRules.f k l0_0).bind fun t276 => ((laws_toIntS.f k l1).bind fun t280 => ((laws_toRules.f k l2_0).bind fun t283 => ((impl_ThenRules.f k t276 t280 t283).bind fun bt287 => ((laws_eqIntS.f k bt287.1 bt272.1).bind fun t291 => (if t291 = true then (laws_FnExactThenRules.j0 k l1 bt272.1 bt272.2 t280 bt287.1 bt287.2 (bt287.2 != bt272.2) l0_0 l2_0 t276 t283) else (laws_FnExactThenRules.j0 k l1 bt272.1 bt272.2 t280 bt287.1 bt287.2 true l0_0 l2_0 t276 t283)))))))))) = some r := H
    have A23 := Aside0.mk A230
    clear A230
    replace H := Option.bind_eq_some_iff.mp H
    obtain ⟨t266, A240, H⟩ := H
    replace H : ((laws_toRules.f k l2_0).bind fun t269 => ((spec_ThenRules.f k t263 t266 t269).bind fun bt272 => ((laws_toRules.f k l0_0).bind fun t276 => ((laws_toIntS.f k l1).bind fun t280 => ((laws_toRules.f k l2_0).bind fun t283 => ((impl_ThenRules.f k t276 t280 t283).bind fun bt287 => ((laws_eqIntS.f k bt287.1 bt272.1).bind fun t291 => (if t291 = true then (laws_FnExactThenRules.j0 k l1 bt272.1 bt272.2 t280 bt287.1 bt287.2 (bt287.2 != bt272.2) l0_0 l2_0 t276 t283) else (laws_FnExactThenRules.j0 k l1 bt272.1 bt272.2 t280 bt287.1 bt287.2 true l0_0 l2_0 t276 t283))))))))) = some r := H
    have A24 := Aside0.mk A240
    clear A240
    replace H := Option.bind_eq_some_iff.mp H
    obtain ⟨t269, A250, H⟩ := H
    replace H : ((spec_ThenRules.f k t263 t266 t269).bind fun bt272 => ((laws_toRules.f k l0_0).bind fun t276 => ((laws_toIntS.f k l1).bind fun t280 => ((laws_toRules.f k l2_0).bind fun t283 => ((impl_ThenRules.f k t276 t280 t283).bind fun bt287 => ((laws_eqIntS.f k bt287.1 bt272.1).bind fun t291 => (if t291 = true then (laws_FnExactThenRules.j0 k l1 bt272.1 bt272.2 t280 bt287.1 bt287.2 (bt287.2 != bt272.2) l0_0 l2_0 t276 t283) else (laws_FnExactThenRules.j0 k l1 bt272.1 bt272.2 t280 bt287.1 bt287.2 true l0_0 l2_0 t276 t283)))))))) = some r := H
    have A25 := Aside0.mk A250
    clear A250
    replace H := Option.bind_eq_some_iff.mp H
    obtain ⟨⟨t272, t275⟩, A260, H⟩ := H
    replace H : ((laws_toRules.f k l0_0).bind fun t276 => ((laws_toIntS.f k l1).bind fun t280 => ((laws_toRules.f k l2_0).bind fun t283 => ((impl_ThenRules.f k t276 t280 t283).bind fun bt287 => ((laws_eqIntS.f k bt287.1 t272).bind fun t291 => (if t291 = true then (laws_FnExactThenRules.j0 k l1 t272 t275 t280 bt287.1 bt287.2 (bt287.2 != t275) l0_0 l2_0 t276 t283) else (laws_FnExactThenRules.j0 k l1 t272 t275 t280 bt287.1 bt287.2 true l0_0 l2_0 t276 t283))))))) = some r := H
    have A26 := Aside0.mk A260
    clear A260
    replace H := Option.bind_eq_some_iff.mp H
    obtain ⟨t276, A270, H⟩ := H
    replace H : ((laws_toIntS.f k l1).bind fun t280 => ((laws_toRules.f k l2_0).bind fun t283 => ((impl_ThenRules.f k t276 t280 t283).bind fun bt287 => ((laws_eqIntS.f k bt287.1 t272).bind fun t291 => (if t291 = true then (laws_FnExactThenRules.j0 k l1 t272 t275 t280 bt287.1 bt287.2 (bt287.2 != t275) l0_0 l2_0 t276 t283) else (laws_FnExactThenRules.j0 k l1 t272 t275 t280 bt287.1 bt287.2 true l0_0 l2_0 t276 t283)))))) = some r := H
    have A27 := Aside0.mk A270
    clear A270
    replace H := Option.bind_eq_some_iff.mp H
    obtain ⟨t280, A280, H⟩ := H
    replace H : ((laws_toRules.f k l2_0).bind fun t283 => ((impl_ThenRules.f k t276 t280 t283).bind fun bt287 => ((laws_eqIntS.f k bt287.1 t272).bind fun t291 => (if t291 = true then (laws_FnExactThenRules.j0 k l1 t272 t275 t280 bt287.1 bt287.2 (bt287.2 != t275) l0_0 l2_0 t276 t283) else (laws_FnExactThenRules.j0 k l1 t272 t275 t280 bt287.1 bt287.2 true l0_0 l2_0 t276 t283))))) = some r := H
    have A28 := Aside0.mk A280
    clear A280
    replace H := Option.bind_eq_some_iff.mp H
    obtain ⟨t283, A290, H⟩ := H
    replace H : ((impl_ThenRules.f k t276 t280 t283).bind fun bt287 => ((laws_eqIntS.f k bt287.1 t272).bind fun t291 => (if t291 = true then (laws_FnExactThenRules.j0 k l1 t272 t275 t280 bt287.1 bt287.2 (bt287.2 != t275) l0_0 l2_0 t276 t283) else (laws_FnExactThenRules.j0 k l1 t272 t275 t280 bt287.1 bt287.2 true l0_0 l2_0 t276 t283)))) = some r := H
    have A29 := Aside0.mk A290
    clear A290
    replace H := Option.bind_eq_some_iff.mp H
    obtain ⟨⟨t287, t290⟩, A300, H⟩ := H
    replace H : ((laws_eqIntS.f k t287 t272).bind fun t291 => (if t291 = true then (laws_FnExactThenRules.j0 k l1 t272 t275 t280 t287 t290 (t290 != t275) l0_0 l2_0 t276 t283) else (laws_FnExactThenRules.j0 k l1 t272 t275 t280 t287 t290 true l0_0 l2_0 t276 t283))) = some r := H
    have A30 := Aside0.mk A300
    clear A300
    have HC31 := Aside0.mk H
    clear H
    go_enter Try.func5, Try.ntmps5
    try go_wp2_with (first | ((with_reducible refine gate_dst (N := 3) rfl ?_); refine box_event ?hg (N := 3) ?hd (cs := #[.slice A0_0 l0_0.length c0_0]) (t := 25) ?hr ?_; (case hd => rfl); (case hg => rfl); (case hr => first | (go_simp; done) | (go_simp; rfl)); intro gb259 hg w32 hbox hb; have n0_ := Aside0.mk (below_step (by repeat (first | (with_reducible first | exact HB.out | apply below_alloc | apply pw_below_drewN | apply below_drew1) | exact HB.out)) hb); have n1_ := Aside0.mk (hbox); have n2_ := Aside0.mk ((by rw [hg]; exact (below_size (by repeat (first | (with_reducible first | exact HB.out | apply below_alloc | apply pw_below_drewN | apply below_drew1) | exact HB.out))) : w.heap.size ≤ gb259)); have n3_ := Aside0.mk ((by rw [hg]; exact (below_size (by repeat (first | (with_reducible first | exact HB.out | apply below_alloc | apply pw_below_drewN | apply below_drew1) | exact HB.out))) : w.heap.size ≤ gb259)); clear HB; have HB := n0_; have BK259 := n1_; have GW259 := n2_; have GE259 := n3_; clear n0_ n1_ n2_ n3_; clear hb hbox hg) | ((with_reducible refine gate_dst (N := 5) rfl ?_); refine box_event ?hg (N := 5) ?hd (cs := #[.slice A2_0 l2_0.length c2_0]) (t := 25) ?hr ?_; (case hd => rfl); (case hg => rfl); (case hr => first | (go_simp; done) | (go_simp; rfl)); intro gb260 hg w33 hbox hb; have n0_ := Aside0.mk (blk_below (g := gb259) (o := .cells #[.slice A0_0 l0_0.length c0_0] 25 (0, 0)) (pkb BK259.out) hb); have n1_ := Aside0.mk (below_step (by repeat (first | (with_reducible first | exact HB.out | apply below_alloc | apply pw_below_drewN | apply below_drew1 | refine below_set ?_ GE259.out) | exact HB.out)) hb); have n2_ := Aside0.mk (hbox); have n3_ := Aside0.mk ((by rw [hg]; exact (below_size (by repeat (first | (with_reducible first | exact HB.out | apply below_alloc | apply pw_below_drewN | apply below_drew1 | refine below_set ?_ GE259.out) | exact HB.out))) : w.heap.size ≤ gb260)); have n4_ := Aside0.mk ((by rw [hg]; exact (below_size (by repeat (first | (with_reducible first | exact HB.out | apply below_alloc | apply pw_below_drewN | apply below_drew1 | refine below_set ?_ GE259.out) | exact HB.out))) : w.heap.size ≤ gb260)); have n5_ := Aside0.mk ((by rw [hg]; exact Nat.ne_of_lt (blk_lt (g := gb259) (o := .cells #[.slice A0_0 l0_0.length c0_0] 25 (0, 0)) (pkb BK259.out)) : gb259 ≠ gb260)); have n6_ := Aside0.mk ((by rw [hg]; exact Nat.ne_of_gt (blk_lt (g := gb259) (o := .cells #[.slice A0_0 l0_0.length c0_0] 25 (0, 0)) (pkb BK259.out)) : gb260 ≠ gb259)); clear BK259; clear HB; have BK259 := n0_; have HB := n1_; have BK260 := n2_; have GW260 := n3_; have GE260 := n4_; have NB259_260 := n5_; have NB260_259 := n6_; clear n0_ n1_ n2_ n3_ n4_ n5_ n6_; clear hb hbox hg; have hnb34 := NB259_260.out; have hnc34 := NB260_259.out; have hcz35_0 : w33.cell? ⟨gb259, 0, none⟩ = some (.slice A0_0 l0_0.length c0_0) := (blk_cell BK259.out 0).trans rfl; have hfz35_0 := blk_frozen BK259.out 0) | ((with_reducible refine gate_callee (f := 11) rfl ?_); refine goesL_ (some 25) rfl rfl Try.func11 (by kernel_rfl) rfl #[.agg #[.slice A0_0 l0_0.length c0_0], .int .i64 1048576] rfl (by (try simp only [List.map_toArray, List.map_cons, List.map_nil]); first | done | rfl | (simp only [List.length_drop, List.length_take]; rfl)) ?_; (with_reducible refine (laws_szRules.calls _ _ l0_0 1048576 t261 _ ?side1 ?side2 A7.out).mono ?_); (case side1 => repeat (first | exact (Kd.C_below HR0_0.out HB.out) | (with_reducible refine Kd.C_alloc ?_ _) | (with_reducible refine Kd.C_drewN ?_ _) | (with_reducible refine Kd.C_drew ?_))); (case side2 => exact HC0_0.out); rintro e w36 ⟨rfl, hb⟩; refine ⟨_, rfl, ?_⟩; have n0_ := Aside0.mk (blk_below (g := gb259) (o := .cells #[.slice A0_0 l0_0.length c0_0] 25 (0, 0)) (pkb BK259.out) hb); have n1_ := Aside0.mk (blk_below (g := gb260) (o := .cells #[.slice A2_0 l2_0.length c2_0] 25 (0, 0)) (pkb BK260.out) hb); have n2_ := Aside0.mk (below_step (by repeat (first | (with_reducible first | exact HB.out | apply below_alloc | apply pw_below_drewN | apply below_drew1 | refine below_set ?_ GE259.out | refine below_set ?_ GE260.out) | exact HB.out)) hb); clear BK259; clear BK260; clear HB; have BK259 := n0_; have BK260 := n1_; have HB := n2_; clear n0_ n1_ n2_; (try clear hb); (try clear hb2); (try clear hk); (try clear hi); have hcz37_0 : w36.cell? ⟨gb260, 0, none⟩ = some (.slice A2_0 l2_0.length c2_0) := (blk_cell BK260.out 0).trans rfl; have hfz37_0 := blk_frozen BK260.out 0) | ((with_reducible refine gate_callee (f := 11) rfl ?_); refine goesL_ (some 30) rfl rfl Try.func11 (by kernel_rfl) rfl #[.agg #[.slice A2_0 l2_0.length c2_0], .int .i64 t261] rfl (by (try simp only [List.map_toArray, List.map_cons, List.map_nil]); first | done | rfl | (simp only [List.length_drop, List.length_take]; rfl)) ?_; (with_reducible refine (laws_szRules.calls _ _ l2_0 t261 t262 _ ?side1 ?side2 A14.out).mono ?_); (case side1 => repeat (first | exact (Kd.C_below HR2_0.out HB.out) | (with_reducible refine Kd.C_alloc ?_ _) | (with_reducible refine Kd.C_drewN ?_ _) | (with_reducible refine Kd.C_drew ?_))); (case side2 => exact HC2_0.out); rintro e w38 ⟨rfl, hb⟩; refine ⟨_, rfl, ?_⟩; have n0_ := Aside0.mk (blk_below (g := gb259) (o := .cells #[.slice A0_0 l0_0.length c0_0] 25 (0, 0)) (pkb BK259.out) hb); have n1_ := Aside0.mk (blk_below (g := gb260) (o := .cells #[.slice A2_0 l2_0.length c2_0] 25 (0, 0)) (pkb BK260.out) hb); have n2_ := Aside0.mk (below_step (by repeat (first | (with_reducible first | exact HB.out | apply below_alloc | apply pw_below_drewN | apply below_drew1 | refine below_set ?_ GE259.out | refine below_set ?_ GE260.out) | exact HB.out)) hb); clear BK259; clear BK260; clear HB; have BK259 := n0_; have BK260 := n1_; have HB := n2_; clear n0_ n1_ n2_; (try clear hb); (try clear hb2); (try clear hk); (try clear hi)))
    have n0_ := Aside0.mk (blk_drew BK259.out)
    have n1_ := Aside0.mk (blk_drew BK260.out)
    have n2_ := Aside0.mk (below_drew1 HB.out)
    clear BK259
    clear BK260
    clear HB
    have BK259 := n0_
    have BK260 := n1_
    have HB := n2_
    clear n0_ n1_ n2_
    refine start_ (n := 12) (S := fun w' => w'.cell? ⟨gb259, 0, none⟩ = some (.slice A0_0 l0_0.length c0_0) ∧ w'.cell? ⟨gb260, 0, none⟩ = some (.slice A2_0 l2_0.length c2_0)) (ds := []) #[false, false, false, false, false, false, false, false, false, false, false, false] (by kernel_rfl) rfl rfl ⟨(blk_cell BK259.out 0).trans rfl, (blk_cell BK260.out 0).trans rfl⟩ (fun hHeld => ?_); refine with_tabW laws_FnExactThenRules.tab10 laws_FnExactThenRules.bits10 (fun HT_ HW_ => ?_)
    generalize w38.drew = w39 at BK259 BK260 HB hHeld ⊢
    refine pure_ (i := 2) (N := some 36) (v := ?_) (a' := ?_) #[false, false, true, false, false, false, false, false, false, false, false, false] rfl rfl (any_of HT_.out (by kernel_rfl)) (fun _ _ _ h => h) (Or.inl ⟨by rfl, ?_⟩) ?_ ?_
    rotate_left
    ·intro w'
     go_simp
     with_reducible rfl
    rotate_left
    ·simp only [Act.put, List.setIfInBounds_toArray, List.set_cons_zero, List.set_cons_succ, i64_w, i32_w]
     rfl
    refine take_ (i := 0) (N := some 34) (v := ?_) (a' := ?_) #[true, false, true, false, false, false, false, false, false, false, false, false] rfl rfl (take_ofW HT_.out HW_.out (by kernel_rfl)) (fun _ _ _ h => h) (Or.inl ⟨by rfl, ?_⟩) hHeld ?_ ?_
    rotate_left
    ·rintro w' ⟨s0, s1⟩
     go_simp
     with_reducible rfl
    rotate_left
    ·simp only [Act.put, List.setIfInBounds_toArray, List.set_cons_zero, List.set_cons_succ, i64_w, i32_w]
     rfl
    refine take_ (i := 4) (N := some 38) (v := ?_) (a' := ?_) #[true, false, true, false, true, false, false, false, false, false, false, false] rfl rfl (take_ofW HT_.out HW_.out (by kernel_rfl)) (fun _ _ _ h => h) (Or.inl ⟨by rfl, ?_⟩) hHeld ?_ ?_
    rotate_left
    ·rintro w' ⟨s0, s1⟩
     go_simp
     with_reducible rfl
    rotate_left
    ·simp only [Act.put, List.setIfInBounds_toArray, List.set_cons_zero, List.set_cons_succ, i64_w, i32_w]
     rfl
    refine one_ (i := 1) (N := some 35) #[true, true, true, false, true, false, false, false, false, false, false, false] rfl rfl (one_of HT_.out (by kernel_rfl)) (by decide) (fun K hK => ?_)
    refine goes_ Try.func14 (by kernel_rfl) rfl #[.agg #[.slice A0_0 l0_0.length c0_0]] (by rfl) rfl rfl (by (try simp only [List.map_toArray, List.map_cons, List.map_nil]); first | done | rfl | (simp only [List.length_drop, List.length_take]; rfl)) ?_
    with_reducible refine (laws_toRules.calls k _ _ l0_0 t263 _ ?side1 ?side2 A23.out).mono ?_
    (case side1 => repeat (first | exact (Kd.C_below HR0_0.out HB.out) | (with_reducible refine Kd.C_alloc ?_ _) | (with_reducible refine Kd.C_drewN ?_ _) | (with_reducible refine Kd.C_drew ?_)))
    (case side2 => exact HC0_0.out)
    rintro e w40 ⟨v264, rfl, ho0, hb⟩
    refine ⟨_, rfl, ?_⟩
    have n0_ := Aside0.mk (Kd.R_lower ho0 (below_size (by repeat (first | (with_reducible first | exact HB.out | apply below_alloc | apply pw_below_drewN | apply below_drew1 | refine below_set ?_ GE259.out | refine below_set ?_ GE260.out) | exact HB.out))))
    have n1_ := Aside0.mk (blk_below (g := gb259) (o := .cells #[.slice A0_0 l0_0.length c0_0] 25 (0, 0)) (pkb BK259.out) hb)
    have n2_ := Aside0.mk (blk_below (g := gb260) (o := .cells #[.slice A2_0 l2_0.length c2_0] 25 (0, 0)) (pkb BK260.out) hb)
    have n3_ := Aside0.mk (below_step (by repeat (first | (with_reducible first | exact HB.out | apply below_alloc | apply pw_below_drewN | apply below_drew1 | refine below_set ?_ GE259.out | refine below_set ?_ GE260.out) | exact HB.out)) hb)
    clear BK259
    clear BK260
    clear HB
    have HO265 := n0_
    have BK259 := n1_
    have BK260 := n2_
    have HB := n3_
    clear n0_ n1_ n2_ n3_
    (try clear hb)
    (try clear hb2)
    (try clear hk)
    (try clear hi)
    (try clear ho0)
    refine hK.out _ _ ⟨(blk_cell BK259.out 0).trans rfl, (blk_cell BK260.out 0).trans rfl⟩ (fun hHeld => ?_)
    clear hK K
    refine norm_ (a' := ?_) ?_ ?_
    rotate_left
    ·show Act.put _ (some 35) _ = _
     simp only [Act.put, List.setIfInBounds_toArray, List.set_cons_zero, List.set_cons_succ, i64_w, i32_w]
     rfl
    refine one_ (i := 3) (N := some 37) #[true, true, true, true, true, false, false, false, false, false, false, false] rfl rfl (one_of HT_.out (by kernel_rfl)) (by decide) (fun K hK => ?_)
    refine goes_ Try.func13 (by kernel_rfl) rfl #[.slice A1 l1.length c1] (by rfl) rfl rfl (by (try simp only [List.map_toArray, List.map_cons, List.map_nil]); first | done | rfl | (simp only [List.length_drop, List.length_take]; rfl)) ?_
    with_reducible refine (laws_toIntS.calls k _ _ l1 t266 _ ?side1 ?side2 A24.out).mono ?_
    (case side1 => repeat (first | exact (Kd.C_below HR1.out HB.out) | (with_reducible refine Kd.C_alloc ?_ _) | (with_reducible refine Kd.C_drewN ?_ _) | (with_reducible refine Kd.C_drew ?_)))
    (case side2 => exact HC1.out)
    rintro e w41 ⟨v267, rfl, ho0, hb⟩
    refine ⟨_, rfl, ?_⟩
    have n0_ := Aside0.mk (Kd.R_below (pkr HO265.out) hb)
    have n1_ := Aside0.mk (Kd.R_lower ho0 (below_size (by repeat (first | (with_reducible first | exact HB.out | apply below_alloc | apply pw_below_drewN | apply below_drew1 | refine below_set ?_ GE259.out | refine below_set ?_ GE260.out) | exact HB.out))))
    have n2_ := Aside0.mk (blk_below (g := gb259) (o := .cells #[.slice A0_0 l0_0.length c0_0] 25 (0, 0)) (pkb BK259.out) hb)
    have n3_ := Aside0.mk (blk_below (g := gb260) (o := .cells #[.slice A2_0 l2_0.length c2_0] 25 (0, 0)) (pkb BK260.out) hb)
    have n4_ := Aside0.mk (below_step (by repeat (first | (with_reducible first | exact HB.out | apply below_alloc | apply pw_below_drewN | apply below_drew1 | refine below_set ?_ GE259.out | refine below_set ?_ GE260.out) | exact HB.out)) hb)
    clear HO265
    clear BK259
    clear BK260
    clear HB
    have HO265 := n0_
    have HO268 := n1_
    have BK259 := n2_
    have BK260 := n3_
    have HB := n4_
    clear n0_ n1_ n2_ n3_ n4_
    (try clear hb)
    (try clear hb2)
    (try clear hk)
    (try clear hi)
    (try clear ho0)
    refine hK.out _ _ ⟨(blk_cell BK259.out 0).trans rfl, (blk_cell BK260.out 0).trans rfl⟩ (fun hHeld => ?_)
    clear hK K
    refine norm_ (a' := ?_) ?_ ?_
    rotate_left
    ·show Act.put _ (some 37) _ = _
     simp only [Act.put, List.setIfInBounds_toArray, List.set_cons_zero, List.set_cons_succ, i64_w, i32_w]
     rfl
    refine one_ (i := 5) (N := some 39) #[true, true, true, true, true, true, false, false, false, false, false, false] rfl rfl (one_of HT_.out (by kernel_rfl)) (by decide) (fun K hK => ?_)
    refine goes_ Try.func14 (by kernel_rfl) rfl #[.agg #[.slice A2_0 l2_0.length c2_0]] (by rfl) rfl rfl (by (try simp only [List.map_toArray, List.map_cons, List.map_nil]); first | done | rfl | (simp only [List.length_drop, List.length_take]; rfl)) ?_
    with_reducible refine (laws_toRules.calls k _ _ l2_0 t269 _ ?side1 ?side2 A25.out).mono ?_
    (case side1 => repeat (first | exact (Kd.C_below HR2_0.out HB.out) | (with_reducible refine Kd.C_alloc ?_ _) | (with_reducible refine Kd.C_drewN ?_ _) | (with_reducible refine Kd.C_drew ?_)))
    (case side2 => exact HC2_0.out)
    rintro e w42 ⟨v270, rfl, ho0, hb⟩
    refine ⟨_, rfl, ?_⟩
    have n0_ := Aside0.mk (Kd.R_elder' (pkr HO265.out) (Kd.R_base ho0) hb)
    have n1_ := Aside0.mk (Kd.R_below (pkr HO268.out) hb)
    have n2_ := Aside0.mk (Kd.R_lower (Kd.R_new' ho0 (Kd.R_lt (pkr HO265.out))) (below_size (by repeat (first | (with_reducible first | exact HB.out | apply below_alloc | apply pw_below_drewN | apply below_drew1 | refine below_set ?_ GE259.out | refine below_set ?_ GE260.out) | exact HB.out))))
    have n3_ := Aside0.mk (blk_below (g := gb259) (o := .cells #[.slice A0_0 l0_0.length c0_0] 25 (0, 0)) (pkb BK259.out) hb)
    have n4_ := Aside0.mk (blk_below (g := gb260) (o := .cells #[.slice A2_0 l2_0.length c2_0] 25 (0, 0)) (pkb BK260.out) hb)
    have n5_ := Aside0.mk (below_step (by repeat (first | (with_reducible first | exact HB.out | apply below_alloc | apply pw_below_drewN | apply below_drew1 | refine below_set ?_ GE259.out | refine below_set ?_ GE260.out) | exact HB.out)) hb)
    clear HO265
    clear HO268
    clear BK259
    clear BK260
    clear HB
    have HO265 := n0_
    have HO268 := n1_
    have HO271 := n2_
    have BK259 := n3_
    have BK260 := n4_
    have HB := n5_
    clear n0_ n1_ n2_ n3_ n4_ n5_
    (try clear hb)
    (try clear hb2)
    (try clear hk)
    (try clear hi)
    (try clear ho0)
    obtain ⟨Ao43, co43, eo43⟩ := Kd.R_slice HO265.out
    (first | subst eo43 | (injection eo43 with f1_ f2_ f3_; have f4_ := f1_.symm; have f5_ := f3_.symm; clear f1_ f2_ f3_; subst f4_; subst f5_))
    obtain ⟨Ao44, co44, eo44⟩ := Kd.R_slice HO268.out
    (first | subst eo44 | (injection eo44 with f1_ f2_ f3_; have f4_ := f1_.symm; have f5_ := f3_.symm; clear f1_ f2_ f3_; subst f4_; subst f5_))
    obtain ⟨Ao45, co45, eo45⟩ := Kd.R_slice HO271.out
    (first | subst eo45 | (injection eo45 with f1_ f2_ f3_; have f4_ := f1_.symm; have f5_ := f3_.symm; clear f1_ f2_ f3_; subst f4_; subst f5_))
    refine hK.out _ _ ⟨(blk_cell BK259.out 0).trans rfl, (blk_cell BK260.out 0).trans rfl⟩ (fun hHeld => ?_)
    clear hK K
    refine norm_ (a' := ?_) ?_ ?_
    rotate_left
    ·show Act.put _ (some 39) _ = _
     simp only [Act.put, List.setIfInBounds_toArray, List.set_cons_zero, List.set_cons_succ, i64_w, i32_w]
     rfl
    refine one_ (i := 6) (N := some 40) #[true, true, true, true, true, true, true, false, false, false, false, false] rfl rfl (one_of HT_.out (by kernel_rfl)) (by decide) (fun K hK => ?_)
    refine goes_ Try.func29 (by kernel_rfl) rfl #[.agg #[.slice Ao43 t263.length co43], .slice Ao44 t266.length co44, .agg #[.slice Ao45 t269.length co45]] (by rfl) rfl rfl (by (try simp only [List.map_toArray, List.map_cons, List.map_nil]); first | done | rfl | (simp only [List.length_drop, List.length_take]; rfl)) ?_
    with_reducible refine (spec_ThenRules.calls k _ _ t263 _ _ t266 _ _ t269 t272 t275 _ ?side1 ?side2 ?side3 ?side4 ?side5 ?side6 A26.out).mono ?_
    (case side1 => repeat (first | exact (Kd.R_reads' HO265.out).2.2 | (with_reducible refine Kd.C_alloc ?_ _) | (with_reducible refine Kd.C_drewN ?_ _) | (with_reducible refine Kd.C_drew ?_)))
    (case side2 => exact (Kd.R_reads' HO265.out).2.1)
    (case side3 => repeat (first | exact (Kd.R_reads' HO268.out).2.2 | (with_reducible refine Kd.C_alloc ?_ _) | (with_reducible refine Kd.C_drewN ?_ _) | (with_reducible refine Kd.C_drew ?_)))
    (case side4 => exact (Kd.R_reads' HO268.out).2.1)
    (case side5 => repeat (first | exact (Kd.R_reads' HO271.out).2.2 | (with_reducible refine Kd.C_alloc ?_ _) | (with_reducible refine Kd.C_drewN ?_ _) | (with_reducible refine Kd.C_drew ?_)))
    (case side6 => exact (Kd.R_reads' HO271.out).2.1)
    rintro e w46 ⟨v273, rfl, ho0, hb⟩
    refine ⟨_, rfl, ?_⟩
    have n0_ := Aside0.mk (Kd.R_below (pkr HO265.out) hb)
    have n1_ := Aside0.mk (Kd.R_elder' (pkr HO268.out) (Kd.R_base ho0) hb)
    have n2_ := Aside0.mk (Kd.R_below (pkr HO271.out) hb)
    have n3_ := Aside0.mk (Kd.R_lower (Kd.R_new' ho0 (Kd.R_lt (pkr HO268.out))) (below_size (by repeat (first | (with_reducible first | exact HB.out | apply below_alloc | apply pw_below_drewN | apply below_drew1 | refine below_set ?_ GE259.out | refine below_set ?_ GE260.out) | exact HB.out))))
    have n4_ := Aside0.mk (blk_below (g := gb259) (o := .cells #[.slice A0_0 l0_0.length c0_0] 25 (0, 0)) (pkb BK259.out) hb)
    have n5_ := Aside0.mk (blk_below (g := gb260) (o := .cells #[.slice A2_0 l2_0.length c2_0] 25 (0, 0)) (pkb BK260.out) hb)
    have n6_ := Aside0.mk (below_step (by repeat (first | (with_reducible first | exact HB.out | apply below_alloc | apply pw_below_drewN | apply below_drew1 | refine below_set ?_ GE259.out | refine below_set ?_ GE260.out) | exact HB.out)) hb)
    clear HO265
    clear HO268
    clear HO271
    clear BK259
    clear BK260
    clear HB
    have HO265 := n0_
    have HO268 := n1_
    have HO271 := n2_
    have HO274 := n3_
    have BK259 := n4_
    have BK260 := n5_
    have HB := n6_
    clear n0_ n1_ n2_ n3_ n4_ n5_ n6_
    (try clear hb)
    (try clear hb2)
    (try clear hk)
    (try clear hi)
    (try clear ho0)
    refine hK.out _ _ ⟨(blk_cell BK259.out 0).trans rfl, (blk_cell BK260.out 0).trans rfl⟩ (fun hHeld => ?_)
    clear hK K
    refine norm_ (a' := ?_) ?_ ?_
    rotate_left
    ·show Act.put _ (some 40) _ = _
     simp only [Act.put, List.setIfInBounds_toArray, List.set_cons_zero, List.set_cons_succ, i64_w, i32_w]
     rfl
    refine pure_ (i := 7) (N := some 33) (v := ?_) (a' := ?_) #[true, true, true, true, true, true, true, true, false, false, false, false] rfl rfl (any_of HT_.out (by kernel_rfl)) (fun _ _ _ h => h) (Or.inl ⟨by rfl, ?_⟩) ?_ ?_
    rotate_left
    ·intro w'
     go_simp
     with_reducible rfl
    rotate_left
    ·simp only [Act.put, List.setIfInBounds_toArray, List.set_cons_zero, List.set_cons_succ, i64_w, i32_w]
     rfl
    refine pure_ (i := 8) (N := some 41) (v := ?_) (a' := ?_) #[true, true, true, true, true, true, true, true, true, false, false, false] rfl rfl (any_of HT_.out (by kernel_rfl)) (fun _ _ _ h => h) (Or.inl ⟨by rfl, ?_⟩) ?_ ?_
    rotate_left
    ·intro w'
     go_simp
     with_reducible rfl
    rotate_left
    ·simp only [Act.put, List.setIfInBounds_toArray, List.set_cons_zero, List.set_cons_succ, i64_w, i32_w]
     rfl
    refine pure_ (i := 9) (N := some 42) (v := ?_) (a' := ?_) #[true, true, true, true, true, true, true, true, true, true, false, false] rfl rfl (any_of HT_.out (by kernel_rfl)) (fun _ _ _ h => h) (Or.inl ⟨by rfl, ?_⟩) ?_ ?_
    rotate_left
    ·intro w'
     go_simp
     with_reducible rfl
    rotate_left
    ·simp only [Act.put, List.setIfInBounds_toArray, List.set_cons_zero, List.set_cons_succ, i64_w, i32_w]
     rfl
    refine pure_ (i := 10) (N := some 8) (v := ?_) (a' := ?_) #[true, true, true, true, true, true, true, true, true, true, true, false] rfl rfl (any_of HT_.out (by kernel_rfl)) (fun _ _ _ h => h) (Or.inl ⟨by rfl, ?_⟩) ?_ ?_
    rotate_left
    ·intro w'
     go_simp
     with_reducible rfl
    rotate_left
    ·simp only [Act.put, List.setIfInBounds_toArray, List.set_cons_zero, List.set_cons_succ, i64_w, i32_w]
     rfl
    refine pure_ (i := 11) (N := some 9) (v := ?_) (a' := ?_) #[true, true, true, true, true, true, true, true, true, true, true, true] rfl rfl (any_of HT_.out (by kernel_rfl)) (fun _ _ _ h => h) (Or.inl ⟨by rfl, ?_⟩) ?_ ?_
    rotate_left
    ·intro w'
     go_simp
     with_reducible rfl
    rotate_left
    ·simp only [Act.put, List.setIfInBounds_toArray, List.set_cons_zero, List.set_cons_succ, i64_w, i32_w]
     rfl
    refine done_ (done_of HT_.out (by kernel_rfl)) ?_
    have hcz47_0 : w46.cell? ⟨gb259, 0, none⟩ = some (.slice A0_0 l0_0.length c0_0) := (blk_cell BK259.out 0).trans rfl
    have hfz47_0 := blk_frozen BK259.out 0
    go_upto_region 15 with (first | ((with_reducible refine gate_callee (f := 14) rfl ?_); refine goesL_ (some 44) rfl rfl Try.func14 (by kernel_rfl) rfl #[.agg #[.slice A0_0 l0_0.length c0_0]] rfl (by (try simp only [List.map_toArray, List.map_cons, List.map_nil]); first | done | rfl | (simp only [List.length_drop, List.length_take]; rfl)) ?_; (with_reducible refine (laws_toRules.calls k _ _ l0_0 t276 _ ?side1 ?side2 A27.out).mono ?_); (case side1 => repeat (first | exact (Kd.C_below HR0_0.out HB.out) | (with_reducible refine Kd.C_alloc ?_ _) | (with_reducible refine Kd.C_drewN ?_ _) | (with_reducible refine Kd.C_drew ?_))); (case side2 => exact HC0_0.out); rintro e w48 ⟨v277, rfl, ho0, hb⟩; refine ⟨_, rfl, ?_⟩; have n0_ := Aside0.mk (Kd.R_elder' (pkr HO265.out) (Kd.R_base ho0) hb); have n1_ := Aside0.mk (Kd.R_below (pkr HO268.out) hb); have n2_ := Aside0.mk (Kd.R_elder' (pkr HO271.out) (Kd.R_base ho0) hb); have n3_ := Aside0.mk (Kd.R_below (pkr HO274.out) hb); have n4_ := Aside0.mk (Kd.R_lower (Kd.R_new' (Kd.R_new' ho0 (Kd.R_lt (pkr HO265.out))) (Kd.R_lt (pkr HO271.out))) (below_size (by repeat (first | (with_reducible first | exact HB.out | apply below_alloc | apply pw_below_drewN | apply below_drew1 | refine below_set ?_ GE259.out | refine below_set ?_ GE260.out) | exact HB.out)))); have n5_ := Aside0.mk (blk_below (g := gb259) (o := .cells #[.slice A0_0 l0_0.length c0_0] 25 (0, 0)) (pkb BK259.out) hb); have n6_ := Aside0.mk (blk_below (g := gb260) (o := .cells #[.slice A2_0 l2_0.length c2_0] 25 (0, 0)) (pkb BK260.out) hb); have n7_ := Aside0.mk (below_step (by repeat (first | (with_reducible first | exact HB.out | apply below_alloc | apply pw_below_drewN | apply below_drew1 | refine below_set ?_ GE259.out | refine below_set ?_ GE260.out) | exact HB.out)) hb); clear HO265; clear HO268; clear HO271; clear HO274; clear BK259; clear BK260; clear HB; have HO265 := n0_; have HO268 := n1_; have HO271 := n2_; have HO274 := n3_; have HO278 := n4_; have BK259 := n5_; have BK260 := n6_; have HB := n7_; clear n0_ n1_ n2_ n3_ n4_ n5_ n6_ n7_; (try clear hb); (try clear hb2); (try clear hk); (try clear hi); (try clear ho0)) | ((with_reducible refine gate_dst (N := 10) rfl ?_); refine box_event ?hg (N := 10) ?hd (cs := #[.slice none 0 0]) (t := 32) ?hr ?_; (case hd => rfl); (case hg => rfl); (case hr => first | (go_simp; done) | (go_simp; rfl)); intro gb279 hg w49 hbox hb; have n0_ := Aside0.mk (Kd.R_below (pkr HO265.out) hb); have n1_ := Aside0.mk (Kd.R_below (pkr HO268.out) hb); have n2_ := Aside0.mk (Kd.R_below (pkr HO271.out) hb); have n3_ := Aside0.mk (Kd.R_below (pkr HO274.out) hb); have n4_ := Aside0.mk (Kd.R_below (pkr HO278.out) hb); have n5_ := Aside0.mk (blk_below (g := gb259) (o := .cells #[.slice A0_0 l0_0.length c0_0] 25 (0, 0)) (pkb BK259.out) hb); have n6_ := Aside0.mk (blk_below (g := gb260) (o := .cells #[.slice A2_0 l2_0.length c2_0] 25 (0, 0)) (pkb BK260.out) hb); have n7_ := Aside0.mk (below_step (by repeat (first | (with_reducible first | exact HB.out | apply below_alloc | apply pw_below_drewN | apply below_drew1 | refine below_set ?_ GE259.out | refine below_set ?_ GE260.out) | exact HB.out)) hb); have n8_ := Aside0.mk (hbox); have n9_ := Aside0.mk ((by rw [hg]; exact (below_size (by repeat (first | (with_reducible first | exact HB.out | apply below_alloc | apply pw_below_drewN | apply below_drew1 | refine below_set ?_ GE259.out | refine below_set ?_ GE260.out) | exact HB.out))) : w.heap.size ≤ gb279)); have n10_ := Aside0.mk ((by rw [hg]; exact (below_size (by repeat (first | (with_reducible first | exact HB.out | apply below_alloc | apply pw_below_drewN | apply below_drew1 | refine below_set ?_ GE259.out | refine below_set ?_ GE260.out) | exact HB.out))) : w.heap.size ≤ gb279)); have n11_ := Aside0.mk ((by rw [hg]; exact Nat.ne_of_lt (blk_lt (g := gb259) (o := .cells #[.slice A0_0 l0_0.length c0_0] 25 (0, 0)) (pkb BK259.out)) : gb259 ≠ gb279)); have n12_ := Aside0.mk ((by rw [hg]; exact Nat.ne_of_gt (blk_lt (g := gb259) (o := .cells #[.slice A0_0 l0_0.length c0_0] 25 (0, 0)) (pkb BK259.out)) : gb279 ≠ gb259)); have n13_ := Aside0.mk ((by rw [hg]; exact Nat.ne_of_lt (blk_lt (g := gb260) (o := .cells #[.slice A2_0 l2_0.length c2_0] 25 (0, 0)) (pkb BK260.out)) : gb260 ≠ gb279)); have n14_ := Aside0.mk ((by rw [hg]; exact Nat.ne_of_gt (blk_lt (g := gb260) (o := .cells #[.slice A2_0 l2_0.length c2_0] 25 (0, 0)) (pkb BK260.out)) : gb279 ≠ gb260)); clear HO265; clear HO268; clear HO271; clear HO274; clear HO278; clear BK259; clear BK260; clear HB; have HO265 := n0_; have HO268 := n1_; have HO271 := n2_; have HO274 := n3_; have HO278 := n4_; have BK259 := n5_; have BK260 := n6_; have HB := n7_; have BK279 := n8_; have GW279 := n9_; have GE279 := n10_; have NB259_279 := n11_; have NB279_259 := n12_; have NB260_279 := n13_; have NB279_260 := n14_; clear n0_ n1_ n2_ n3_ n4_ n5_ n6_ n7_ n8_ n9_ n10_ n11_ n12_ n13_ n14_; clear hb hbox hg; obtain ⟨Ao50, co50, eo50⟩ := Kd.R_slice HO278.out; subst eo50; have hnb51 := NB279_259.out; have hnc51 := NB259_279.out; have hnb52 := NB279_260.out; have hnc52 := NB260_279.out; have hcz53_0 : w49.cell? ⟨gb279, 0, none⟩ = some (.slice none 0 0) := (blk_cell BK279.out 0).trans rfl; have hfz53_0 := blk_frozen BK279.out 0) | ((with_reducible refine gate_callee (f := 13) rfl ?_); refine goesL_ (some 46) rfl rfl Try.func13 (by kernel_rfl) rfl #[.slice A1 l1.length c1] rfl (by (try simp only [List.map_toArray, List.map_cons, List.map_nil]); first | done | rfl | (simp only [List.length_drop, List.length_take]; rfl)) ?_; (with_reducible refine (laws_toIntS.calls k _ _ l1 t280 _ ?side1 ?side2 A28.out).mono ?_); (case side1 => exact Kd.C_below HR1.out (by repeat (first | (with_reducible first | exact HB.out | apply below_alloc | apply pw_below_drewN | apply below_drew1 | refine below_set ?_ GE259.out | refine below_set ?_ GE260.out | refine below_set ?_ GE279.out) | exact HB.out))); (case side2 => exact HC1.out); rintro e w54 ⟨v281, rfl, ho0, hb⟩; refine ⟨_, rfl, ?_⟩; have n0_ := Aside0.mk (Kd.R_below (pkr ((Kd.R_mono (Kd.R_far (p := ⟨gb279, 0, none⟩) (Kd.R_types HO265.out BK279.out (by decide)) (fun _ hk => by first | exact hk.2 | simp_all) (.slice Ao50 t276.length co50)) (fun _ h_ => by first | exact h_.1 | simp_all)))) hb); have n1_ := Aside0.mk (Kd.R_elder' (pkr ((Kd.R_mono (Kd.R_far (p := ⟨gb279, 0, none⟩) (Kd.R_types HO268.out BK279.out (by decide)) (fun _ hk => by first | exact hk.2 | simp_all) (.slice Ao50 t276.length co50)) (fun _ h_ => by first | exact h_.1 | simp_all)))) (Kd.R_base ho0) hb); have n2_ := Aside0.mk (Kd.R_below (pkr ((Kd.R_mono (Kd.R_far (p := ⟨gb279, 0, none⟩) (Kd.R_types HO271.out BK279.out (by decide)) (fun _ hk => by first | exact hk.2 | simp_all) (.slice Ao50 t276.length co50)) (fun _ h_ => by first | exact h_.1 | simp_all)))) hb); have n3_ := Aside0.mk (Kd.R_elder' (pkr ((Kd.R_mono (Kd.R_far (p := ⟨gb279, 0, none⟩) (Kd.R_types HO274.out BK279.out (by decide)) (fun _ hk => by first | exact hk.2 | simp_all) (.slice Ao50 t276.length co50)) (fun _ h_ => by first | exact h_.1 | simp_all)))) (Kd.R_base ho0) hb); have n4_ := Aside0.mk (Kd.R_below (pkr ((Kd.R_mono (Kd.R_far (p := ⟨gb279, 0, none⟩) (Kd.R_types HO278.out BK279.out (by decide)) (fun _ hk => by first | exact hk.2 | simp_all) (.slice Ao50 t276.length co50)) (fun _ h_ => by first | exact h_.1 | simp_all)))) hb); have n5_ := Aside0.mk (Kd.R_lower (Kd.R_new' (Kd.R_new' ho0 (Kd.R_lt (pkr ((Kd.R_mono (Kd.R_far (p := ⟨gb279, 0, none⟩) (Kd.R_types HO268.out BK279.out (by decide)) (fun _ hk => by first | exact hk.2 | simp_all) (.slice Ao50 t276.length co50)) (fun _ h_ => by first | exact h_.1 | simp_all)))))) (Kd.R_lt (pkr ((Kd.R_mono (Kd.R_far (p := ⟨gb279, 0, none⟩) (Kd.R_types HO274.out BK279.out (by decide)) (fun _ hk => by first | exact hk.2 | simp_all) (.slice Ao50 t276.length co50)) (fun _ h_ => by first | exact h_.1 | simp_all)))))) (below_size (by repeat (first | (with_reducible first | exact HB.out | apply below_alloc | apply pw_below_drewN | apply below_drew1 | refine below_set ?_ GE259.out | refine below_set ?_ GE260.out | refine below_set ?_ GE279.out) | exact HB.out)))); have n6_ := Aside0.mk (blk_below (g := gb259) (o := .cells #[.slice A0_0 l0_0.length c0_0] 25 (0, 0)) (by (with_reducible repeat (first | refine blk_drewN ?_ _ | refine blk_drew ?_ | refine blk_alloc ?_ _)); refine blk_far ?_ NB259_279.out _; (with_reducible repeat (first | refine blk_drewN ?_ _ | refine blk_drew ?_ | refine blk_alloc ?_ _)); exact BK259.out) hb); have n7_ := Aside0.mk (blk_below (g := gb260) (o := .cells #[.slice A2_0 l2_0.length c2_0] 25 (0, 0)) (by (with_reducible repeat (first | refine blk_drewN ?_ _ | refine blk_drew ?_ | refine blk_alloc ?_ _)); refine blk_far ?_ NB260_279.out _; (with_reducible repeat (first | refine blk_drewN ?_ _ | refine blk_drew ?_ | refine blk_alloc ?_ _)); exact BK260.out) hb); have n8_ := Aside0.mk (blk_below (g := gb279) (o := .cells #[.slice Ao50 t276.length co50] 32 (0, 0)) (by (with_reducible repeat (first | refine blk_drewN ?_ _ | refine blk_drew ?_ | refine blk_alloc ?_ _)); refine blk_put (cs := #[.slice none 0 0]) ?_ 0 _ rfl; (with_reducible repeat (first | refine blk_drewN ?_ _ | refine blk_drew ?_ | refine blk_alloc ?_ _)); exact BK279.out) hb); have n9_ := Aside0.mk (below_step (by repeat (first | (with_reducible first | exact HB.out | apply below_alloc | apply pw_below_drewN | apply below_drew1 | refine below_set ?_ GE259.out | refine below_set ?_ GE260.out | refine below_set ?_ GE279.out) | exact HB.out)) hb); clear HO265; clear HO268; clear HO271; clear HO274; clear HO278; clear BK259; clear BK260; clear BK279; clear HB; have HO265 := n0_; have HO268 := n1_; have HO271 := n2_; have HO274 := n3_; have HO278 := n4_; have HO282 := n5_; have BK259 := n6_; have BK260 := n7_; have BK279 := n8_; have HB := n9_; clear n0_ n1_ n2_ n3_ n4_ n5_ n6_ n7_ n8_ n9_; (try clear hb); (try clear hb2); (try clear hk); (try clear hi); (try clear ho0); have hcz55_0 : w54.cell? ⟨gb260, 0, none⟩ = some (.slice A2_0 l2_0.length c2_0) := (blk_cell BK260.out 0).trans rfl; have hfz55_0 := blk_frozen BK260.out 0) | ((with_reducible refine gate_callee (f := 14) rfl ?_); refine goesL_ (some 48) rfl rfl Try.func14 (by kernel_rfl) rfl #[.agg #[.slice A2_0 l2_0.length c2_0]] rfl (by (try simp only [List.map_toArray, List.map_cons, List.map_nil]); first | done | rfl | (simp only [List.length_drop, List.length_take]; rfl)) ?_; (with_reducible refine (laws_toRules.calls k _ _ l2_0 t283 _ ?side1 ?side2 A29.out).mono ?_); (case side1 => repeat (first | exact (Kd.C_below HR2_0.out HB.out) | (with_reducible refine Kd.C_alloc ?_ _) | (with_reducible refine Kd.C_drewN ?_ _) | (with_reducible refine Kd.C_drew ?_))); (case side2 => exact HC2_0.out); rintro e w56 ⟨v284, rfl, ho0, hb⟩; refine ⟨_, rfl, ?_⟩; have n0_ := Aside0.mk (Kd.R_elder' (pkr HO265.out) (Kd.R_base ho0) hb); have n1_ := Aside0.mk (Kd.R_below (pkr HO268.out) hb); have n2_ := Aside0.mk (Kd.R_elder' (pkr HO271.out) (Kd.R_base ho0) hb); have n3_ := Aside0.mk (Kd.R_below (pkr HO274.out) hb); have n4_ := Aside0.mk (Kd.R_elder' (pkr HO278.out) (Kd.R_base ho0) hb); have n5_ := Aside0.mk (Kd.R_below (pkr HO282.out) hb); have n6_ := Aside0.mk (Kd.R_lower (Kd.R_new' (Kd.R_new' (Kd.R_new' ho0 (Kd.R_lt (pkr HO265.out))) (Kd.R_lt (pkr HO271.out))) (Kd.R_lt (pkr HO278.out))) (below_size (by repeat (first | (with_reducible first | exact HB.out | apply below_alloc | apply pw_below_drewN | apply below_drew1 | refine below_set ?_ GE259.out | refine below_set ?_ GE260.out | refine below_set ?_ GE279.out) | exact HB.out)))); have n7_ := Aside0.mk (blk_below (g := gb259) (o := .cells #[.slice A0_0 l0_0.length c0_0] 25 (0, 0)) (pkb BK259.out) hb); have n8_ := Aside0.mk (blk_below (g := gb260) (o := .cells #[.slice A2_0 l2_0.length c2_0] 25 (0, 0)) (pkb BK260.out) hb); have n9_ := Aside0.mk (blk_below (g := gb279) (o := .cells #[.slice Ao50 t276.length co50] 32 (0, 0)) (pkb BK279.out) hb); have n10_ := Aside0.mk (below_step (by repeat (first | (with_reducible first | exact HB.out | apply below_alloc | apply pw_below_drewN | apply below_drew1 | refine below_set ?_ GE259.out | refine below_set ?_ GE260.out | refine below_set ?_ GE279.out) | exact HB.out)) hb); clear HO265; clear HO268; clear HO271; clear HO274; clear HO278; clear HO282; clear BK259; clear BK260; clear BK279; clear HB; have HO265 := n0_; have HO268 := n1_; have HO271 := n2_; have HO274 := n3_; have HO278 := n4_; have HO282 := n5_; have HO285 := n6_; have BK259 := n7_; have BK260 := n8_; have BK279 := n9_; have HB := n10_; clear n0_ n1_ n2_ n3_ n4_ n5_ n6_ n7_ n8_ n9_ n10_; (try clear hb); (try clear hb2); (try clear hk); (try clear hi); (try clear ho0)) | ((with_reducible refine gate_dst (N := 12) rfl ?_); refine box_event ?hg (N := 12) ?hd (cs := #[.slice none 0 0]) (t := 32) ?hr ?_; (case hd => rfl); (case hg => rfl); (case hr => first | (go_simp; done) | (go_simp; rfl)); intro gb286 hg w57 hbox hb; have n0_ := Aside0.mk (Kd.R_below (pkr HO265.out) hb); have n1_ := Aside0.mk (Kd.R_below (pkr HO268.out) hb); have n2_ := Aside0.mk (Kd.R_below (pkr HO271.out) hb); have n3_ := Aside0.mk (Kd.R_below (pkr HO274.out) hb); have n4_ := Aside0.mk (Kd.R_below (pkr HO278.out) hb); have n5_ := Aside0.mk (Kd.R_below (pkr HO282.out) hb); have n6_ := Aside0.mk (Kd.R_below (pkr HO285.out) hb); have n7_ := Aside0.mk (blk_below (g := gb259) (o := .cells #[.slice A0_0 l0_0.length c0_0] 25 (0, 0)) (pkb BK259.out) hb); have n8_ := Aside0.mk (blk_below (g := gb260) (o := .cells #[.slice A2_0 l2_0.length c2_0] 25 (0, 0)) (pkb BK260.out) hb); have n9_ := Aside0.mk (blk_below (g := gb279) (o := .cells #[.slice Ao50 t276.length co50] 32 (0, 0)) (pkb BK279.out) hb); have n10_ := Aside0.mk (below_step (by repeat (first | (with_reducible first | exact HB.out | apply below_alloc | apply pw_below_drewN | apply below_drew1 | refine below_set ?_ GE259.out | refine below_set ?_ GE260.out | refine below_set ?_ GE279.out) | exact HB.out)) hb); have n11_ := Aside0.mk (hbox); have n12_ := Aside0.mk ((by rw [hg]; exact (below_size (by repeat (first | (with_reducible first | exact HB.out | apply below_alloc | apply pw_below_drewN | apply below_drew1 | refine below_set ?_ GE259.out | refine below_set ?_ GE260.out | refine below_set ?_ GE279.out) | exact HB.out))) : w.heap.size ≤ gb286)); have n13_ := Aside0.mk ((by rw [hg]; exact (below_size (by repeat (first | (with_reducible first | exact HB.out | apply below_alloc | apply pw_below_drewN | apply below_drew1 | refine below_set ?_ GE259.out | refine below_set ?_ GE260.out | refine below_set ?_ GE279.out) | exact HB.out))) : w.heap.size ≤ gb286)); have n14_ := Aside0.mk ((by rw [hg]; exact Nat.ne_of_lt (blk_lt (g := gb259) (o := .cells #[.slice A0_0 l0_0.length c0_0] 25 (0, 0)) (pkb BK259.out)) : gb259 ≠ gb286)); have n15_ := Aside0.mk ((by rw [hg]; exact Nat.ne_of_gt (blk_lt (g := gb259) (o := .cells #[.slice A0_0 l0_0.length c0_0] 25 (0, 0)) (pkb BK259.out)) : gb286 ≠ gb259)); have n16_ := Aside0.mk ((by rw [hg]; exact Nat.ne_of_lt (blk_lt (g := gb260) (o := .cells #[.slice A2_0 l2_0.length c2_0] 25 (0, 0)) (pkb BK260.out)) : gb260 ≠ gb286)); have n17_ := Aside0.mk ((by rw [hg]; exact Nat.ne_of_gt (blk_lt (g := gb260) (o := .cells #[.slice A2_0 l2_0.length c2_0] 25 (0, 0)) (pkb BK260.out)) : gb286 ≠ gb260)); have n18_ := Aside0.mk ((by rw [hg]; exact Nat.ne_of_lt (blk_lt (g := gb279) (o := .cells #[.slice Ao50 t276.length co50] 32 (0, 0)) (pkb BK279.out)) : gb279 ≠ gb286)); have n19_ := Aside0.mk ((by rw [hg]; exact Nat.ne_of_gt (blk_lt (g := gb279) (o := .cells #[.slice Ao50 t276.length co50] 32 (0, 0)) (pkb BK279.out)) : gb286 ≠ gb279)); clear HO265; clear HO268; clear HO271; clear HO274; clear HO278; clear HO282; clear HO285; clear BK259; clear BK260; clear BK279; clear HB; have HO265 := n0_; have HO268 := n1_; have HO271 := n2_; have HO274 := n3_; have HO278 := n4_; have HO282 := n5_; have HO285 := n6_; have BK259 := n7_; have BK260 := n8_; have BK279 := n9_; have HB := n10_; have BK286 := n11_; have GW286 := n12_; have GE286 := n13_; have NB259_286 := n14_; have NB286_259 := n15_; have NB260_286 := n16_; have NB286_260 := n17_; have NB279_286 := n18_; have NB286_279 := n19_; clear n0_ n1_ n2_ n3_ n4_ n5_ n6_ n7_ n8_ n9_ n10_ n11_ n12_ n13_ n14_ n15_ n16_ n17_ n18_ n19_; clear hb hbox hg; obtain ⟨Ao58, co58, eo58⟩ := Kd.R_slice HO285.out; subst eo58; have hnb59 := NB286_259.out; have hnc59 := NB259_286.out; have hnb60 := NB286_260.out; have hnc60 := NB260_286.out; have hnb61 := NB286_279.out; have hnc61 := NB279_286.out; have hcz62_0 : w57.cell? ⟨gb286, 0, none⟩ = some (.slice none 0 0) := (blk_cell BK286.out 0).trans rfl; have hfz62_0 := blk_frozen BK286.out 0; have hcz63_0 : w57.cell? ⟨gb279, 0, none⟩ = some (.slice Ao50 t276.length co50) := (blk_cell BK279.out 0).trans rfl; have hfz63_0 := blk_frozen BK279.out 0; obtain ⟨Ao64, co64, eo64⟩ := Kd.R_slice HO282.out; subst eo64) | ((with_reducible refine gate_callee (f := 30) rfl ?_); refine goesL_ (some 53) rfl rfl Try.func30 (by kernel_rfl) rfl #[.agg #[.slice Ao50 t276.length co50], .slice Ao64 t280.length co64, .agg #[.slice Ao58 t283.length co58]] rfl (by (try simp only [List.map_toArray, List.map_cons, List.map_nil]); first | done | rfl | (simp only [List.length_drop, List.length_take]; rfl)) ?_; (with_reducible refine (impl_ThenRules.calls k _ _ t276 _ _ t280 _ _ t283 t287 t290 _ ?side1 ?side2 ?side3 ?side4 ?side5 ?side6 A30.out).mono ?_); (case side1 => refine (Kd.R_reads' (e := 110) (base := w.heap.size) (ok := fun k_ => (((True ∧ some k_ ≠ (.slice Ao43 t263.length co43 : Value).ownBlock) ∧ some k_ ≠ (.slice Ao45 t269.length co45 : Value).ownBlock) ∧ some k_ ≠ (.slice Ao58 t283.length co58 : Value).ownBlock)) (n := t276.length) (c := co50) ?_).2.2; exact (pkr ((Kd.R_mono (Kd.R_far (p := ⟨gb286, 0, none⟩) (Kd.R_types HO278.out BK286.out (by decide)) (fun _ hk => by first | exact hk.2 | simp_all) (.slice Ao58 t283.length co58)) (fun _ h_ => by first | exact h_.1 | simp_all))))); (case side2 => exact (Kd.R_reads' HO278.out).2.1); (case side3 => refine (Kd.R_reads' (e := 3) (base := w.heap.size) (ok := fun k_ => ((True ∧ some k_ ≠ (.slice Ao44 t266.length co44 : Value).ownBlock) ∧ some k_ ≠ (v273 : Value).ownBlock)) (n := t280.length) (c := co64) ?_).2.2; exact (pkr ((Kd.R_mono (Kd.R_far (p := ⟨gb286, 0, none⟩) (Kd.R_types HO282.out BK286.out (by decide)) (fun _ hk => by first | exact hk.2 | simp_all) (.slice Ao58 t283.length co58)) (fun _ h_ => by first | exact h_.1 | simp_all))))); (case side4 => exact (Kd.R_reads' HO282.out).2.1); (case side5 => refine (Kd.R_reads' (e := 110) (base := w.heap.size) (ok := fun k_ => (((True ∧ some k_ ≠ (.slice Ao43 t263.length co43 : Value).ownBlock) ∧ some k_ ≠ (.slice Ao45 t269.length co45 : Value).ownBlock) ∧ some k_ ≠ (.slice Ao50 t276.length co50 : Value).ownBlock)) (n := t283.length) (c := co58) ?_).2.2; exact (pkr ((Kd.R_mono (Kd.R_far (p := ⟨gb286, 0, none⟩) (Kd.R_types HO285.out BK286.out (by decide)) (fun _ hk => by first | exact hk.2 | simp_all) (.slice Ao58 t283.length co58)) (fun _ h_ => by first | exact h_.1 | simp_all))))); (case side6 => exact (Kd.R_reads' HO285.out).2.1); rintro e w65 ⟨v288, rfl, ho0, hb⟩; refine ⟨_, rfl, ?_⟩; have n0_ := Aside0.mk (Kd.R_below (pkr ((Kd.R_mono (Kd.R_far (p := ⟨gb286, 0, none⟩) (Kd.R_types HO265.out BK286.out (by decide)) (fun _ hk => by first | exact hk.2 | simp_all) (.slice Ao58 t283.length co58)) (fun _ h_ => by first | exact h_.1 | simp_all)))) hb); have n1_ := Aside0.mk (Kd.R_elder' (pkr ((Kd.R_mono (Kd.R_far (p := ⟨gb286, 0, none⟩) (Kd.R_types HO268.out BK286.out (by decide)) (fun _ hk => by first | exact hk.2 | simp_all) (.slice Ao58 t283.length co58)) (fun _ h_ => by first | exact h_.1 | simp_all)))) (Kd.R_base ho0) hb); have n2_ := Aside0.mk (Kd.R_below (pkr ((Kd.R_mono (Kd.R_far (p := ⟨gb286, 0, none⟩) (Kd.R_types HO271.out BK286.out (by decide)) (fun _ hk => by first | exact hk.2 | simp_all) (.slice Ao58 t283.length co58)) (fun _ h_ => by first | exact h_.1 | simp_all)))) hb); have n3_ := Aside0.mk (Kd.R_elder' (pkr ((Kd.R_mono (Kd.R_far (p := ⟨gb286, 0, none⟩) (Kd.R_types HO274.out BK286.out (by decide)) (fun _ hk => by first | exact hk.2 | simp_all) (.slice Ao58 t283.length co58)) (fun _ h_ => by first | exact h_.1 | simp_all)))) (Kd.R_base ho0) hb); have n4_ := Aside0.mk (Kd.R_below (pkr ((Kd.R_mono (Kd.R_far (p := ⟨gb286, 0, none⟩) (Kd.R_types HO278.out BK286.out (by decide)) (fun _ hk => by first | exact hk.2 | simp_all) (.slice Ao58 t283.length co58)) (fun _ h_ => by first | exact h_.1 | simp_all)))) hb); have n5_ := Aside0.mk (Kd.R_elder' (pkr ((Kd.R_mono (Kd.R_far (p := ⟨gb286, 0, none⟩) (Kd.R_types HO282.out BK286.out (by decide)) (fun _ hk => by first | exact hk.2 | simp_all) (.slice Ao58 t283.length co58)) (fun _ h_ => by first | exact h_.1 | simp_all)))) (Kd.R_base ho0) hb); have n6_ := Aside0.mk (Kd.R_below (pkr ((Kd.R_mono (Kd.R_far (p := ⟨gb286, 0, none⟩) (Kd.R_types HO285.out BK286.out (by decide)) (fun _ hk => by first | exact hk.2 | simp_all) (.slice Ao58 t283.length co58)) (fun _ h_ => by first | exact h_.1 | simp_all)))) hb); have n7_ := Aside0.mk (Kd.R_lower (Kd.R_new' (Kd.R_new' (Kd.R_new' ho0 (Kd.R_lt (pkr ((Kd.R_mono (Kd.R_far (p := ⟨gb286, 0, none⟩) (Kd.R_types HO268.out BK286.out (by decide)) (fun _ hk => by first | exact hk.2 | simp_all) (.slice Ao58 t283.length co58)) (fun _ h_ => by first | exact h_.1 | simp_all)))))) (Kd.R_lt (pkr ((Kd.R_mono (Kd.R_far (p := ⟨gb286, 0, none⟩) (Kd.R_types HO274.out BK286.out (by decide)) (fun _ hk => by first | exact hk.2 | simp_all) (.slice Ao58 t283.length co58)) (fun _ h_ => by first | exact h_.1 | simp_all)))))) (Kd.R_lt (pkr ((Kd.R_mono (Kd.R_far (p := ⟨gb286, 0, none⟩) (Kd.R_types HO282.out BK286.out (by decide)) (fun _ hk => by first | exact hk.2 | simp_all) (.slice Ao58 t283.length co58)) (fun _ h_ => by first | exact h_.1 | simp_all)))))) (below_size (by repeat (first | (with_reducible first | exact HB.out | apply below_alloc | apply pw_below_drewN | apply below_drew1 | refine below_set ?_ GE259.out | refine below_set ?_ GE260.out | refine below_set ?_ GE279.out | refine below_set ?_ GE286.out) | exact HB.out)))); have n8_ := Aside0.mk (blk_below (g := gb259) (o := .cells #[.slice A0_0 l0_0.length c0_0] 25 (0, 0)) (by (with_reducible repeat (first | refine blk_drewN ?_ _ | refine blk_drew ?_ | refine blk_alloc ?_ _)); refine blk_far ?_ NB259_286.out _; (with_reducible repeat (first | refine blk_drewN ?_ _ | refine blk_drew ?_ | refine blk_alloc ?_ _)); exact BK259.out) hb); have n9_ := Aside0.mk (blk_below (g := gb260) (o := .cells #[.slice A2_0 l2_0.length c2_0] 25 (0, 0)) (by (with_reducible repeat (first | refine blk_drewN ?_ _ | refine blk_drew ?_ | refine blk_alloc ?_ _)); refine blk_far ?_ NB260_286.out _; (with_reducible repeat (first | refine blk_drewN ?_ _ | refine blk_drew ?_ | refine blk_alloc ?_ _)); exact BK260.out) hb); have n10_ := Aside0.mk (blk_below (g := gb279) (o := .cells #[.slice Ao50 t276.length co50] 32 (0, 0)) (by (with_reducible repeat (first | refine blk_drewN ?_ _ | refine blk_drew ?_ | refine blk_alloc ?_ _)); refine blk_far ?_ NB279_286.out _; (with_reducible repeat (first | refine blk_drewN ?_ _ | refine blk_drew ?_ | refine blk_alloc ?_ _)); exact BK279.out) hb); have n11_ := Aside0.mk (blk_below (g := gb286) (o := .cells #[.slice Ao58 t283.length co58] 32 (0, 0)) (by (with_reducible repeat (first | refine blk_drewN ?_ _ | refine blk_drew ?_ | refine blk_alloc ?_ _)); refine blk_put (cs := #[.slice none 0 0]) ?_ 0 _ rfl; (with_reducible repeat (first | refine blk_drewN ?_ _ | refine blk_drew ?_ | refine blk_alloc ?_ _)); exact BK286.out) hb); have n12_ := Aside0.mk (below_step (by repeat (first | (with_reducible first | exact HB.out | apply below_alloc | apply pw_below_drewN | apply below_drew1 | refine below_set ?_ GE259.out | refine below_set ?_ GE260.out | refine below_set ?_ GE279.out | refine below_set ?_ GE286.out) | exact HB.out)) hb); clear HO265; clear HO268; clear HO271; clear HO274; clear HO278; clear HO282; clear HO285; clear BK259; clear BK260; clear BK279; clear BK286; clear HB; have HO265 := n0_; have HO268 := n1_; have HO271 := n2_; have HO274 := n3_; have HO278 := n4_; have HO282 := n5_; have HO285 := n6_; have HO289 := n7_; have BK259 := n8_; have BK260 := n9_; have BK279 := n10_; have BK286 := n11_; have HB := n12_; clear n0_ n1_ n2_ n3_ n4_ n5_ n6_ n7_ n8_ n9_ n10_ n11_ n12_; (try clear hb); (try clear hb2); (try clear hk); (try clear hi); (try clear ho0)))
    (try simp only [Act.put, List.setIfInBounds_toArray, List.set_cons_zero, List.set_cons_succ])
    go_cut [64] (fun v64 wc => ∃ (kq : Nat) (x64_30 : Bool), v64 = .bool x64_30 ∧ Aside0 (laws_FnExactThenRules.j0 kq l1 t272 t275 t280 t287 t290 x64_30 l0_0 l2_0 t276 t283 = some r) ∧ Aside0 (kq ≤ k) ∧ Aside0 (Kd.R (Kd.int .i64) 3 wc w.heap.size (fun k_ => some k_ ≠ ((.slice Ao64 t280.length co64) : Value).ownBlock ∧ some k_ ≠ (v288 : Value).ownBlock) v273 t272) ∧ Aside0 (Kd.R (Kd.int .i64) 3 wc w.heap.size (fun k_ => some k_ ≠ (v273 : Value).ownBlock ∧ some k_ ≠ (v288 : Value).ownBlock) (.slice Ao64 t280.length co64) t280) ∧ Aside0 (Kd.R (Kd.int .i64) 3 wc w.heap.size (fun k_ => some k_ ≠ (v273 : Value).ownBlock ∧ some k_ ≠ ((.slice Ao64 t280.length co64) : Value).ownBlock) v288 t287) ∧ Aside0 (Kd.R k110 110 wc w.heap.size (fun k_ => some k_ ≠ ((.slice Ao58 t283.length co58) : Value).ownBlock) (.slice Ao50 t276.length co50) t276) ∧ Aside0 (Kd.R k110 110 wc w.heap.size (fun k_ => some k_ ≠ ((.slice Ao50 t276.length co50) : Value).ownBlock) (.slice Ao58 t283.length co58) t283) ∧ Aside0 (wc.heap[gb259]? = some (.cells #[(.slice A0_0 l0_0.length c0_0)] 25 (0, 0))) ∧ Aside0 (wc.heap[gb260]? = some (.cells #[(.slice A2_0 l2_0.length c2_0)] 25 (0, 0))) ∧ Aside0 (wc.heap[gb279]? = some (.cells #[(.slice Ao50 t276.length co50)] 32 (0, 0))) ∧ Aside0 (wc.heap[gb286]? = some (.cells #[(.slice Ao58 t283.length co58)] 32 (0, 0))) ∧ Aside0 (Below w.heap.size w wc))
    case first =>
     have H := HC31.out
     clear HC31
     replace H := Option.bind_eq_some_iff.mp H
     obtain ⟨t291, A660, H⟩ := H
     replace H : (if t291 = true then (laws_FnExactThenRules.j0 k l1 t272 t275 t280 t287 t290 (t290 != t275) l0_0 l2_0 t276 t283) else (laws_FnExactThenRules.j0 k l1 t272 t275 t280 t287 t290 true l0_0 l2_0 t276 t283)) = some r := H
     have A66 := Aside0.mk A660
     clear A660
     by_cases c67 : t291 = true
     ·subst c67
      have H1 : (laws_FnExactThenRules.j0 k l1 t272 t275 t280 t287 t290 (t290 != t275) l0_0 l2_0 t276 t283) = some r := by rw [if_pos rfl] at H; exact H
      clear H
      have H := H1
      clear H1
      have H' := Aside0.mk H
      clear H
      obtain ⟨Ao68, co68, eo68⟩ := Kd.R_slice HO289.out
      subst eo68
      obtain ⟨Ao69, co69, eo69⟩ := Kd.R_slice HO274.out
      subst eo69
      go_wp2_with (first | ((with_reducible refine gate_callee (f := 16) rfl ?_); refine goesL_ (some 58) rfl rfl Try.func16 (by kernel_rfl) rfl #[.slice Ao68 t287.length co68, .slice Ao69 t272.length co69] rfl (by (try simp only [List.map_toArray, List.map_cons, List.map_nil]); first | done | rfl | (simp only [List.length_drop, List.length_take]; rfl)) ?_; (with_reducible refine (laws_eqIntS.calls k _ _ t287 _ _ t272 true _ ?side1 ?side2 ?side3 ?side4 A66.out).mono ?_); (case side1 => repeat (first | exact (Kd.R_reads' HO289.out).2.2 | (with_reducible refine Kd.C_alloc ?_ _) | (with_reducible refine Kd.C_drewN ?_ _) | (with_reducible refine Kd.C_drew ?_))); (case side2 => exact (Kd.R_reads' HO289.out).2.1); (case side3 => repeat (first | exact (Kd.R_reads' HO274.out).2.2 | (with_reducible refine Kd.C_alloc ?_ _) | (with_reducible refine Kd.C_drewN ?_ _) | (with_reducible refine Kd.C_drew ?_))); (case side4 => exact (Kd.R_reads' HO274.out).2.1); rintro e w' ⟨rfl, ⟨nd, rfl⟩⟩; refine ⟨_, rfl, ?_⟩))
      go_meet
      case rel => exact ⟨_, ((t290 != t275)), (by first | rfl | (simp; done) | (simp [*]; done)), H', ⟨by first | omega | exact Nat.le_refl _⟩, ⟨by (with_reducible repeat (first | apply Kd.R_alloc | apply Kd.R_drewN | apply Kd.R_drew)); exact Kd.R_mono HO274.out (fun _ hk => by first | exact ⟨hk.1.2, hk.2⟩ | simp_all)⟩, ⟨by (with_reducible repeat (first | apply Kd.R_alloc | apply Kd.R_drewN | apply Kd.R_drew)); exact Kd.R_mono HO282.out (fun _ hk => by first | exact ⟨hk.1.2, hk.2⟩ | simp_all)⟩, ⟨by (with_reducible repeat (first | apply Kd.R_alloc | apply Kd.R_drewN | apply Kd.R_drew)); exact Kd.R_mono HO289.out (fun _ hk => by first | exact ⟨hk.1.2, hk.2⟩ | simp_all)⟩, ⟨by (with_reducible repeat (first | apply Kd.R_alloc | apply Kd.R_drewN | apply Kd.R_drew)); exact Kd.R_mono HO278.out (fun _ hk => by first | exact hk.2 | simp_all)⟩, ⟨by (with_reducible repeat (first | apply Kd.R_alloc | apply Kd.R_drewN | apply Kd.R_drew)); exact Kd.R_mono HO285.out (fun _ hk => by first | exact hk.2 | simp_all)⟩, ⟨by (with_reducible repeat (first | refine blk_drewN ?_ _ | refine blk_drew ?_ | refine blk_alloc ?_ _)); exact BK259.out⟩, ⟨by (with_reducible repeat (first | refine blk_drewN ?_ _ | refine blk_drew ?_ | refine blk_alloc ?_ _)); exact BK260.out⟩, ⟨by (with_reducible repeat (first | refine blk_drewN ?_ _ | refine blk_drew ?_ | refine blk_alloc ?_ _)); exact BK279.out⟩, ⟨by (with_reducible repeat (first | refine blk_drewN ?_ _ | refine blk_drew ?_ | refine blk_alloc ?_ _)); exact BK286.out⟩, ⟨by repeat (first | (with_reducible first | exact HB.out | apply below_alloc | apply pw_below_drewN | apply below_drew1 | refine below_set ?_ GE259.out | refine below_set ?_ GE260.out | refine below_set ?_ GE279.out | refine below_set ?_ GE286.out) | exact HB.out)⟩⟩
     ·replace c67 := Bool.eq_false_iff.mpr c67
      subst c67
      have H1 : (laws_FnExactThenRules.j0 k l1 t272 t275 t280 t287 t290 true l0_0 l2_0 t276 t283) = some r := by rw [if_neg (show ¬ (false = true) by decide)] at H; exact H
      clear H
      have H := H1
      clear H1
      have H' := Aside0.mk H
      clear H
      obtain ⟨Ao70, co70, eo70⟩ := Kd.R_slice HO289.out
      subst eo70
      obtain ⟨Ao71, co71, eo71⟩ := Kd.R_slice HO274.out
      subst eo71
      go_wp2_with (first | ((with_reducible refine gate_callee (f := 16) rfl ?_); refine goesL_ (some 58) rfl rfl Try.func16 (by kernel_rfl) rfl #[.slice Ao70 t287.length co70, .slice Ao71 t272.length co71] rfl (by (try simp only [List.map_toArray, List.map_cons, List.map_nil]); first | done | rfl | (simp only [List.length_drop, List.length_take]; rfl)) ?_; (with_reducible refine (laws_eqIntS.calls k _ _ t287 _ _ t272 false _ ?side1 ?side2 ?side3 ?side4 A66.out).mono ?_); (case side1 => repeat (first | exact (Kd.R_reads' HO289.out).2.2 | (with_reducible refine Kd.C_alloc ?_ _) | (with_reducible refine Kd.C_drewN ?_ _) | (with_reducible refine Kd.C_drew ?_))); (case side2 => exact (Kd.R_reads' HO289.out).2.1); (case side3 => repeat (first | exact (Kd.R_reads' HO274.out).2.2 | (with_reducible refine Kd.C_alloc ?_ _) | (with_reducible refine Kd.C_drewN ?_ _) | (with_reducible refine Kd.C_drew ?_))); (case side4 => exact (Kd.R_reads' HO274.out).2.1); rintro e w' ⟨rfl, ⟨nd, rfl⟩⟩; refine ⟨_, rfl, ?_⟩))
      go_meet
      case rel => exact ⟨_, (true), (by first | rfl | (simp; done) | (simp [*]; done)), H', ⟨by first | omega | exact Nat.le_refl _⟩, ⟨by (with_reducible repeat (first | apply Kd.R_alloc | apply Kd.R_drewN | apply Kd.R_drew)); exact Kd.R_mono HO274.out (fun _ hk => by first | exact ⟨hk.1.2, hk.2⟩ | simp_all)⟩, ⟨by (with_reducible repeat (first | apply Kd.R_alloc | apply Kd.R_drewN | apply Kd.R_drew)); exact Kd.R_mono HO282.out (fun _ hk => by first | exact ⟨hk.1.2, hk.2⟩ | simp_all)⟩, ⟨by (with_reducible repeat (first | apply Kd.R_alloc | apply Kd.R_drewN | apply Kd.R_drew)); exact Kd.R_mono HO289.out (fun _ hk => by first | exact ⟨hk.1.2, hk.2⟩ | simp_all)⟩, ⟨by (with_reducible repeat (first | apply Kd.R_alloc | apply Kd.R_drewN | apply Kd.R_drew)); exact Kd.R_mono HO278.out (fun _ hk => by first | exact hk.2 | simp_all)⟩, ⟨by (with_reducible repeat (first | apply Kd.R_alloc | apply Kd.R_drewN | apply Kd.R_drew)); exact Kd.R_mono HO285.out (fun _ hk => by first | exact hk.2 | simp_all)⟩, ⟨by (with_reducible repeat (first | refine blk_drewN ?_ _ | refine blk_drew ?_ | refine blk_alloc ?_ _)); exact BK259.out⟩, ⟨by (with_reducible repeat (first | refine blk_drewN ?_ _ | refine blk_drew ?_ | refine blk_alloc ?_ _)); exact BK260.out⟩, ⟨by (with_reducible repeat (first | refine blk_drewN ?_ _ | refine blk_drew ?_ | refine blk_alloc ?_ _)); exact BK279.out⟩, ⟨by (with_reducible repeat (first | refine blk_drewN ?_ _ | refine blk_drew ?_ | refine blk_alloc ?_ _)); exact BK286.out⟩, ⟨by repeat (first | (with_reducible first | exact HB.out | apply below_alloc | apply pw_below_drewN | apply below_drew1 | refine below_set ?_ GE259.out | refine below_set ?_ GE260.out | refine below_set ?_ GE279.out | refine below_set ?_ GE286.out) | exact HB.out)⟩⟩
    case rest =>
     clear HC31
     try clear c1
     try clear c2
     try clear p2
     try clear c3
     try clear c4
     try clear c4b0
     try clear c4b1
     try clear c5
     try clear c6
     try clear c8
     try clear c8b0
     try clear c11
     try clear c13
     try clear c14
     try clear c15
     try clear c15b0
     try clear c16
     try clear c18
     try clear c29
     try clear c30
     try clear c34
     try clear c51
     try clear c52
     try clear c59
     try clear c60
     try clear c61
     try clear c67
     try clear hcz12_0
     try clear hcz19_0
     try clear hcz21_0
     try clear hcz35_0
     try clear hcz37_0
     try clear hcz47_0
     try clear hcz53_0
     try clear hcz55_0
     try clear hcz62_0
     try clear hcz63_0
     try clear hfz12_0
     try clear hfz19_0
     try clear hfz21_0
     try clear hfz35_0
     try clear hfz37_0
     try clear hfz47_0
     try clear hfz53_0
     try clear hfz55_0
     try clear hfz62_0
     try clear hfz63_0
     obtain ⟨kq, x64_30, rfl, HA, HJ30, HO_8, HO_11, HO_13, HO_280000, HO_287000, BK259, BK260, BK279, BK286, HB⟩ := hcut
     cases kq with
     | zero => exact absurd HA.out (by simp [laws_FnExactThenRules.j0])
     | succ kj30 =>
      have H := HA.out
      clear HA
      simp only [laws_FnExactThenRules.j0] at H
      by_cases c72 : x64_30 = true
      ·subst c72
       have H1 : (none) = some r := by rw [if_pos rfl] at H; exact H
       clear H
       have H := H1
       clear H1
       exact absurd H (by simp)
      ·replace c72 := Bool.eq_false_iff.mpr c72
       subst c72
       have H1 : ((laws_toRules.f kj30 l0_0).bind fun t292 => ((laws_eqRules.f kj30 t276 t292).bind fun t295 => (if t295 = true then ((laws_toIntS.f kj30 l1).bind fun t296 => ((laws_eqIntS.f kj30 t280 t296).bind fun t299 => (if t299 = true then ((laws_toRules.f kj30 l2_0).bind fun t300 => ((laws_eqRules.f kj30 t283 t300).bind fun t303 => (if t303 = true then ((laws_markRules.f kj30 t276 1).bind fun bt304 => ((laws_markIntS.f kj30 t280 bt304.1).bind fun bt306 => ((laws_markRules.f kj30 t283 bt306.1).bind fun bt308 => (if bt308.1 < 0 then (laws_FnExactThenRules.j1 kj30 l1 t272 t275 t287 true l0_0 l2_0) else ((laws_eqIntS.f kj30 t287 t272).bind fun t310 => (if t310 = true then (laws_FnExactThenRules.j1 kj30 l1 t272 t275 t287 (t290 != t275) l0_0 l2_0) else (laws_FnExactThenRules.j1 kj30 l1 t272 t275 t287 true l0_0 l2_0))))))) else (none)))) else (none)))) else (none)))) = some r := by rw [if_neg (show ¬ (false = true) by decide)] at H; exact H
       clear H
       have H := H1
       clear H1
       replace H := Option.bind_eq_some_iff.mp H
       obtain ⟨t292, A730, H⟩ := H
       replace H : ((laws_eqRules.f kj30 t276 t292).bind fun t295 => (if t295 = true then ((laws_toIntS.f kj30 l1).bind fun t296 => ((laws_eqIntS.f kj30 t280 t296).bind fun t299 => (if t299 = true then ((laws_toRules.f kj30 l2_0).bind fun t300 => ((laws_eqRules.f kj30 t283 t300).bind fun t303 => (if t303 = true then ((laws_markRules.f kj30 t276 1).bind fun bt304 => ((laws_markIntS.f kj30 t280 bt304.1).bind fun bt306 => ((laws_markRules.f kj30 t283 bt306.1).bind fun bt308 => (if bt308.1 < 0 then (laws_FnExactThenRules.j1 kj30 l1 t272 t275 t287 true l0_0 l2_0) else ((laws_eqIntS.f kj30 t287 t272).bind fun t310 => (if t310 = true then (laws_FnExactThenRules.j1 kj30 l1 t272 t275 t287 (t290 != t275) l0_0 l2_0) else (laws_FnExactThenRules.j1 kj30 l1 t272 t275 t287 true l0_0 l2_0))))))) else (none)))) else (none)))) else (none))) = some r := H
       have A73 := Aside0.mk A730
       clear A730
       replace H := Option.bind_eq_some_iff.mp H
       obtain ⟨t295, A740, H⟩ := H
       replace H : (if t295 = true then ((laws_toIntS.f kj30 l1).bind fun t296 => ((laws_eqIntS.f kj30 t280 t296).bind fun t299 => (if t299 = true then ((laws_toRules.f kj30 l2_0).bind fun t300 => ((laws_eqRules.f kj30 t283 t300).bind fun t303 => (if t303 = true then ((laws_markRules.f kj30 t276 1).bind fun bt304 => ((laws_markIntS.f kj30 t280 bt304.1).bind fun bt306 => ((laws_markRules.f kj30 t283 bt306.1).bind fun bt308 => (if bt308.1 < 0 then (laws_FnExactThenRules.j1 kj30 l1 t272 t275 t287 true l0_0 l2_0) else ((laws_eqIntS.f kj30 t287 t272).bind fun t310 => (if t310 = true then (laws_FnExactThenRules.j1 kj30 l1 t272 t275 t287 (t290 != t275) l0_0 l2_0) else (laws_FnExactThenRules.j1 kj30 l1 t272 t275 t287 true l0_0 l2_0))))))) else (none)))) else (none)))) else (none)) = some r := H
       have A74 := Aside0.mk A740
       clear A740
       by_cases c75 : t295 = true
       ·subst c75
        have H1 : ((laws_toIntS.f kj30 l1).bind fun t296 => ((laws_eqIntS.f kj30 t280 t296).bind fun t299 => (if t299 = true then ((laws_toRules.f kj30 l2_0).bind fun t300 => ((laws_eqRules.f kj30 t283 t300).bind fun t303 => (if t303 = true then ((laws_markRules.f kj30 t276 1).bind fun bt304 => ((laws_markIntS.f kj30 t280 bt304.1).bind fun bt306 => ((laws_markRules.f kj30 t283 bt306.1).bind fun bt308 => (if bt308.1 < 0 then (laws_FnExactThenRules.j1 kj30 l1 t272 t275 t287 true l0_0 l2_0) else ((laws_eqIntS.f kj30 t287 t272).bind fun t310 => (if t310 = true then (laws_FnExactThenRules.j1 kj30 l1 t272 t275 t287 (t290 != t275) l0_0 l2_0) else (laws_FnExactThenRules.j1 kj30 l1 t272 t275 t287 true l0_0 l2_0))))))) else (none)))) else (none)))) = some r := by rw [if_pos rfl] at H; exact H
        clear H
        have H := H1
        clear H1
        replace H := Option.bind_eq_some_iff.mp H
        obtain ⟨t296, A760, H⟩ := H
        replace H : ((laws_eqIntS.f kj30 t280 t296).bind fun t299 => (if t299 = true then ((laws_toRules.f kj30 l2_0).bind fun t300 => ((laws_eqRules.f kj30 t283 t300).bind fun t303 => (if t303 = true then ((laws_markRules.f kj30 t276 1).bind fun bt304 => ((laws_markIntS.f kj30 t280 bt304.1).bind fun bt306 => ((laws_markRules.f kj30 t283 bt306.1).bind fun bt308 => (if bt308.1 < 0 then (laws_FnExactThenRules.j1 kj30 l1 t272 t275 t287 true l0_0 l2_0) else ((laws_eqIntS.f kj30 t287 t272).bind fun t310 => (if t310 = true then (laws_FnExactThenRules.j1 kj30 l1 t272 t275 t287 (t290 != t275) l0_0 l2_0) else (laws_FnExactThenRules.j1 kj30 l1 t272 t275 t287 true l0_0 l2_0))))))) else (none)))) else (none))) = some r := H
        have A76 := Aside0.mk A760
        clear A760
        replace H := Option.bind_eq_some_iff.mp H
        obtain ⟨t299, A770, H⟩ := H
        replace H : (if t299 = true then ((laws_toRules.f kj30 l2_0).bind fun t300 => ((laws_eqRules.f kj30 t283 t300).bind fun t303 => (if t303 = true then ((laws_markRules.f kj30 t276 1).bind fun bt304 => ((laws_markIntS.f kj30 t280 bt304.1).bind fun bt306 => ((laws_markRules.f kj30 t283 bt306.1).bind fun bt308 => (if bt308.1 < 0 then (laws_FnExactThenRules.j1 kj30 l1 t272 t275 t287 true l0_0 l2_0) else ((laws_eqIntS.f kj30 t287 t272).bind fun t310 => (if t310 = true then (laws_FnExactThenRules.j1 kj30 l1 t272 t275 t287 (t290 != t275) l0_0 l2_0) else (laws_FnExactThenRules.j1 kj30 l1 t272 t275 t287 true l0_0 l2_0))))))) else (none)))) else (none)) = some r := H
        have A77 := Aside0.mk A770
        clear A770
        by_cases c78 : t299 = true
        ·subst c78
         have H1 : ((laws_toRules.f kj30 l2_0).bind fun t300 => ((laws_eqRules.f kj30 t283 t300).bind fun t303 => (if t303 = true then ((laws_markRules.f kj30 t276 1).bind fun bt304 => ((laws_markIntS.f kj30 t280 bt304.1).bind fun bt306 => ((laws_markRules.f kj30 t283 bt306.1).bind fun bt308 => (if bt308.1 < 0 then (laws_FnExactThenRules.j1 kj30 l1 t272 t275 t287 true l0_0 l2_0) else ((laws_eqIntS.f kj30 t287 t272).bind fun t310 => (if t310 = true then (laws_FnExactThenRules.j1 kj30 l1 t272 t275 t287 (t290 != t275) l0_0 l2_0) else (laws_FnExactThenRules.j1 kj30 l1 t272 t275 t287 true l0_0 l2_0))))))) else (none)))) = some r := by rw [if_pos rfl] at H; exact H
         clear H
         have H := H1
         clear H1
         replace H := Option.bind_eq_some_iff.mp H
         obtain ⟨t300, A790, H⟩ := H
         replace H : ((laws_eqRules.f kj30 t283 t300).bind fun t303 => (if t303 = true then ((laws_markRules.f kj30 t276 1).bind fun bt304 => ((laws_markIntS.f kj30 t280 bt304.1).bind fun bt306 => ((laws_markRules.f kj30 t283 bt306.1).bind fun bt308 => (if bt308.1 < 0 then (laws_FnExactThenRules.j1 kj30 l1 t272 t275 t287 true l0_0 l2_0) else ((laws_eqIntS.f kj30 t287 t272).bind fun t310 => (if t310 = true then (laws_FnExactThenRules.j1 kj30 l1 t272 t275 t287 (t290 != t275) l0_0 l2_0) else (laws_FnExactThenRules.j1 kj30 l1 t272 t275 t287 true l0_0 l2_0))))))) else (none))) = some r := H
         have A79 := Aside0.mk A790
         clear A790
         replace H := Option.bind_eq_some_iff.mp H
         obtain ⟨t303, A800, H⟩ := H
         replace H : (if t303 = true then ((laws_markRules.f kj30 t276 1).bind fun bt304 => ((laws_markIntS.f kj30 t280 bt304.1).bind fun bt306 => ((laws_markRules.f kj30 t283 bt306.1).bind fun bt308 => (if bt308.1 < 0 then (laws_FnExactThenRules.j1 kj30 l1 t272 t275 t287 true l0_0 l2_0) else ((laws_eqIntS.f kj30 t287 t272).bind fun t310 => (if t310 = true then (laws_FnExactThenRules.j1 kj30 l1 t272 t275 t287 (t290 != t275) l0_0 l2_0) else (laws_FnExactThenRules.j1 kj30 l1 t272 t275 t287 true l0_0 l2_0))))))) else (none)) = some r := H
         have A80 := Aside0.mk A800
         clear A800
         by_cases c81 : t303 = true
         ·subst c81
          have H1 : ((laws_markRules.f kj30 t276 1).bind fun bt304 => ((laws_markIntS.f kj30 t280 bt304.1).bind fun bt306 => ((laws_markRules.f kj30 t283 bt306.1).bind fun bt308 => (if bt308.1 < 0 then (laws_FnExactThenRules.j1 kj30 l1 t272 t275 t287 true l0_0 l2_0) else ((laws_eqIntS.f kj30 t287 t272).bind fun t310 => (if t310 = true then (laws_FnExactThenRules.j1 kj30 l1 t272 t275 t287 (t290 != t275) l0_0 l2_0) else (laws_FnExactThenRules.j1 kj30 l1 t272 t275 t287 true l0_0 l2_0))))))) = some r := by rw [if_pos rfl] at H; exact H
          clear H
          have H := H1
          clear H1
          replace H := Option.bind_eq_some_iff.mp H
          obtain ⟨⟨t304, t305⟩, A820, H⟩ := H
          replace H : ((laws_markIntS.f kj30 t280 t304).bind fun bt306 => ((laws_markRules.f kj30 t283 bt306.1).bind fun bt308 => (if bt308.1 < 0 then (laws_FnExactThenRules.j1 kj30 l1 t272 t275 t287 true l0_0 l2_0) else ((laws_eqIntS.f kj30 t287 t272).bind fun t310 => (if t310 = true then (laws_FnExactThenRules.j1 kj30 l1 t272 t275 t287 (t290 != t275) l0_0 l2_0) else (laws_FnExactThenRules.j1 kj30 l1 t272 t275 t287 true l0_0 l2_0)))))) = some r := H
          have A82 := Aside0.mk A820
          clear A820
          replace H := Option.bind_eq_some_iff.mp H
          obtain ⟨⟨t306, t307⟩, A830, H⟩ := H
          replace H : ((laws_markRules.f kj30 t283 t306).bind fun bt308 => (if bt308.1 < 0 then (laws_FnExactThenRules.j1 kj30 l1 t272 t275 t287 true l0_0 l2_0) else ((laws_eqIntS.f kj30 t287 t272).bind fun t310 => (if t310 = true then (laws_FnExactThenRules.j1 kj30 l1 t272 t275 t287 (t290 != t275) l0_0 l2_0) else (laws_FnExactThenRules.j1 kj30 l1 t272 t275 t287 true l0_0 l2_0))))) = some r := H
          have A83 := Aside0.mk A830
          clear A830
          replace H := Option.bind_eq_some_iff.mp H
          obtain ⟨⟨t308, t309⟩, A840, H⟩ := H
          replace H : (if t308 < 0 then (laws_FnExactThenRules.j1 kj30 l1 t272 t275 t287 true l0_0 l2_0) else ((laws_eqIntS.f kj30 t287 t272).bind fun t310 => (if t310 = true then (laws_FnExactThenRules.j1 kj30 l1 t272 t275 t287 (t290 != t275) l0_0 l2_0) else (laws_FnExactThenRules.j1 kj30 l1 t272 t275 t287 true l0_0 l2_0)))) = some r := H
          have A84 := Aside0.mk A840
          clear A840
          have HC85 := Aside0.mk H
          clear H
          try go_wp2
          have n0_ := Aside0.mk (Kd.R_drew HO_8.out)
          have n1_ := Aside0.mk (Kd.R_drew HO_11.out)
          have n2_ := Aside0.mk (Kd.R_drew HO_13.out)
          have n3_ := Aside0.mk (Kd.R_drew HO_280000.out)
          have n4_ := Aside0.mk (Kd.R_drew HO_287000.out)
          have n5_ := Aside0.mk (blk_drew BK259.out)
          have n6_ := Aside0.mk (blk_drew BK260.out)
          have n7_ := Aside0.mk (blk_drew BK279.out)
          have n8_ := Aside0.mk (blk_drew BK286.out)
          have n9_ := Aside0.mk (below_drew1 HB.out)
          clear HO_8
          clear HO_11
          clear HO_13
          clear HO_280000
          clear HO_287000
          clear BK259
          clear BK260
          clear BK279
          clear BK286
          clear HB
          have HO_8 := n0_
          have HO_11 := n1_
          have HO_13 := n2_
          have HO_280000 := n3_
          have HO_287000 := n4_
          have BK259 := n5_
          have BK260 := n6_
          have BK279 := n7_
          have BK286 := n8_
          have HB := n9_
          clear n0_ n1_ n2_ n3_ n4_ n5_ n6_ n7_ n8_ n9_
          refine start_ (n := 5) (S := fun w' => w'.cell? ⟨gb279, 0, none⟩ = some (.slice Ao50 t276.length co50) ∧ w'.cell? ⟨gb259, 0, none⟩ = some (.slice A0_0 l0_0.length c0_0)) (ds := []) #[false, false, false, false, false] (by kernel_rfl) rfl rfl ⟨(blk_cell BK279.out 0).trans rfl, (blk_cell BK259.out 0).trans rfl⟩ (fun hHeld => ?_)
          generalize wc.drew = w86 at HO_8 HO_11 HO_13 HO_280000 HO_287000 BK259 BK260 BK279 BK286 HB hHeld ⊢
          refine take_ (i := 0) (N := some 65) (v := ?_) (a' := ?_) #[true, false, false, false, false] rfl rfl (by kernel_rfl) (fun _ _ _ h => h) (Or.inl ⟨by rfl, ?_⟩) hHeld ?_ ?_
          rotate_left
          ·rintro w' ⟨s0, s1⟩
           go_simp
           with_reducible rfl
          rotate_left
          ·simp only [Act.put, List.setIfInBounds_toArray, List.set_cons_zero, List.set_cons_succ, i64_w, i32_w]
           rfl
          refine take_ (i := 1) (N := some 66) (v := ?_) (a' := ?_) #[true, true, false, false, false] rfl rfl (by kernel_rfl) (fun _ _ _ h => h) (Or.inl ⟨by rfl, ?_⟩) hHeld ?_ ?_
          rotate_left
          ·rintro w' ⟨s0, s1⟩
           go_simp
           with_reducible rfl
          rotate_left
          ·simp only [Act.put, List.setIfInBounds_toArray, List.set_cons_zero, List.set_cons_succ, i64_w, i32_w]
           rfl
          refine one_ (i := 2) (N := some 67) #[true, true, true, false, false] rfl rfl (by kernel_rfl) (by decide) (fun K hK => ?_)
          refine goes_ Try.func14 (by kernel_rfl) rfl #[.agg #[.slice A0_0 l0_0.length c0_0]] (by rfl) rfl rfl (by (try simp only [List.map_toArray, List.map_cons, List.map_nil]); first | done | rfl | (simp only [List.length_drop, List.length_take]; rfl)) ?_
          with_reducible refine (laws_toRules.calls kj30 _ _ l0_0 t292 _ ?side1 ?side2 A73.out).mono ?_
          (case side1 => repeat (first | exact (Kd.C_below HR0_0.out HB.out) | (with_reducible refine Kd.C_alloc ?_ _) | (with_reducible refine Kd.C_drewN ?_ _) | (with_reducible refine Kd.C_drew ?_)))
          (case side2 => exact HC0_0.out)
          rintro e w87 ⟨v293, rfl, ho0, hb⟩
          refine ⟨_, rfl, ?_⟩
          have n0_ := Aside0.mk (Kd.R_below (pkr HO_8.out) hb)
          have n1_ := Aside0.mk (Kd.R_below (pkr HO_11.out) hb)
          have n2_ := Aside0.mk (Kd.R_below (pkr HO_13.out) hb)
          have n3_ := Aside0.mk (Kd.R_elder' (pkr HO_280000.out) (Kd.R_base ho0) hb)
          have n4_ := Aside0.mk (Kd.R_elder' (pkr HO_287000.out) (Kd.R_base ho0) hb)
          have n5_ := Aside0.mk (Kd.R_lower (Kd.R_new' (Kd.R_new' ho0 (Kd.R_lt (pkr HO_280000.out))) (Kd.R_lt (pkr HO_287000.out))) (below_size (by repeat (first | (with_reducible first | exact HB.out | apply below_alloc | apply pw_below_drewN | apply below_drew1 | refine below_set ?_ GE259.out | refine below_set ?_ GE260.out | refine below_set ?_ GE279.out | refine below_set ?_ GE286.out) | exact HB.out))))
          have n6_ := Aside0.mk (blk_below (g := gb259) (o := .cells #[.slice A0_0 l0_0.length c0_0] 25 (0, 0)) (pkb BK259.out) hb)
          have n7_ := Aside0.mk (blk_below (g := gb260) (o := .cells #[.slice A2_0 l2_0.length c2_0] 25 (0, 0)) (pkb BK260.out) hb)
          have n8_ := Aside0.mk (blk_below (g := gb279) (o := .cells #[.slice Ao50 t276.length co50] 32 (0, 0)) (pkb BK279.out) hb)
          have n9_ := Aside0.mk (blk_below (g := gb286) (o := .cells #[.slice Ao58 t283.length co58] 32 (0, 0)) (pkb BK286.out) hb)
          have n10_ := Aside0.mk (below_step (by repeat (first | (with_reducible first | exact HB.out | apply below_alloc | apply pw_below_drewN | apply below_drew1 | refine below_set ?_ GE259.out | refine below_set ?_ GE260.out | refine below_set ?_ GE279.out | refine below_set ?_ GE286.out) | exact HB.out)) hb)
          clear HO_8
          clear HO_11
          clear HO_13
          clear HO_280000
          clear HO_287000
          clear BK259
          clear BK260
          clear BK279
          clear BK286
          clear HB
          have HO_8 := n0_
          have HO_11 := n1_
          have HO_13 := n2_
          have HO_280000 := n3_
          have HO_287000 := n4_
          have HO294 := n5_
          have BK259 := n6_
          have BK260 := n7_
          have BK279 := n8_
          have BK286 := n9_
          have HB := n10_
          clear n0_ n1_ n2_ n3_ n4_ n5_ n6_ n7_ n8_ n9_ n10_
          (try clear hb)
          (try clear hb2)
          (try clear hk)
          (try clear hi)
          (try clear ho0)
          obtain ⟨Ao88, co88, eo88⟩ := Kd.R_slice HO294.out
          (first | subst eo88 | (injection eo88 with f1_ f2_ f3_; have f4_ := f1_.symm; have f5_ := f3_.symm; clear f1_ f2_ f3_; subst f4_; subst f5_))
          refine hK.out _ _ ⟨(blk_cell BK279.out 0).trans rfl, (blk_cell BK259.out 0).trans rfl⟩ (fun hHeld => ?_)
          clear hK K
          refine norm_ (a' := ?_) ?_ ?_
          rotate_left
          ·show Act.put _ (some 67) _ = _
           simp only [Act.put, List.setIfInBounds_toArray, List.set_cons_zero, List.set_cons_succ, i64_w, i32_w]
           rfl
          refine one_ (i := 3) (N := some 68) #[true, true, true, true, false] rfl rfl (by kernel_rfl) (by decide) (fun K hK => ?_)
          refine goes_ Try.func17 (by kernel_rfl) rfl #[.agg #[.slice Ao50 t276.length co50], .agg #[.slice Ao88 t292.length co88]] (by rfl) rfl rfl (by (try simp only [List.map_toArray, List.map_cons, List.map_nil]); first | done | rfl | (simp only [List.length_drop, List.length_take]; rfl)) ?_
          with_reducible refine (laws_eqRules.calls kj30 _ _ t276 _ _ t292 true _ ?side1 ?side2 ?side3 ?side4 A74.out).mono ?_
          (case side1 => repeat (first | exact (Kd.R_reads' HO_280000.out).2.2 | (with_reducible refine Kd.C_alloc ?_ _) | (with_reducible refine Kd.C_drewN ?_ _) | (with_reducible refine Kd.C_drew ?_)))
          (case side2 => exact (Kd.R_reads' HO_280000.out).2.1)
          (case side3 => repeat (first | exact (Kd.R_reads' HO294.out).2.2 | (with_reducible refine Kd.C_alloc ?_ _) | (with_reducible refine Kd.C_drewN ?_ _) | (with_reducible refine Kd.C_drew ?_)))
          (case side4 => exact (Kd.R_reads' HO294.out).2.1)
          rintro e w89 ⟨rfl, hb⟩
          refine ⟨_, rfl, ?_⟩
          have n0_ := Aside0.mk (Kd.R_below (pkr HO_8.out) hb)
          have n1_ := Aside0.mk (Kd.R_below (pkr HO_11.out) hb)
          have n2_ := Aside0.mk (Kd.R_below (pkr HO_13.out) hb)
          have n3_ := Aside0.mk (Kd.R_below (pkr HO_280000.out) hb)
          have n4_ := Aside0.mk (Kd.R_below (pkr HO_287000.out) hb)
          have n5_ := Aside0.mk (Kd.R_below (pkr HO294.out) hb)
          have n6_ := Aside0.mk (blk_below (g := gb259) (o := .cells #[.slice A0_0 l0_0.length c0_0] 25 (0, 0)) (pkb BK259.out) hb)
          have n7_ := Aside0.mk (blk_below (g := gb260) (o := .cells #[.slice A2_0 l2_0.length c2_0] 25 (0, 0)) (pkb BK260.out) hb)
          have n8_ := Aside0.mk (blk_below (g := gb279) (o := .cells #[.slice Ao50 t276.length co50] 32 (0, 0)) (pkb BK279.out) hb)
          have n9_ := Aside0.mk (blk_below (g := gb286) (o := .cells #[.slice Ao58 t283.length co58] 32 (0, 0)) (pkb BK286.out) hb)
          have n10_ := Aside0.mk (below_step (by repeat (first | (with_reducible first | exact HB.out | apply below_alloc | apply pw_below_drewN | apply below_drew1 | refine below_set ?_ GE259.out | refine below_set ?_ GE260.out | refine below_set ?_ GE279.out | refine below_set ?_ GE286.out) | exact HB.out)) hb)
          clear HO_8
          clear HO_11
          clear HO_13
          clear HO_280000
          clear HO_287000
          clear HO294
          clear BK259
          clear BK260
          clear BK279
          clear BK286
          clear HB
          have HO_8 := n0_
          have HO_11 := n1_
          have HO_13 := n2_
          have HO_280000 := n3_
          have HO_287000 := n4_
          have HO294 := n5_
          have BK259 := n6_
          have BK260 := n7_
          have BK279 := n8_
          have BK286 := n9_
          have HB := n10_
          clear n0_ n1_ n2_ n3_ n4_ n5_ n6_ n7_ n8_ n9_ n10_
          (try clear hb)
          (try clear hb2)
          (try clear hk)
          (try clear hi)
          refine hK.out _ _ ⟨(blk_cell BK279.out 0).trans rfl, (blk_cell BK259.out 0).trans rfl⟩ (fun hHeld => ?_)
          clear hK K
          refine norm_ (a' := ?_) ?_ ?_
          rotate_left
          ·show Act.put _ (some 68) _ = _
           simp only [Act.put, List.setIfInBounds_toArray, List.set_cons_zero, List.set_cons_succ, i64_w, i32_w]
           rfl
          refine pure_ (i := 4) (N := some 69) (v := ?_) (a' := ?_) #[true, true, true, true, true] rfl rfl (by kernel_rfl) (fun _ _ _ h => h) (Or.inl ⟨by rfl, ?_⟩) ?_ ?_
          rotate_left
          ·intro w'
           go_simp
           with_reducible rfl
          rotate_left
          ·simp only [Act.put, List.setIfInBounds_toArray, List.set_cons_zero, List.set_cons_succ, i64_w, i32_w]
           rfl
          refine done_ (by kernel_rfl) ?_
          try go_wp2_with (first | ((with_reducible refine gate_callee (f := 13) rfl ?_); refine goesL_ (some 72) rfl rfl Try.func13 (by kernel_rfl) rfl #[.slice A1 l1.length c1] rfl (by (try simp only [List.map_toArray, List.map_cons, List.map_nil]); first | done | rfl | (simp only [List.length_drop, List.length_take]; rfl)) ?_; (with_reducible refine (laws_toIntS.calls kj30 _ _ l1 t296 _ ?side1 ?side2 A76.out).mono ?_); (case side1 => repeat (first | exact (Kd.C_below HR1.out HB.out) | (with_reducible refine Kd.C_alloc ?_ _) | (with_reducible refine Kd.C_drewN ?_ _) | (with_reducible refine Kd.C_drew ?_))); (case side2 => exact HC1.out); rintro e w90 ⟨v297, rfl, ho0, hb⟩; refine ⟨_, rfl, ?_⟩; have n0_ := Aside0.mk (Kd.R_elder' (pkr HO_8.out) (Kd.R_base ho0) hb); have n1_ := Aside0.mk (Kd.R_elder' (pkr HO_11.out) (Kd.R_base ho0) hb); have n2_ := Aside0.mk (Kd.R_elder' (pkr HO_13.out) (Kd.R_base ho0) hb); have n3_ := Aside0.mk (Kd.R_below (pkr HO_280000.out) hb); have n4_ := Aside0.mk (Kd.R_below (pkr HO_287000.out) hb); have n5_ := Aside0.mk (Kd.R_below (pkr HO294.out) hb); have n6_ := Aside0.mk (Kd.R_lower (Kd.R_new' (Kd.R_new' (Kd.R_new' ho0 (Kd.R_lt (pkr HO_8.out))) (Kd.R_lt (pkr HO_11.out))) (Kd.R_lt (pkr HO_13.out))) (below_size (by repeat (first | (with_reducible first | exact HB.out | apply below_alloc | apply pw_below_drewN | apply below_drew1 | refine below_set ?_ GE259.out | refine below_set ?_ GE260.out | refine below_set ?_ GE279.out | refine below_set ?_ GE286.out) | exact HB.out)))); have n7_ := Aside0.mk (blk_below (g := gb259) (o := .cells #[.slice A0_0 l0_0.length c0_0] 25 (0, 0)) (pkb BK259.out) hb); have n8_ := Aside0.mk (blk_below (g := gb260) (o := .cells #[.slice A2_0 l2_0.length c2_0] 25 (0, 0)) (pkb BK260.out) hb); have n9_ := Aside0.mk (blk_below (g := gb279) (o := .cells #[.slice Ao50 t276.length co50] 32 (0, 0)) (pkb BK279.out) hb); have n10_ := Aside0.mk (blk_below (g := gb286) (o := .cells #[.slice Ao58 t283.length co58] 32 (0, 0)) (pkb BK286.out) hb); have n11_ := Aside0.mk (below_step (by repeat (first | (with_reducible first | exact HB.out | apply below_alloc | apply pw_below_drewN | apply below_drew1 | refine below_set ?_ GE259.out | refine below_set ?_ GE260.out | refine below_set ?_ GE279.out | refine below_set ?_ GE286.out) | exact HB.out)) hb); clear HO_8; clear HO_11; clear HO_13; clear HO_280000; clear HO_287000; clear HO294; clear BK259; clear BK260; clear BK279; clear BK286; clear HB; have HO_8 := n0_; have HO_11 := n1_; have HO_13 := n2_; have HO_280000 := n3_; have HO_287000 := n4_; have HO294 := n5_; have HO298 := n6_; have BK259 := n7_; have BK260 := n8_; have BK279 := n9_; have BK286 := n10_; have HB := n11_; clear n0_ n1_ n2_ n3_ n4_ n5_ n6_ n7_ n8_ n9_ n10_ n11_; (try clear hb); (try clear hb2); (try clear hk); (try clear hi); (try clear ho0); obtain ⟨Ao91, co91, eo91⟩ := Kd.R_slice HO298.out; subst eo91) | ((with_reducible refine gate_callee (f := 16) rfl ?_); refine goesL_ (some 73) rfl rfl Try.func16 (by kernel_rfl) rfl #[.slice Ao64 t280.length co64, .slice Ao91 t296.length co91] rfl (by (try simp only [List.map_toArray, List.map_cons, List.map_nil]); first | done | rfl | (simp only [List.length_drop, List.length_take]; rfl)) ?_; (with_reducible refine (laws_eqIntS.calls kj30 _ _ t280 _ _ t296 true _ ?side1 ?side2 ?side3 ?side4 A77.out).mono ?_); (case side1 => repeat (first | exact (Kd.R_reads' HO_11.out).2.2 | (with_reducible refine Kd.C_alloc ?_ _) | (with_reducible refine Kd.C_drewN ?_ _) | (with_reducible refine Kd.C_drew ?_))); (case side2 => exact (Kd.R_reads' HO_11.out).2.1); (case side3 => repeat (first | exact (Kd.R_reads' HO298.out).2.2 | (with_reducible refine Kd.C_alloc ?_ _) | (with_reducible refine Kd.C_drewN ?_ _) | (with_reducible refine Kd.C_drew ?_))); (case side4 => exact (Kd.R_reads' HO298.out).2.1); rintro e w' ⟨rfl, ⟨nd, rfl⟩⟩; refine ⟨_, rfl, ?_⟩))
          (try (rw [drewN_self w90]; generalize hq_ : World.drewN w90 _ = w90; have n0_ : Aside0 (Kd.R k110 110 w90 w.heap.size (fun k_ => some k_ ≠ (.slice Ao50 t276.length co50 : Value).ownBlock ∧ some k_ ≠ (.slice Ao58 t283.length co58 : Value).ownBlock) (.slice Ao88 t292.length co88) t292) := ⟨by rw [← hq_]; exact (pkr (Kd.R_mono HO294.out (fun _ hk => by first | exact ⟨hk.1.2, hk.2⟩ | simp_all)))⟩; have n1_ : Aside0 (Kd.R (Kd.int .i64) 3 w90 w.heap.size (fun k_ => some k_ ≠ (.slice Ao64 t280.length co64 : Value).ownBlock ∧ some k_ ≠ (v288 : Value).ownBlock ∧ some k_ ≠ (v273 : Value).ownBlock) (.slice Ao91 t296.length co91) t296) := ⟨by rw [← hq_]; exact (pkr (Kd.R_mono HO298.out (fun _ hk => ⟨hk.1.2, ⟨hk.2, hk.1.1.2⟩⟩)))⟩; have n2_ : Aside0 (Kd.R (Kd.int .i64) 3 w90 w.heap.size (fun k_ => some k_ ≠ (.slice Ao91 t296.length co91 : Value).ownBlock ∧ some k_ ≠ (v288 : Value).ownBlock ∧ some k_ ≠ (v273 : Value).ownBlock) (.slice Ao64 t280.length co64) t280) := ⟨by rw [← hq_]; exact (pkr (Kd.R_mono HO_11.out (fun _ hk => ⟨hk.2, ⟨hk.1.2, hk.1.1⟩⟩)))⟩; have n3_ : Aside0 (Kd.R (Kd.int .i64) 3 w90 w.heap.size (fun k_ => some k_ ≠ (.slice Ao91 t296.length co91 : Value).ownBlock ∧ some k_ ≠ (.slice Ao64 t280.length co64 : Value).ownBlock ∧ some k_ ≠ (v273 : Value).ownBlock) v288 t287) := ⟨by rw [← hq_]; exact (pkr (Kd.R_mono HO_13.out (fun _ hk => ⟨hk.2, ⟨hk.1.2, hk.1.1⟩⟩)))⟩; have n4_ : Aside0 (Kd.R k110 110 w90 w.heap.size (fun k_ => some k_ ≠ (.slice Ao88 t292.length co88 : Value).ownBlock ∧ some k_ ≠ (.slice Ao58 t283.length co58 : Value).ownBlock) (.slice Ao50 t276.length co50) t276) := ⟨by rw [← hq_]; exact (pkr (Kd.R_mono HO_280000.out (fun _ hk => by first | exact ⟨hk.2, hk.1⟩ | simp_all)))⟩; have n5_ : Aside0 (Kd.R k110 110 w90 w.heap.size (fun k_ => some k_ ≠ (.slice Ao88 t292.length co88 : Value).ownBlock ∧ some k_ ≠ (.slice Ao50 t276.length co50 : Value).ownBlock) (.slice Ao58 t283.length co58) t283) := ⟨by rw [← hq_]; exact (pkr (Kd.R_mono HO_287000.out (fun _ hk => by first | exact ⟨hk.2, hk.1⟩ | simp_all)))⟩; have n6_ : Aside0 (Kd.R (Kd.int .i64) 3 w90 w.heap.size (fun k_ => some k_ ≠ (.slice Ao91 t296.length co91 : Value).ownBlock ∧ some k_ ≠ (.slice Ao64 t280.length co64 : Value).ownBlock ∧ some k_ ≠ (v288 : Value).ownBlock) v273 t272) := ⟨by rw [← hq_]; exact (pkr (Kd.R_mono HO_8.out (fun _ hk => ⟨hk.2, ⟨hk.1.1, hk.1.2⟩⟩)))⟩; have n7_ : Aside0 (w90.heap[gb259]? = some (.cells #[.slice A0_0 l0_0.length c0_0] 25 (0, 0))) := ⟨by rw [← hq_]; exact (pkb BK259.out)⟩; have n8_ : Aside0 (w90.heap[gb260]? = some (.cells #[.slice A2_0 l2_0.length c2_0] 25 (0, 0))) := ⟨by rw [← hq_]; exact (pkb BK260.out)⟩; have n9_ : Aside0 (w90.heap[gb279]? = some (.cells #[.slice Ao50 t276.length co50] 32 (0, 0))) := ⟨by rw [← hq_]; exact (pkb BK279.out)⟩; have n10_ : Aside0 (w90.heap[gb286]? = some (.cells #[.slice Ao58 t283.length co58] 32 (0, 0))) := ⟨by rw [← hq_]; exact (pkb BK286.out)⟩; have n11_ : Aside0 (Below w.heap.size w w90) := ⟨by rw [← hq_]; exact (by repeat (first | (with_reducible first | exact HB.out | apply below_alloc | apply pw_below_drewN | apply below_drew1 | refine below_set ?_ GE259.out | refine below_set ?_ GE260.out | refine below_set ?_ GE279.out | refine below_set ?_ GE286.out) | exact HB.out))⟩; clear HO294 HO298 HO_11 HO_13 HO_280000 HO_287000 HO_8 BK259 BK260 BK279 BK286 HB hq_; have HO294 := n0_; have HO298 := n1_; have HO_11 := n2_; have HO_13 := n3_; have HO_280000 := n4_; have HO_287000 := n5_; have HO_8 := n6_; have BK259 := n7_; have BK260 := n8_; have BK279 := n9_; have BK286 := n10_; have HB := n11_; clear n0_ n1_ n2_ n3_ n4_ n5_ n6_ n7_ n8_ n9_ n10_ n11_))
          have n0_ := Aside0.mk (Kd.R_drew HO_8.out)
          have n1_ := Aside0.mk (Kd.R_drew HO_11.out)
          have n2_ := Aside0.mk (Kd.R_drew HO_13.out)
          have n3_ := Aside0.mk (Kd.R_drew HO_280000.out)
          have n4_ := Aside0.mk (Kd.R_drew HO_287000.out)
          have n5_ := Aside0.mk (Kd.R_drew HO294.out)
          have n6_ := Aside0.mk (Kd.R_drew HO298.out)
          have n7_ := Aside0.mk (blk_drew BK259.out)
          have n8_ := Aside0.mk (blk_drew BK260.out)
          have n9_ := Aside0.mk (blk_drew BK279.out)
          have n10_ := Aside0.mk (blk_drew BK286.out)
          have n11_ := Aside0.mk (below_drew1 HB.out)
          clear HO_8
          clear HO_11
          clear HO_13
          clear HO_280000
          clear HO_287000
          clear HO294
          clear HO298
          clear BK259
          clear BK260
          clear BK279
          clear BK286
          clear HB
          have HO_8 := n0_
          have HO_11 := n1_
          have HO_13 := n2_
          have HO_280000 := n3_
          have HO_287000 := n4_
          have HO294 := n5_
          have HO298 := n6_
          have BK259 := n7_
          have BK260 := n8_
          have BK279 := n9_
          have BK286 := n10_
          have HB := n11_
          clear n0_ n1_ n2_ n3_ n4_ n5_ n6_ n7_ n8_ n9_ n10_ n11_
          refine start_ (n := 5) (S := fun w' => w'.cell? ⟨gb286, 0, none⟩ = some (.slice Ao58 t283.length co58) ∧ w'.cell? ⟨gb260, 0, none⟩ = some (.slice A2_0 l2_0.length c2_0)) (ds := []) #[false, false, false, false, false] (by kernel_rfl) rfl rfl ⟨(blk_cell BK286.out 0).trans rfl, (blk_cell BK260.out 0).trans rfl⟩ (fun hHeld => ?_)
          generalize w90.drew = w92 at HO_8 HO_11 HO_13 HO_280000 HO_287000 HO294 HO298 BK259 BK260 BK279 BK286 HB hHeld ⊢
          refine take_ (i := 0) (N := some 75) (v := ?_) (a' := ?_) #[true, false, false, false, false] rfl rfl (by kernel_rfl) (fun _ _ _ h => h) (Or.inl ⟨by rfl, ?_⟩) hHeld ?_ ?_
          rotate_left
          ·rintro w' ⟨s0, s1⟩
           go_simp
           with_reducible rfl
          rotate_left
          ·simp only [Act.put, List.setIfInBounds_toArray, List.set_cons_zero, List.set_cons_succ, i64_w, i32_w]
           rfl
          refine take_ (i := 1) (N := some 76) (v := ?_) (a' := ?_) #[true, true, false, false, false] rfl rfl (by kernel_rfl) (fun _ _ _ h => h) (Or.inl ⟨by rfl, ?_⟩) hHeld ?_ ?_
          rotate_left
          ·rintro w' ⟨s0, s1⟩
           go_simp
           with_reducible rfl
          rotate_left
          ·simp only [Act.put, List.setIfInBounds_toArray, List.set_cons_zero, List.set_cons_succ, i64_w, i32_w]
           rfl
          refine one_ (i := 2) (N := some 77) #[true, true, true, false, false] rfl rfl (by kernel_rfl) (by decide) (fun K hK => ?_)
          refine goes_ Try.func14 (by kernel_rfl) rfl #[.agg #[.slice A2_0 l2_0.length c2_0]] (by rfl) rfl rfl (by (try simp only [List.map_toArray, List.map_cons, List.map_nil]); first | done | rfl | (simp only [List.length_drop, List.length_take]; rfl)) ?_
          with_reducible refine (laws_toRules.calls kj30 _ _ l2_0 t300 _ ?side1 ?side2 A79.out).mono ?_
          (case side1 => repeat (first | exact (Kd.C_below HR2_0.out HB.out) | (with_reducible refine Kd.C_alloc ?_ _) | (with_reducible refine Kd.C_drewN ?_ _) | (with_reducible refine Kd.C_drew ?_)))
          (case side2 => exact HC2_0.out)
          rintro e w93 ⟨v301, rfl, ho0, hb⟩
          refine ⟨_, rfl, ?_⟩
          have n0_ := Aside0.mk (Kd.R_below (pkr HO_8.out) hb)
          have n1_ := Aside0.mk (Kd.R_below (pkr HO_11.out) hb)
          have n2_ := Aside0.mk (Kd.R_below (pkr HO_13.out) hb)
          have n3_ := Aside0.mk (Kd.R_elder' (pkr HO_280000.out) (Kd.R_base ho0) hb)
          have n4_ := Aside0.mk (Kd.R_elder' (pkr HO_287000.out) (Kd.R_base ho0) hb)
          have n5_ := Aside0.mk (Kd.R_elder' (pkr HO294.out) (Kd.R_base ho0) hb)
          have n6_ := Aside0.mk (Kd.R_below (pkr HO298.out) hb)
          have n7_ := Aside0.mk (Kd.R_lower (Kd.R_new' (Kd.R_new' (Kd.R_new' ho0 (Kd.R_lt (pkr HO_280000.out))) (Kd.R_lt (pkr HO_287000.out))) (Kd.R_lt (pkr HO294.out))) (below_size (by repeat (first | (with_reducible first | exact HB.out | apply below_alloc | apply pw_below_drewN | apply below_drew1 | refine below_set ?_ GE259.out | refine below_set ?_ GE260.out | refine below_set ?_ GE279.out | refine below_set ?_ GE286.out) | exact HB.out))))
          have n8_ := Aside0.mk (blk_below (g := gb259) (o := .cells #[.slice A0_0 l0_0.length c0_0] 25 (0, 0)) (pkb BK259.out) hb)
          have n9_ := Aside0.mk (blk_below (g := gb260) (o := .cells #[.slice A2_0 l2_0.length c2_0] 25 (0, 0)) (pkb BK260.out) hb)
          have n10_ := Aside0.mk (blk_below (g := gb279) (o := .cells #[.slice Ao50 t276.length co50] 32 (0, 0)) (pkb BK279.out) hb)
          have n11_ := Aside0.mk (blk_below (g := gb286) (o := .cells #[.slice Ao58 t283.length co58] 32 (0, 0)) (pkb BK286.out) hb)
          have n12_ := Aside0.mk (below_step (by repeat (first | (with_reducible first | exact HB.out | apply below_alloc | apply pw_below_drewN | apply below_drew1 | refine below_set ?_ GE259.out | refine below_set ?_ GE260.out | refine below_set ?_ GE279.out | refine below_set ?_ GE286.out) | exact HB.out)) hb)
          clear HO_8
          clear HO_11
          clear HO_13
          clear HO_280000
          clear HO_287000
          clear HO294
          clear HO298
          clear BK259
          clear BK260
          clear BK279
          clear BK286
          clear HB
          have HO_8 := n0_
          have HO_11 := n1_
          have HO_13 := n2_
          have HO_280000 := n3_
          have HO_287000 := n4_
          have HO294 := n5_
          have HO298 := n6_
          have HO302 := n7_
          have BK259 := n8_
          have BK260 := n9_
          have BK279 := n10_
          have BK286 := n11_
          have HB := n12_
          clear n0_ n1_ n2_ n3_ n4_ n5_ n6_ n7_ n8_ n9_ n10_ n11_ n12_
          (try clear hb)
          (try clear hb2)
          (try clear hk)
          (try clear hi)
          (try clear ho0)
          obtain ⟨Ao94, co94, eo94⟩ := Kd.R_slice HO302.out
          (first | subst eo94 | (injection eo94 with f1_ f2_ f3_; have f4_ := f1_.symm; have f5_ := f3_.symm; clear f1_ f2_ f3_; subst f4_; subst f5_))
          refine hK.out _ _ ⟨(blk_cell BK286.out 0).trans rfl, (blk_cell BK260.out 0).trans rfl⟩ (fun hHeld => ?_)
          clear hK K
          refine norm_ (a' := ?_) ?_ ?_
          rotate_left
          ·show Act.put _ (some 77) _ = _
           simp only [Act.put, List.setIfInBounds_toArray, List.set_cons_zero, List.set_cons_succ, i64_w, i32_w]
           rfl
          refine one_ (i := 3) (N := some 78) #[true, true, true, true, false] rfl rfl (by kernel_rfl) (by decide) (fun K hK => ?_)
          refine goes_ Try.func17 (by kernel_rfl) rfl #[.agg #[.slice Ao58 t283.length co58], .agg #[.slice Ao94 t300.length co94]] (by rfl) rfl rfl (by (try simp only [List.map_toArray, List.map_cons, List.map_nil]); first | done | rfl | (simp only [List.length_drop, List.length_take]; rfl)) ?_
          with_reducible refine (laws_eqRules.calls kj30 _ _ t283 _ _ t300 true _ ?side1 ?side2 ?side3 ?side4 A80.out).mono ?_
          (case side1 => repeat (first | exact (Kd.R_reads' HO_287000.out).2.2 | (with_reducible refine Kd.C_alloc ?_ _) | (with_reducible refine Kd.C_drewN ?_ _) | (with_reducible refine Kd.C_drew ?_)))
          (case side2 => exact (Kd.R_reads' HO_287000.out).2.1)
          (case side3 => repeat (first | exact (Kd.R_reads' HO302.out).2.2 | (with_reducible refine Kd.C_alloc ?_ _) | (with_reducible refine Kd.C_drewN ?_ _) | (with_reducible refine Kd.C_drew ?_)))
          (case side4 => exact (Kd.R_reads' HO302.out).2.1)
          rintro e w95 ⟨rfl, hb⟩
          refine ⟨_, rfl, ?_⟩
          have n0_ := Aside0.mk (Kd.R_below (pkr HO_8.out) hb)
          have n1_ := Aside0.mk (Kd.R_below (pkr HO_11.out) hb)
          have n2_ := Aside0.mk (Kd.R_below (pkr HO_13.out) hb)
          have n3_ := Aside0.mk (Kd.R_below (pkr HO_280000.out) hb)
          have n4_ := Aside0.mk (Kd.R_below (pkr HO_287000.out) hb)
          have n5_ := Aside0.mk (Kd.R_below (pkr HO294.out) hb)
          have n6_ := Aside0.mk (Kd.R_below (pkr HO298.out) hb)
          have n7_ := Aside0.mk (Kd.R_below (pkr HO302.out) hb)
          have n8_ := Aside0.mk (blk_below (g := gb259) (o := .cells #[.slice A0_0 l0_0.length c0_0] 25 (0, 0)) (pkb BK259.out) hb)
          have n9_ := Aside0.mk (blk_below (g := gb260) (o := .cells #[.slice A2_0 l2_0.length c2_0] 25 (0, 0)) (pkb BK260.out) hb)
          have n10_ := Aside0.mk (blk_below (g := gb279) (o := .cells #[.slice Ao50 t276.length co50] 32 (0, 0)) (pkb BK279.out) hb)
          have n11_ := Aside0.mk (blk_below (g := gb286) (o := .cells #[.slice Ao58 t283.length co58] 32 (0, 0)) (pkb BK286.out) hb)
          have n12_ := Aside0.mk (below_step (by repeat (first | (with_reducible first | exact HB.out | apply below_alloc | apply pw_below_drewN | apply below_drew1 | refine below_set ?_ GE259.out | refine below_set ?_ GE260.out | refine below_set ?_ GE279.out | refine below_set ?_ GE286.out) | exact HB.out)) hb)
          clear HO_8
          clear HO_11
          clear HO_13
          clear HO_280000
          clear HO_287000
          clear HO294
          clear HO298
          clear HO302
          clear BK259
          clear BK260
          clear BK279
          clear BK286
          clear HB
          have HO_8 := n0_
          have HO_11 := n1_
          have HO_13 := n2_
          have HO_280000 := n3_
          have HO_287000 := n4_
          have HO294 := n5_
          have HO298 := n6_
          have HO302 := n7_
          have BK259 := n8_
          have BK260 := n9_
          have BK279 := n10_
          have BK286 := n11_
          have HB := n12_
          clear n0_ n1_ n2_ n3_ n4_ n5_ n6_ n7_ n8_ n9_ n10_ n11_ n12_
          (try clear hb)
          (try clear hb2)
          (try clear hk)
          (try clear hi)
          refine hK.out _ _ ⟨(blk_cell BK286.out 0).trans rfl, (blk_cell BK260.out 0).trans rfl⟩ (fun hHeld => ?_)
          clear hK K
          refine norm_ (a' := ?_) ?_ ?_
          rotate_left
          ·show Act.put _ (some 78) _ = _
           simp only [Act.put, List.setIfInBounds_toArray, List.set_cons_zero, List.set_cons_succ, i64_w, i32_w]
           rfl
          refine pure_ (i := 4) (N := some 79) (v := ?_) (a' := ?_) #[true, true, true, true, true] rfl rfl (by kernel_rfl) (fun _ _ _ h => h) (Or.inl ⟨by rfl, ?_⟩) ?_ ?_
          rotate_left
          ·intro w'
           go_simp
           with_reducible rfl
          rotate_left
          ·simp only [Act.put, List.setIfInBounds_toArray, List.set_cons_zero, List.set_cons_succ, i64_w, i32_w]
           rfl
          refine done_ (by kernel_rfl) ?_
          have hnb96 := NB279_259.out
          have hnc96 := NB259_279.out
          have hnb97 := NB279_260.out
          have hnc97 := NB260_279.out
          have hnb98 := NB279_286.out
          have hnc98 := NB286_279.out
          have hcz99_0 : w95.cell? ⟨gb279, 0, none⟩ = some (.slice Ao50 t276.length co50) := (blk_cell BK279.out 0).trans rfl
          have hfz99_0 := blk_frozen BK279.out 0
          go_upto_region 27 with (first | ((with_reducible refine gate_callee (f := 19) rfl ?_); refine goesL_ (some 82) rfl rfl Try.func19 (by kernel_rfl) rfl #[.agg #[.slice Ao50 t276.length co50], .int .i64 1] rfl (by (try simp only [List.map_toArray, List.map_cons, List.map_nil]); first | done | rfl | (simp only [List.length_drop, List.length_take]; rfl)) ?_; (with_reducible refine (laws_markRules.calls kj30 (fun k_ => some k_ = (.slice Ao50 t276.length co50 : Value).ownBlock) (.slice Ao50 t276.length co50) t276 1 t304 t305 w _ ?side1 ?side2 A82.out).mono ?_); (case side1 => repeat (first | (with_reducible first | exact HB.out | apply below_alloc | apply pw_below_drewN | apply below_drew1 | refine below_set ?_ GE259.out | refine below_set ?_ GE260.out | refine below_set ?_ GE279.out | refine below_set ?_ GE286.out) | exact HB.out)); (case side2 => exact Kd.R_tight rfl HO_280000.out); rintro e w100 ⟨rfl, hy0, hb, hkp⟩; refine ⟨_, rfl, ?_⟩; have n0_ := Aside0.mk (Kd.R_mono (ok' := fun k_ => some k_ ≠ (.slice Ao64 t280.length co64 : Value).ownBlock ∧ some k_ ≠ (v288 : Value).ownBlock ∧ some k_ ≠ (.slice Ao91 t296.length co91 : Value).ownBlock) (Kd.R_keptB ((Kd.R_apart' HO_8.out (Kd.R_typed HO_280000.out) (by decide))) hkp (fun k_ hk_ hs_ => by first | exact (hk_.2) hs_ | (simp only [show _ = _ from hs_, ne_eq, not_true_eq_false, and_false, false_and] at hk_; done) | simp_all)) (fun k_ hk_ => by first | exact ⟨hk_.1.1.1.1, hk_.1.1.1.2, hk_.1.1.2⟩ | (simp only [hk_, ne_eq, not_false_eq_true, and_self]; done) | simp_all)); have n1_ := Aside0.mk (Kd.R_mono (ok' := fun k_ => some k_ ≠ (v273 : Value).ownBlock ∧ some k_ ≠ (v288 : Value).ownBlock ∧ some k_ ≠ (.slice Ao91 t296.length co91 : Value).ownBlock) (Kd.R_keptB ((Kd.R_apart' HO_11.out (Kd.R_typed HO_280000.out) (by decide))) hkp (fun k_ hk_ hs_ => by first | exact (hk_.2) hs_ | (simp only [show _ = _ from hs_, ne_eq, not_true_eq_false, and_false, false_and] at hk_; done) | simp_all)) (fun k_ hk_ => by first | exact ⟨hk_.1.1.1.1, hk_.1.1.1.2, hk_.1.1.2⟩ | (simp only [hk_, ne_eq, not_false_eq_true, and_self]; done) | simp_all)); have n2_ := Aside0.mk (Kd.R_mono (ok' := fun k_ => some k_ ≠ (v273 : Value).ownBlock ∧ some k_ ≠ (.slice Ao64 t280.length co64 : Value).ownBlock ∧ some k_ ≠ (.slice Ao91 t296.length co91 : Value).ownBlock) (Kd.R_keptB ((Kd.R_apart' HO_13.out (Kd.R_typed HO_280000.out) (by decide))) hkp (fun k_ hk_ hs_ => by first | exact (hk_.2) hs_ | (simp only [show _ = _ from hs_, ne_eq, not_true_eq_false, and_false, false_and] at hk_; done) | simp_all)) (fun k_ hk_ => by first | exact ⟨hk_.1.1.1.1, hk_.1.1.1.2, hk_.1.1.2⟩ | (simp only [hk_, ne_eq, not_false_eq_true, and_self]; done) | simp_all)); have n3_ := Aside0.mk (Kd.R_reok rfl hy0 (fun k_ e_ => HO_280000.out.1 k_ e_)); have n4_ := Aside0.mk (Kd.R_mono (ok' := fun k_ => some k_ ≠ (.slice Ao50 t276.length co50 : Value).ownBlock ∧ some k_ ≠ (.slice Ao88 t292.length co88 : Value).ownBlock ∧ some k_ ≠ (.slice Ao94 t300.length co94 : Value).ownBlock) (Kd.R_keptB (HO_287000.out) hkp (fun k_ hk_ hs_ => by first | exact (hk_.1.1) hs_ | (simp only [show _ = _ from hs_, ne_eq, not_true_eq_false, and_false, false_and] at hk_; done) | simp_all)) (fun k_ hk_ => by first | exact ⟨hk_.1.1.1, hk_.1.1.2, hk_.1.2⟩ | (simp only [hk_, ne_eq, not_false_eq_true, and_self]; done) | simp_all)); have n5_ := Aside0.mk (blk_kept (pkb BK259.out) hkp (fun hs_ => (fun e_ => (Kd.R_ne HO_280000.out BK259.out (by decide)) e_) hs_)); have n6_ := Aside0.mk (blk_kept (pkb BK260.out) hkp (fun hs_ => (fun e_ => (Kd.R_ne HO_280000.out BK260.out (by decide)) e_) hs_)); have n7_ := Aside0.mk (blk_kept (pkb BK279.out) hkp (fun hs_ => (fun e_ => (Kd.R_ne HO_280000.out BK279.out (by decide)) e_) hs_)); have n8_ := Aside0.mk (blk_kept (pkb BK286.out) hkp (fun hs_ => (fun e_ => (Kd.R_ne HO_280000.out BK286.out (by decide)) e_) hs_)); have n9_ := Aside0.mk (Kd.R_mono (ok' := fun k_ => some k_ ≠ (.slice Ao50 t276.length co50 : Value).ownBlock ∧ some k_ ≠ (.slice Ao58 t283.length co58 : Value).ownBlock ∧ some k_ ≠ (.slice Ao94 t300.length co94 : Value).ownBlock) (Kd.R_keptB (HO294.out) hkp (fun k_ hk_ hs_ => by first | exact (hk_.1.1.2) hs_ | (simp only [show _ = _ from hs_, ne_eq, not_true_eq_false, and_false, false_and] at hk_; done) | simp_all)) (fun k_ hk_ => by first | exact ⟨hk_.1.1.1.2, hk_.1.1.2, hk_.1.2⟩ | (simp only [hk_, ne_eq, not_false_eq_true, and_self]; done) | simp_all)); have n10_ := Aside0.mk (Kd.R_mono (ok' := fun k_ => some k_ ≠ (v273 : Value).ownBlock ∧ some k_ ≠ (.slice Ao64 t280.length co64 : Value).ownBlock ∧ some k_ ≠ (v288 : Value).ownBlock) (Kd.R_keptB ((Kd.R_apart' HO298.out (Kd.R_typed HO_280000.out) (by decide))) hkp (fun k_ hk_ hs_ => by first | exact (hk_.2) hs_ | (simp only [show _ = _ from hs_, ne_eq, not_true_eq_false, and_false, false_and] at hk_; done) | simp_all)) (fun k_ hk_ => by first | exact ⟨hk_.1.1.1.1.2, hk_.1.1.1.2, hk_.1.1.2⟩ | (simp only [hk_, ne_eq, not_false_eq_true, and_self]; done) | simp_all)); have n11_ := Aside0.mk (Kd.R_mono (ok' := fun k_ => some k_ ≠ (.slice Ao50 t276.length co50 : Value).ownBlock ∧ some k_ ≠ (.slice Ao58 t283.length co58 : Value).ownBlock ∧ some k_ ≠ (.slice Ao88 t292.length co88 : Value).ownBlock) (Kd.R_keptB (HO302.out) hkp (fun k_ hk_ hs_ => by first | exact (hk_.1.1.2) hs_ | (simp only [show _ = _ from hs_, ne_eq, not_true_eq_false, and_false, false_and] at hk_; done) | simp_all)) (fun k_ hk_ => by first | exact ⟨hk_.1.1.1.2, hk_.1.1.2, hk_.1.2⟩ | (simp only [hk_, ne_eq, not_false_eq_true, and_self]; done) | simp_all)); have n12_ := Aside0.mk (hb); clear HO_8; clear HO_11; clear HO_13; clear HO_280000; clear HO_287000; clear BK259; clear BK260; clear BK279; clear BK286; clear HO294; clear HO298; clear HO302; clear HB; have HO_8 := n0_; have HO_11 := n1_; have HO_13 := n2_; have HO_280000 := n3_; have HO_287000 := n4_; have BK259 := n5_; have BK260 := n6_; have BK279 := n7_; have BK286 := n8_; have HO294 := n9_; have HO298 := n10_; have HO302 := n11_; have HB := n12_; clear n0_ n1_ n2_ n3_ n4_ n5_ n6_ n7_ n8_ n9_ n10_ n11_ n12_; (try clear hb); (try clear hkp); (try clear hy0)) | ((with_reducible refine gate_callee (f := 18) rfl ?_); refine goesL_ (some 85) rfl rfl Try.func18 (by kernel_rfl) rfl #[.slice Ao64 t280.length co64, .int .i64 t304] rfl (by (try simp only [List.map_toArray, List.map_cons, List.map_nil]); first | done | rfl | (simp only [List.length_drop, List.length_take]; rfl)) ?_; (with_reducible refine (laws_markIntS.calls kj30 (fun k_ => some k_ = (.slice Ao64 t280.length co64 : Value).ownBlock) (.slice Ao64 t280.length co64) t280 t304 t306 t307 w _ ?side1 ?side2 A83.out).mono ?_); (case side1 => repeat (first | (with_reducible first | exact HB.out | apply below_alloc | apply pw_below_drewN | apply below_drew1 | refine below_set ?_ GE259.out | refine below_set ?_ GE260.out | refine below_set ?_ GE279.out | refine below_set ?_ GE286.out) | exact HB.out)); (case side2 => exact Kd.R_tight rfl HO_11.out); rintro e w101 ⟨rfl, hy0, hb, hkp⟩; refine ⟨_, rfl, ?_⟩; have n0_ := Aside0.mk (Kd.R_mono (ok' := fun k_ => some k_ ≠ (.slice Ao64 t280.length co64 : Value).ownBlock ∧ some k_ ≠ (v288 : Value).ownBlock ∧ some k_ ≠ (.slice Ao91 t296.length co91 : Value).ownBlock) (Kd.R_keptB (HO_8.out) hkp (fun k_ hk_ hs_ => by first | exact (hk_.1) hs_ | (simp only [show _ = _ from hs_, ne_eq, not_true_eq_false, and_false, false_and] at hk_; done) | simp_all)) (fun k_ hk_ => by first | exact ⟨hk_.1.1, hk_.1.2.1, hk_.1.2.2⟩ | (simp only [hk_, ne_eq, not_false_eq_true, and_self]; done) | simp_all)); have n1_ := Aside0.mk (Kd.R_reok rfl hy0 (fun k_ e_ => HO_11.out.1 k_ e_)); have n2_ := Aside0.mk (Kd.R_mono (ok' := fun k_ => some k_ ≠ (v273 : Value).ownBlock ∧ some k_ ≠ (.slice Ao64 t280.length co64 : Value).ownBlock ∧ some k_ ≠ (.slice Ao91 t296.length co91 : Value).ownBlock) (Kd.R_keptB (HO_13.out) hkp (fun k_ hk_ hs_ => by first | exact (hk_.2.1) hs_ | (simp only [show _ = _ from hs_, ne_eq, not_true_eq_false, and_false, false_and] at hk_; done) | simp_all)) (fun k_ hk_ => by first | exact ⟨hk_.1.1, hk_.1.2.1, hk_.1.2.2⟩ | (simp only [hk_, ne_eq, not_false_eq_true, and_self]; done) | simp_all)); have n3_ := Aside0.mk (Kd.R_mono (ok' := fun k_ => some k_ ≠ (.slice Ao58 t283.length co58 : Value).ownBlock ∧ some k_ ≠ (.slice Ao88 t292.length co88 : Value).ownBlock ∧ some k_ ≠ (.slice Ao94 t300.length co94 : Value).ownBlock) (Kd.R_keptB ((Kd.R_apart' HO_280000.out (Kd.R_typed HO_11.out) (by decide))) hkp (fun k_ hk_ hs_ => by first | exact (hk_.2) hs_ | (simp only [show _ = _ from hs_, ne_eq, not_true_eq_false, and_false, false_and] at hk_; done) | simp_all)) (fun k_ hk_ => by first | exact ⟨hk_.1.1.1.1, hk_.1.1.1.2, hk_.1.1.2⟩ | (simp only [hk_, ne_eq, not_false_eq_true, and_self]; done) | simp_all)); have n4_ := Aside0.mk (Kd.R_mono (ok' := fun k_ => some k_ ≠ (.slice Ao50 t276.length co50 : Value).ownBlock ∧ some k_ ≠ (.slice Ao88 t292.length co88 : Value).ownBlock ∧ some k_ ≠ (.slice Ao94 t300.length co94 : Value).ownBlock) (Kd.R_keptB ((Kd.R_apart' HO_287000.out (Kd.R_typed HO_11.out) (by decide))) hkp (fun k_ hk_ hs_ => by first | exact (hk_.2) hs_ | (simp only [show _ = _ from hs_, ne_eq, not_true_eq_false, and_false, false_and] at hk_; done) | simp_all)) (fun k_ hk_ => by first | exact ⟨hk_.1.1.1, hk_.1.1.2.1, hk_.1.1.2.2⟩ | (simp only [hk_, ne_eq, not_false_eq_true, and_self]; done) | simp_all)); have n5_ := Aside0.mk (blk_kept (pkb BK259.out) hkp (fun hs_ => (fun e_ => (Kd.R_ne HO_11.out BK259.out (by decide)) e_) hs_)); have n6_ := Aside0.mk (blk_kept (pkb BK260.out) hkp (fun hs_ => (fun e_ => (Kd.R_ne HO_11.out BK260.out (by decide)) e_) hs_)); have n7_ := Aside0.mk (blk_kept (pkb BK279.out) hkp (fun hs_ => (fun e_ => (Kd.R_ne HO_11.out BK279.out (by decide)) e_) hs_)); have n8_ := Aside0.mk (blk_kept (pkb BK286.out) hkp (fun hs_ => (fun e_ => (Kd.R_ne HO_11.out BK286.out (by decide)) e_) hs_)); have n9_ := Aside0.mk (Kd.R_mono (ok' := fun k_ => some k_ ≠ (.slice Ao50 t276.length co50 : Value).ownBlock ∧ some k_ ≠ (.slice Ao58 t283.length co58 : Value).ownBlock ∧ some k_ ≠ (.slice Ao94 t300.length co94 : Value).ownBlock) (Kd.R_keptB ((Kd.R_apart' HO294.out (Kd.R_typed HO_11.out) (by decide))) hkp (fun k_ hk_ hs_ => by first | exact (hk_.2) hs_ | (simp only [show _ = _ from hs_, ne_eq, not_true_eq_false, and_false, false_and] at hk_; done) | simp_all)) (fun k_ hk_ => by first | exact ⟨hk_.1.1.1, hk_.1.1.2.1, hk_.1.1.2.2⟩ | (simp only [hk_, ne_eq, not_false_eq_true, and_self]; done) | simp_all)); have n10_ := Aside0.mk (Kd.R_mono (ok' := fun k_ => some k_ ≠ (v273 : Value).ownBlock ∧ some k_ ≠ (.slice Ao64 t280.length co64 : Value).ownBlock ∧ some k_ ≠ (v288 : Value).ownBlock) (Kd.R_keptB (HO298.out) hkp (fun k_ hk_ hs_ => by first | exact (hk_.2.1) hs_ | (simp only [show _ = _ from hs_, ne_eq, not_true_eq_false, and_false, false_and] at hk_; done) | simp_all)) (fun k_ hk_ => by first | exact ⟨hk_.1.1, hk_.1.2.1, hk_.1.2.2⟩ | (simp only [hk_, ne_eq, not_false_eq_true, and_self]; done) | simp_all)); have n11_ := Aside0.mk (Kd.R_mono (ok' := fun k_ => some k_ ≠ (.slice Ao50 t276.length co50 : Value).ownBlock ∧ some k_ ≠ (.slice Ao58 t283.length co58 : Value).ownBlock ∧ some k_ ≠ (.slice Ao88 t292.length co88 : Value).ownBlock) (Kd.R_keptB ((Kd.R_apart' HO302.out (Kd.R_typed HO_11.out) (by decide))) hkp (fun k_ hk_ hs_ => by first | exact (hk_.2) hs_ | (simp only [show _ = _ from hs_, ne_eq, not_true_eq_false, and_false, false_and] at hk_; done) | simp_all)) (fun k_ hk_ => by first | exact ⟨hk_.1.1.1, hk_.1.1.2.1, hk_.1.1.2.2⟩ | (simp only [hk_, ne_eq, not_false_eq_true, and_self]; done) | simp_all)); have n12_ := Aside0.mk (hb); clear HO_8; clear HO_11; clear HO_13; clear HO_280000; clear HO_287000; clear BK259; clear BK260; clear BK279; clear BK286; clear HO294; clear HO298; clear HO302; clear HB; have HO_8 := n0_; have HO_11 := n1_; have HO_13 := n2_; have HO_280000 := n3_; have HO_287000 := n4_; have BK259 := n5_; have BK260 := n6_; have BK279 := n7_; have BK286 := n8_; have HO294 := n9_; have HO298 := n10_; have HO302 := n11_; have HB := n12_; clear n0_ n1_ n2_ n3_ n4_ n5_ n6_ n7_ n8_ n9_ n10_ n11_ n12_; (try clear hb); (try clear hkp); (try clear hy0); have hnb102 := NB286_259.out; have hnc102 := NB259_286.out; have hnb103 := NB286_260.out; have hnc103 := NB260_286.out; have hcz104_0 : w101.cell? ⟨gb286, 0, none⟩ = some (.slice Ao58 t283.length co58) := (blk_cell BK286.out 0).trans rfl; have hfz104_0 := blk_frozen BK286.out 0) | ((with_reducible refine gate_callee (f := 19) rfl ?_); refine goesL_ (some 88) rfl rfl Try.func19 (by kernel_rfl) rfl #[.agg #[.slice Ao58 t283.length co58], .int .i64 t306] rfl (by (try simp only [List.map_toArray, List.map_cons, List.map_nil]); first | done | rfl | (simp only [List.length_drop, List.length_take]; rfl)) ?_; (with_reducible refine (laws_markRules.calls kj30 (fun k_ => some k_ = (.slice Ao58 t283.length co58 : Value).ownBlock) (.slice Ao58 t283.length co58) t283 t306 t308 t309 w _ ?side1 ?side2 A84.out).mono ?_); (case side1 => repeat (first | (with_reducible first | exact HB.out | apply below_alloc | apply pw_below_drewN | apply below_drew1 | refine below_set ?_ GE259.out | refine below_set ?_ GE260.out | refine below_set ?_ GE279.out | refine below_set ?_ GE286.out) | exact HB.out)); (case side2 => exact Kd.R_tight rfl HO_287000.out); rintro e w105 ⟨rfl, hy0, hb, hkp⟩; refine ⟨_, rfl, ?_⟩; have n0_ := Aside0.mk (Kd.R_mono (ok' := fun k_ => some k_ ≠ (.slice Ao64 t280.length co64 : Value).ownBlock ∧ some k_ ≠ (v288 : Value).ownBlock ∧ some k_ ≠ (.slice Ao91 t296.length co91 : Value).ownBlock) (Kd.R_keptB ((Kd.R_apart' HO_8.out (Kd.R_typed HO_287000.out) (by decide))) hkp (fun k_ hk_ hs_ => by first | exact (hk_.2) hs_ | (simp only [show _ = _ from hs_, ne_eq, not_true_eq_false, and_false, false_and] at hk_; done) | simp_all)) (fun k_ hk_ => by first | exact ⟨hk_.1.1.1, hk_.1.1.2.1, hk_.1.1.2.2⟩ | (simp only [hk_, ne_eq, not_false_eq_true, and_self]; done) | simp_all)); have n1_ := Aside0.mk (Kd.R_mono (ok' := fun k_ => some k_ ≠ (v273 : Value).ownBlock ∧ some k_ ≠ (v288 : Value).ownBlock ∧ some k_ ≠ (.slice Ao91 t296.length co91 : Value).ownBlock) (Kd.R_keptB ((Kd.R_apart' HO_11.out (Kd.R_typed HO_287000.out) (by decide))) hkp (fun k_ hk_ hs_ => by first | exact (hk_.2) hs_ | (simp only [show _ = _ from hs_, ne_eq, not_true_eq_false, and_false, false_and] at hk_; done) | simp_all)) (fun k_ hk_ => by first | exact ⟨hk_.1.1.1, hk_.1.1.2.1, hk_.1.1.2.2⟩ | (simp only [hk_, ne_eq, not_false_eq_true, and_self]; done) | simp_all)); have n2_ := Aside0.mk (Kd.R_mono (ok' := fun k_ => some k_ ≠ (v273 : Value).ownBlock ∧ some k_ ≠ (.slice Ao64 t280.length co64 : Value).ownBlock ∧ some k_ ≠ (.slice Ao91 t296.length co91 : Value).ownBlock) (Kd.R_keptB ((Kd.R_apart' HO_13.out (Kd.R_typed HO_287000.out) (by decide))) hkp (fun k_ hk_ hs_ => by first | exact (hk_.2) hs_ | (simp only [show _ = _ from hs_, ne_eq, not_true_eq_false, and_false, false_and] at hk_; done) | simp_all)) (fun k_ hk_ => by first | exact ⟨hk_.1.1.1, hk_.1.1.2.1, hk_.1.1.2.2⟩ | (simp only [hk_, ne_eq, not_false_eq_true, and_self]; done) | simp_all)); have n3_ := Aside0.mk (Kd.R_mono (ok' := fun k_ => some k_ ≠ (.slice Ao58 t283.length co58 : Value).ownBlock ∧ some k_ ≠ (.slice Ao88 t292.length co88 : Value).ownBlock ∧ some k_ ≠ (.slice Ao94 t300.length co94 : Value).ownBlock) (Kd.R_keptB (HO_280000.out) hkp (fun k_ hk_ hs_ => by first | exact (hk_.1) hs_ | (simp only [show _ = _ from hs_, ne_eq, not_true_eq_false, and_false, false_and] at hk_; done) | simp_all)) (fun k_ hk_ => by first | exact ⟨hk_.1.1, hk_.1.2.1, hk_.1.2.2⟩ | (simp only [hk_, ne_eq, not_false_eq_true, and_self]; done) | simp_all)); have n4_ := Aside0.mk (Kd.R_reok rfl hy0 (fun k_ e_ => HO_287000.out.1 k_ e_)); have n5_ := Aside0.mk (blk_kept (pkb BK259.out) hkp (fun hs_ => (fun e_ => (Kd.R_ne HO_287000.out BK259.out (by decide)) e_) hs_)); have n6_ := Aside0.mk (blk_kept (pkb BK260.out) hkp (fun hs_ => (fun e_ => (Kd.R_ne HO_287000.out BK260.out (by decide)) e_) hs_)); have n7_ := Aside0.mk (blk_kept (pkb BK279.out) hkp (fun hs_ => (fun e_ => (Kd.R_ne HO_287000.out BK279.out (by decide)) e_) hs_)); have n8_ := Aside0.mk (blk_kept (pkb BK286.out) hkp (fun hs_ => (fun e_ => (Kd.R_ne HO_287000.out BK286.out (by decide)) e_) hs_)); have n9_ := Aside0.mk (Kd.R_mono (ok' := fun k_ => some k_ ≠ (.slice Ao50 t276.length co50 : Value).ownBlock ∧ some k_ ≠ (.slice Ao58 t283.length co58 : Value).ownBlock ∧ some k_ ≠ (.slice Ao94 t300.length co94 : Value).ownBlock) (Kd.R_keptB (HO294.out) hkp (fun k_ hk_ hs_ => by first | exact (hk_.2.1) hs_ | (simp only [show _ = _ from hs_, ne_eq, not_true_eq_false, and_false, false_and] at hk_; done) | simp_all)) (fun k_ hk_ => by first | exact ⟨hk_.1.1, hk_.1.2.1, hk_.1.2.2⟩ | (simp only [hk_, ne_eq, not_false_eq_true, and_self]; done) | simp_all)); have n10_ := Aside0.mk (Kd.R_mono (ok' := fun k_ => some k_ ≠ (v273 : Value).ownBlock ∧ some k_ ≠ (.slice Ao64 t280.length co64 : Value).ownBlock ∧ some k_ ≠ (v288 : Value).ownBlock) (Kd.R_keptB ((Kd.R_apart' HO298.out (Kd.R_typed HO_287000.out) (by decide))) hkp (fun k_ hk_ hs_ => by first | exact (hk_.2) hs_ | (simp only [show _ = _ from hs_, ne_eq, not_true_eq_false, and_false, false_and] at hk_; done) | simp_all)) (fun k_ hk_ => by first | exact ⟨hk_.1.1.1, hk_.1.1.2.1, hk_.1.1.2.2⟩ | (simp only [hk_, ne_eq, not_false_eq_true, and_self]; done) | simp_all)); have n11_ := Aside0.mk (Kd.R_mono (ok' := fun k_ => some k_ ≠ (.slice Ao50 t276.length co50 : Value).ownBlock ∧ some k_ ≠ (.slice Ao58 t283.length co58 : Value).ownBlock ∧ some k_ ≠ (.slice Ao88 t292.length co88 : Value).ownBlock) (Kd.R_keptB (HO302.out) hkp (fun k_ hk_ hs_ => by first | exact (hk_.2.1) hs_ | (simp only [show _ = _ from hs_, ne_eq, not_true_eq_false, and_false, false_and] at hk_; done) | simp_all)) (fun k_ hk_ => by first | exact ⟨hk_.1.1, hk_.1.2.1, hk_.1.2.2⟩ | (simp only [hk_, ne_eq, not_false_eq_true, and_self]; done) | simp_all)); have n12_ := Aside0.mk (hb); clear HO_8; clear HO_11; clear HO_13; clear HO_280000; clear HO_287000; clear BK259; clear BK260; clear BK279; clear BK286; clear HO294; clear HO298; clear HO302; clear HB; have HO_8 := n0_; have HO_11 := n1_; have HO_13 := n2_; have HO_280000 := n3_; have HO_287000 := n4_; have BK259 := n5_; have BK260 := n6_; have BK279 := n7_; have BK286 := n8_; have HO294 := n9_; have HO298 := n10_; have HO302 := n11_; have HB := n12_; clear n0_ n1_ n2_ n3_ n4_ n5_ n6_ n7_ n8_ n9_ n10_ n11_ n12_; (try clear hb); (try clear hkp); (try clear hy0)))
          (try simp only [Act.put, List.setIfInBounds_toArray, List.set_cons_zero, List.set_cons_succ])
          go_cut [101] (fun v101 wc => ∃ (kq : Nat) (x101_84 : Bool), v101 = .bool x101_84 ∧ Aside0 (laws_FnExactThenRules.j1 kq l1 t272 t275 t287 x101_84 l0_0 l2_0 = some r) ∧ Aside0 (kq ≤ kj30) ∧ Aside0 (Kd.R (Kd.int .i64) 3 wc w.heap.size (fun k_ => some k_ ≠ (v288 : Value).ownBlock) v273 t272) ∧ Aside0 (Kd.R (Kd.int .i64) 3 wc w.heap.size (fun k_ => some k_ ≠ (v273 : Value).ownBlock) v288 t287) ∧ Aside0 (Kd.R k110 110 wc w.heap.size (fun k_ => some k_ ≠ ((.slice Ao58 t283.length co58) : Value).ownBlock) (.slice Ao50 t276.length co50) t305) ∧ Aside0 (Kd.R k110 110 wc w.heap.size (fun k_ => some k_ ≠ ((.slice Ao50 t276.length co50) : Value).ownBlock) (.slice Ao58 t283.length co58) t309) ∧ Aside0 (wc.heap[gb259]? = some (.cells #[(.slice A0_0 l0_0.length c0_0)] 25 (0, 0))) ∧ Aside0 (wc.heap[gb260]? = some (.cells #[(.slice A2_0 l2_0.length c2_0)] 25 (0, 0))) ∧ Aside0 (wc.heap[gb279]? = some (.cells #[(.slice Ao50 t276.length co50)] 32 (0, 0))) ∧ Aside0 (wc.heap[gb286]? = some (.cells #[(.slice Ao58 t283.length co58)] 32 (0, 0))) ∧ Aside0 (Below w.heap.size w wc))
          case first =>
           have H := HC85.out
           clear HC85
           by_cases c106 : t308 < 0
           ·rw [if_pos c106] at H
            have c106b0 : decide (t308 < 0) = true := decide_eq_true c106
            clear c106
            (first | rw [c106b0] | (simp only [i64_w, i32_w]; rw [c106b0]) | skip)
            have H' := Aside0.mk H
            clear H
            go_wp2
            go_meet
            case rel => exact ⟨_, (true), (by first | rfl | (simp; done) | (simp [*]; done)), H', ⟨by have := HJ30.out; first | omega | exact Nat.le_refl _⟩, ⟨by (with_reducible repeat (first | apply Kd.R_alloc | apply Kd.R_drewN | apply Kd.R_drew)); exact Kd.R_mono HO_8.out (fun _ hk => by first | exact hk.2.1 | simp_all)⟩, ⟨by (with_reducible repeat (first | apply Kd.R_alloc | apply Kd.R_drewN | apply Kd.R_drew)); exact Kd.R_mono HO_13.out (fun _ hk => by first | exact hk.1 | simp_all)⟩, ⟨by (with_reducible repeat (first | apply Kd.R_alloc | apply Kd.R_drewN | apply Kd.R_drew)); exact Kd.R_mono HO_280000.out (fun _ hk => by first | exact hk.1 | simp_all)⟩, ⟨by (with_reducible repeat (first | apply Kd.R_alloc | apply Kd.R_drewN | apply Kd.R_drew)); exact Kd.R_mono HO_287000.out (fun _ hk => by first | exact hk.1 | simp_all)⟩, ⟨by (with_reducible repeat (first | refine blk_drewN ?_ _ | refine blk_drew ?_ | refine blk_alloc ?_ _)); exact BK259.out⟩, ⟨by (with_reducible repeat (first | refine blk_drewN ?_ _ | refine blk_drew ?_ | refine blk_alloc ?_ _)); exact BK260.out⟩, ⟨by (with_reducible repeat (first | refine blk_drewN ?_ _ | refine blk_drew ?_ | refine blk_alloc ?_ _)); exact BK279.out⟩, ⟨by (with_reducible repeat (first | refine blk_drewN ?_ _ | refine blk_drew ?_ | refine blk_alloc ?_ _)); exact BK286.out⟩, ⟨by repeat (first | (with_reducible first | exact HB.out | apply below_alloc | apply pw_below_drewN | apply below_drew1 | refine below_set ?_ GE259.out | refine below_set ?_ GE260.out | refine below_set ?_ GE279.out | refine below_set ?_ GE286.out) | exact HB.out)⟩⟩
           ·rw [if_neg c106] at H
            have c106b0 : decide (t308 < 0) = false := decide_eq_false c106
            clear c106
            (first | rw [c106b0] | (simp only [i64_w, i32_w]; rw [c106b0]) | skip)
            replace H := Option.bind_eq_some_iff.mp H
            obtain ⟨t310, A1070, H⟩ := H
            replace H : (if t310 = true then (laws_FnExactThenRules.j1 kj30 l1 t272 t275 t287 (t290 != t275) l0_0 l2_0) else (laws_FnExactThenRules.j1 kj30 l1 t272 t275 t287 true l0_0 l2_0)) = some r := H
            have A107 := Aside0.mk A1070
            clear A1070
            by_cases c108 : t310 = true
            ·subst c108
             have H1 : (laws_FnExactThenRules.j1 kj30 l1 t272 t275 t287 (t290 != t275) l0_0 l2_0) = some r := by rw [if_pos rfl] at H; exact H
             clear H
             have H := H1
             clear H1
             have H' := Aside0.mk H
             clear H
             obtain ⟨Ao109, co109, eo109⟩ := Kd.R_slice HO_13.out
             subst eo109
             obtain ⟨Ao110, co110, eo110⟩ := Kd.R_slice HO_8.out
             subst eo110
             go_wp2_with (first | (go_at_call 16; (with_reducible refine (laws_eqIntS.calls kj30 _ _ t287 _ _ t272 true _ ?side1 ?side2 ?side3 ?side4 A107.out).mono ?_); (case side1 => repeat (first | exact (Kd.R_reads' HO_13.out).2.2 | (with_reducible refine Kd.C_alloc ?_ _) | (with_reducible refine Kd.C_drewN ?_ _) | (with_reducible refine Kd.C_drew ?_))); (case side2 => exact (Kd.R_reads' HO_13.out).2.1); (case side3 => repeat (first | exact (Kd.R_reads' HO_8.out).2.2 | (with_reducible refine Kd.C_alloc ?_ _) | (with_reducible refine Kd.C_drewN ?_ _) | (with_reducible refine Kd.C_drew ?_))); (case side4 => exact (Kd.R_reads' HO_8.out).2.1); rintro e w' ⟨rfl, ⟨nd, rfl⟩⟩))
             go_meet
             case rel => exact ⟨_, ((t290 != t275)), (by first | rfl | (simp; done) | (simp [*]; done)), H', ⟨by have := HJ30.out; first | omega | exact Nat.le_refl _⟩, ⟨by (with_reducible repeat (first | apply Kd.R_alloc | apply Kd.R_drewN | apply Kd.R_drew)); exact Kd.R_mono HO_8.out (fun _ hk => by first | exact hk.2.1 | simp_all)⟩, ⟨by (with_reducible repeat (first | apply Kd.R_alloc | apply Kd.R_drewN | apply Kd.R_drew)); exact Kd.R_mono HO_13.out (fun _ hk => by first | exact hk.1 | simp_all)⟩, ⟨by (with_reducible repeat (first | apply Kd.R_alloc | apply Kd.R_drewN | apply Kd.R_drew)); exact Kd.R_mono HO_280000.out (fun _ hk => by first | exact hk.1 | simp_all)⟩, ⟨by (with_reducible repeat (first | apply Kd.R_alloc | apply Kd.R_drewN | apply Kd.R_drew)); exact Kd.R_mono HO_287000.out (fun _ hk => by first | exact hk.1 | simp_all)⟩, ⟨by (with_reducible repeat (first | refine blk_drewN ?_ _ | refine blk_drew ?_ | refine blk_alloc ?_ _)); exact BK259.out⟩, ⟨by (with_reducible repeat (first | refine blk_drewN ?_ _ | refine blk_drew ?_ | refine blk_alloc ?_ _)); exact BK260.out⟩, ⟨by (with_reducible repeat (first | refine blk_drewN ?_ _ | refine blk_drew ?_ | refine blk_alloc ?_ _)); exact BK279.out⟩, ⟨by (with_reducible repeat (first | refine blk_drewN ?_ _ | refine blk_drew ?_ | refine blk_alloc ?_ _)); exact BK286.out⟩, ⟨by repeat (first | (with_reducible first | exact HB.out | apply below_alloc | apply pw_below_drewN | apply below_drew1 | refine below_set ?_ GE259.out | refine below_set ?_ GE260.out | refine below_set ?_ GE279.out | refine below_set ?_ GE286.out) | exact HB.out)⟩⟩
            ·replace c108 := Bool.eq_false_iff.mpr c108
             subst c108
             have H1 : (laws_FnExactThenRules.j1 kj30 l1 t272 t275 t287 true l0_0 l2_0) = some r := by rw [if_neg (show ¬ (false = true) by decide)] at H; exact H
             clear H
             have H := H1
             clear H1
             have H' := Aside0.mk H
             clear H
             obtain ⟨Ao111, co111, eo111⟩ := Kd.R_slice HO_13.out
             subst eo111
             obtain ⟨Ao112, co112, eo112⟩ := Kd.R_slice HO_8.out
             subst eo112
             go_wp2_with (first | (go_at_call 16; (with_reducible refine (laws_eqIntS.calls kj30 _ _ t287 _ _ t272 false _ ?side1 ?side2 ?side3 ?side4 A107.out).mono ?_); (case side1 => repeat (first | exact (Kd.R_reads' HO_13.out).2.2 | (with_reducible refine Kd.C_alloc ?_ _) | (with_reducible refine Kd.C_drewN ?_ _) | (with_reducible refine Kd.C_drew ?_))); (case side2 => exact (Kd.R_reads' HO_13.out).2.1); (case side3 => repeat (first | exact (Kd.R_reads' HO_8.out).2.2 | (with_reducible refine Kd.C_alloc ?_ _) | (with_reducible refine Kd.C_drewN ?_ _) | (with_reducible refine Kd.C_drew ?_))); (case side4 => exact (Kd.R_reads' HO_8.out).2.1); rintro e w' ⟨rfl, ⟨nd, rfl⟩⟩))
             go_meet
             case rel => exact ⟨_, (true), (by first | rfl | (simp; done) | (simp [*]; done)), H', ⟨by have := HJ30.out; first | omega | exact Nat.le_refl _⟩, ⟨by (with_reducible repeat (first | apply Kd.R_alloc | apply Kd.R_drewN | apply Kd.R_drew)); exact Kd.R_mono HO_8.out (fun _ hk => by first | exact hk.2.1 | simp_all)⟩, ⟨by (with_reducible repeat (first | apply Kd.R_alloc | apply Kd.R_drewN | apply Kd.R_drew)); exact Kd.R_mono HO_13.out (fun _ hk => by first | exact hk.1 | simp_all)⟩, ⟨by (with_reducible repeat (first | apply Kd.R_alloc | apply Kd.R_drewN | apply Kd.R_drew)); exact Kd.R_mono HO_280000.out (fun _ hk => by first | exact hk.1 | simp_all)⟩, ⟨by (with_reducible repeat (first | apply Kd.R_alloc | apply Kd.R_drewN | apply Kd.R_drew)); exact Kd.R_mono HO_287000.out (fun _ hk => by first | exact hk.1 | simp_all)⟩, ⟨by (with_reducible repeat (first | refine blk_drewN ?_ _ | refine blk_drew ?_ | refine blk_alloc ?_ _)); exact BK259.out⟩, ⟨by (with_reducible repeat (first | refine blk_drewN ?_ _ | refine blk_drew ?_ | refine blk_alloc ?_ _)); exact BK260.out⟩, ⟨by (with_reducible repeat (first | refine blk_drewN ?_ _ | refine blk_drew ?_ | refine blk_alloc ?_ _)); exact BK279.out⟩, ⟨by (with_reducible repeat (first | refine blk_drewN ?_ _ | refine blk_drew ?_ | refine blk_alloc ?_ _)); exact BK286.out⟩, ⟨by repeat (first | (with_reducible first | exact HB.out | apply below_alloc | apply pw_below_drewN | apply below_drew1 | refine below_set ?_ GE259.out | refine below_set ?_ GE260.out | refine below_set ?_ GE279.out | refine below_set ?_ GE286.out) | exact HB.out)⟩⟩
          case rest =>
           clear HC85
           try clear c1
           try clear c2
           try clear p2
           try clear c3
           try clear c4
           try clear c4b0
           try clear c4b1
           try clear c5
           try clear c6
           try clear c7
           try clear c8
           try clear c8b0
           try clear c9
           try clear c10
           try clear c11
           try clear c13
           try clear c14
           try clear c15
           try clear c15b0
           try clear c16
           try clear c17
           try clear c18
           try clear c19
           try clear c29
           try clear c30
           try clear c34
           try clear c51
           try clear c52
           try clear c59
           try clear c60
           try clear c61
           try clear c67
           try clear c72
           try clear c75
           try clear c78
           try clear c81
           try clear c96
           try clear c97
           try clear c98
           try clear c102
           try clear c103
           try clear c106
           try clear c106b0
           try clear c108
           try clear hcz104_0
           try clear hcz12_0
           try clear hcz19_0
           try clear hcz21_0
           try clear hcz35_0
           try clear hcz37_0
           try clear hcz47_0
           try clear hcz53_0
           try clear hcz55_0
           try clear hcz62_0
           try clear hcz63_0
           try clear hcz99_0
           try clear hfz104_0
           try clear hfz12_0
           try clear hfz19_0
           try clear hfz21_0
           try clear hfz35_0
           try clear hfz37_0
           try clear hfz47_0
           try clear hfz53_0
           try clear hfz55_0
           try clear hfz62_0
           try clear hfz63_0
           try clear hfz99_0
           try clear p2
           obtain ⟨kq, x101_84, rfl, HA, HJ84, HO_8, HO_13, HO_280000, HO_287000, BK259, BK260, BK279, BK286, HB⟩ := hcut
           have hl280000_84 := (Kd.R_reads' HO_280000.out).1
           rw [hl280000_84] at HO_280000
           (try simp only [hl280000_84])
           (try simp only [hl280000_84] at BK259)
           (try simp only [hl280000_84] at BK260)
           (try simp only [hl280000_84] at BK279)
           (try simp only [hl280000_84] at BK286)
           (try simp only [hl280000_84] at HO_8)
           (try simp only [hl280000_84] at HO_13)
           (try simp only [hl280000_84] at HO_287000)
           have hl287000_84 := (Kd.R_reads' HO_287000.out).1
           rw [hl287000_84] at HO_287000
           (try simp only [hl287000_84])
           (try simp only [hl287000_84] at BK259)
           (try simp only [hl287000_84] at BK260)
           (try simp only [hl287000_84] at BK279)
           (try simp only [hl287000_84] at BK286)
           (try simp only [hl287000_84] at HO_8)
           (try simp only [hl287000_84] at HO_13)
           (try simp only [hl287000_84] at HO_280000)
           cases kq with
           | zero => exact absurd HA.out (by simp [laws_FnExactThenRules.j1])
           | succ kj84 =>
            have H := HA.out
            clear HA
            simp only [laws_FnExactThenRules.j1] at H
            by_cases c113 : x101_84 = true
            ·subst c113
             have H1 : (none) = some r := by rw [if_pos rfl] at H; exact H
             clear H
             have H := H1
             clear H1
             exact absurd H (by simp)
            ·replace c113 := Bool.eq_false_iff.mpr c113
             subst c113
             have H1 : ((laws_markIntS.f kj84 t287 1).bind fun bt311 => ((laws_heldIntS.f kj84 bt311.2 1).bind fun t313 => (if t313 < 0 then (none) else (if t313 = bt311.1 then ((laws_toRules.f kj84 l0_0).bind fun t314 => ((laws_toIntS.f kj84 l1).bind fun t317 => ((laws_toRules.f kj84 l2_0).bind fun t320 => ((impl_ThenRules.f kj84 t314 t317 t320).bind fun bt323 => ((laws_eqIntS.f kj84 bt323.1 t272).bind fun t327 => (if t327 = true then (laws_FnExactThenRules.j2 kj84 bt311.2 bt311.1 (bt323.2 != t275)) else (laws_FnExactThenRules.j2 kj84 bt311.2 bt311.1 true))))))) else (none))))) = some r := by rw [if_neg (show ¬ (false = true) by decide)] at H; exact H
             clear H
             have H := H1
             clear H1
             replace H := Option.bind_eq_some_iff.mp H
             obtain ⟨⟨t311, t312⟩, A1140, H⟩ := H
             replace H : ((laws_heldIntS.f kj84 t312 1).bind fun t313 => (if t313 < 0 then (none) else (if t313 = t311 then ((laws_toRules.f kj84 l0_0).bind fun t314 => ((laws_toIntS.f kj84 l1).bind fun t317 => ((laws_toRules.f kj84 l2_0).bind fun t320 => ((impl_ThenRules.f kj84 t314 t317 t320).bind fun bt323 => ((laws_eqIntS.f kj84 bt323.1 t272).bind fun t327 => (if t327 = true then (laws_FnExactThenRules.j2 kj84 t312 t311 (bt323.2 != t275)) else (laws_FnExactThenRules.j2 kj84 t312 t311 true))))))) else (none)))) = some r := H
             have A114 := Aside0.mk A1140
             clear A1140
             replace H := Option.bind_eq_some_iff.mp H
             obtain ⟨t313, A1150, H⟩ := H
             replace H : (if t313 < 0 then (none) else (if t313 = t311 then ((laws_toRules.f kj84 l0_0).bind fun t314 => ((laws_toIntS.f kj84 l1).bind fun t317 => ((laws_toRules.f kj84 l2_0).bind fun t320 => ((impl_ThenRules.f kj84 t314 t317 t320).bind fun bt323 => ((laws_eqIntS.f kj84 bt323.1 t272).bind fun t327 => (if t327 = true then (laws_FnExactThenRules.j2 kj84 t312 t311 (bt323.2 != t275)) else (laws_FnExactThenRules.j2 kj84 t312 t311 true))))))) else (none))) = some r := H
             have A115 := Aside0.mk A1150
             clear A1150
             by_cases c116 : t313 < 0
             ·rw [if_pos c116] at H
              exact absurd H (by simp)
             ·rw [if_neg c116] at H
              have c116b0 : decide (t313 < 0) = false := decide_eq_false c116
              clear c116
              by_cases c117 : t313 = t311
              ·rw [if_pos c117] at H
               have c117b0 : (t313 == t311) = true := beq_iff_eq.mpr c117
               have c117b1 : (t313 != t311) = false := bne_eq_false_iff_eq.mpr c117
               clear c117
               replace H := Option.bind_eq_some_iff.mp H
               obtain ⟨t314, A1180, H⟩ := H
               replace H : ((laws_toIntS.f kj84 l1).bind fun t317 => ((laws_toRules.f kj84 l2_0).bind fun t320 => ((impl_ThenRules.f kj84 t314 t317 t320).bind fun bt323 => ((laws_eqIntS.f kj84 bt323.1 t272).bind fun t327 => (if t327 = true then (laws_FnExactThenRules.j2 kj84 t312 t311 (bt323.2 != t275)) else (laws_FnExactThenRules.j2 kj84 t312 t311 true)))))) = some r := H
               have A118 := Aside0.mk A1180
               clear A1180
               replace H := Option.bind_eq_some_iff.mp H
               obtain ⟨t317, A1190, H⟩ := H
               replace H : ((laws_toRules.f kj84 l2_0).bind fun t320 => ((impl_ThenRules.f kj84 t314 t317 t320).bind fun bt323 => ((laws_eqIntS.f kj84 bt323.1 t272).bind fun t327 => (if t327 = true then (laws_FnExactThenRules.j2 kj84 t312 t311 (bt323.2 != t275)) else (laws_FnExactThenRules.j2 kj84 t312 t311 true))))) = some r := H
               have A119 := Aside0.mk A1190
               clear A1190
               replace H := Option.bind_eq_some_iff.mp H
               obtain ⟨t320, A1200, H⟩ := H
               replace H : ((impl_ThenRules.f kj84 t314 t317 t320).bind fun bt323 => ((laws_eqIntS.f kj84 bt323.1 t272).bind fun t327 => (if t327 = true then (laws_FnExactThenRules.j2 kj84 t312 t311 (bt323.2 != t275)) else (laws_FnExactThenRules.j2 kj84 t312 t311 true)))) = some r := H
               have A120 := Aside0.mk A1200
               clear A1200
               replace H := Option.bind_eq_some_iff.mp H
               obtain ⟨⟨t323, t326⟩, A1210, H⟩ := H
               replace H : ((laws_eqIntS.f kj84 t323 t272).bind fun t327 => (if t327 = true then (laws_FnExactThenRules.j2 kj84 t312 t311 (t326 != t275)) else (laws_FnExactThenRules.j2 kj84 t312 t311 true))) = some r := H
               have A121 := Aside0.mk A1210
               clear A1210
               have HC122 := Aside0.mk H
               clear H
               obtain ⟨Ao123, co123, eo123⟩ := Kd.R_slice HO_13.out
               subst eo123
               try go_wp2_with (first | ((with_reducible refine gate_callee (f := 18) rfl ?_); refine goesL_ (some 104) rfl rfl Try.func18 (by kernel_rfl) rfl #[.slice Ao123 t287.length co123, .int .i64 1] rfl (by (try simp only [List.map_toArray, List.map_cons, List.map_nil]); first | done | rfl | (simp only [List.length_drop, List.length_take]; rfl)) ?_; (with_reducible refine (laws_markIntS.calls kj84 (fun k_ => some k_ = (.slice Ao123 t287.length co123 : Value).ownBlock) (.slice Ao123 t287.length co123) t287 1 t311 t312 w _ ?side1 ?side2 A114.out).mono ?_); (case side1 => repeat (first | (with_reducible first | exact HB.out | apply below_alloc | apply pw_below_drewN | apply below_drew1 | refine below_set ?_ GE259.out | refine below_set ?_ GE260.out | refine below_set ?_ GE279.out | refine below_set ?_ GE286.out) | exact HB.out)); (case side2 => exact Kd.R_tight rfl HO_13.out); rintro e w124 ⟨rfl, hy0, hb, hkp⟩; refine ⟨_, rfl, ?_⟩; have n0_ := Aside0.mk (Kd.R_mono (ok' := fun k_ => some k_ ≠ (.slice Ao123 t287.length co123 : Value).ownBlock) (Kd.R_keptB (HO_8.out) hkp (fun k_ hk_ hs_ => by first | exact (hk_) hs_ | (simp only [show _ = _ from hs_, ne_eq, not_true_eq_false, and_false, false_and] at hk_; done) | simp_all)) (fun k_ hk_ => hk_.1)); have n1_ := Aside0.mk (Kd.R_reok rfl hy0 (fun k_ e_ => HO_13.out.1 k_ e_)); have n2_ := Aside0.mk (Kd.R_mono (ok' := fun k_ => some k_ ≠ (.slice Ao58 t309.length co58 : Value).ownBlock) (Kd.R_keptB ((Kd.R_apart' HO_280000.out (Kd.R_typed HO_13.out) (by decide))) hkp (fun k_ hk_ hs_ => by first | exact (hk_.2) hs_ | (simp only [show _ = _ from hs_, ne_eq, not_true_eq_false, and_false, false_and] at hk_; done) | simp_all)) (fun k_ hk_ => hk_.1.1)); have n3_ := Aside0.mk (Kd.R_mono (ok' := fun k_ => some k_ ≠ (.slice Ao50 t305.length co50 : Value).ownBlock) (Kd.R_keptB ((Kd.R_apart' HO_287000.out (Kd.R_typed HO_13.out) (by decide))) hkp (fun k_ hk_ hs_ => by first | exact (hk_.2) hs_ | (simp only [show _ = _ from hs_, ne_eq, not_true_eq_false, and_false, false_and] at hk_; done) | simp_all)) (fun k_ hk_ => hk_.1.1)); have n4_ := Aside0.mk (blk_kept (pkb BK259.out) hkp (fun hs_ => (fun e_ => (Kd.R_ne HO_13.out BK259.out (by decide)) e_) hs_)); have n5_ := Aside0.mk (blk_kept (pkb BK260.out) hkp (fun hs_ => (fun e_ => (Kd.R_ne HO_13.out BK260.out (by decide)) e_) hs_)); have n6_ := Aside0.mk (blk_kept (pkb BK279.out) hkp (fun hs_ => (fun e_ => (Kd.R_ne HO_13.out BK279.out (by decide)) e_) hs_)); have n7_ := Aside0.mk (blk_kept (pkb BK286.out) hkp (fun hs_ => (fun e_ => (Kd.R_ne HO_13.out BK286.out (by decide)) e_) hs_)); have n8_ := Aside0.mk (hb); clear HO_8; clear HO_13; clear HO_280000; clear HO_287000; clear BK259; clear BK260; clear BK279; clear BK286; clear HB; have HO_8 := n0_; have HO_13 := n1_; have HO_280000 := n2_; have HO_287000 := n3_; have BK259 := n4_; have BK260 := n5_; have BK279 := n6_; have BK286 := n7_; have HB := n8_; clear n0_ n1_ n2_ n3_ n4_ n5_ n6_ n7_ n8_; (try clear hb); (try clear hkp); (try clear hy0)) | ((with_reducible refine gate_callee (f := 20) rfl ?_); refine goesL_ (some 107) rfl rfl Try.func20 (by kernel_rfl) rfl #[.slice Ao123 t312.length co123, .int .i64 1] rfl (by (try simp only [List.map_toArray, List.map_cons, List.map_nil]); first | done | (rw [show t312.length = t287.length from (Kd.R_reads' HO_13.out).1.symm] <;> rfl) | rfl | (simp only [List.length_drop, List.length_take]; rfl)) ?_; (with_reducible refine (laws_heldIntS.calls kj84 _ _ t312 1 t313 _ ?side1 ?side2 A115.out).mono ?_); (case side1 => repeat (first | exact (Kd.R_reads' HO_13.out).2.2 | (with_reducible refine Kd.C_alloc ?_ _) | (with_reducible refine Kd.C_drewN ?_ _) | (with_reducible refine Kd.C_drew ?_))); (case side2 => rw [show t312.length = t287.length from (Kd.R_reads' HO_13.out).1.symm]; exact (Kd.R_reads' HO_13.out).2.1); rintro e w' ⟨rfl, ⟨nd, rfl⟩⟩; refine ⟨_, rfl, ?_⟩))
               (try (rw [drewN_self w124]; generalize hq_ : World.drewN w124 _ = w124; have n0_ : Aside0 (Kd.R (Kd.int .i64) 3 w124 w.heap.size (fun k_ => some k_ ≠ (v273 : Value).ownBlock) (.slice Ao123 t287.length co123) t312) := ⟨by rw [← hq_]; exact (pkr HO_13.out)⟩; have n1_ : Aside0 (Kd.R k110 110 w124 w.heap.size (fun k_ => some k_ ≠ (.slice Ao58 t309.length co58 : Value).ownBlock) (.slice Ao50 t305.length co50) t305) := ⟨by rw [← hq_]; exact (pkr HO_280000.out)⟩; have n2_ : Aside0 (Kd.R k110 110 w124 w.heap.size (fun k_ => some k_ ≠ (.slice Ao50 t305.length co50 : Value).ownBlock) (.slice Ao58 t309.length co58) t309) := ⟨by rw [← hq_]; exact (pkr HO_287000.out)⟩; have n3_ : Aside0 (Kd.R (Kd.int .i64) 3 w124 w.heap.size (fun k_ => some k_ ≠ (.slice Ao123 t287.length co123 : Value).ownBlock) v273 t272) := ⟨by rw [← hq_]; exact (pkr HO_8.out)⟩; have n4_ : Aside0 (w124.heap[gb259]? = some (.cells #[.slice A0_0 l0_0.length c0_0] 25 (0, 0))) := ⟨by rw [← hq_]; exact (pkb BK259.out)⟩; have n5_ : Aside0 (w124.heap[gb260]? = some (.cells #[.slice A2_0 l2_0.length c2_0] 25 (0, 0))) := ⟨by rw [← hq_]; exact (pkb BK260.out)⟩; have n6_ : Aside0 (w124.heap[gb279]? = some (.cells #[.slice Ao50 t305.length co50] 32 (0, 0))) := ⟨by rw [← hq_]; exact (pkb BK279.out)⟩; have n7_ : Aside0 (w124.heap[gb286]? = some (.cells #[.slice Ao58 t309.length co58] 32 (0, 0))) := ⟨by rw [← hq_]; exact (pkb BK286.out)⟩; have n8_ : Aside0 (Below w.heap.size w w124) := ⟨by rw [← hq_]; exact (by repeat (first | (with_reducible first | exact HB.out | apply below_alloc | apply pw_below_drewN | apply below_drew1 | refine below_set ?_ GE259.out | refine below_set ?_ GE260.out | refine below_set ?_ GE279.out | refine below_set ?_ GE286.out) | exact HB.out))⟩; clear HO_13 HO_280000 HO_287000 HO_8 BK259 BK260 BK279 BK286 HB hq_; have HO_13 := n0_; have HO_280000 := n1_; have HO_287000 := n2_; have HO_8 := n3_; have BK259 := n4_; have BK260 := n5_; have BK279 := n6_; have BK286 := n7_; have HB := n8_; clear n0_ n1_ n2_ n3_ n4_ n5_ n6_ n7_ n8_))
               have n0_ := Aside0.mk (Kd.R_drew HO_8.out)
               have n1_ := Aside0.mk (Kd.R_drew HO_13.out)
               have n2_ := Aside0.mk (Kd.R_drew HO_280000.out)
               have n3_ := Aside0.mk (Kd.R_drew HO_287000.out)
               have n4_ := Aside0.mk (blk_drew BK259.out)
               have n5_ := Aside0.mk (blk_drew BK260.out)
               have n6_ := Aside0.mk (blk_drew BK279.out)
               have n7_ := Aside0.mk (blk_drew BK286.out)
               have n8_ := Aside0.mk (below_drew1 HB.out)
               clear HO_8
               clear HO_13
               clear HO_280000
               clear HO_287000
               clear BK259
               clear BK260
               clear BK279
               clear BK286
               clear HB
               have HO_8 := n0_
               have HO_13 := n1_
               have HO_280000 := n2_
               have HO_287000 := n3_
               have BK259 := n4_
               have BK260 := n5_
               have BK279 := n6_
               have BK286 := n7_
               have HB := n8_
               clear n0_ n1_ n2_ n3_ n4_ n5_ n6_ n7_ n8_
               refine start_ (n := 12) (S := fun w' => w'.cell? ⟨gb259, 0, none⟩ = some (.slice A0_0 l0_0.length c0_0) ∧ w'.cell? ⟨gb260, 0, none⟩ = some (.slice A2_0 l2_0.length c2_0)) (ds := []) #[false, false, false, false, false, false, false, false, false, false, false, false] (by kernel_rfl) rfl rfl ⟨(blk_cell BK259.out 0).trans rfl, (blk_cell BK260.out 0).trans rfl⟩ (fun hHeld => ?_); refine with_tabW laws_FnExactThenRules.tab37 laws_FnExactThenRules.bits37 (fun HT_ HW_ => ?_)
               generalize w124.drew = w125 at HO_8 HO_13 HO_280000 HO_287000 BK259 BK260 BK279 BK286 HB hHeld ⊢
               refine pure_ (i := 2) (N := some 116) (v := ?_) (a' := ?_) #[false, false, true, false, false, false, false, false, false, false, false, false] rfl rfl (any_of HT_.out (by kernel_rfl)) (fun _ _ _ h => h) (Or.inl ⟨by rfl, ?_⟩) ?_ ?_
               rotate_left
               ·intro w'
                go_simp
                with_reducible rfl
               rotate_left
               ·simp only [Act.put, List.setIfInBounds_toArray, List.set_cons_zero, List.set_cons_succ, i64_w, i32_w]
                rfl
               refine take_ (i := 0) (N := some 114) (v := ?_) (a' := ?_) #[true, false, true, false, false, false, false, false, false, false, false, false] rfl rfl (take_ofW HT_.out HW_.out (by kernel_rfl)) (fun _ _ _ h => h) (Or.inl ⟨by rfl, ?_⟩) hHeld ?_ ?_
               rotate_left
               ·rintro w' ⟨s0, s1⟩
                go_simp
                with_reducible rfl
               rotate_left
               ·simp only [Act.put, List.setIfInBounds_toArray, List.set_cons_zero, List.set_cons_succ, i64_w, i32_w]
                rfl
               refine take_ (i := 4) (N := some 118) (v := ?_) (a' := ?_) #[true, false, true, false, true, false, false, false, false, false, false, false] rfl rfl (take_ofW HT_.out HW_.out (by kernel_rfl)) (fun _ _ _ h => h) (Or.inl ⟨by rfl, ?_⟩) hHeld ?_ ?_
               rotate_left
               ·rintro w' ⟨s0, s1⟩
                go_simp
                with_reducible rfl
               rotate_left
               ·simp only [Act.put, List.setIfInBounds_toArray, List.set_cons_zero, List.set_cons_succ, i64_w, i32_w]
                rfl
               refine one_ (i := 1) (N := some 115) #[true, true, true, false, true, false, false, false, false, false, false, false] rfl rfl (one_of HT_.out (by kernel_rfl)) (by decide) (fun K hK => ?_)
               refine goes_ Try.func14 (by kernel_rfl) rfl #[.agg #[.slice A0_0 l0_0.length c0_0]] (by rfl) rfl rfl (by (try simp only [List.map_toArray, List.map_cons, List.map_nil]); first | done | rfl | (simp only [List.length_drop, List.length_take]; rfl)) ?_
               with_reducible refine (laws_toRules.calls kj84 _ _ l0_0 t314 _ ?side1 ?side2 A118.out).mono ?_
               (case side1 => repeat (first | exact (Kd.C_below HR0_0.out HB.out) | (with_reducible refine Kd.C_alloc ?_ _) | (with_reducible refine Kd.C_drewN ?_ _) | (with_reducible refine Kd.C_drew ?_)))
               (case side2 => exact HC0_0.out)
               rintro e w126 ⟨v315, rfl, ho0, hb⟩
               refine ⟨_, rfl, ?_⟩
               have n0_ := Aside0.mk (Kd.R_below (pkr HO_8.out) hb)
               have n1_ := Aside0.mk (Kd.R_below (pkr HO_13.out) hb)
               have n2_ := Aside0.mk (Kd.R_elder' (pkr HO_280000.out) (Kd.R_base ho0) hb)
               have n3_ := Aside0.mk (Kd.R_elder' (pkr HO_287000.out) (Kd.R_base ho0) hb)
               have n4_ := Aside0.mk (Kd.R_lower (Kd.R_new' (Kd.R_new' ho0 (Kd.R_lt (pkr HO_280000.out))) (Kd.R_lt (pkr HO_287000.out))) (below_size (by repeat (first | (with_reducible first | exact HB.out | apply below_alloc | apply pw_below_drewN | apply below_drew1 | refine below_set ?_ GE259.out | refine below_set ?_ GE260.out | refine below_set ?_ GE279.out | refine below_set ?_ GE286.out) | exact HB.out))))
               have n5_ := Aside0.mk (blk_below (g := gb259) (o := .cells #[.slice A0_0 l0_0.length c0_0] 25 (0, 0)) (pkb BK259.out) hb)
               have n6_ := Aside0.mk (blk_below (g := gb260) (o := .cells #[.slice A2_0 l2_0.length c2_0] 25 (0, 0)) (pkb BK260.out) hb)
               have n7_ := Aside0.mk (blk_below (g := gb279) (o := .cells #[.slice Ao50 t305.length co50] 32 (0, 0)) (pkb BK279.out) hb)
               have n8_ := Aside0.mk (blk_below (g := gb286) (o := .cells #[.slice Ao58 t309.length co58] 32 (0, 0)) (pkb BK286.out) hb)
               have n9_ := Aside0.mk (below_step (by repeat (first | (with_reducible first | exact HB.out | apply below_alloc | apply pw_below_drewN | apply below_drew1 | refine below_set ?_ GE259.out | refine below_set ?_ GE260.out | refine below_set ?_ GE279.out | refine below_set ?_ GE286.out) | exact HB.out)) hb)
               clear HO_8
               clear HO_13
               clear HO_280000
               clear HO_287000
               clear BK259
               clear BK260
               clear BK279
               clear BK286
               clear HB
               have HO_8 := n0_
               have HO_13 := n1_
               have HO_280000 := n2_
               have HO_287000 := n3_
               have HO316 := n4_
               have BK259 := n5_
               have BK260 := n6_
               have BK279 := n7_
               have BK286 := n8_
               have HB := n9_
               clear n0_ n1_ n2_ n3_ n4_ n5_ n6_ n7_ n8_ n9_
               (try clear hb)
               (try clear hb2)
               (try clear hk)
               (try clear hi)
               (try clear ho0)
               refine hK.out _ _ ⟨(blk_cell BK259.out 0).trans rfl, (blk_cell BK260.out 0).trans rfl⟩ (fun hHeld => ?_)
               clear hK K
               refine norm_ (a' := ?_) ?_ ?_
               rotate_left
               ·show Act.put _ (some 115) _ = _
                simp only [Act.put, List.setIfInBounds_toArray, List.set_cons_zero, List.set_cons_succ, i64_w, i32_w]
                rfl
               refine one_ (i := 3) (N := some 117) #[true, true, true, true, true, false, false, false, false, false, false, false] rfl rfl (one_of HT_.out (by kernel_rfl)) (by decide) (fun K hK => ?_)
               refine goes_ Try.func13 (by kernel_rfl) rfl #[.slice A1 l1.length c1] (by rfl) rfl rfl (by (try simp only [List.map_toArray, List.map_cons, List.map_nil]); first | done | rfl | (simp only [List.length_drop, List.length_take]; rfl)) ?_
               with_reducible refine (laws_toIntS.calls kj84 _ _ l1 t317 _ ?side1 ?side2 A119.out).mono ?_
               (case side1 => repeat (first | exact (Kd.C_below HR1.out HB.out) | (with_reducible refine Kd.C_alloc ?_ _) | (with_reducible refine Kd.C_drewN ?_ _) | (with_reducible refine Kd.C_drew ?_)))
               (case side2 => exact HC1.out)
               rintro e w127 ⟨v318, rfl, ho0, hb⟩
               refine ⟨_, rfl, ?_⟩
               have n0_ := Aside0.mk (Kd.R_elder' (pkr HO_8.out) (Kd.R_base ho0) hb)
               have n1_ := Aside0.mk (Kd.R_elder' (pkr HO_13.out) (Kd.R_base ho0) hb)
               have n2_ := Aside0.mk (Kd.R_below (pkr HO_280000.out) hb)
               have n3_ := Aside0.mk (Kd.R_below (pkr HO_287000.out) hb)
               have n4_ := Aside0.mk (Kd.R_below (pkr HO316.out) hb)
               have n5_ := Aside0.mk (Kd.R_lower (Kd.R_new' (Kd.R_new' ho0 (Kd.R_lt (pkr HO_8.out))) (Kd.R_lt (pkr HO_13.out))) (below_size (by repeat (first | (with_reducible first | exact HB.out | apply below_alloc | apply pw_below_drewN | apply below_drew1 | refine below_set ?_ GE259.out | refine below_set ?_ GE260.out | refine below_set ?_ GE279.out | refine below_set ?_ GE286.out) | exact HB.out))))
               have n6_ := Aside0.mk (blk_below (g := gb259) (o := .cells #[.slice A0_0 l0_0.length c0_0] 25 (0, 0)) (pkb BK259.out) hb)
               have n7_ := Aside0.mk (blk_below (g := gb260) (o := .cells #[.slice A2_0 l2_0.length c2_0] 25 (0, 0)) (pkb BK260.out) hb)
               have n8_ := Aside0.mk (blk_below (g := gb279) (o := .cells #[.slice Ao50 t305.length co50] 32 (0, 0)) (pkb BK279.out) hb)
               have n9_ := Aside0.mk (blk_below (g := gb286) (o := .cells #[.slice Ao58 t309.length co58] 32 (0, 0)) (pkb BK286.out) hb)
               have n10_ := Aside0.mk (below_step (by repeat (first | (with_reducible first | exact HB.out | apply below_alloc | apply pw_below_drewN | apply below_drew1 | refine below_set ?_ GE259.out | refine below_set ?_ GE260.out | refine below_set ?_ GE279.out | refine below_set ?_ GE286.out) | exact HB.out)) hb)
               clear HO_8
               clear HO_13
               clear HO_280000
               clear HO_287000
               clear HO316
               clear BK259
               clear BK260
               clear BK279
               clear BK286
               clear HB
               have HO_8 := n0_
               have HO_13 := n1_
               have HO_280000 := n2_
               have HO_287000 := n3_
               have HO316 := n4_
               have HO319 := n5_
               have BK259 := n6_
               have BK260 := n7_
               have BK279 := n8_
               have BK286 := n9_
               have HB := n10_
               clear n0_ n1_ n2_ n3_ n4_ n5_ n6_ n7_ n8_ n9_ n10_
               (try clear hb)
               (try clear hb2)
               (try clear hk)
               (try clear hi)
               (try clear ho0)
               refine hK.out _ _ ⟨(blk_cell BK259.out 0).trans rfl, (blk_cell BK260.out 0).trans rfl⟩ (fun hHeld => ?_)
               clear hK K
               refine norm_ (a' := ?_) ?_ ?_
               rotate_left
               ·show Act.put _ (some 117) _ = _
                simp only [Act.put, List.setIfInBounds_toArray, List.set_cons_zero, List.set_cons_succ, i64_w, i32_w]
                rfl
               refine one_ (i := 5) (N := some 119) #[true, true, true, true, true, true, false, false, false, false, false, false] rfl rfl (one_of HT_.out (by kernel_rfl)) (by decide) (fun K hK => ?_)
               refine goes_ Try.func14 (by kernel_rfl) rfl #[.agg #[.slice A2_0 l2_0.length c2_0]] (by rfl) rfl rfl (by (try simp only [List.map_toArray, List.map_cons, List.map_nil]); first | done | rfl | (simp only [List.length_drop, List.length_take]; rfl)) ?_
               with_reducible refine (laws_toRules.calls kj84 _ _ l2_0 t320 _ ?side1 ?side2 A120.out).mono ?_
               (case side1 => repeat (first | exact (Kd.C_below HR2_0.out HB.out) | (with_reducible refine Kd.C_alloc ?_ _) | (with_reducible refine Kd.C_drewN ?_ _) | (with_reducible refine Kd.C_drew ?_)))
               (case side2 => exact HC2_0.out)
               rintro e w128 ⟨v321, rfl, ho0, hb⟩
               refine ⟨_, rfl, ?_⟩
               have n0_ := Aside0.mk (Kd.R_below (pkr HO_8.out) hb)
               have n1_ := Aside0.mk (Kd.R_below (pkr HO_13.out) hb)
               have n2_ := Aside0.mk (Kd.R_elder' (pkr HO_280000.out) (Kd.R_base ho0) hb)
               have n3_ := Aside0.mk (Kd.R_elder' (pkr HO_287000.out) (Kd.R_base ho0) hb)
               have n4_ := Aside0.mk (Kd.R_elder' (pkr HO316.out) (Kd.R_base ho0) hb)
               have n5_ := Aside0.mk (Kd.R_below (pkr HO319.out) hb)
               have n6_ := Aside0.mk (Kd.R_lower (Kd.R_new' (Kd.R_new' (Kd.R_new' ho0 (Kd.R_lt (pkr HO_280000.out))) (Kd.R_lt (pkr HO_287000.out))) (Kd.R_lt (pkr HO316.out))) (below_size (by repeat (first | (with_reducible first | exact HB.out | apply below_alloc | apply pw_below_drewN | apply below_drew1 | refine below_set ?_ GE259.out | refine below_set ?_ GE260.out | refine below_set ?_ GE279.out | refine below_set ?_ GE286.out) | exact HB.out))))
               have n7_ := Aside0.mk (blk_below (g := gb259) (o := .cells #[.slice A0_0 l0_0.length c0_0] 25 (0, 0)) (pkb BK259.out) hb)
               have n8_ := Aside0.mk (blk_below (g := gb260) (o := .cells #[.slice A2_0 l2_0.length c2_0] 25 (0, 0)) (pkb BK260.out) hb)
               have n9_ := Aside0.mk (blk_below (g := gb279) (o := .cells #[.slice Ao50 t305.length co50] 32 (0, 0)) (pkb BK279.out) hb)
               have n10_ := Aside0.mk (blk_below (g := gb286) (o := .cells #[.slice Ao58 t309.length co58] 32 (0, 0)) (pkb BK286.out) hb)
               have n11_ := Aside0.mk (below_step (by repeat (first | (with_reducible first | exact HB.out | apply below_alloc | apply pw_below_drewN | apply below_drew1 | refine below_set ?_ GE259.out | refine below_set ?_ GE260.out | refine below_set ?_ GE279.out | refine below_set ?_ GE286.out) | exact HB.out)) hb)
               clear HO_8
               clear HO_13
               clear HO_280000
               clear HO_287000
               clear HO316
               clear HO319
               clear BK259
               clear BK260
               clear BK279
               clear BK286
               clear HB
               have HO_8 := n0_
               have HO_13 := n1_
               have HO_280000 := n2_
               have HO_287000 := n3_
               have HO316 := n4_
               have HO319 := n5_
               have HO322 := n6_
               have BK259 := n7_
               have BK260 := n8_
               have BK279 := n9_
               have BK286 := n10_
               have HB := n11_
               clear n0_ n1_ n2_ n3_ n4_ n5_ n6_ n7_ n8_ n9_ n10_ n11_
               (try clear hb)
               (try clear hb2)
               (try clear hk)
               (try clear hi)
               (try clear ho0)
               obtain ⟨Ao129, co129, eo129⟩ := Kd.R_slice HO316.out
               (first | subst eo129 | (injection eo129 with f1_ f2_ f3_; have f4_ := f1_.symm; have f5_ := f3_.symm; clear f1_ f2_ f3_; subst f4_; subst f5_))
               obtain ⟨Ao130, co130, eo130⟩ := Kd.R_slice HO319.out
               (first | subst eo130 | (injection eo130 with f1_ f2_ f3_; have f4_ := f1_.symm; have f5_ := f3_.symm; clear f1_ f2_ f3_; subst f4_; subst f5_))
               obtain ⟨Ao131, co131, eo131⟩ := Kd.R_slice HO322.out
               (first | subst eo131 | (injection eo131 with f1_ f2_ f3_; have f4_ := f1_.symm; have f5_ := f3_.symm; clear f1_ f2_ f3_; subst f4_; subst f5_))
               refine hK.out _ _ ⟨(blk_cell BK259.out 0).trans rfl, (blk_cell BK260.out 0).trans rfl⟩ (fun hHeld => ?_)
               clear hK K
               refine norm_ (a' := ?_) ?_ ?_
               rotate_left
               ·show Act.put _ (some 119) _ = _
                simp only [Act.put, List.setIfInBounds_toArray, List.set_cons_zero, List.set_cons_succ, i64_w, i32_w]
                rfl
               refine one_ (i := 6) (N := some 120) #[true, true, true, true, true, true, true, false, false, false, false, false] rfl rfl (one_of HT_.out (by kernel_rfl)) (by decide) (fun K hK => ?_)
               refine goes_ Try.func30 (by kernel_rfl) rfl #[.agg #[.slice Ao129 t314.length co129], .slice Ao130 t317.length co130, .agg #[.slice Ao131 t320.length co131]] (by rfl) rfl rfl (by (try simp only [List.map_toArray, List.map_cons, List.map_nil]); first | done | rfl | (simp only [List.length_drop, List.length_take]; rfl)) ?_
               with_reducible refine (impl_ThenRules.calls kj84 _ _ t314 _ _ t317 _ _ t320 t323 t326 _ ?side1 ?side2 ?side3 ?side4 ?side5 ?side6 A121.out).mono ?_
               (case side1 => repeat (first | exact (Kd.R_reads' HO316.out).2.2 | (with_reducible refine Kd.C_alloc ?_ _) | (with_reducible refine Kd.C_drewN ?_ _) | (with_reducible refine Kd.C_drew ?_)))
               (case side2 => exact (Kd.R_reads' HO316.out).2.1)
               (case side3 => repeat (first | exact (Kd.R_reads' HO319.out).2.2 | (with_reducible refine Kd.C_alloc ?_ _) | (with_reducible refine Kd.C_drewN ?_ _) | (with_reducible refine Kd.C_drew ?_)))
               (case side4 => exact (Kd.R_reads' HO319.out).2.1)
               (case side5 => repeat (first | exact (Kd.R_reads' HO322.out).2.2 | (with_reducible refine Kd.C_alloc ?_ _) | (with_reducible refine Kd.C_drewN ?_ _) | (with_reducible refine Kd.C_drew ?_)))
               (case side6 => exact (Kd.R_reads' HO322.out).2.1)
               rintro e w132 ⟨v324, rfl, ho0, hb⟩
               refine ⟨_, rfl, ?_⟩
               have n0_ := Aside0.mk (Kd.R_elder' (pkr HO_8.out) (Kd.R_base ho0) hb)
               have n1_ := Aside0.mk (Kd.R_elder' (pkr HO_13.out) (Kd.R_base ho0) hb)
               have n2_ := Aside0.mk (Kd.R_below (pkr HO_280000.out) hb)
               have n3_ := Aside0.mk (Kd.R_below (pkr HO_287000.out) hb)
               have n4_ := Aside0.mk (Kd.R_below (pkr HO316.out) hb)
               have n5_ := Aside0.mk (Kd.R_elder' (pkr HO319.out) (Kd.R_base ho0) hb)
               have n6_ := Aside0.mk (Kd.R_below (pkr HO322.out) hb)
               have n7_ := Aside0.mk (Kd.R_lower (Kd.R_new' (Kd.R_new' (Kd.R_new' ho0 (Kd.R_lt (pkr HO_8.out))) (Kd.R_lt (pkr HO_13.out))) (Kd.R_lt (pkr HO319.out))) (below_size (by repeat (first | (with_reducible first | exact HB.out | apply below_alloc | apply pw_below_drewN | apply below_drew1 | refine below_set ?_ GE259.out | refine below_set ?_ GE260.out | refine below_set ?_ GE279.out | refine below_set ?_ GE286.out) | exact HB.out))))
               have n8_ := Aside0.mk (blk_below (g := gb259) (o := .cells #[.slice A0_0 l0_0.length c0_0] 25 (0, 0)) (pkb BK259.out) hb)
               have n9_ := Aside0.mk (blk_below (g := gb260) (o := .cells #[.slice A2_0 l2_0.length c2_0] 25 (0, 0)) (pkb BK260.out) hb)
               have n10_ := Aside0.mk (blk_below (g := gb279) (o := .cells #[.slice Ao50 t305.length co50] 32 (0, 0)) (pkb BK279.out) hb)
               have n11_ := Aside0.mk (blk_below (g := gb286) (o := .cells #[.slice Ao58 t309.length co58] 32 (0, 0)) (pkb BK286.out) hb)
               have n12_ := Aside0.mk (below_step (by repeat (first | (with_reducible first | exact HB.out | apply below_alloc | apply pw_below_drewN | apply below_drew1 | refine below_set ?_ GE259.out | refine below_set ?_ GE260.out | refine below_set ?_ GE279.out | refine below_set ?_ GE286.out) | exact HB.out)) hb)
               clear HO_8
               clear HO_13
               clear HO_280000
               clear HO_287000
               clear HO316
               clear HO319
               clear HO322
               clear BK259
               clear BK260
               clear BK279
               clear BK286
               clear HB
               have HO_8 := n0_
               have HO_13 := n1_
               have HO_280000 := n2_
               have HO_287000 := n3_
               have HO316 := n4_
               have HO319 := n5_
               have HO322 := n6_
               have HO325 := n7_
               have BK259 := n8_
               have BK260 := n9_
               have BK279 := n10_
               have BK286 := n11_
               have HB := n12_
               clear n0_ n1_ n2_ n3_ n4_ n5_ n6_ n7_ n8_ n9_ n10_ n11_ n12_
               (try clear hb)
               (try clear hb2)
               (try clear hk)
               (try clear hi)
               (try clear ho0)
               refine hK.out _ _ ⟨(blk_cell BK259.out 0).trans rfl, (blk_cell BK260.out 0).trans rfl⟩ (fun hHeld => ?_)
               clear hK K
               refine norm_ (a' := ?_) ?_ ?_
               rotate_left
               ·show Act.put _ (some 120) _ = _
                simp only [Act.put, List.setIfInBounds_toArray, List.set_cons_zero, List.set_cons_succ, i64_w, i32_w]
                rfl
               refine pure_ (i := 7) (N := some 113) (v := ?_) (a' := ?_) #[true, true, true, true, true, true, true, true, false, false, false, false] rfl rfl (any_of HT_.out (by kernel_rfl)) (fun _ _ _ h => h) (Or.inl ⟨by rfl, ?_⟩) ?_ ?_
               rotate_left
               ·intro w'
                go_simp
                with_reducible rfl
               rotate_left
               ·simp only [Act.put, List.setIfInBounds_toArray, List.set_cons_zero, List.set_cons_succ, i64_w, i32_w]
                rfl
               refine pure_ (i := 8) (N := some 121) (v := ?_) (a' := ?_) #[true, true, true, true, true, true, true, true, true, false, false, false] rfl rfl (any_of HT_.out (by kernel_rfl)) (fun _ _ _ h => h) (Or.inl ⟨by rfl, ?_⟩) ?_ ?_
               rotate_left
               ·intro w'
                go_simp
                with_reducible rfl
               rotate_left
               ·simp only [Act.put, List.setIfInBounds_toArray, List.set_cons_zero, List.set_cons_succ, i64_w, i32_w]
                rfl
               refine pure_ (i := 9) (N := some 122) (v := ?_) (a' := ?_) #[true, true, true, true, true, true, true, true, true, true, false, false] rfl rfl (any_of HT_.out (by kernel_rfl)) (fun _ _ _ h => h) (Or.inl ⟨by rfl, ?_⟩) ?_ ?_
               rotate_left
               ·intro w'
                go_simp
                with_reducible rfl
               rotate_left
               ·simp only [Act.put, List.setIfInBounds_toArray, List.set_cons_zero, List.set_cons_succ, i64_w, i32_w]
                rfl
               refine pure_ (i := 10) (N := some 18) (v := ?_) (a' := ?_) #[true, true, true, true, true, true, true, true, true, true, true, false] rfl rfl (any_of HT_.out (by kernel_rfl)) (fun _ _ _ h => h) (Or.inl ⟨by rfl, ?_⟩) ?_ ?_
               rotate_left
               ·intro w'
                go_simp
                with_reducible rfl
               rotate_left
               ·simp only [Act.put, List.setIfInBounds_toArray, List.set_cons_zero, List.set_cons_succ, i64_w, i32_w]
                rfl
               refine pure_ (i := 11) (N := some 19) (v := ?_) (a' := ?_) #[true, true, true, true, true, true, true, true, true, true, true, true] rfl rfl (any_of HT_.out (by kernel_rfl)) (fun _ _ _ h => h) (Or.inl ⟨by rfl, ?_⟩) ?_ ?_
               rotate_left
               ·intro w'
                go_simp
                with_reducible rfl
               rotate_left
               ·simp only [Act.put, List.setIfInBounds_toArray, List.set_cons_zero, List.set_cons_succ, i64_w, i32_w]
                rfl
               refine done_ (done_of HT_.out (by kernel_rfl)) ?_
               go_upto_region 38 with (fail)
               go_cut [131] (fun v131 wc => ∃ (kq : Nat) (x131_121 : Bool), v131 = .bool x131_121 ∧ Aside0 (laws_FnExactThenRules.j2 kq t312 t311 x131_121 = some r) ∧ Aside0 (kq ≤ kj84) ∧ Aside0 (Kd.R (Kd.int .i64) 3 wc w.heap.size (fun _ => True) (.slice Ao123 t287.length co123) t312) ∧ Aside0 (Kd.R k110 110 wc w.heap.size (fun k_ => some k_ ≠ ((.slice Ao58 t309.length co58) : Value).ownBlock) (.slice Ao50 t305.length co50) t305) ∧ Aside0 (Kd.R k110 110 wc w.heap.size (fun k_ => some k_ ≠ ((.slice Ao50 t305.length co50) : Value).ownBlock) (.slice Ao58 t309.length co58) t309) ∧ Aside0 (wc.heap[gb259]? = some (.cells #[(.slice A0_0 l0_0.length c0_0)] 25 (0, 0))) ∧ Aside0 (wc.heap[gb260]? = some (.cells #[(.slice A2_0 l2_0.length c2_0)] 25 (0, 0))) ∧ Aside0 (wc.heap[gb279]? = some (.cells #[(.slice Ao50 t305.length co50)] 32 (0, 0))) ∧ Aside0 (wc.heap[gb286]? = some (.cells #[(.slice Ao58 t309.length co58)] 32 (0, 0))) ∧ Aside0 (Below w.heap.size w wc))
               case first =>
                have H := HC122.out
                clear HC122
                replace H := Option.bind_eq_some_iff.mp H
                obtain ⟨t327, A1330, H⟩ := H
                replace H : (if t327 = true then (laws_FnExactThenRules.j2 kj84 t312 t311 (t326 != t275)) else (laws_FnExactThenRules.j2 kj84 t312 t311 true)) = some r := H
                have A133 := Aside0.mk A1330
                clear A1330
                by_cases c134 : t327 = true
                ·subst c134
                 have H1 : (laws_FnExactThenRules.j2 kj84 t312 t311 (t326 != t275)) = some r := by rw [if_pos rfl] at H; exact H
                 clear H
                 have H := H1
                 clear H1
                 have H' := Aside0.mk H
                 clear H
                 obtain ⟨Ao135, co135, eo135⟩ := Kd.R_slice HO325.out
                 subst eo135
                 obtain ⟨Ao136, co136, eo136⟩ := Kd.R_slice HO_8.out
                 subst eo136
                 go_wp2_with (first | ((with_reducible refine gate_callee (f := 16) rfl ?_); refine goesL_ (some 125) rfl rfl Try.func16 (by kernel_rfl) rfl #[.slice Ao135 t323.length co135, .slice Ao136 t272.length co136] rfl (by (try simp only [List.map_toArray, List.map_cons, List.map_nil]); first | done | rfl | (simp only [List.length_drop, List.length_take]; rfl)) ?_; (with_reducible refine (laws_eqIntS.calls kj84 _ _ t323 _ _ t272 true _ ?side1 ?side2 ?side3 ?side4 A133.out).mono ?_); (case side1 => repeat (first | exact (Kd.R_reads' HO325.out).2.2 | (with_reducible refine Kd.C_alloc ?_ _) | (with_reducible refine Kd.C_drewN ?_ _) | (with_reducible refine Kd.C_drew ?_))); (case side2 => exact (Kd.R_reads' HO325.out).2.1); (case side3 => repeat (first | exact (Kd.R_reads' HO_8.out).2.2 | (with_reducible refine Kd.C_alloc ?_ _) | (with_reducible refine Kd.C_drewN ?_ _) | (with_reducible refine Kd.C_drew ?_))); (case side4 => exact (Kd.R_reads' HO_8.out).2.1); rintro e w' ⟨rfl, ⟨nd, rfl⟩⟩; refine ⟨_, rfl, ?_⟩))
                 go_meet
                 case rel => exact ⟨_, ((t326 != t275)), (by first | rfl | (simp; done) | (simp [*]; done)), H', ⟨by have := HJ30.out; have := HJ84.out; first | omega | exact Nat.le_refl _⟩, ⟨by (try simp only [hl280000_84]); (try simp only [hl287000_84]); (with_reducible repeat (first | apply Kd.R_alloc | apply Kd.R_drewN | apply Kd.R_drew)); exact Kd.R_mono HO_13.out (fun _ hk => trivial)⟩, ⟨by (try simp only [hl280000_84]); (try simp only [hl287000_84]); (with_reducible repeat (first | apply Kd.R_alloc | apply Kd.R_drewN | apply Kd.R_drew)); exact Kd.R_mono HO_280000.out (fun _ hk => by first | exact hk.1.1 | simp_all)⟩, ⟨by (try simp only [hl280000_84]); (try simp only [hl287000_84]); (with_reducible repeat (first | apply Kd.R_alloc | apply Kd.R_drewN | apply Kd.R_drew)); exact Kd.R_mono HO_287000.out (fun _ hk => by first | exact hk.1.1 | simp_all)⟩, ⟨by (try simp only [hl280000_84]); (try simp only [hl287000_84]); (with_reducible repeat (first | refine blk_drewN ?_ _ | refine blk_drew ?_ | refine blk_alloc ?_ _)); exact BK259.out⟩, ⟨by (try simp only [hl280000_84]); (try simp only [hl287000_84]); (with_reducible repeat (first | refine blk_drewN ?_ _ | refine blk_drew ?_ | refine blk_alloc ?_ _)); exact BK260.out⟩, ⟨by (try simp only [hl280000_84]); (try simp only [hl287000_84]); (with_reducible repeat (first | refine blk_drewN ?_ _ | refine blk_drew ?_ | refine blk_alloc ?_ _)); exact BK279.out⟩, ⟨by (try simp only [hl280000_84]); (try simp only [hl287000_84]); (with_reducible repeat (first | refine blk_drewN ?_ _ | refine blk_drew ?_ | refine blk_alloc ?_ _)); exact BK286.out⟩, ⟨by repeat (first | (with_reducible first | exact HB.out | apply below_alloc | apply pw_below_drewN | apply below_drew1 | refine below_set ?_ GE259.out | refine below_set ?_ GE260.out | refine below_set ?_ GE279.out | refine below_set ?_ GE286.out) | exact HB.out)⟩⟩
                ·replace c134 := Bool.eq_false_iff.mpr c134
                 subst c134
                 have H1 : (laws_FnExactThenRules.j2 kj84 t312 t311 true) = some r := by rw [if_neg (show ¬ (false = true) by decide)] at H; exact H
                 clear H
                 have H := H1
                 clear H1
                 have H' := Aside0.mk H
                 clear H
                 obtain ⟨Ao137, co137, eo137⟩ := Kd.R_slice HO325.out
                 subst eo137
                 obtain ⟨Ao138, co138, eo138⟩ := Kd.R_slice HO_8.out
                 subst eo138
                 go_wp2_with (first | ((with_reducible refine gate_callee (f := 16) rfl ?_); refine goesL_ (some 125) rfl rfl Try.func16 (by kernel_rfl) rfl #[.slice Ao137 t323.length co137, .slice Ao138 t272.length co138] rfl (by (try simp only [List.map_toArray, List.map_cons, List.map_nil]); first | done | rfl | (simp only [List.length_drop, List.length_take]; rfl)) ?_; (with_reducible refine (laws_eqIntS.calls kj84 _ _ t323 _ _ t272 false _ ?side1 ?side2 ?side3 ?side4 A133.out).mono ?_); (case side1 => repeat (first | exact (Kd.R_reads' HO325.out).2.2 | (with_reducible refine Kd.C_alloc ?_ _) | (with_reducible refine Kd.C_drewN ?_ _) | (with_reducible refine Kd.C_drew ?_))); (case side2 => exact (Kd.R_reads' HO325.out).2.1); (case side3 => repeat (first | exact (Kd.R_reads' HO_8.out).2.2 | (with_reducible refine Kd.C_alloc ?_ _) | (with_reducible refine Kd.C_drewN ?_ _) | (with_reducible refine Kd.C_drew ?_))); (case side4 => exact (Kd.R_reads' HO_8.out).2.1); rintro e w' ⟨rfl, ⟨nd, rfl⟩⟩; refine ⟨_, rfl, ?_⟩))
                 go_meet
                 case rel => exact ⟨_, (true), (by first | rfl | (simp; done) | (simp [*]; done)), H', ⟨by have := HJ30.out; have := HJ84.out; first | omega | exact Nat.le_refl _⟩, ⟨by (try simp only [hl280000_84]); (try simp only [hl287000_84]); (with_reducible repeat (first | apply Kd.R_alloc | apply Kd.R_drewN | apply Kd.R_drew)); exact Kd.R_mono HO_13.out (fun _ hk => trivial)⟩, ⟨by (try simp only [hl280000_84]); (try simp only [hl287000_84]); (with_reducible repeat (first | apply Kd.R_alloc | apply Kd.R_drewN | apply Kd.R_drew)); exact Kd.R_mono HO_280000.out (fun _ hk => by first | exact hk.1.1 | simp_all)⟩, ⟨by (try simp only [hl280000_84]); (try simp only [hl287000_84]); (with_reducible repeat (first | apply Kd.R_alloc | apply Kd.R_drewN | apply Kd.R_drew)); exact Kd.R_mono HO_287000.out (fun _ hk => by first | exact hk.1.1 | simp_all)⟩, ⟨by (try simp only [hl280000_84]); (try simp only [hl287000_84]); (with_reducible repeat (first | refine blk_drewN ?_ _ | refine blk_drew ?_ | refine blk_alloc ?_ _)); exact BK259.out⟩, ⟨by (try simp only [hl280000_84]); (try simp only [hl287000_84]); (with_reducible repeat (first | refine blk_drewN ?_ _ | refine blk_drew ?_ | refine blk_alloc ?_ _)); exact BK260.out⟩, ⟨by (try simp only [hl280000_84]); (try simp only [hl287000_84]); (with_reducible repeat (first | refine blk_drewN ?_ _ | refine blk_drew ?_ | refine blk_alloc ?_ _)); exact BK279.out⟩, ⟨by (try simp only [hl280000_84]); (try simp only [hl287000_84]); (with_reducible repeat (first | refine blk_drewN ?_ _ | refine blk_drew ?_ | refine blk_alloc ?_ _)); exact BK286.out⟩, ⟨by repeat (first | (with_reducible first | exact HB.out | apply below_alloc | apply pw_below_drewN | apply below_drew1 | refine below_set ?_ GE259.out | refine below_set ?_ GE260.out | refine below_set ?_ GE279.out | refine below_set ?_ GE286.out) | exact HB.out)⟩⟩
               case rest =>
                clear HC122
                try clear c1
                try clear c2
                try clear p2
                try clear c3
                try clear c4
                try clear c4b0
                try clear c4b1
                try clear c5
                try clear c6
                try clear c7
                try clear c8
                try clear c8b0
                try clear c9
                try clear c10
                try clear c11
                try clear c13
                try clear c14
                try clear c15
                try clear c15b0
                try clear c16
                try clear c17
                try clear c18
                try clear c19
                try clear c20
                try clear c29
                try clear c30
                try clear c34
                try clear c51
                try clear c52
                try clear c59
                try clear c60
                try clear c61
                try clear c67
                try clear c72
                try clear c75
                try clear c78
                try clear c81
                try clear c96
                try clear c97
                try clear c98
                try clear c102
                try clear c103
                try clear c106
                try clear c106b0
                try clear c108
                try clear c113
                try clear c116
                try clear c116b0
                try clear c117
                try clear c117b0
                try clear c117b1
                try clear c134
                try clear hcz104_0
                try clear hcz12_0
                try clear hcz19_0
                try clear hcz21_0
                try clear hcz35_0
                try clear hcz37_0
                try clear hcz47_0
                try clear hcz53_0
                try clear hcz55_0
                try clear hcz62_0
                try clear hcz63_0
                try clear hcz99_0
                try clear hfz104_0
                try clear hfz12_0
                try clear hfz19_0
                try clear hfz21_0
                try clear hfz35_0
                try clear hfz37_0
                try clear hfz47_0
                try clear hfz53_0
                try clear hfz55_0
                try clear hfz62_0
                try clear hfz63_0
                try clear hfz99_0
                try clear p2
                obtain ⟨kq, x131_121, rfl, HA, HJ121, HO_13, HO_280000, HO_287000, BK259, BK260, BK279, BK286, HB⟩ := hcut
                have hl13_121 := (Kd.R_reads' HO_13.out).1
                rw [hl13_121] at HO_13
                (try simp only [hl13_121])
                (try simp only [hl13_121] at BK259)
                (try simp only [hl13_121] at BK260)
                (try simp only [hl13_121] at BK279)
                (try simp only [hl13_121] at BK286)
                (try simp only [hl13_121] at HO_280000)
                (try simp only [hl13_121] at HO_287000)
                cases kq with
                | zero => exact absurd HA.out (by simp [laws_FnExactThenRules.j2])
                | succ kj121 =>
                 have H := HA.out
                 clear HA
                 simp only [laws_FnExactThenRules.j2] at H
                 by_cases c139 : x131_121 = true
                 ·subst c139
                  have H1 : (none) = some r := by rw [if_pos rfl] at H; exact H
                  clear H
                  have H := H1
                  clear H1
                  exact absurd H (by simp)
                 ·replace c139 := Bool.eq_false_iff.mpr c139
                  subst c139
                  have H1 : ((laws_heldIntS.f kj121 t312 1).bind fun t328 => (if t328 < 0 then (none) else (if t328 = t311 then (some true) else (none)))) = some r := by rw [if_neg (show ¬ (false = true) by decide)] at H; exact H
                  clear H
                  have H := H1
                  clear H1
                  replace H := Option.bind_eq_some_iff.mp H
                  obtain ⟨t328, A1400, H⟩ := H
                  replace H : (if t328 < 0 then (none) else (if t328 = t311 then (some true) else (none))) = some r := H
                  have A140 := Aside0.mk A1400
                  clear A1400
                  by_cases c141 : t328 < 0
                  ·rw [if_pos c141] at H
                   exact absurd H (by simp)
                  ·rw [if_neg c141] at H
                   have c141b0 : decide (t328 < 0) = false := decide_eq_false c141
                   clear c141
                   by_cases c142 : t328 = t311
                   ·rw [if_pos c142] at H
                    have c142b0 : (t328 == t311) = true := beq_iff_eq.mpr c142
                    have c142b1 : (t328 != t311) = false := bne_eq_false_iff_eq.mpr c142
                    clear c142
                    obtain rfl := Option.some.inj H
                    go_wp2_with (first | ((with_reducible refine gate_callee (f := 20) rfl ?_); refine goesL_ (some 134) rfl rfl Try.func20 (by kernel_rfl) rfl #[.slice Ao123 t312.length co123, .int .i64 1] rfl (by (try simp only [List.map_toArray, List.map_cons, List.map_nil]); first | done | rfl | (simp only [List.length_drop, List.length_take]; rfl)) ?_; (with_reducible refine (laws_heldIntS.calls kj121 _ _ t312 1 t328 _ ?side1 ?side2 A140.out).mono ?_); (case side1 => repeat (first | exact (Kd.R_reads' HO_13.out).2.2 | (with_reducible refine Kd.C_alloc ?_ _) | (with_reducible refine Kd.C_drewN ?_ _) | (with_reducible refine Kd.C_drew ?_))); (case side2 => exact (Kd.R_reads' HO_13.out).2.1); rintro e w' ⟨rfl, ⟨nd, rfl⟩⟩; refine ⟨_, rfl, ?_⟩))
                    go_ret
                    exact ⟨by first | rfl | (simp [errW_none, errW_some] <;> rfl) | (simp [*, errW_none, errW_some] <;> rfl), by repeat (first | (with_reducible first | exact HB.out | apply below_alloc | apply pw_below_drewN | apply below_drew1 | refine below_set ?_ GE259.out | refine below_set ?_ GE260.out | refine below_set ?_ GE279.out | refine below_set ?_ GE286.out) | exact HB.out)⟩
                   ·rw [if_neg c142] at H
                    exact absurd H (by simp)
              ·rw [if_neg c117] at H
               exact absurd H (by simp)
         ·replace c81 := Bool.eq_false_iff.mpr c81
          subst c81
          have H1 : (none) = some r := by rw [if_neg (show ¬ (false = true) by decide)] at H; exact H
          clear H
          have H := H1
          clear H1
          exact absurd H (by simp)
        ·replace c78 := Bool.eq_false_iff.mpr c78
         subst c78
         have H1 : (none) = some r := by rw [if_neg (show ¬ (false = true) by decide)] at H; exact H
         clear H
         have H := H1
         clear H1
         exact absurd H (by simp)
       ·replace c75 := Bool.eq_false_iff.mpr c75
        subst c75
        have H1 : (none) = some r := by rw [if_neg (show ¬ (false = true) by decide)] at H; exact H
        clear H
        have H := H1
        clear H1
        exact absurd H (by simp)

end Go.Proofs.Ytplhnalfhblkgaa.PFnExactThenRules
