-- written by xprint.py for this seat
import Derived.Test.YtplhnalfhblkgaaPFnExactMigratex0
import Derived.Test.YtplhnalfhblkgaaPFnExactMigratex1
import Derived.Test.YtplhnalfhblkgaaPFnExactMigratex2
import Derived.Test.YtplhnalfhblkgaaPFnExactMigratex4
import Derived.Test.YtplhnalfhblkgaaPFnExactMigratex5
namespace Go.Proofs.Ytplhnalfhblkgaa.PFnExactMigrate
open Go.RowKit Go.Proofs.YtplhnalfhblkgaaW.PrintWords Go.Proofs.YtplhnalfhblkgaaW.PrintLast Go.Proofs.YtplhnalfhblkgaaW.PrintMore
attribute [local go_sem] max2_int min2_int max_two min_two max_three min_three max_four min_four   -- for this text's walks alone
set_option linter.unusedVariables false
set_option linter.unusedSimpArgs false

/-! ### laws_FnExactMigrate: function 3 -/
mutual
def laws_FnExactMigrate.j0 : Nat → List Int → List Int → Bool → List Int → List Int → Bool → Bool → List (S162) → List (S110) → Option (Bool)
 | 0, _, _, _, _, _, _, _, _, _ => none
 | k + 1, x0, x6, x7, x8, x10, x11, x51, x237000, x255000 => if x51 = true then (none) else ((laws_toIntS.f k x0).bind fun t260 => ((laws_eqIntS.f k x8 t260).bind fun t263 => (if t263 = true then ((laws_toRules.f k x237000).bind fun t264 => ((laws_eqRules.f k x255000 t264).bind fun t267 => (if t267 = true then ((laws_markIntS.f k x8 1).bind fun bt268 => ((laws_markRules.f k x255000 bt268.1).bind fun bt270 => (if bt270.1 < 0 then (laws_FnExactMigrate.j1 k x0 x6 x7 x10 true x237000) else ((laws_eqIntS.f k x10 x6).bind fun t272 => (if t272 = true then (laws_FnExactMigrate.j1 k x0 x6 x7 x10 (x11 != x7) x237000) else (laws_FnExactMigrate.j1 k x0 x6 x7 x10 true x237000)))))) else (none)))) else (none))))
def laws_FnExactMigrate.j1 : Nat → List Int → List Int → Bool → List Int → Bool → List (S162) → Option (Bool)
 | 0, _, _, _, _, _, _ => none
 | k + 1, x0, x6, x7, x10, x80, x237000 => if x80 = true then (none) else ((laws_markIntS.f k x10 1).bind fun bt273 => ((laws_heldIntS.f k bt273.2 1).bind fun t275 => (if t275 < 0 then (none) else (if t275 = bt273.1 then ((laws_toIntS.f k x0).bind fun t276 => ((laws_toRules.f k x237000).bind fun t279 => ((impl_Migrate.f k t276 t279).bind fun bt282 => ((laws_eqIntS.f k bt282.1 x6).bind fun t286 => (if t286 = true then (laws_FnExactMigrate.j2 k bt273.2 bt273.1 (bt282.2 != x7)) else (laws_FnExactMigrate.j2 k bt273.2 bt273.1 true)))))) else (none)))))
def laws_FnExactMigrate.j2 : Nat → List Int → Int → Bool → Option (Bool)
 | 0, _, _, _ => none
 | k + 1, x10, x13, x108 => if x108 = true then (none) else ((laws_heldIntS.f k x10 1).bind fun t287 => (if t287 < 0 then (none) else (if t287 = x13 then (some true) else (none))))
end
def laws_FnExactMigrate.f (k : Nat) (l0 : List Int) (l1_0 : List (S162)) : Option (Bool) := if (l0.length : Int) > 1048576 then (some true) else ((laws_szRules.f l1_0 1048576).bind fun t237 => (if t237 < 0 then (some true) else ((laws_toIntS.f k l0).bind fun t238 => ((laws_toRules.f k l1_0).bind fun t241 => ((spec_Migrate.f k t238 t241).bind fun bt244 => ((laws_toIntS.f k l0).bind fun t248 => ((laws_toRules.f k l1_0).bind fun t251 => ((impl_Migrate.f k t248 t251).bind fun bt255 => ((laws_eqIntS.f k bt255.1 bt244.1).bind fun t259 => (if t259 = true then (laws_FnExactMigrate.j0 k l0 bt244.1 bt244.2 t248 bt255.1 bt255.2 (bt255.2 != bt244.2) l1_0 t251) else (laws_FnExactMigrate.j0 k l0 bt244.1 bt244.2 t248 bt255.1 bt255.2 true l1_0 t251)))))))))))
theorem laws_FnExactMigrate.mono_l : ∀ k, (∀ y0 y1 y2 y3 y4 y5 y6 y7 y8, LeO (laws_FnExactMigrate.j0 k y0 y1 y2 y3 y4 y5 y6 y7 y8) (laws_FnExactMigrate.j0 (k + 1) y0 y1 y2 y3 y4 y5 y6 y7 y8)) ∧ (∀ y0 y1 y2 y3 y4 y5, LeO (laws_FnExactMigrate.j1 k y0 y1 y2 y3 y4 y5) (laws_FnExactMigrate.j1 (k + 1) y0 y1 y2 y3 y4 y5)) ∧ (∀ y0 y1 y2, LeO (laws_FnExactMigrate.j2 k y0 y1 y2) (laws_FnExactMigrate.j2 (k + 1) y0 y1 y2))
 | 0 => ⟨fun _ _ _ _ _ _ _ _ _ r h => by simp [laws_FnExactMigrate.j0] at h, fun _ _ _ _ _ _ r h => by simp [laws_FnExactMigrate.j1] at h, fun _ _ _ r h => by simp [laws_FnExactMigrate.j2] at h⟩
 | k + 1 => by
  obtain ⟨ih0, ih1, ih2⟩ := laws_FnExactMigrate.mono_l k
  refine ⟨?_, ?_, ?_⟩
  ·intro y0 y1 y2 y3 y4 y5 y6 y7 y8
   unfold laws_FnExactMigrate.j0
   repeat' first
   | (with_reducible exact ih0 _ _ _ _ _ _ _ _ _)
   | (with_reducible exact ih1 _ _ _ _ _ _)
   | (with_reducible exact ih2 _ _ _)
   | (with_reducible exact impl_Migrate.mono _ _ _)
   | (with_reducible exact laws_eqIntS.mono _ _ _)
   | (with_reducible exact laws_eqRules.mono _ _ _)
   | (with_reducible exact laws_heldIntS.mono _ _ _)
   | (with_reducible exact laws_markIntS.mono _ _ _)
   | (with_reducible exact laws_markRules.mono _ _ _)
   | (with_reducible exact laws_toIntS.mono _ _)
   | (with_reducible exact laws_toRules.mono _ _)
   | (with_reducible exact spec_Migrate.mono _ _ _)
   | (with_reducible exact LeO.refl _)
   | (with_reducible exact LeO.none _)
   | (with_reducible refine LeO.ite ?_ ?_)
   | (with_reducible refine LeO.bind ?_ (fun _ => ?_))
   | exact ih0 _ _ _ _ _ _ _ _ _
   | exact ih1 _ _ _ _ _ _
   | exact ih2 _ _ _
   | exact impl_Migrate.mono _ _ _
   | exact laws_eqIntS.mono _ _ _
   | exact laws_eqRules.mono _ _ _
   | exact laws_heldIntS.mono _ _ _
   | exact laws_markIntS.mono _ _ _
   | exact laws_markRules.mono _ _ _
   | exact laws_toIntS.mono _ _
   | exact laws_toRules.mono _ _
   | exact spec_Migrate.mono _ _ _
   | exact LeO.none _
   | refine LeO.ite ?_ ?_
   | refine LeO.bind ?_ (fun _ => ?_)
  ·intro y0 y1 y2 y3 y4 y5
   unfold laws_FnExactMigrate.j1
   repeat' first
   | (with_reducible exact ih0 _ _ _ _ _ _ _ _ _)
   | (with_reducible exact ih1 _ _ _ _ _ _)
   | (with_reducible exact ih2 _ _ _)
   | (with_reducible exact impl_Migrate.mono _ _ _)
   | (with_reducible exact laws_eqIntS.mono _ _ _)
   | (with_reducible exact laws_eqRules.mono _ _ _)
   | (with_reducible exact laws_heldIntS.mono _ _ _)
   | (with_reducible exact laws_markIntS.mono _ _ _)
   | (with_reducible exact laws_markRules.mono _ _ _)
   | (with_reducible exact laws_toIntS.mono _ _)
   | (with_reducible exact laws_toRules.mono _ _)
   | (with_reducible exact spec_Migrate.mono _ _ _)
   | (with_reducible exact LeO.refl _)
   | (with_reducible exact LeO.none _)
   | (with_reducible refine LeO.ite ?_ ?_)
   | (with_reducible refine LeO.bind ?_ (fun _ => ?_))
   | exact ih0 _ _ _ _ _ _ _ _ _
   | exact ih1 _ _ _ _ _ _
   | exact ih2 _ _ _
   | exact impl_Migrate.mono _ _ _
   | exact laws_eqIntS.mono _ _ _
   | exact laws_eqRules.mono _ _ _
   | exact laws_heldIntS.mono _ _ _
   | exact laws_markIntS.mono _ _ _
   | exact laws_markRules.mono _ _ _
   | exact laws_toIntS.mono _ _
   | exact laws_toRules.mono _ _
   | exact spec_Migrate.mono _ _ _
   | exact LeO.none _
   | refine LeO.ite ?_ ?_
   | refine LeO.bind ?_ (fun _ => ?_)
  ·intro y0 y1 y2
   unfold laws_FnExactMigrate.j2
   repeat' first
   | (with_reducible exact ih0 _ _ _ _ _ _ _ _ _)
   | (with_reducible exact ih1 _ _ _ _ _ _)
   | (with_reducible exact ih2 _ _ _)
   | (with_reducible exact impl_Migrate.mono _ _ _)
   | (with_reducible exact laws_eqIntS.mono _ _ _)
   | (with_reducible exact laws_eqRules.mono _ _ _)
   | (with_reducible exact laws_heldIntS.mono _ _ _)
   | (with_reducible exact laws_markIntS.mono _ _ _)
   | (with_reducible exact laws_markRules.mono _ _ _)
   | (with_reducible exact laws_toIntS.mono _ _)
   | (with_reducible exact laws_toRules.mono _ _)
   | (with_reducible exact spec_Migrate.mono _ _ _)
   | (with_reducible exact LeO.refl _)
   | (with_reducible exact LeO.none _)
   | (with_reducible refine LeO.ite ?_ ?_)
   | (with_reducible refine LeO.bind ?_ (fun _ => ?_))
   | exact ih0 _ _ _ _ _ _ _ _ _
   | exact ih1 _ _ _ _ _ _
   | exact ih2 _ _ _
   | exact impl_Migrate.mono _ _ _
   | exact laws_eqIntS.mono _ _ _
   | exact laws_eqRules.mono _ _ _
   | exact laws_heldIntS.mono _ _ _
   | exact laws_markIntS.mono _ _ _
   | exact laws_markRules.mono _ _ _
   | exact laws_toIntS.mono _ _
   | exact laws_toRules.mono _ _
   | exact spec_Migrate.mono _ _ _
   | exact LeO.none _
   | refine LeO.ite ?_ ?_
   | refine LeO.bind ?_ (fun _ => ?_)
theorem laws_FnExactMigrate.mono : ∀ a0 a1 k, LeO (laws_FnExactMigrate.f k a0 a1) (laws_FnExactMigrate.f (k + 1) a0 a1) := by
 intro a0 a1 k
 obtain ⟨ih0, ih1, ih2⟩ := laws_FnExactMigrate.mono_l k
 unfold laws_FnExactMigrate.f
 repeat' first
   | (with_reducible exact ih0 _ _ _ _ _ _ _ _ _)
   | (with_reducible exact ih1 _ _ _ _ _ _)
   | (with_reducible exact ih2 _ _ _)
   | (with_reducible exact impl_Migrate.mono _ _ _)
   | (with_reducible exact laws_eqIntS.mono _ _ _)
   | (with_reducible exact laws_eqRules.mono _ _ _)
   | (with_reducible exact laws_heldIntS.mono _ _ _)
   | (with_reducible exact laws_markIntS.mono _ _ _)
   | (with_reducible exact laws_markRules.mono _ _ _)
   | (with_reducible exact laws_toIntS.mono _ _)
   | (with_reducible exact laws_toRules.mono _ _)
   | (with_reducible exact spec_Migrate.mono _ _ _)
   | (with_reducible exact LeO.refl _)
   | (with_reducible exact LeO.none _)
   | (with_reducible refine LeO.ite ?_ ?_)
   | (with_reducible refine LeO.bind ?_ (fun _ => ?_))
   | exact ih0 _ _ _ _ _ _ _ _ _
   | exact ih1 _ _ _ _ _ _
   | exact ih2 _ _ _
   | exact impl_Migrate.mono _ _ _
   | exact laws_eqIntS.mono _ _ _
   | exact laws_eqRules.mono _ _ _
   | exact laws_heldIntS.mono _ _ _
   | exact laws_markIntS.mono _ _ _
   | exact laws_markRules.mono _ _ _
   | exact laws_toIntS.mono _ _
   | exact laws_toRules.mono _ _
   | exact spec_Migrate.mono _ _ _
   | exact LeO.none _
   | refine LeO.ite ?_ ?_
   | refine LeO.bind ?_ (fun _ => ?_)
def laws_FnExactMigrate.T7 : Bool × List (List Nat × List Nat) := (true, [([], []), ([0], [0]), ([], []), ([2, 1], [2]), ([1, 3, 3], [1, 3]), ([4], [4]), ([5], [5]), ([5], [5]), ([6, 4, 0, 1, 2, 3, 4, 5, 6], [6]), ([7, 8, 0, 1, 2, 3, 4, 5, 6, 7, 8], [7])])
def laws_FnExactMigrate.B7 : List Nat := [0, 1, 0, 7, 15, 31, 63, 63, 127, 511]
theorem laws_FnExactMigrate.tab7 : rtab .any (opsOf Try.f3 7) = laws_FnExactMigrate.T7 := by kernel_rfl
theorem laws_FnExactMigrate.bits7 : waitsOk laws_FnExactMigrate.T7.2 laws_FnExactMigrate.B7 = true := by kernel_rfl
def laws_FnExactMigrate.T30 : Bool × List (List Nat × List Nat) := (true, [([], []), ([0], [0]), ([], []), ([2, 1], [2]), ([1, 3, 3], [1, 3]), ([4], [4]), ([5], [5]), ([5], [5]), ([6, 4, 0, 1, 2, 3, 4, 5, 6], [6]), ([7, 8, 0, 1, 2, 3, 4, 5, 6, 7, 8], [7])])
def laws_FnExactMigrate.B30 : List Nat := [0, 1, 0, 7, 15, 31, 63, 63, 127, 511]
theorem laws_FnExactMigrate.tab30 : rtab .any (opsOf Try.f3 30) = laws_FnExactMigrate.T30 := by kernel_rfl
theorem laws_FnExactMigrate.bits30 : waitsOk laws_FnExactMigrate.T30.2 laws_FnExactMigrate.B30 = true := by kernel_rfl
set_option maxHeartbeats 8000000 in
set_option maxRecDepth 100000 in
theorem laws_FnExactMigrate.calls (k : Nat) (A0 : Option Addr) (c0 : Nat) (l0 : List Int) (A1_0 : Option Addr) (c1_0 : Nat) (l1_0 : List (S162)) (r : Bool) (w : World) (hr0 : Kd.C (Kd.int .i64) w A0 l0.length l0) (hc0 : l0.length ≤ c0) (hr1_0 : Kd.C k162 w A1_0 l1_0.length l1_0) (hc1_0 : l1_0.length ≤ c1_0) (h : laws_FnExactMigrate.f k l0 l1_0 = some r) :
  Calls Try.prog 3 #[.slice A0 l0.length c0, .agg #[.slice A1_0 l1_0.length c1_0]] w fun e w' => e = .returned (.bool r) ∧ Below w.heap.size w w' := by
 have hu25 := Try.underlying25
 have hu32 := Try.underlying32
 have HR0 := Aside0.mk hr0
 have HC0 := Aside0.mk hc0
 clear hr0 hc0
 have HR1_0 := Aside0.mk hr1_0
 have HC1_0 := Aside0.mk hc1_0
 clear hr1_0 hc1_0
 have HB := Aside0.mk (Below.refl w.heap.size w)
 have H : (if (l0.length : Int) > 1048576 then (some true) else ((laws_szRules.f l1_0 1048576).bind fun t237 => (if t237 < 0 then (some true) else ((laws_toIntS.f k l0).bind fun t238 => ((laws_toRules.f k l1_0).bind fun t241 => ((spec_Migrate.f k t238 t241).bind fun bt244 => ((laws_toIntS.f k l0).bind fun t248 => ((laws_toRules.f k l1_0).bind fun t251 => ((impl_Migrate.f k t248 t251).bind fun bt255 => ((laws_eqIntS.f k bt255.1 bt244.1).bind fun t259 => (if t259 = true then (laws_FnExactMigrate.j0 k l0 bt244.1 bt244.2 t248 bt255.1 bt255.2 (bt255.2 != bt244.2) l1_0 t251) else (laws_FnExactMigrate.j0 k l0 bt244.1 bt244.2 t248 bt255.1 bt255.2 true l1_0 t251)))))))))))) = some r := h
 clear h
 by_cases c3 : (l0.length : Int) > 1048576
 ·rw [if_pos c3] at H
  have c3b0 : decide (1048576 < (l0.length : Int)) = true := decide_eq_true c3
  have c3b1 : decide (1048576 < l0.length) = true := decide_eq_true (by omega)
  clear c3
  obtain rfl := Option.some.inj H
  go_enter Try.func3, Try.ntmps3
  go_wp2_with (first | ((with_reducible refine gate_dst (N := 3) rfl ?_); refine box_event ?hg (N := 3) ?hd (cs := #[.slice A1_0 l1_0.length c1_0]) (t := 25) ?hr ?_; (case hd => rfl); (case hg => rfl); (case hr => first | (go_simp; done) | (go_simp; rfl)); intro gb236 hg w4 hbox hb; have n0_ := Aside0.mk (below_step (by repeat (first | (with_reducible first | exact HB.out | apply below_alloc | apply pw_below_drewN | apply below_drew1) | exact HB.out)) hb); have n1_ := Aside0.mk (hbox); have n2_ := Aside0.mk ((by rw [hg]; exact (below_size (by repeat (first | (with_reducible first | exact HB.out | apply below_alloc | apply pw_below_drewN | apply below_drew1) | exact HB.out))) : w.heap.size ≤ gb236)); have n3_ := Aside0.mk ((by rw [hg]; exact (below_size (by repeat (first | (with_reducible first | exact HB.out | apply below_alloc | apply pw_below_drewN | apply below_drew1) | exact HB.out))) : w.heap.size ≤ gb236)); clear HB; have HB := n0_; have BK236 := n1_; have GW236 := n2_; have GE236 := n3_; clear n0_ n1_ n2_ n3_; clear hb hbox hg))
  go_ret
  exact ⟨by first | rfl | (simp [errW_none, errW_some] <;> rfl) | (simp [*, errW_none, errW_some] <;> rfl), by repeat (first | (with_reducible first | exact HB.out | apply below_alloc | apply pw_below_drewN | apply below_drew1 | refine below_set ?_ GE236.out) | exact HB.out)⟩
 ·rw [if_neg c3] at H
  have c3b0 : decide (1048576 < (l0.length : Int)) = false := decide_eq_false c3
  have c3b1 : decide (1048576 < l0.length) = false := decide_eq_false (by omega)
  clear c3
  replace H := Option.bind_eq_some_iff.mp H
  obtain ⟨t237, A50, H⟩ := H
  replace H : (if t237 < 0 then (some true) else ((laws_toIntS.f k l0).bind fun t238 => ((laws_toRules.f k l1_0).bind fun t241 => ((spec_Migrate.f k t238 t241).bind fun bt244 => ((laws_toIntS.f k l0).bind fun t248 => ((laws_toRules.f k l1_0).bind fun t251 => ((impl_Migrate.f k t248 t251).bind fun bt255 => ((laws_eqIntS.f k bt255.1 bt244.1).bind fun t259 => (if t259 = true then (laws_FnExactMigrate.j0 k l0 bt244.1 bt244.2 t248 bt255.1 bt255.2 (bt255.2 != bt244.2) l1_0 t251) else (laws_FnExactMigrate.j0 k l0 bt244.1 bt244.2 t248 bt255.1 bt255.2 true l1_0 t251)))))))))) = some r := H
  have A5 := Aside0.mk A50
  clear A50
  by_cases c6 : t237 < 0
  ·rw [if_pos c6] at H
   have c6b0 : decide (t237 < 0) = true := decide_eq_true c6
   clear c6
   obtain rfl := Option.some.inj H
   go_enter Try.func3, Try.ntmps3
   go_wp2_with (first | ((with_reducible refine gate_dst (N := 3) rfl ?_); refine box_event ?hg (N := 3) ?hd (cs := #[.slice A1_0 l1_0.length c1_0]) (t := 25) ?hr ?_; (case hd => rfl); (case hg => rfl); (case hr => first | (go_simp; done) | (go_simp; rfl)); intro gb236 hg w7 hbox hb; have n0_ := Aside0.mk (below_step (by repeat (first | (with_reducible first | exact HB.out | apply below_alloc | apply pw_below_drewN | apply below_drew1) | exact HB.out)) hb); have n1_ := Aside0.mk (hbox); have n2_ := Aside0.mk ((by rw [hg]; exact (below_size (by repeat (first | (with_reducible first | exact HB.out | apply below_alloc | apply pw_below_drewN | apply below_drew1) | exact HB.out))) : w.heap.size ≤ gb236)); have n3_ := Aside0.mk ((by rw [hg]; exact (below_size (by repeat (first | (with_reducible first | exact HB.out | apply below_alloc | apply pw_below_drewN | apply below_drew1) | exact HB.out))) : w.heap.size ≤ gb236)); clear HB; have HB := n0_; have BK236 := n1_; have GW236 := n2_; have GE236 := n3_; clear n0_ n1_ n2_ n3_; clear hb hbox hg; have hcz8_0 : w7.cell? ⟨gb236, 0, none⟩ = some (.slice A1_0 l1_0.length c1_0) := (blk_cell BK236.out 0).trans rfl; have hfz8_0 := blk_frozen BK236.out 0) | ((with_reducible refine gate_callee (f := 11) rfl ?_); refine goesL_ (some 22) rfl rfl Try.func11 (by kernel_rfl) rfl #[.agg #[.slice A1_0 l1_0.length c1_0], .int .i64 1048576] rfl (by (try simp only [List.map_toArray, List.map_cons, List.map_nil]); first | done | rfl | (simp only [List.length_drop, List.length_take]; rfl)) ?_; (with_reducible refine (laws_szRules.calls _ _ l1_0 1048576 t237 _ ?side1 ?side2 A5.out).mono ?_); (case side1 => repeat (first | exact (Kd.C_below HR1_0.out HB.out) | (with_reducible refine Kd.C_alloc ?_ _) | (with_reducible refine Kd.C_drewN ?_ _) | (with_reducible refine Kd.C_drew ?_))); (case side2 => exact HC1_0.out); rintro e w9 ⟨rfl, hb⟩; refine ⟨_, rfl, ?_⟩; have n0_ := Aside0.mk (blk_below (g := gb236) (o := .cells #[.slice A1_0 l1_0.length c1_0] 25 (0, 0)) (pkb BK236.out) hb); have n1_ := Aside0.mk (below_step (by repeat (first | (with_reducible first | exact HB.out | apply below_alloc | apply pw_below_drewN | apply below_drew1 | refine below_set ?_ GE236.out) | exact HB.out)) hb); clear BK236; clear HB; have BK236 := n0_; have HB := n1_; clear n0_ n1_; (try clear hb); (try clear hb2); (try clear hk); (try clear hi)))
   go_ret
   exact ⟨by first | rfl | (simp [errW_none, errW_some] <;> rfl) | (simp [*, errW_none, errW_some] <;> rfl), by repeat (first | (with_reducible first | exact HB.out | apply below_alloc | apply pw_below_drewN | apply below_drew1 | refine below_set ?_ GE236.out) | exact HB.out)⟩
  ·rw [if_neg c6] at H
   have c6b0 : decide (t237 < 0) = false := decide_eq_false c6
   clear c6
   replace H := Option.bind_eq_some_iff.mp H
   obtain ⟨t238, A100, H⟩ := H
   replace H : ((laws_toRules.f k l1_0).bind fun t241 => ((spec_Migrate.f k t238 t241).bind fun bt244 => ((laws_toIntS.f k l0).bind fun t248 => ((laws_toRules.f k l1_0).bind fun t251 => ((impl_Migrate.f k t248 t251).bind fun bt255 => ((laws_eqIntS.f k bt255.1 bt244.1).bind fun t259 => (if t259 = true then (laws_FnExactMigrate.j0 k l0 bt244.1 bt244.2 t248 bt255.1 bt255.2 (bt255.2 != bt244.2) l1_0 t251) else (laws_FnExactMigrate.j0 k l0 bt244.1 bt244.2 t248 bt255.1 bt255.2 true l1_0 t251)))))))) = some r := H
   have A10 := Aside0.mk A100
   clear A100
   replace H := Option.bind_eq_some_iff.mp H
   obtain ⟨t241, A110, H⟩ := H
   replace H : ((spec_Migrate.f k t238 t241).bind fun bt244 => ((laws_toIntS.f k l0).bind fun t248 => ((laws_toRules.f k l1_0).bind fun t251 => ((impl_Migrate.f k t248 t251).bind fun bt255 => ((laws_eqIntS.f k bt255.1 bt244.1).bind fun t259 => (if t259 = true then (laws_FnExactMigrate.j0 k l0 bt244.1 bt244.2 t248 bt255.1 bt255.2 (bt255.2 != bt244.2) l1_0 t251) else (laws_FnExactMigrate.j0 k l0 bt244.1 bt244.2 t248 bt255.1 bt255.2 true l1_0 t251))))))) = some r := H
   have A11 := Aside0.mk A110
   clear A110
   replace H := Option.bind_eq_some_iff.mp H
   obtain ⟨⟨t244, t247⟩, A120, H⟩ := H
   replace H : ((laws_toIntS.f k l0).bind fun t248 => ((laws_toRules.f k l1_0).bind fun t251 => ((impl_Migrate.f k t248 t251).bind fun bt255 => ((laws_eqIntS.f k bt255.1 t244).bind fun t259 => (if t259 = true then (laws_FnExactMigrate.j0 k l0 t244 t247 t248 bt255.1 bt255.2 (bt255.2 != t247) l1_0 t251) else (laws_FnExactMigrate.j0 k l0 t244 t247 t248 bt255.1 bt255.2 true l1_0 t251)))))) = some r := H
   have A12 := Aside0.mk A120
   clear A120
   replace H := Option.bind_eq_some_iff.mp H
   obtain ⟨t248, A130, H⟩ := H
   replace H : ((laws_toRules.f k l1_0).bind fun t251 => ((impl_Migrate.f k t248 t251).bind fun bt255 => ((laws_eqIntS.f k bt255.1 t244).bind fun t259 => (if t259 = true then (laws_FnExactMigrate.j0 k l0 t244 t247 t248 bt255.1 bt255.2 (bt255.2 != t247) l1_0 t251) else (laws_FnExactMigrate.j0 k l0 t244 t247 t248 bt255.1 bt255.2 true l1_0 t251))))) = some r := H
   have A13 := Aside0.mk A130
   clear A130
   replace H := Option.bind_eq_some_iff.mp H
   obtain ⟨t251, A140, H⟩ := H
   replace H : ((impl_Migrate.f k t248 t251).bind fun bt255 => ((laws_eqIntS.f k bt255.1 t244).bind fun t259 => (if t259 = true then (laws_FnExactMigrate.j0 k l0 t244 t247 t248 bt255.1 bt255.2 (bt255.2 != t247) l1_0 t251) else (laws_FnExactMigrate.j0 k l0 t244 t247 t248 bt255.1 bt255.2 true l1_0 t251)))) = some r := H
   have A14 := Aside0.mk A140
   clear A140
   replace H := Option.bind_eq_some_iff.mp H
   obtain ⟨⟨t255, t258⟩, A150, H⟩ := H
   replace H : ((laws_eqIntS.f k t255 t244).bind fun t259 => (if t259 = true then (laws_FnExactMigrate.j0 k l0 t244 t247 t248 t255 t258 (t258 != t247) l1_0 t251) else (laws_FnExactMigrate.j0 k l0 t244 t247 t248 t255 t258 true l1_0 t251))) = some r := H
   have A15 := Aside0.mk A150
   clear A150
   have HC16 := Aside0.mk H
   clear H
   go_enter Try.func3, Try.ntmps3
   try go_wp2_with (first | ((with_reducible refine gate_dst (N := 3) rfl ?_); refine box_event ?hg (N := 3) ?hd (cs := #[.slice A1_0 l1_0.length c1_0]) (t := 25) ?hr ?_; (case hd => rfl); (case hg => rfl); (case hr => first | (go_simp; done) | (go_simp; rfl)); intro gb236 hg w17 hbox hb; have n0_ := Aside0.mk (below_step (by repeat (first | (with_reducible first | exact HB.out | apply below_alloc | apply pw_below_drewN | apply below_drew1) | exact HB.out)) hb); have n1_ := Aside0.mk (hbox); have n2_ := Aside0.mk ((by rw [hg]; exact (below_size (by repeat (first | (with_reducible first | exact HB.out | apply below_alloc | apply pw_below_drewN | apply below_drew1) | exact HB.out))) : w.heap.size ≤ gb236)); have n3_ := Aside0.mk ((by rw [hg]; exact (below_size (by repeat (first | (with_reducible first | exact HB.out | apply below_alloc | apply pw_below_drewN | apply below_drew1) | exact HB.out))) : w.heap.size ≤ gb236)); clear HB; have HB := n0_; have BK236 := n1_; have GW236 := n2_; have GE236 := n3_; clear n0_ n1_ n2_ n3_; clear hb hbox hg; have hcz18_0 : w17.cell? ⟨gb236, 0, none⟩ = some (.slice A1_0 l1_0.length c1_0) := (blk_cell BK236.out 0).trans rfl; have hfz18_0 := blk_frozen BK236.out 0) | ((with_reducible refine gate_callee (f := 11) rfl ?_); refine goesL_ (some 22) rfl rfl Try.func11 (by kernel_rfl) rfl #[.agg #[.slice A1_0 l1_0.length c1_0], .int .i64 1048576] rfl (by (try simp only [List.map_toArray, List.map_cons, List.map_nil]); first | done | rfl | (simp only [List.length_drop, List.length_take]; rfl)) ?_; (with_reducible refine (laws_szRules.calls _ _ l1_0 1048576 t237 _ ?side1 ?side2 A5.out).mono ?_); (case side1 => repeat (first | exact (Kd.C_below HR1_0.out HB.out) | (with_reducible refine Kd.C_alloc ?_ _) | (with_reducible refine Kd.C_drewN ?_ _) | (with_reducible refine Kd.C_drew ?_))); (case side2 => exact HC1_0.out); rintro e w19 ⟨rfl, hb⟩; refine ⟨_, rfl, ?_⟩; have n0_ := Aside0.mk (blk_below (g := gb236) (o := .cells #[.slice A1_0 l1_0.length c1_0] 25 (0, 0)) (pkb BK236.out) hb); have n1_ := Aside0.mk (below_step (by repeat (first | (with_reducible first | exact HB.out | apply below_alloc | apply pw_below_drewN | apply below_drew1 | refine below_set ?_ GE236.out) | exact HB.out)) hb); clear BK236; clear HB; have BK236 := n0_; have HB := n1_; clear n0_ n1_; (try clear hb); (try clear hb2); (try clear hk); (try clear hi)))
   have n0_ := Aside0.mk (blk_drew BK236.out)
   have n1_ := Aside0.mk (below_drew1 HB.out)
   clear BK236
   clear HB
   have BK236 := n0_
   have HB := n1_
   clear n0_ n1_
   refine start_ (n := 10) (S := fun w' => w'.cell? ⟨gb236, 0, none⟩ = some (.slice A1_0 l1_0.length c1_0)) (ds := []) #[false, false, false, false, false, false, false, false, false, false] (by kernel_rfl) rfl rfl ((blk_cell BK236.out 0).trans rfl) (fun hHeld => ?_); refine with_tabW laws_FnExactMigrate.tab7 laws_FnExactMigrate.bits7 (fun HT_ HW_ => ?_)
   generalize w19.drew = w20 at BK236 HB hHeld ⊢
   refine pure_ (i := 0) (N := some 26) (v := ?_) (a' := ?_) #[true, false, false, false, false, false, false, false, false, false] rfl rfl (any_of HT_.out (by kernel_rfl)) (fun _ _ _ h => h) (Or.inl ⟨by rfl, ?_⟩) ?_ ?_
   rotate_left
   ·intro w'
    go_simp
    with_reducible rfl
   rotate_left
   ·simp only [Act.put, List.setIfInBounds_toArray, List.set_cons_zero, List.set_cons_succ, i64_w, i32_w]
    rfl
   refine take_ (i := 2) (N := some 28) (v := ?_) (a' := ?_) #[true, false, true, false, false, false, false, false, false, false] rfl rfl (take_ofW HT_.out HW_.out (by kernel_rfl)) (fun _ _ _ h => h) (Or.inl ⟨by rfl, ?_⟩) hHeld ?_ ?_
   rotate_left
   ·intro w' s0
    go_simp
    with_reducible rfl
   rotate_left
   ·simp only [Act.put, List.setIfInBounds_toArray, List.set_cons_zero, List.set_cons_succ, i64_w, i32_w]
    rfl
   refine one_ (i := 1) (N := some 27) #[true, true, true, false, false, false, false, false, false, false] rfl rfl (one_of HT_.out (by kernel_rfl)) (by decide) (fun K hK => ?_)
   refine goes_ Try.func13 (by kernel_rfl) rfl #[.slice A0 l0.length c0] (by rfl) rfl rfl (by (try simp only [List.map_toArray, List.map_cons, List.map_nil]); first | done | rfl | (simp only [List.length_drop, List.length_take]; rfl)) ?_
   with_reducible refine (laws_toIntS.calls k _ _ l0 t238 _ ?side1 ?side2 A10.out).mono ?_
   (case side1 => repeat (first | exact (Kd.C_below HR0.out HB.out) | (with_reducible refine Kd.C_alloc ?_ _) | (with_reducible refine Kd.C_drewN ?_ _) | (with_reducible refine Kd.C_drew ?_)))
   (case side2 => exact HC0.out)
   rintro e w21 ⟨v239, rfl, ho0, hb⟩
   refine ⟨_, rfl, ?_⟩
   have n0_ := Aside0.mk (Kd.R_lower ho0 (below_size (by repeat (first | (with_reducible first | exact HB.out | apply below_alloc | apply pw_below_drewN | apply below_drew1 | refine below_set ?_ GE236.out) | exact HB.out))))
   have n1_ := Aside0.mk (blk_below (g := gb236) (o := .cells #[.slice A1_0 l1_0.length c1_0] 25 (0, 0)) (pkb BK236.out) hb)
   have n2_ := Aside0.mk (below_step (by repeat (first | (with_reducible first | exact HB.out | apply below_alloc | apply pw_below_drewN | apply below_drew1 | refine below_set ?_ GE236.out) | exact HB.out)) hb)
   clear BK236
   clear HB
   have HO240 := n0_
   have BK236 := n1_
   have HB := n2_
   clear n0_ n1_ n2_
   (try clear hb)
   (try clear hb2)
   (try clear hk)
   (try clear hi)
   (try clear ho0)
   refine hK.out _ _ ((blk_cell BK236.out 0).trans rfl) (fun hHeld => ?_)
   clear hK K
   refine norm_ (a' := ?_) ?_ ?_
   rotate_left
   ·show Act.put _ (some 27) _ = _
    simp only [Act.put, List.setIfInBounds_toArray, List.set_cons_zero, List.set_cons_succ, i64_w, i32_w]
    rfl
   refine one_ (i := 3) (N := some 29) #[true, true, true, true, false, false, false, false, false, false] rfl rfl (one_of HT_.out (by kernel_rfl)) (by decide) (fun K hK => ?_)
   refine goes_ Try.func14 (by kernel_rfl) rfl #[.agg #[.slice A1_0 l1_0.length c1_0]] (by rfl) rfl rfl (by (try simp only [List.map_toArray, List.map_cons, List.map_nil]); first | done | rfl | (simp only [List.length_drop, List.length_take]; rfl)) ?_
   with_reducible refine (laws_toRules.calls k _ _ l1_0 t241 _ ?side1 ?side2 A11.out).mono ?_
   (case side1 => repeat (first | exact (Kd.C_below HR1_0.out HB.out) | (with_reducible refine Kd.C_alloc ?_ _) | (with_reducible refine Kd.C_drewN ?_ _) | (with_reducible refine Kd.C_drew ?_)))
   (case side2 => exact HC1_0.out)
   rintro e w22 ⟨v242, rfl, ho0, hb⟩
   refine ⟨_, rfl, ?_⟩
   have n0_ := Aside0.mk (Kd.R_below (pkr HO240.out) hb)
   have n1_ := Aside0.mk (Kd.R_lower ho0 (below_size (by repeat (first | (with_reducible first | exact HB.out | apply below_alloc | apply pw_below_drewN | apply below_drew1 | refine below_set ?_ GE236.out) | exact HB.out))))
   have n2_ := Aside0.mk (blk_below (g := gb236) (o := .cells #[.slice A1_0 l1_0.length c1_0] 25 (0, 0)) (pkb BK236.out) hb)
   have n3_ := Aside0.mk (below_step (by repeat (first | (with_reducible first | exact HB.out | apply below_alloc | apply pw_below_drewN | apply below_drew1 | refine below_set ?_ GE236.out) | exact HB.out)) hb)
   clear HO240
   clear BK236
   clear HB
   have HO240 := n0_
   have HO243 := n1_
   have BK236 := n2_
   have HB := n3_
   clear n0_ n1_ n2_ n3_
   (try clear hb)
   (try clear hb2)
   (try clear hk)
   (try clear hi)
   (try clear ho0)
   obtain ⟨Ao23, co23, eo23⟩ := Kd.R_slice HO240.out
   (first | subst eo23 | (injection eo23 with f1_ f2_ f3_; have f4_ := f1_.symm; have f5_ := f3_.symm; clear f1_ f2_ f3_; subst f4_; subst f5_))
   obtain ⟨Ao24, co24, eo24⟩ := Kd.R_slice HO243.out
   (first | subst eo24 | (injection eo24 with f1_ f2_ f3_; have f4_ := f1_.symm; have f5_ := f3_.symm; clear f1_ f2_ f3_; subst f4_; subst f5_))
   refine hK.out _ _ ((blk_cell BK236.out 0).trans rfl) (fun hHeld => ?_)
   clear hK K
   refine norm_ (a' := ?_) ?_ ?_
   rotate_left
   ·show Act.put _ (some 29) _ = _
    simp only [Act.put, List.setIfInBounds_toArray, List.set_cons_zero, List.set_cons_succ, i64_w, i32_w]
    rfl
   refine one_ (i := 4) (N := some 30) #[true, true, true, true, true, false, false, false, false, false] rfl rfl (one_of HT_.out (by kernel_rfl)) (by decide) (fun K hK => ?_)
   refine goes_ Try.func12 (by kernel_rfl) rfl #[.slice Ao23 t238.length co23, .agg #[.slice Ao24 t241.length co24]] (by rfl) rfl rfl (by (try simp only [List.map_toArray, List.map_cons, List.map_nil]); first | done | rfl | (simp only [List.length_drop, List.length_take]; rfl)) ?_
   with_reducible refine (spec_Migrate.calls k _ _ t238 _ _ t241 t244 t247 _ ?side1 ?side2 ?side3 ?side4 A12.out).mono ?_
   (case side1 => repeat (first | exact (Kd.R_reads' HO240.out).2.2 | (with_reducible refine Kd.C_alloc ?_ _) | (with_reducible refine Kd.C_drewN ?_ _) | (with_reducible refine Kd.C_drew ?_)))
   (case side2 => exact (Kd.R_reads' HO240.out).2.1)
   (case side3 => repeat (first | exact (Kd.R_reads' HO243.out).2.2 | (with_reducible refine Kd.C_alloc ?_ _) | (with_reducible refine Kd.C_drewN ?_ _) | (with_reducible refine Kd.C_drew ?_)))
   (case side4 => exact (Kd.R_reads' HO243.out).2.1)
   rintro e w25 ⟨v245, rfl, ho0, hb⟩
   refine ⟨_, rfl, ?_⟩
   have n0_ := Aside0.mk (Kd.R_elder' (pkr HO240.out) (Kd.R_base ho0) hb)
   have n1_ := Aside0.mk (Kd.R_below (pkr HO243.out) hb)
   have n2_ := Aside0.mk (Kd.R_lower (Kd.R_new' ho0 (Kd.R_lt (pkr HO240.out))) (below_size (by repeat (first | (with_reducible first | exact HB.out | apply below_alloc | apply pw_below_drewN | apply below_drew1 | refine below_set ?_ GE236.out) | exact HB.out))))
   have n3_ := Aside0.mk (blk_below (g := gb236) (o := .cells #[.slice A1_0 l1_0.length c1_0] 25 (0, 0)) (pkb BK236.out) hb)
   have n4_ := Aside0.mk (below_step (by repeat (first | (with_reducible first | exact HB.out | apply below_alloc | apply pw_below_drewN | apply below_drew1 | refine below_set ?_ GE236.out) | exact HB.out)) hb)
   clear HO240
   clear HO243
   clear BK236
   clear HB
   have HO240 := n0_
   have HO243 := n1_
   have HO246 := n2_
   have BK236 := n3_
   have HB := n4_
   clear n0_ n1_ n2_ n3_ n4_
   (try clear hb)
   (try clear hb2)
   (try clear hk)
   (try clear hi)
   (try clear ho0)
   refine hK.out _ _ ((blk_cell BK236.out 0).trans rfl) (fun hHeld => ?_)
   clear hK K
   refine norm_ (a' := ?_) ?_ ?_
   rotate_left
   ·show Act.put _ (some 30) _ = _
    simp only [Act.put, List.setIfInBounds_toArray, List.set_cons_zero, List.set_cons_succ, i64_w, i32_w]
    rfl
   refine pure_ (i := 5) (N := some 25) (v := ?_) (a' := ?_) #[true, true, true, true, true, true, false, false, false, false] rfl rfl (any_of HT_.out (by kernel_rfl)) (fun _ _ _ h => h) (Or.inl ⟨by rfl, ?_⟩) ?_ ?_
   rotate_left
   ·intro w'
    go_simp
    with_reducible rfl
   rotate_left
   ·simp only [Act.put, List.setIfInBounds_toArray, List.set_cons_zero, List.set_cons_succ, i64_w, i32_w]
    rfl
   refine pure_ (i := 6) (N := some 31) (v := ?_) (a' := ?_) #[true, true, true, true, true, true, true, false, false, false] rfl rfl (any_of HT_.out (by kernel_rfl)) (fun _ _ _ h => h) (Or.inl ⟨by rfl, ?_⟩) ?_ ?_
   rotate_left
   ·intro w'
    go_simp
    with_reducible rfl
   rotate_left
   ·simp only [Act.put, List.setIfInBounds_toArray, List.set_cons_zero, List.set_cons_succ, i64_w, i32_w]
    rfl
   refine pure_ (i := 7) (N := some 32) (v := ?_) (a' := ?_) #[true, true, true, true, true, true, true, true, false, false] rfl rfl (any_of HT_.out (by kernel_rfl)) (fun _ _ _ h => h) (Or.inl ⟨by rfl, ?_⟩) ?_ ?_
   rotate_left
   ·intro w'
    go_simp
    with_reducible rfl
   rotate_left
   ·simp only [Act.put, List.setIfInBounds_toArray, List.set_cons_zero, List.set_cons_succ, i64_w, i32_w]
    rfl
   refine pure_ (i := 8) (N := some 6) (v := ?_) (a' := ?_) #[true, true, true, true, true, true, true, true, true, false] rfl rfl (any_of HT_.out (by kernel_rfl)) (fun _ _ _ h => h) (Or.inl ⟨by rfl, ?_⟩) ?_ ?_
   rotate_left
   ·intro w'
    go_simp
    with_reducible rfl
   rotate_left
   ·simp only [Act.put, List.setIfInBounds_toArray, List.set_cons_zero, List.set_cons_succ, i64_w, i32_w]
    rfl
   refine pure_ (i := 9) (N := some 7) (v := ?_) (a' := ?_) #[true, true, true, true, true, true, true, true, true, true] rfl rfl (any_of HT_.out (by kernel_rfl)) (fun _ _ _ h => h) (Or.inl ⟨by rfl, ?_⟩) ?_ ?_
   rotate_left
   ·intro w'
    go_simp
    with_reducible rfl
   rotate_left
   ·simp only [Act.put, List.setIfInBounds_toArray, List.set_cons_zero, List.set_cons_succ, i64_w, i32_w]
    rfl
   refine done_ (done_of HT_.out (by kernel_rfl)) ?_
   go_upto_region 11 with (first | ((with_reducible refine gate_callee (f := 13) rfl ?_); refine goesL_ (some 34) rfl rfl Try.func13 (by kernel_rfl) rfl #[.slice A0 l0.length c0] rfl (by (try simp only [List.map_toArray, List.map_cons, List.map_nil]); first | done | rfl | (simp only [List.length_drop, List.length_take]; rfl)) ?_; (with_reducible refine (laws_toIntS.calls k _ _ l0 t248 _ ?side1 ?side2 A13.out).mono ?_); (case side1 => repeat (first | exact (Kd.C_below HR0.out HB.out) | (with_reducible refine Kd.C_alloc ?_ _) | (with_reducible refine Kd.C_drewN ?_ _) | (with_reducible refine Kd.C_drew ?_))); (case side2 => exact HC0.out); rintro e w26 ⟨v249, rfl, ho0, hb⟩; refine ⟨_, rfl, ?_⟩; have n0_ := Aside0.mk (Kd.R_elder' (pkr HO240.out) (Kd.R_base ho0) hb); have n1_ := Aside0.mk (Kd.R_below (pkr HO243.out) hb); have n2_ := Aside0.mk (Kd.R_elder' (pkr HO246.out) (Kd.R_base ho0) hb); have n3_ := Aside0.mk (Kd.R_lower (Kd.R_new' (Kd.R_new' ho0 (Kd.R_lt (pkr HO240.out))) (Kd.R_lt (pkr HO246.out))) (below_size (by repeat (first | (with_reducible first | exact HB.out | apply below_alloc | apply pw_below_drewN | apply below_drew1 | refine below_set ?_ GE236.out) | exact HB.out)))); have n4_ := Aside0.mk (blk_below (g := gb236) (o := .cells #[.slice A1_0 l1_0.length c1_0] 25 (0, 0)) (pkb BK236.out) hb); have n5_ := Aside0.mk (below_step (by repeat (first | (with_reducible first | exact HB.out | apply below_alloc | apply pw_below_drewN | apply below_drew1 | refine below_set ?_ GE236.out) | exact HB.out)) hb); clear HO240; clear HO243; clear HO246; clear BK236; clear HB; have HO240 := n0_; have HO243 := n1_; have HO246 := n2_; have HO250 := n3_; have BK236 := n4_; have HB := n5_; clear n0_ n1_ n2_ n3_ n4_ n5_; (try clear hb); (try clear hb2); (try clear hk); (try clear hi); (try clear ho0); have hcz27_0 : w26.cell? ⟨gb236, 0, none⟩ = some (.slice A1_0 l1_0.length c1_0) := (blk_cell BK236.out 0).trans rfl; have hfz27_0 := blk_frozen BK236.out 0) | ((with_reducible refine gate_callee (f := 14) rfl ?_); refine goesL_ (some 36) rfl rfl Try.func14 (by kernel_rfl) rfl #[.agg #[.slice A1_0 l1_0.length c1_0]] rfl (by (try simp only [List.map_toArray, List.map_cons, List.map_nil]); first | done | rfl | (simp only [List.length_drop, List.length_take]; rfl)) ?_; (with_reducible refine (laws_toRules.calls k _ _ l1_0 t251 _ ?side1 ?side2 A14.out).mono ?_); (case side1 => repeat (first | exact (Kd.C_below HR1_0.out HB.out) | (with_reducible refine Kd.C_alloc ?_ _) | (with_reducible refine Kd.C_drewN ?_ _) | (with_reducible refine Kd.C_drew ?_))); (case side2 => exact HC1_0.out); rintro e w28 ⟨v252, rfl, ho0, hb⟩; refine ⟨_, rfl, ?_⟩; have n0_ := Aside0.mk (Kd.R_below (pkr HO240.out) hb); have n1_ := Aside0.mk (Kd.R_elder' (pkr HO243.out) (Kd.R_base ho0) hb); have n2_ := Aside0.mk (Kd.R_below (pkr HO246.out) hb); have n3_ := Aside0.mk (Kd.R_below (pkr HO250.out) hb); have n4_ := Aside0.mk (Kd.R_lower (Kd.R_new' ho0 (Kd.R_lt (pkr HO243.out))) (below_size (by repeat (first | (with_reducible first | exact HB.out | apply below_alloc | apply pw_below_drewN | apply below_drew1 | refine below_set ?_ GE236.out) | exact HB.out)))); have n5_ := Aside0.mk (blk_below (g := gb236) (o := .cells #[.slice A1_0 l1_0.length c1_0] 25 (0, 0)) (pkb BK236.out) hb); have n6_ := Aside0.mk (below_step (by repeat (first | (with_reducible first | exact HB.out | apply below_alloc | apply pw_below_drewN | apply below_drew1 | refine below_set ?_ GE236.out) | exact HB.out)) hb); clear HO240; clear HO243; clear HO246; clear HO250; clear BK236; clear HB; have HO240 := n0_; have HO243 := n1_; have HO246 := n2_; have HO250 := n3_; have HO253 := n4_; have BK236 := n5_; have HB := n6_; clear n0_ n1_ n2_ n3_ n4_ n5_ n6_; (try clear hb); (try clear hb2); (try clear hk); (try clear hi); (try clear ho0)) | ((with_reducible refine gate_dst (N := 9) rfl ?_); refine box_event ?hg (N := 9) ?hd (cs := #[.slice none 0 0]) (t := 32) ?hr ?_; (case hd => rfl); (case hg => rfl); (case hr => first | (go_simp; done) | (go_simp; rfl)); intro gb254 hg w29 hbox hb; have n0_ := Aside0.mk (Kd.R_below (pkr HO240.out) hb); have n1_ := Aside0.mk (Kd.R_below (pkr HO243.out) hb); have n2_ := Aside0.mk (Kd.R_below (pkr HO246.out) hb); have n3_ := Aside0.mk (Kd.R_below (pkr HO250.out) hb); have n4_ := Aside0.mk (Kd.R_below (pkr HO253.out) hb); have n5_ := Aside0.mk (blk_below (g := gb236) (o := .cells #[.slice A1_0 l1_0.length c1_0] 25 (0, 0)) (pkb BK236.out) hb); have n6_ := Aside0.mk (below_step (by repeat (first | (with_reducible first | exact HB.out | apply below_alloc | apply pw_below_drewN | apply below_drew1 | refine below_set ?_ GE236.out) | exact HB.out)) hb); have n7_ := Aside0.mk (hbox); have n8_ := Aside0.mk ((by rw [hg]; exact (below_size (by repeat (first | (with_reducible first | exact HB.out | apply below_alloc | apply pw_below_drewN | apply below_drew1 | refine below_set ?_ GE236.out) | exact HB.out))) : w.heap.size ≤ gb254)); have n9_ := Aside0.mk ((by rw [hg]; exact (below_size (by repeat (first | (with_reducible first | exact HB.out | apply below_alloc | apply pw_below_drewN | apply below_drew1 | refine below_set ?_ GE236.out) | exact HB.out))) : w.heap.size ≤ gb254)); have n10_ := Aside0.mk ((by rw [hg]; exact Nat.ne_of_lt (blk_lt (g := gb236) (o := .cells #[.slice A1_0 l1_0.length c1_0] 25 (0, 0)) (pkb BK236.out)) : gb236 ≠ gb254)); have n11_ := Aside0.mk ((by rw [hg]; exact Nat.ne_of_gt (blk_lt (g := gb236) (o := .cells #[.slice A1_0 l1_0.length c1_0] 25 (0, 0)) (pkb BK236.out)) : gb254 ≠ gb236)); clear HO240; clear HO243; clear HO246; clear HO250; clear HO253; clear BK236; clear HB; have HO240 := n0_; have HO243 := n1_; have HO246 := n2_; have HO250 := n3_; have HO253 := n4_; have BK236 := n5_; have HB := n6_; have BK254 := n7_; have GW254 := n8_; have GE254 := n9_; have NB236_254 := n10_; have NB254_236 := n11_; clear n0_ n1_ n2_ n3_ n4_ n5_ n6_ n7_ n8_ n9_ n10_ n11_; clear hb hbox hg; obtain ⟨Ao30, co30, eo30⟩ := Kd.R_slice HO253.out; subst eo30; have hnb31 := NB254_236.out; have hnc31 := NB236_254.out; have hcz32_0 : w29.cell? ⟨gb254, 0, none⟩ = some (.slice none 0 0) := (blk_cell BK254.out 0).trans rfl; have hfz32_0 := blk_frozen BK254.out 0; obtain ⟨Ao33, co33, eo33⟩ := Kd.R_slice HO250.out; subst eo33) | ((with_reducible refine gate_callee (f := 15) rfl ?_); refine goesL_ (some 40) rfl rfl Try.func15 (by kernel_rfl) rfl #[.slice Ao33 t248.length co33, .agg #[.slice Ao30 t251.length co30]] rfl (by (try simp only [List.map_toArray, List.map_cons, List.map_nil]); first | done | rfl | (simp only [List.length_drop, List.length_take]; rfl)) ?_; (with_reducible refine (impl_Migrate.calls k _ _ t248 _ _ t251 t255 t258 _ ?side1 ?side2 ?side3 ?side4 A15.out).mono ?_); (case side1 => refine (Kd.R_reads' (e := 3) (base := w.heap.size) (ok := fun k_ => ((True ∧ some k_ ≠ (.slice Ao23 t238.length co23 : Value).ownBlock) ∧ some k_ ≠ (v245 : Value).ownBlock)) (n := t248.length) (c := co33) ?_).2.2; exact (pkr ((Kd.R_mono (Kd.R_far (p := ⟨gb254, 0, none⟩) (Kd.R_types HO250.out BK254.out (by decide)) (fun _ hk => by first | exact hk.2 | simp_all) (.slice Ao30 t251.length co30)) (fun _ h_ => by first | exact h_.1 | simp_all))))); (case side2 => exact (Kd.R_reads' HO250.out).2.1); (case side3 => refine (Kd.R_reads' (e := 110) (base := w.heap.size) (ok := fun k_ => (True ∧ some k_ ≠ (.slice Ao24 t241.length co24 : Value).ownBlock)) (n := t251.length) (c := co30) ?_).2.2; exact (pkr ((Kd.R_mono (Kd.R_far (p := ⟨gb254, 0, none⟩) (Kd.R_types HO253.out BK254.out (by decide)) (fun _ hk => by first | exact hk.2 | simp_all) (.slice Ao30 t251.length co30)) (fun _ h_ => by first | exact h_.1 | simp_all))))); (case side4 => exact (Kd.R_reads' HO253.out).2.1); rintro e w34 ⟨v256, rfl, ho0, hb⟩; refine ⟨_, rfl, ?_⟩; have n0_ := Aside0.mk (Kd.R_elder' (pkr ((Kd.R_mono (Kd.R_far (p := ⟨gb254, 0, none⟩) (Kd.R_types HO240.out BK254.out (by decide)) (fun _ hk => by first | exact hk.2 | simp_all) (.slice Ao30 t251.length co30)) (fun _ h_ => by first | exact h_.1 | simp_all)))) (Kd.R_base ho0) hb); have n1_ := Aside0.mk (Kd.R_below (pkr ((Kd.R_mono (Kd.R_far (p := ⟨gb254, 0, none⟩) (Kd.R_types HO243.out BK254.out (by decide)) (fun _ hk => by first | exact hk.2 | simp_all) (.slice Ao30 t251.length co30)) (fun _ h_ => by first | exact h_.1 | simp_all)))) hb); have n2_ := Aside0.mk (Kd.R_elder' (pkr ((Kd.R_mono (Kd.R_far (p := ⟨gb254, 0, none⟩) (Kd.R_types HO246.out BK254.out (by decide)) (fun _ hk => by first | exact hk.2 | simp_all) (.slice Ao30 t251.length co30)) (fun _ h_ => by first | exact h_.1 | simp_all)))) (Kd.R_base ho0) hb); have n3_ := Aside0.mk (Kd.R_elder' (pkr ((Kd.R_mono (Kd.R_far (p := ⟨gb254, 0, none⟩) (Kd.R_types HO250.out BK254.out (by decide)) (fun _ hk => by first | exact hk.2 | simp_all) (.slice Ao30 t251.length co30)) (fun _ h_ => by first | exact h_.1 | simp_all)))) (Kd.R_base ho0) hb); have n4_ := Aside0.mk (Kd.R_below (pkr ((Kd.R_mono (Kd.R_far (p := ⟨gb254, 0, none⟩) (Kd.R_types HO253.out BK254.out (by decide)) (fun _ hk => by first | exact hk.2 | simp_all) (.slice Ao30 t251.length co30)) (fun _ h_ => by first | exact h_.1 | simp_all)))) hb); have n5_ := Aside0.mk (Kd.R_lower (Kd.R_new' (Kd.R_new' (Kd.R_new' ho0 (Kd.R_lt (pkr ((Kd.R_mono (Kd.R_far (p := ⟨gb254, 0, none⟩) (Kd.R_types HO240.out BK254.out (by decide)) (fun _ hk => by first | exact hk.2 | simp_all) (.slice Ao30 t251.length co30)) (fun _ h_ => by first | exact h_.1 | simp_all)))))) (Kd.R_lt (pkr ((Kd.R_mono (Kd.R_far (p := ⟨gb254, 0, none⟩) (Kd.R_types HO246.out BK254.out (by decide)) (fun _ hk => by first | exact hk.2 | simp_all) (.slice Ao30 t251.length co30)) (fun _ h_ => by first | exact h_.1 | simp_all)))))) (Kd.R_lt (pkr ((Kd.R_mono (Kd.R_far (p := ⟨gb254, 0, none⟩) (Kd.R_types HO250.out BK254.out (by decide)) (fun _ hk => by first | exact hk.2 | simp_all) (.slice Ao30 t251.length co30)) (fun _ h_ => by first | exact h_.1 | simp_all)))))) (below_size (by repeat (first | (with_reducible first | exact HB.out | apply below_alloc | apply pw_below_drewN | apply below_drew1 | refine below_set ?_ GE236.out | refine below_set ?_ GE254.out) | exact HB.out)))); have n6_ := Aside0.mk (blk_below (g := gb236) (o := .cells #[.slice A1_0 l1_0.length c1_0] 25 (0, 0)) (by (with_reducible repeat (first | refine blk_drewN ?_ _ | refine blk_drew ?_ | refine blk_alloc ?_ _)); refine blk_far ?_ NB236_254.out _; (with_reducible repeat (first | refine blk_drewN ?_ _ | refine blk_drew ?_ | refine blk_alloc ?_ _)); exact BK236.out) hb); have n7_ := Aside0.mk (blk_below (g := gb254) (o := .cells #[.slice Ao30 t251.length co30] 32 (0, 0)) (by (with_reducible repeat (first | refine blk_drewN ?_ _ | refine blk_drew ?_ | refine blk_alloc ?_ _)); refine blk_put (cs := #[.slice none 0 0]) ?_ 0 _ rfl; (with_reducible repeat (first | refine blk_drewN ?_ _ | refine blk_drew ?_ | refine blk_alloc ?_ _)); exact BK254.out) hb); have n8_ := Aside0.mk (below_step (by repeat (first | (with_reducible first | exact HB.out | apply below_alloc | apply pw_below_drewN | apply below_drew1 | refine below_set ?_ GE236.out | refine below_set ?_ GE254.out) | exact HB.out)) hb); clear HO240; clear HO243; clear HO246; clear HO250; clear HO253; clear BK236; clear BK254; clear HB; have HO240 := n0_; have HO243 := n1_; have HO246 := n2_; have HO250 := n3_; have HO253 := n4_; have HO257 := n5_; have BK236 := n6_; have BK254 := n7_; have HB := n8_; clear n0_ n1_ n2_ n3_ n4_ n5_ n6_ n7_ n8_; (try clear hb); (try clear hb2); (try clear hk); (try clear hi); (try clear ho0)))
   (try simp only [Act.put, List.setIfInBounds_toArray, List.set_cons_zero, List.set_cons_succ])
   go_cut [51] (fun v51 wc => ∃ (kq : Nat) (x51_15 : Bool), v51 = .bool x51_15 ∧ Aside0 (laws_FnExactMigrate.j0 kq l0 t244 t247 t248 t255 t258 x51_15 l1_0 t251 = some r) ∧ Aside0 (kq ≤ k) ∧ Aside0 (Kd.R (Kd.int .i64) 3 wc w.heap.size (fun k_ => some k_ ≠ ((.slice Ao33 t248.length co33) : Value).ownBlock ∧ some k_ ≠ (v256 : Value).ownBlock) v245 t244) ∧ Aside0 (Kd.R (Kd.int .i64) 3 wc w.heap.size (fun k_ => some k_ ≠ (v245 : Value).ownBlock ∧ some k_ ≠ (v256 : Value).ownBlock) (.slice Ao33 t248.length co33) t248) ∧ Aside0 (Kd.R (Kd.int .i64) 3 wc w.heap.size (fun k_ => some k_ ≠ (v245 : Value).ownBlock ∧ some k_ ≠ ((.slice Ao33 t248.length co33) : Value).ownBlock) v256 t255) ∧ Aside0 (Kd.R k110 110 wc w.heap.size (fun _ => True) (.slice Ao30 t251.length co30) t251) ∧ Aside0 (wc.heap[gb236]? = some (.cells #[(.slice A1_0 l1_0.length c1_0)] 25 (0, 0))) ∧ Aside0 (wc.heap[gb254]? = some (.cells #[(.slice Ao30 t251.length co30)] 32 (0, 0))) ∧ Aside0 (Below w.heap.size w wc))
   case first =>
    have H := HC16.out
    clear HC16
    replace H := Option.bind_eq_some_iff.mp H
    obtain ⟨t259, A350, H⟩ := H
    replace H : (if t259 = true then (laws_FnExactMigrate.j0 k l0 t244 t247 t248 t255 t258 (t258 != t247) l1_0 t251) else (laws_FnExactMigrate.j0 k l0 t244 t247 t248 t255 t258 true l1_0 t251)) = some r := H
    have A35 := Aside0.mk A350
    clear A350
    by_cases c36 : t259 = true
    ·subst c36
     have H1 : (laws_FnExactMigrate.j0 k l0 t244 t247 t248 t255 t258 (t258 != t247) l1_0 t251) = some r := by rw [if_pos rfl] at H; exact H
     clear H
     have H := H1
     clear H1
     have H' := Aside0.mk H
     clear H
     obtain ⟨Ao37, co37, eo37⟩ := Kd.R_slice HO257.out
     subst eo37
     obtain ⟨Ao38, co38, eo38⟩ := Kd.R_slice HO246.out
     subst eo38
     go_wp2_with (first | ((with_reducible refine gate_callee (f := 16) rfl ?_); refine goesL_ (some 45) rfl rfl Try.func16 (by kernel_rfl) rfl #[.slice Ao37 t255.length co37, .slice Ao38 t244.length co38] rfl (by (try simp only [List.map_toArray, List.map_cons, List.map_nil]); first | done | rfl | (simp only [List.length_drop, List.length_take]; rfl)) ?_; (with_reducible refine (laws_eqIntS.calls k _ _ t255 _ _ t244 true _ ?side1 ?side2 ?side3 ?side4 A35.out).mono ?_); (case side1 => repeat (first | exact (Kd.R_reads' HO257.out).2.2 | (with_reducible refine Kd.C_alloc ?_ _) | (with_reducible refine Kd.C_drewN ?_ _) | (with_reducible refine Kd.C_drew ?_))); (case side2 => exact (Kd.R_reads' HO257.out).2.1); (case side3 => repeat (first | exact (Kd.R_reads' HO246.out).2.2 | (with_reducible refine Kd.C_alloc ?_ _) | (with_reducible refine Kd.C_drewN ?_ _) | (with_reducible refine Kd.C_drew ?_))); (case side4 => exact (Kd.R_reads' HO246.out).2.1); rintro e w' ⟨rfl, ⟨nd, rfl⟩⟩; refine ⟨_, rfl, ?_⟩))
     go_meet
     case rel => exact ⟨_, ((t258 != t247)), (by first | rfl | (simp; done) | (simp [*]; done)), H', ⟨by first | omega | exact Nat.le_refl _⟩, ⟨by (with_reducible repeat (first | apply Kd.R_alloc | apply Kd.R_drewN | apply Kd.R_drew)); exact Kd.R_mono HO246.out (fun _ hk => by first | exact ⟨hk.1.2, hk.2⟩ | simp_all)⟩, ⟨by (with_reducible repeat (first | apply Kd.R_alloc | apply Kd.R_drewN | apply Kd.R_drew)); exact Kd.R_mono HO250.out (fun _ hk => by first | exact ⟨hk.1.2, hk.2⟩ | simp_all)⟩, ⟨by (with_reducible repeat (first | apply Kd.R_alloc | apply Kd.R_drewN | apply Kd.R_drew)); exact Kd.R_mono HO257.out (fun _ hk => by first | exact ⟨hk.1.2, hk.2⟩ | simp_all)⟩, ⟨by (with_reducible repeat (first | apply Kd.R_alloc | apply Kd.R_drewN | apply Kd.R_drew)); exact Kd.R_mono HO253.out (fun _ hk => trivial)⟩, ⟨by (with_reducible repeat (first | refine blk_drewN ?_ _ | refine blk_drew ?_ | refine blk_alloc ?_ _)); exact BK236.out⟩, ⟨by (with_reducible repeat (first | refine blk_drewN ?_ _ | refine blk_drew ?_ | refine blk_alloc ?_ _)); exact BK254.out⟩, ⟨by repeat (first | (with_reducible first | exact HB.out | apply below_alloc | apply pw_below_drewN | apply below_drew1 | refine below_set ?_ GE236.out | refine below_set ?_ GE254.out) | exact HB.out)⟩⟩
    ·replace c36 := Bool.eq_false_iff.mpr c36
     subst c36
     have H1 : (laws_FnExactMigrate.j0 k l0 t244 t247 t248 t255 t258 true l1_0 t251) = some r := by rw [if_neg (show ¬ (false = true) by decide)] at H; exact H
     clear H
     have H := H1
     clear H1
     have H' := Aside0.mk H
     clear H
     obtain ⟨Ao39, co39, eo39⟩ := Kd.R_slice HO257.out
     subst eo39
     obtain ⟨Ao40, co40, eo40⟩ := Kd.R_slice HO246.out
     subst eo40
     go_wp2_with (first | ((with_reducible refine gate_callee (f := 16) rfl ?_); refine goesL_ (some 45) rfl rfl Try.func16 (by kernel_rfl) rfl #[.slice Ao39 t255.length co39, .slice Ao40 t244.length co40] rfl (by (try simp only [List.map_toArray, List.map_cons, List.map_nil]); first | done | rfl | (simp only [List.length_drop, List.length_take]; rfl)) ?_; (with_reducible refine (laws_eqIntS.calls k _ _ t255 _ _ t244 false _ ?side1 ?side2 ?side3 ?side4 A35.out).mono ?_); (case side1 => repeat (first | exact (Kd.R_reads' HO257.out).2.2 | (with_reducible refine Kd.C_alloc ?_ _) | (with_reducible refine Kd.C_drewN ?_ _) | (with_reducible refine Kd.C_drew ?_))); (case side2 => exact (Kd.R_reads' HO257.out).2.1); (case side3 => repeat (first | exact (Kd.R_reads' HO246.out).2.2 | (with_reducible refine Kd.C_alloc ?_ _) | (with_reducible refine Kd.C_drewN ?_ _) | (with_reducible refine Kd.C_drew ?_))); (case side4 => exact (Kd.R_reads' HO246.out).2.1); rintro e w' ⟨rfl, ⟨nd, rfl⟩⟩; refine ⟨_, rfl, ?_⟩))
     go_meet
     case rel => exact ⟨_, (true), (by first | rfl | (simp; done) | (simp [*]; done)), H', ⟨by first | omega | exact Nat.le_refl _⟩, ⟨by (with_reducible repeat (first | apply Kd.R_alloc | apply Kd.R_drewN | apply Kd.R_drew)); exact Kd.R_mono HO246.out (fun _ hk => by first | exact ⟨hk.1.2, hk.2⟩ | simp_all)⟩, ⟨by (with_reducible repeat (first | apply Kd.R_alloc | apply Kd.R_drewN | apply Kd.R_drew)); exact Kd.R_mono HO250.out (fun _ hk => by first | exact ⟨hk.1.2, hk.2⟩ | simp_all)⟩, ⟨by (with_reducible repeat (first | apply Kd.R_alloc | apply Kd.R_drewN | apply Kd.R_drew)); exact Kd.R_mono HO257.out (fun _ hk => by first | exact ⟨hk.1.2, hk.2⟩ | simp_all)⟩, ⟨by (with_reducible repeat (first | apply Kd.R_alloc | apply Kd.R_drewN | apply Kd.R_drew)); exact Kd.R_mono HO253.out (fun _ hk => trivial)⟩, ⟨by (with_reducible repeat (first | refine blk_drewN ?_ _ | refine blk_drew ?_ | refine blk_alloc ?_ _)); exact BK236.out⟩, ⟨by (with_reducible repeat (first | refine blk_drewN ?_ _ | refine blk_drew ?_ | refine blk_alloc ?_ _)); exact BK254.out⟩, ⟨by repeat (first | (with_reducible first | exact HB.out | apply below_alloc | apply pw_below_drewN | apply below_drew1 | refine below_set ?_ GE236.out | refine below_set ?_ GE254.out) | exact HB.out)⟩⟩
   case rest =>
    clear HC16
    try clear c1
    try clear p2
    try clear c3
    try clear c3b0
    try clear c3b1
    try clear c6
    try clear c6b0
    try clear c11
    try clear c12
    try clear c13
    try clear c14
    try clear c15
    try clear c16
    try clear c31
    try clear c36
    try clear hcz18_0
    try clear hcz27_0
    try clear hcz32_0
    try clear hcz8_0
    try clear hfz18_0
    try clear hfz27_0
    try clear hfz32_0
    try clear hfz8_0
    obtain ⟨kq, x51_15, rfl, HA, HJ15, HO_6, HO_8, HO_10, HO_255000, BK236, BK254, HB⟩ := hcut
    cases kq with
    | zero => exact absurd HA.out (by simp [laws_FnExactMigrate.j0])
    | succ kj15 =>
     have H := HA.out
     clear HA
     simp only [laws_FnExactMigrate.j0] at H
     by_cases c41 : x51_15 = true
     ·subst c41
      have H1 : (none) = some r := by rw [if_pos rfl] at H; exact H
      clear H
      have H := H1
      clear H1
      exact absurd H (by simp)
     ·replace c41 := Bool.eq_false_iff.mpr c41
      subst c41
      have H1 : ((laws_toIntS.f kj15 l0).bind fun t260 => ((laws_eqIntS.f kj15 t248 t260).bind fun t263 => (if t263 = true then ((laws_toRules.f kj15 l1_0).bind fun t264 => ((laws_eqRules.f kj15 t251 t264).bind fun t267 => (if t267 = true then ((laws_markIntS.f kj15 t248 1).bind fun bt268 => ((laws_markRules.f kj15 t251 bt268.1).bind fun bt270 => (if bt270.1 < 0 then (laws_FnExactMigrate.j1 kj15 l0 t244 t247 t255 true l1_0) else ((laws_eqIntS.f kj15 t255 t244).bind fun t272 => (if t272 = true then (laws_FnExactMigrate.j1 kj15 l0 t244 t247 t255 (t258 != t247) l1_0) else (laws_FnExactMigrate.j1 kj15 l0 t244 t247 t255 true l1_0)))))) else (none)))) else (none)))) = some r := by rw [if_neg (show ¬ (false = true) by decide)] at H; exact H
      clear H
      have H := H1
      clear H1
      replace H := Option.bind_eq_some_iff.mp H
      obtain ⟨t260, A420, H⟩ := H
      replace H : ((laws_eqIntS.f kj15 t248 t260).bind fun t263 => (if t263 = true then ((laws_toRules.f kj15 l1_0).bind fun t264 => ((laws_eqRules.f kj15 t251 t264).bind fun t267 => (if t267 = true then ((laws_markIntS.f kj15 t248 1).bind fun bt268 => ((laws_markRules.f kj15 t251 bt268.1).bind fun bt270 => (if bt270.1 < 0 then (laws_FnExactMigrate.j1 kj15 l0 t244 t247 t255 true l1_0) else ((laws_eqIntS.f kj15 t255 t244).bind fun t272 => (if t272 = true then (laws_FnExactMigrate.j1 kj15 l0 t244 t247 t255 (t258 != t247) l1_0) else (laws_FnExactMigrate.j1 kj15 l0 t244 t247 t255 true l1_0)))))) else (none)))) else (none))) = some r := H
      have A42 := Aside0.mk A420
      clear A420
      replace H := Option.bind_eq_some_iff.mp H
      obtain ⟨t263, A430, H⟩ := H
      replace H : (if t263 = true then ((laws_toRules.f kj15 l1_0).bind fun t264 => ((laws_eqRules.f kj15 t251 t264).bind fun t267 => (if t267 = true then ((laws_markIntS.f kj15 t248 1).bind fun bt268 => ((laws_markRules.f kj15 t251 bt268.1).bind fun bt270 => (if bt270.1 < 0 then (laws_FnExactMigrate.j1 kj15 l0 t244 t247 t255 true l1_0) else ((laws_eqIntS.f kj15 t255 t244).bind fun t272 => (if t272 = true then (laws_FnExactMigrate.j1 kj15 l0 t244 t247 t255 (t258 != t247) l1_0) else (laws_FnExactMigrate.j1 kj15 l0 t244 t247 t255 true l1_0)))))) else (none)))) else (none)) = some r := H
      have A43 := Aside0.mk A430
      clear A430
      by_cases c44 : t263 = true
      ·subst c44
       have H1 : ((laws_toRules.f kj15 l1_0).bind fun t264 => ((laws_eqRules.f kj15 t251 t264).bind fun t267 => (if t267 = true then ((laws_markIntS.f kj15 t248 1).bind fun bt268 => ((laws_markRules.f kj15 t251 bt268.1).bind fun bt270 => (if bt270.1 < 0 then (laws_FnExactMigrate.j1 kj15 l0 t244 t247 t255 true l1_0) else ((laws_eqIntS.f kj15 t255 t244).bind fun t272 => (if t272 = true then (laws_FnExactMigrate.j1 kj15 l0 t244 t247 t255 (t258 != t247) l1_0) else (laws_FnExactMigrate.j1 kj15 l0 t244 t247 t255 true l1_0)))))) else (none)))) = some r := by rw [if_pos rfl] at H; exact H
       clear H
       have H := H1
       clear H1
       replace H := Option.bind_eq_some_iff.mp H
       obtain ⟨t264, A450, H⟩ := H
       replace H : ((laws_eqRules.f kj15 t251 t264).bind fun t267 => (if t267 = true then ((laws_markIntS.f kj15 t248 1).bind fun bt268 => ((laws_markRules.f kj15 t251 bt268.1).bind fun bt270 => (if bt270.1 < 0 then (laws_FnExactMigrate.j1 kj15 l0 t244 t247 t255 true l1_0) else ((laws_eqIntS.f kj15 t255 t244).bind fun t272 => (if t272 = true then (laws_FnExactMigrate.j1 kj15 l0 t244 t247 t255 (t258 != t247) l1_0) else (laws_FnExactMigrate.j1 kj15 l0 t244 t247 t255 true l1_0)))))) else (none))) = some r := H
       have A45 := Aside0.mk A450
       clear A450
       replace H := Option.bind_eq_some_iff.mp H
       obtain ⟨t267, A460, H⟩ := H
       replace H : (if t267 = true then ((laws_markIntS.f kj15 t248 1).bind fun bt268 => ((laws_markRules.f kj15 t251 bt268.1).bind fun bt270 => (if bt270.1 < 0 then (laws_FnExactMigrate.j1 kj15 l0 t244 t247 t255 true l1_0) else ((laws_eqIntS.f kj15 t255 t244).bind fun t272 => (if t272 = true then (laws_FnExactMigrate.j1 kj15 l0 t244 t247 t255 (t258 != t247) l1_0) else (laws_FnExactMigrate.j1 kj15 l0 t244 t247 t255 true l1_0)))))) else (none)) = some r := H
       have A46 := Aside0.mk A460
       clear A460
       by_cases c47 : t267 = true
       ·subst c47
        have H1 : ((laws_markIntS.f kj15 t248 1).bind fun bt268 => ((laws_markRules.f kj15 t251 bt268.1).bind fun bt270 => (if bt270.1 < 0 then (laws_FnExactMigrate.j1 kj15 l0 t244 t247 t255 true l1_0) else ((laws_eqIntS.f kj15 t255 t244).bind fun t272 => (if t272 = true then (laws_FnExactMigrate.j1 kj15 l0 t244 t247 t255 (t258 != t247) l1_0) else (laws_FnExactMigrate.j1 kj15 l0 t244 t247 t255 true l1_0)))))) = some r := by rw [if_pos rfl] at H; exact H
        clear H
        have H := H1
        clear H1
        replace H := Option.bind_eq_some_iff.mp H
        obtain ⟨⟨t268, t269⟩, A480, H⟩ := H
        replace H : ((laws_markRules.f kj15 t251 t268).bind fun bt270 => (if bt270.1 < 0 then (laws_FnExactMigrate.j1 kj15 l0 t244 t247 t255 true l1_0) else ((laws_eqIntS.f kj15 t255 t244).bind fun t272 => (if t272 = true then (laws_FnExactMigrate.j1 kj15 l0 t244 t247 t255 (t258 != t247) l1_0) else (laws_FnExactMigrate.j1 kj15 l0 t244 t247 t255 true l1_0))))) = some r := H
        have A48 := Aside0.mk A480
        clear A480
        replace H := Option.bind_eq_some_iff.mp H
        obtain ⟨⟨t270, t271⟩, A490, H⟩ := H
        replace H : (if t270 < 0 then (laws_FnExactMigrate.j1 kj15 l0 t244 t247 t255 true l1_0) else ((laws_eqIntS.f kj15 t255 t244).bind fun t272 => (if t272 = true then (laws_FnExactMigrate.j1 kj15 l0 t244 t247 t255 (t258 != t247) l1_0) else (laws_FnExactMigrate.j1 kj15 l0 t244 t247 t255 true l1_0)))) = some r := H
        have A49 := Aside0.mk A490
        clear A490
        have HC50 := Aside0.mk H
        clear H
        try go_wp2_with (first | ((with_reducible refine gate_callee (f := 13) rfl ?_); refine goesL_ (some 54) rfl rfl Try.func13 (by kernel_rfl) rfl #[.slice A0 l0.length c0] rfl (by (try simp only [List.map_toArray, List.map_cons, List.map_nil]); first | done | rfl | (simp only [List.length_drop, List.length_take]; rfl)) ?_; (with_reducible refine (laws_toIntS.calls kj15 _ _ l0 t260 _ ?side1 ?side2 A42.out).mono ?_); (case side1 => repeat (first | exact (Kd.C_below HR0.out HB.out) | (with_reducible refine Kd.C_alloc ?_ _) | (with_reducible refine Kd.C_drewN ?_ _) | (with_reducible refine Kd.C_drew ?_))); (case side2 => exact HC0.out); rintro e w51 ⟨v261, rfl, ho0, hb⟩; refine ⟨_, rfl, ?_⟩; have n0_ := Aside0.mk (Kd.R_elder' (pkr HO_6.out) (Kd.R_base ho0) hb); have n1_ := Aside0.mk (Kd.R_elder' (pkr HO_8.out) (Kd.R_base ho0) hb); have n2_ := Aside0.mk (Kd.R_elder' (pkr HO_10.out) (Kd.R_base ho0) hb); have n3_ := Aside0.mk (Kd.R_below (pkr HO_255000.out) hb); have n4_ := Aside0.mk (Kd.R_lower (Kd.R_new' (Kd.R_new' (Kd.R_new' ho0 (Kd.R_lt (pkr HO_6.out))) (Kd.R_lt (pkr HO_8.out))) (Kd.R_lt (pkr HO_10.out))) (below_size (by repeat (first | (with_reducible first | exact HB.out | apply below_alloc | apply pw_below_drewN | apply below_drew1 | refine below_set ?_ GE236.out | refine below_set ?_ GE254.out) | exact HB.out)))); have n5_ := Aside0.mk (blk_below (g := gb236) (o := .cells #[.slice A1_0 l1_0.length c1_0] 25 (0, 0)) (pkb BK236.out) hb); have n6_ := Aside0.mk (blk_below (g := gb254) (o := .cells #[.slice Ao30 t251.length co30] 32 (0, 0)) (pkb BK254.out) hb); have n7_ := Aside0.mk (below_step (by repeat (first | (with_reducible first | exact HB.out | apply below_alloc | apply pw_below_drewN | apply below_drew1 | refine below_set ?_ GE236.out | refine below_set ?_ GE254.out) | exact HB.out)) hb); clear HO_6; clear HO_8; clear HO_10; clear HO_255000; clear BK236; clear BK254; clear HB; have HO_6 := n0_; have HO_8 := n1_; have HO_10 := n2_; have HO_255000 := n3_; have HO262 := n4_; have BK236 := n5_; have BK254 := n6_; have HB := n7_; clear n0_ n1_ n2_ n3_ n4_ n5_ n6_ n7_; (try clear hb); (try clear hb2); (try clear hk); (try clear hi); (try clear ho0); obtain ⟨Ao52, co52, eo52⟩ := Kd.R_slice HO262.out; subst eo52) | ((with_reducible refine gate_callee (f := 16) rfl ?_); refine goesL_ (some 55) rfl rfl Try.func16 (by kernel_rfl) rfl #[.slice Ao33 t248.length co33, .slice Ao52 t260.length co52] rfl (by (try simp only [List.map_toArray, List.map_cons, List.map_nil]); first | done | rfl | (simp only [List.length_drop, List.length_take]; rfl)) ?_; (with_reducible refine (laws_eqIntS.calls kj15 _ _ t248 _ _ t260 true _ ?side1 ?side2 ?side3 ?side4 A43.out).mono ?_); (case side1 => repeat (first | exact (Kd.R_reads' HO_8.out).2.2 | (with_reducible refine Kd.C_alloc ?_ _) | (with_reducible refine Kd.C_drewN ?_ _) | (with_reducible refine Kd.C_drew ?_))); (case side2 => exact (Kd.R_reads' HO_8.out).2.1); (case side3 => repeat (first | exact (Kd.R_reads' HO262.out).2.2 | (with_reducible refine Kd.C_alloc ?_ _) | (with_reducible refine Kd.C_drewN ?_ _) | (with_reducible refine Kd.C_drew ?_))); (case side4 => exact (Kd.R_reads' HO262.out).2.1); rintro e w' ⟨rfl, ⟨nd, rfl⟩⟩; refine ⟨_, rfl, ?_⟩))
        (try (rw [drewN_self w51]; generalize hq_ : World.drewN w51 _ = w51; have n0_ : Aside0 (Kd.R (Kd.int .i64) 3 w51 w.heap.size (fun k_ => some k_ ≠ (v256 : Value).ownBlock ∧ some k_ ≠ (v245 : Value).ownBlock ∧ some k_ ≠ (.slice Ao33 t248.length co33 : Value).ownBlock) (.slice Ao52 t260.length co52) t260) := ⟨by rw [← hq_]; exact (pkr (Kd.R_mono HO262.out (fun _ hk => ⟨hk.2, ⟨hk.1.1.2, hk.1.2⟩⟩)))⟩; have n1_ : Aside0 (Kd.R (Kd.int .i64) 3 w51 w.heap.size (fun k_ => some k_ ≠ (.slice Ao52 t260.length co52 : Value).ownBlock ∧ some k_ ≠ (v245 : Value).ownBlock ∧ some k_ ≠ (.slice Ao33 t248.length co33 : Value).ownBlock) v256 t255) := ⟨by rw [← hq_]; exact (pkr (Kd.R_mono HO_10.out (fun _ hk => ⟨hk.2, ⟨hk.1.1, hk.1.2⟩⟩)))⟩; have n2_ : Aside0 (Kd.R k110 110 w51 w.heap.size (fun _ => True) (.slice Ao30 t251.length co30) t251) := ⟨by rw [← hq_]; exact (pkr HO_255000.out)⟩; have n3_ : Aside0 (Kd.R (Kd.int .i64) 3 w51 w.heap.size (fun k_ => some k_ ≠ (.slice Ao52 t260.length co52 : Value).ownBlock ∧ some k_ ≠ (v256 : Value).ownBlock ∧ some k_ ≠ (.slice Ao33 t248.length co33 : Value).ownBlock) v245 t244) := ⟨by rw [← hq_]; exact (pkr (Kd.R_mono HO_6.out (fun _ hk => ⟨hk.2, ⟨hk.1.2, hk.1.1⟩⟩)))⟩; have n4_ : Aside0 (Kd.R (Kd.int .i64) 3 w51 w.heap.size (fun k_ => some k_ ≠ (.slice Ao52 t260.length co52 : Value).ownBlock ∧ some k_ ≠ (v256 : Value).ownBlock ∧ some k_ ≠ (v245 : Value).ownBlock) (.slice Ao33 t248.length co33) t248) := ⟨by rw [← hq_]; exact (pkr (Kd.R_mono HO_8.out (fun _ hk => ⟨hk.2, ⟨hk.1.2, hk.1.1⟩⟩)))⟩; have n5_ : Aside0 (w51.heap[gb236]? = some (.cells #[.slice A1_0 l1_0.length c1_0] 25 (0, 0))) := ⟨by rw [← hq_]; exact (pkb BK236.out)⟩; have n6_ : Aside0 (w51.heap[gb254]? = some (.cells #[.slice Ao30 t251.length co30] 32 (0, 0))) := ⟨by rw [← hq_]; exact (pkb BK254.out)⟩; have n7_ : Aside0 (Below w.heap.size w w51) := ⟨by rw [← hq_]; exact (by repeat (first | (with_reducible first | exact HB.out | apply below_alloc | apply pw_below_drewN | apply below_drew1 | refine below_set ?_ GE236.out | refine below_set ?_ GE254.out) | exact HB.out))⟩; clear HO262 HO_10 HO_255000 HO_6 HO_8 BK236 BK254 HB hq_; have HO262 := n0_; have HO_10 := n1_; have HO_255000 := n2_; have HO_6 := n3_; have HO_8 := n4_; have BK236 := n5_; have BK254 := n6_; have HB := n7_; clear n0_ n1_ n2_ n3_ n4_ n5_ n6_ n7_))
        have n0_ := Aside0.mk (Kd.R_drew HO_6.out)
        have n1_ := Aside0.mk (Kd.R_drew HO_8.out)
        have n2_ := Aside0.mk (Kd.R_drew HO_10.out)
        have n3_ := Aside0.mk (Kd.R_drew HO_255000.out)
        have n4_ := Aside0.mk (Kd.R_drew HO262.out)
        have n5_ := Aside0.mk (blk_drew BK236.out)
        have n6_ := Aside0.mk (blk_drew BK254.out)
        have n7_ := Aside0.mk (below_drew1 HB.out)
        clear HO_6
        clear HO_8
        clear HO_10
        clear HO_255000
        clear HO262
        clear BK236
        clear BK254
        clear HB
        have HO_6 := n0_
        have HO_8 := n1_
        have HO_10 := n2_
        have HO_255000 := n3_
        have HO262 := n4_
        have BK236 := n5_
        have BK254 := n6_
        have HB := n7_
        clear n0_ n1_ n2_ n3_ n4_ n5_ n6_ n7_
        refine start_ (n := 5) (S := fun w' => w'.cell? ⟨gb254, 0, none⟩ = some (.slice Ao30 t251.length co30) ∧ w'.cell? ⟨gb236, 0, none⟩ = some (.slice A1_0 l1_0.length c1_0)) (ds := []) #[false, false, false, false, false] (by kernel_rfl) rfl rfl ⟨(blk_cell BK254.out 0).trans rfl, (blk_cell BK236.out 0).trans rfl⟩ (fun hHeld => ?_)
        generalize w51.drew = w53 at HO_6 HO_8 HO_10 HO_255000 HO262 BK236 BK254 HB hHeld ⊢
        refine take_ (i := 0) (N := some 57) (v := ?_) (a' := ?_) #[true, false, false, false, false] rfl rfl (by kernel_rfl) (fun _ _ _ h => h) (Or.inl ⟨by rfl, ?_⟩) hHeld ?_ ?_
        rotate_left
        ·rintro w' ⟨s0, s1⟩
         go_simp
         with_reducible rfl
        rotate_left
        ·simp only [Act.put, List.setIfInBounds_toArray, List.set_cons_zero, List.set_cons_succ, i64_w, i32_w]
         rfl
        refine take_ (i := 1) (N := some 58) (v := ?_) (a' := ?_) #[true, true, false, false, false] rfl rfl (by kernel_rfl) (fun _ _ _ h => h) (Or.inl ⟨by rfl, ?_⟩) hHeld ?_ ?_
        rotate_left
        ·rintro w' ⟨s0, s1⟩
         go_simp
         with_reducible rfl
        rotate_left
        ·simp only [Act.put, List.setIfInBounds_toArray, List.set_cons_zero, List.set_cons_succ, i64_w, i32_w]
         rfl
        refine one_ (i := 2) (N := some 59) #[true, true, true, false, false] rfl rfl (by kernel_rfl) (by decide) (fun K hK => ?_)
        refine goes_ Try.func14 (by kernel_rfl) rfl #[.agg #[.slice A1_0 l1_0.length c1_0]] (by rfl) rfl rfl (by (try simp only [List.map_toArray, List.map_cons, List.map_nil]); first | done | rfl | (simp only [List.length_drop, List.length_take]; rfl)) ?_
        with_reducible refine (laws_toRules.calls kj15 _ _ l1_0 t264 _ ?side1 ?side2 A45.out).mono ?_
        (case side1 => repeat (first | exact (Kd.C_below HR1_0.out HB.out) | (with_reducible refine Kd.C_alloc ?_ _) | (with_reducible refine Kd.C_drewN ?_ _) | (with_reducible refine Kd.C_drew ?_)))
        (case side2 => exact HC1_0.out)
        rintro e w54 ⟨v265, rfl, ho0, hb⟩
        refine ⟨_, rfl, ?_⟩
        have n0_ := Aside0.mk (Kd.R_below (pkr HO_6.out) hb)
        have n1_ := Aside0.mk (Kd.R_below (pkr HO_8.out) hb)
        have n2_ := Aside0.mk (Kd.R_below (pkr HO_10.out) hb)
        have n3_ := Aside0.mk (Kd.R_elder' (pkr HO_255000.out) (Kd.R_base ho0) hb)
        have n4_ := Aside0.mk (Kd.R_below (pkr HO262.out) hb)
        have n5_ := Aside0.mk (Kd.R_lower (Kd.R_new' ho0 (Kd.R_lt (pkr HO_255000.out))) (below_size (by repeat (first | (with_reducible first | exact HB.out | apply below_alloc | apply pw_below_drewN | apply below_drew1 | refine below_set ?_ GE236.out | refine below_set ?_ GE254.out) | exact HB.out))))
        have n6_ := Aside0.mk (blk_below (g := gb236) (o := .cells #[.slice A1_0 l1_0.length c1_0] 25 (0, 0)) (pkb BK236.out) hb)
        have n7_ := Aside0.mk (blk_below (g := gb254) (o := .cells #[.slice Ao30 t251.length co30] 32 (0, 0)) (pkb BK254.out) hb)
        have n8_ := Aside0.mk (below_step (by repeat (first | (with_reducible first | exact HB.out | apply below_alloc | apply pw_below_drewN | apply below_drew1 | refine below_set ?_ GE236.out | refine below_set ?_ GE254.out) | exact HB.out)) hb)
        clear HO_6
        clear HO_8
        clear HO_10
        clear HO_255000
        clear HO262
        clear BK236
        clear BK254
        clear HB
        have HO_6 := n0_
        have HO_8 := n1_
        have HO_10 := n2_
        have HO_255000 := n3_
        have HO262 := n4_
        have HO266 := n5_
        have BK236 := n6_
        have BK254 := n7_
        have HB := n8_
        clear n0_ n1_ n2_ n3_ n4_ n5_ n6_ n7_ n8_
        (try clear hb)
        (try clear hb2)
        (try clear hk)
        (try clear hi)
        (try clear ho0)
        obtain ⟨Ao55, co55, eo55⟩ := Kd.R_slice HO266.out
        (first | subst eo55 | (injection eo55 with f1_ f2_ f3_; have f4_ := f1_.symm; have f5_ := f3_.symm; clear f1_ f2_ f3_; subst f4_; subst f5_))
        refine hK.out _ _ ⟨(blk_cell BK254.out 0).trans rfl, (blk_cell BK236.out 0).trans rfl⟩ (fun hHeld => ?_)
        clear hK K
        refine norm_ (a' := ?_) ?_ ?_
        rotate_left
        ·show Act.put _ (some 59) _ = _
         simp only [Act.put, List.setIfInBounds_toArray, List.set_cons_zero, List.set_cons_succ, i64_w, i32_w]
         rfl
        refine one_ (i := 3) (N := some 60) #[true, true, true, true, false] rfl rfl (by kernel_rfl) (by decide) (fun K hK => ?_)
        refine goes_ Try.func17 (by kernel_rfl) rfl #[.agg #[.slice Ao30 t251.length co30], .agg #[.slice Ao55 t264.length co55]] (by rfl) rfl rfl (by (try simp only [List.map_toArray, List.map_cons, List.map_nil]); first | done | rfl | (simp only [List.length_drop, List.length_take]; rfl)) ?_
        with_reducible refine (laws_eqRules.calls kj15 _ _ t251 _ _ t264 true _ ?side1 ?side2 ?side3 ?side4 A46.out).mono ?_
        (case side1 => repeat (first | exact (Kd.R_reads' HO_255000.out).2.2 | (with_reducible refine Kd.C_alloc ?_ _) | (with_reducible refine Kd.C_drewN ?_ _) | (with_reducible refine Kd.C_drew ?_)))
        (case side2 => exact (Kd.R_reads' HO_255000.out).2.1)
        (case side3 => repeat (first | exact (Kd.R_reads' HO266.out).2.2 | (with_reducible refine Kd.C_alloc ?_ _) | (with_reducible refine Kd.C_drewN ?_ _) | (with_reducible refine Kd.C_drew ?_)))
        (case side4 => exact (Kd.R_reads' HO266.out).2.1)
        rintro e w56 ⟨rfl, hb⟩
        refine ⟨_, rfl, ?_⟩
        have n0_ := Aside0.mk (Kd.R_below (pkr HO_6.out) hb)
        have n1_ := Aside0.mk (Kd.R_below (pkr HO_8.out) hb)
        have n2_ := Aside0.mk (Kd.R_below (pkr HO_10.out) hb)
        have n3_ := Aside0.mk (Kd.R_below (pkr HO_255000.out) hb)
        have n4_ := Aside0.mk (Kd.R_below (pkr HO262.out) hb)
        have n5_ := Aside0.mk (Kd.R_below (pkr HO266.out) hb)
        have n6_ := Aside0.mk (blk_below (g := gb236) (o := .cells #[.slice A1_0 l1_0.length c1_0] 25 (0, 0)) (pkb BK236.out) hb)
        have n7_ := Aside0.mk (blk_below (g := gb254) (o := .cells #[.slice Ao30 t251.length co30] 32 (0, 0)) (pkb BK254.out) hb)
        have n8_ := Aside0.mk (below_step (by repeat (first | (with_reducible first | exact HB.out | apply below_alloc | apply pw_below_drewN | apply below_drew1 | refine below_set ?_ GE236.out | refine below_set ?_ GE254.out) | exact HB.out)) hb)
        clear HO_6
        clear HO_8
        clear HO_10
        clear HO_255000
        clear HO262
        clear HO266
        clear BK236
        clear BK254
        clear HB
        have HO_6 := n0_
        have HO_8 := n1_
        have HO_10 := n2_
        have HO_255000 := n3_
        have HO262 := n4_
        have HO266 := n5_
        have BK236 := n6_
        have BK254 := n7_
        have HB := n8_
        clear n0_ n1_ n2_ n3_ n4_ n5_ n6_ n7_ n8_
        (try clear hb)
        (try clear hb2)
        (try clear hk)
        (try clear hi)
        refine hK.out _ _ ⟨(blk_cell BK254.out 0).trans rfl, (blk_cell BK236.out 0).trans rfl⟩ (fun hHeld => ?_)
        clear hK K
        refine norm_ (a' := ?_) ?_ ?_
        rotate_left
        ·show Act.put _ (some 60) _ = _
         simp only [Act.put, List.setIfInBounds_toArray, List.set_cons_zero, List.set_cons_succ, i64_w, i32_w]
         rfl
        refine pure_ (i := 4) (N := some 61) (v := ?_) (a' := ?_) #[true, true, true, true, true] rfl rfl (by kernel_rfl) (fun _ _ _ h => h) (Or.inl ⟨by rfl, ?_⟩) ?_ ?_
        rotate_left
        ·intro w'
         go_simp
         with_reducible rfl
        rotate_left
        ·simp only [Act.put, List.setIfInBounds_toArray, List.set_cons_zero, List.set_cons_succ, i64_w, i32_w]
         rfl
        refine done_ (by kernel_rfl) ?_
        go_upto_region 20 with (first | ((with_reducible refine gate_callee (f := 18) rfl ?_); refine goesL_ (some 64) rfl rfl Try.func18 (by kernel_rfl) rfl #[.slice Ao33 t248.length co33, .int .i64 1] rfl (by (try simp only [List.map_toArray, List.map_cons, List.map_nil]); first | done | rfl | (simp only [List.length_drop, List.length_take]; rfl)) ?_; (with_reducible refine (laws_markIntS.calls kj15 (fun k_ => some k_ = (.slice Ao33 t248.length co33 : Value).ownBlock) (.slice Ao33 t248.length co33) t248 1 t268 t269 w _ ?side1 ?side2 A48.out).mono ?_); (case side1 => repeat (first | (with_reducible first | exact HB.out | apply below_alloc | apply pw_below_drewN | apply below_drew1 | refine below_set ?_ GE236.out | refine below_set ?_ GE254.out) | exact HB.out)); (case side2 => exact Kd.R_tight rfl HO_8.out); rintro e w57 ⟨rfl, hy0, hb, hkp⟩; refine ⟨_, rfl, ?_⟩; have n0_ := Aside0.mk (Kd.R_mono (ok' := fun k_ => some k_ ≠ (.slice Ao33 t248.length co33 : Value).ownBlock ∧ some k_ ≠ (v256 : Value).ownBlock ∧ some k_ ≠ (.slice Ao52 t260.length co52 : Value).ownBlock) (Kd.R_keptB (HO_6.out) hkp (fun k_ hk_ hs_ => by first | exact (hk_.1.1) hs_ | (simp only [show _ = _ from hs_, ne_eq, not_true_eq_false, and_false, false_and] at hk_; done) | simp_all)) (fun k_ hk_ => by first | exact ⟨hk_.1.1.1, hk_.1.1.2, hk_.1.2⟩ | (simp only [hk_, ne_eq, not_false_eq_true, and_self]; done) | simp_all)); have n1_ := Aside0.mk (Kd.R_reok rfl hy0 (fun k_ e_ => HO_8.out.1 k_ e_)); have n2_ := Aside0.mk (Kd.R_mono (ok' := fun k_ => some k_ ≠ (v245 : Value).ownBlock ∧ some k_ ≠ (.slice Ao33 t248.length co33 : Value).ownBlock ∧ some k_ ≠ (.slice Ao52 t260.length co52 : Value).ownBlock) (Kd.R_keptB (HO_10.out) hkp (fun k_ hk_ hs_ => by first | exact (hk_.1.2) hs_ | (simp only [show _ = _ from hs_, ne_eq, not_true_eq_false, and_false, false_and] at hk_; done) | simp_all)) (fun k_ hk_ => by first | exact ⟨hk_.1.1.1, hk_.1.1.2, hk_.1.2⟩ | (simp only [hk_, ne_eq, not_false_eq_true, and_self]; done) | simp_all)); have n3_ := Aside0.mk (Kd.R_mono (ok' := fun k_ => some k_ ≠ (.slice Ao55 t264.length co55 : Value).ownBlock) (Kd.R_keptB ((Kd.R_apart' HO_255000.out (Kd.R_typed HO_8.out) (by decide))) hkp (fun k_ hk_ hs_ => by first | exact (hk_.2) hs_ | (simp only [show _ = _ from hs_, ne_eq, not_true_eq_false, and_false, false_and] at hk_; done) | simp_all)) (fun k_ hk_ => hk_.1.1.2)); have n4_ := Aside0.mk (blk_kept (pkb BK236.out) hkp (fun hs_ => (fun e_ => (Kd.R_ne HO_8.out BK236.out (by decide)) e_) hs_)); have n5_ := Aside0.mk (blk_kept (pkb BK254.out) hkp (fun hs_ => (fun e_ => (Kd.R_ne HO_8.out BK254.out (by decide)) e_) hs_)); have n6_ := Aside0.mk (Kd.R_mono (ok' := fun k_ => some k_ ≠ (v245 : Value).ownBlock ∧ some k_ ≠ (.slice Ao33 t248.length co33 : Value).ownBlock ∧ some k_ ≠ (v256 : Value).ownBlock) (Kd.R_keptB (HO262.out) hkp (fun k_ hk_ hs_ => by first | exact (hk_.1.2) hs_ | (simp only [show _ = _ from hs_, ne_eq, not_true_eq_false, and_false, false_and] at hk_; done) | simp_all)) (fun k_ hk_ => by first | exact ⟨hk_.1.1.1.2, hk_.1.1.2, hk_.1.2⟩ | (simp only [hk_, ne_eq, not_false_eq_true, and_self]; done) | simp_all)); have n7_ := Aside0.mk (Kd.R_mono (ok' := fun k_ => some k_ ≠ (.slice Ao30 t251.length co30 : Value).ownBlock) (Kd.R_keptB ((Kd.R_apart' HO266.out (Kd.R_typed HO_8.out) (by decide))) hkp (fun k_ hk_ hs_ => by first | exact (hk_.2) hs_ | (simp only [show _ = _ from hs_, ne_eq, not_true_eq_false, and_false, false_and] at hk_; done) | simp_all)) (fun k_ hk_ => hk_.1.1.2)); have n8_ := Aside0.mk (hb); clear HO_6; clear HO_8; clear HO_10; clear HO_255000; clear BK236; clear BK254; clear HO262; clear HO266; clear HB; have HO_6 := n0_; have HO_8 := n1_; have HO_10 := n2_; have HO_255000 := n3_; have BK236 := n4_; have BK254 := n5_; have HO262 := n6_; have HO266 := n7_; have HB := n8_; clear n0_ n1_ n2_ n3_ n4_ n5_ n6_ n7_ n8_; (try clear hb); (try clear hkp); (try clear hy0); have hnb58 := NB254_236.out; have hnc58 := NB236_254.out; have hcz59_0 : w57.cell? ⟨gb254, 0, none⟩ = some (.slice Ao30 t251.length co30) := (blk_cell BK254.out 0).trans rfl; have hfz59_0 := blk_frozen BK254.out 0) | ((with_reducible refine gate_callee (f := 19) rfl ?_); refine goesL_ (some 67) rfl rfl Try.func19 (by kernel_rfl) rfl #[.agg #[.slice Ao30 t251.length co30], .int .i64 t268] rfl (by (try simp only [List.map_toArray, List.map_cons, List.map_nil]); first | done | rfl | (simp only [List.length_drop, List.length_take]; rfl)) ?_; (with_reducible refine (laws_markRules.calls kj15 (fun k_ => some k_ = (.slice Ao30 t251.length co30 : Value).ownBlock) (.slice Ao30 t251.length co30) t251 t268 t270 t271 w _ ?side1 ?side2 A49.out).mono ?_); (case side1 => repeat (first | (with_reducible first | exact HB.out | apply below_alloc | apply pw_below_drewN | apply below_drew1 | refine below_set ?_ GE236.out | refine below_set ?_ GE254.out) | exact HB.out)); (case side2 => exact Kd.R_tight rfl HO_255000.out); rintro e w60 ⟨rfl, hy0, hb, hkp⟩; refine ⟨_, rfl, ?_⟩; have n0_ := Aside0.mk (Kd.R_mono (ok' := fun k_ => some k_ ≠ (.slice Ao33 t248.length co33 : Value).ownBlock ∧ some k_ ≠ (v256 : Value).ownBlock ∧ some k_ ≠ (.slice Ao52 t260.length co52 : Value).ownBlock) (Kd.R_keptB ((Kd.R_apart' HO_6.out (Kd.R_typed HO_255000.out) (by decide))) hkp (fun k_ hk_ hs_ => by first | exact (hk_.2) hs_ | (simp only [show _ = _ from hs_, ne_eq, not_true_eq_false, and_false, false_and] at hk_; done) | simp_all)) (fun k_ hk_ => by first | exact ⟨hk_.1.1.1, hk_.1.1.2.1, hk_.1.1.2.2⟩ | (simp only [hk_, ne_eq, not_false_eq_true, and_self]; done) | simp_all)); have n1_ := Aside0.mk (Kd.R_mono (ok' := fun k_ => some k_ ≠ (v245 : Value).ownBlock ∧ some k_ ≠ (v256 : Value).ownBlock ∧ some k_ ≠ (.slice Ao52 t260.length co52 : Value).ownBlock) (Kd.R_keptB ((Kd.R_apart' HO_8.out (Kd.R_typed HO_255000.out) (by decide))) hkp (fun k_ hk_ hs_ => by first | exact (hk_.2) hs_ | (simp only [show _ = _ from hs_, ne_eq, not_true_eq_false, and_false, false_and] at hk_; done) | simp_all)) (fun k_ hk_ => by first | exact ⟨hk_.1.1.1.1, hk_.1.1.1.2, hk_.1.1.2⟩ | (simp only [hk_, ne_eq, not_false_eq_true, and_self]; done) | simp_all)); have n2_ := Aside0.mk (Kd.R_mono (ok' := fun k_ => some k_ ≠ (v245 : Value).ownBlock ∧ some k_ ≠ (.slice Ao33 t248.length co33 : Value).ownBlock ∧ some k_ ≠ (.slice Ao52 t260.length co52 : Value).ownBlock) (Kd.R_keptB ((Kd.R_apart' HO_10.out (Kd.R_typed HO_255000.out) (by decide))) hkp (fun k_ hk_ hs_ => by first | exact (hk_.2) hs_ | (simp only [show _ = _ from hs_, ne_eq, not_true_eq_false, and_false, false_and] at hk_; done) | simp_all)) (fun k_ hk_ => by first | exact ⟨hk_.1.1.1, hk_.1.1.2.1, hk_.1.1.2.2⟩ | (simp only [hk_, ne_eq, not_false_eq_true, and_self]; done) | simp_all)); have n3_ := Aside0.mk (Kd.R_reok rfl hy0 (fun k_ e_ => HO_255000.out.1 k_ e_)); have n4_ := Aside0.mk (blk_kept (pkb BK236.out) hkp (fun hs_ => (fun e_ => (Kd.R_ne HO_255000.out BK236.out (by decide)) e_) hs_)); have n5_ := Aside0.mk (blk_kept (pkb BK254.out) hkp (fun hs_ => (fun e_ => (Kd.R_ne HO_255000.out BK254.out (by decide)) e_) hs_)); have n6_ := Aside0.mk (Kd.R_mono (ok' := fun k_ => some k_ ≠ (v245 : Value).ownBlock ∧ some k_ ≠ (.slice Ao33 t248.length co33 : Value).ownBlock ∧ some k_ ≠ (v256 : Value).ownBlock) (Kd.R_keptB ((Kd.R_apart' HO262.out (Kd.R_typed HO_255000.out) (by decide))) hkp (fun k_ hk_ hs_ => by first | exact (hk_.2) hs_ | (simp only [show _ = _ from hs_, ne_eq, not_true_eq_false, and_false, false_and] at hk_; done) | simp_all)) (fun k_ hk_ => by first | exact ⟨hk_.1.1.1, hk_.1.1.2.1, hk_.1.1.2.2⟩ | (simp only [hk_, ne_eq, not_false_eq_true, and_self]; done) | simp_all)); have n7_ := Aside0.mk (Kd.R_mono (ok' := fun k_ => some k_ ≠ (.slice Ao30 t251.length co30 : Value).ownBlock) (Kd.R_keptB (HO266.out) hkp (fun k_ hk_ hs_ => by first | exact (hk_) hs_ | (simp only [show _ = _ from hs_, ne_eq, not_true_eq_false, and_false, false_and] at hk_; done) | simp_all)) (fun k_ hk_ => hk_.1)); have n8_ := Aside0.mk (hb); clear HO_6; clear HO_8; clear HO_10; clear HO_255000; clear BK236; clear BK254; clear HO262; clear HO266; clear HB; have HO_6 := n0_; have HO_8 := n1_; have HO_10 := n2_; have HO_255000 := n3_; have BK236 := n4_; have BK254 := n5_; have HO262 := n6_; have HO266 := n7_; have HB := n8_; clear n0_ n1_ n2_ n3_ n4_ n5_ n6_ n7_ n8_; (try clear hb); (try clear hkp); (try clear hy0)))
        (try simp only [Act.put, List.setIfInBounds_toArray, List.set_cons_zero, List.set_cons_succ])
        go_cut [80] (fun v80 wc => ∃ (kq : Nat) (x80_49 : Bool), v80 = .bool x80_49 ∧ Aside0 (laws_FnExactMigrate.j1 kq l0 t244 t247 t255 x80_49 l1_0 = some r) ∧ Aside0 (kq ≤ kj15) ∧ Aside0 (Kd.R (Kd.int .i64) 3 wc w.heap.size (fun k_ => some k_ ≠ (v256 : Value).ownBlock) v245 t244) ∧ Aside0 (Kd.R (Kd.int .i64) 3 wc w.heap.size (fun k_ => some k_ ≠ (v245 : Value).ownBlock) v256 t255) ∧ Aside0 (Kd.R k110 110 wc w.heap.size (fun _ => True) (.slice Ao30 t251.length co30) t271) ∧ Aside0 (wc.heap[gb236]? = some (.cells #[(.slice A1_0 l1_0.length c1_0)] 25 (0, 0))) ∧ Aside0 (wc.heap[gb254]? = some (.cells #[(.slice Ao30 t251.length co30)] 32 (0, 0))) ∧ Aside0 (Below w.heap.size w wc))
        case first =>
         have H := HC50.out
         clear HC50
         by_cases c61 : t270 < 0
         ·rw [if_pos c61] at H
          have c61b0 : decide (t270 < 0) = true := decide_eq_true c61
          clear c61
          (first | rw [c61b0] | (simp only [i64_w, i32_w]; rw [c61b0]) | skip)
          have H' := Aside0.mk H
          clear H
          go_wp2
          go_meet
          case rel => exact ⟨_, (true), (by first | rfl | (simp; done) | (simp [*]; done)), H', ⟨by have := HJ15.out; first | omega | exact Nat.le_refl _⟩, ⟨by (with_reducible repeat (first | apply Kd.R_alloc | apply Kd.R_drewN | apply Kd.R_drew)); exact Kd.R_mono HO_6.out (fun _ hk => by first | exact hk.2.1 | simp_all)⟩, ⟨by (with_reducible repeat (first | apply Kd.R_alloc | apply Kd.R_drewN | apply Kd.R_drew)); exact Kd.R_mono HO_10.out (fun _ hk => by first | exact hk.1 | simp_all)⟩, ⟨by (with_reducible repeat (first | apply Kd.R_alloc | apply Kd.R_drewN | apply Kd.R_drew)); exact Kd.R_mono HO_255000.out (fun _ hk => trivial)⟩, ⟨by (with_reducible repeat (first | refine blk_drewN ?_ _ | refine blk_drew ?_ | refine blk_alloc ?_ _)); exact BK236.out⟩, ⟨by (with_reducible repeat (first | refine blk_drewN ?_ _ | refine blk_drew ?_ | refine blk_alloc ?_ _)); exact BK254.out⟩, ⟨by repeat (first | (with_reducible first | exact HB.out | apply below_alloc | apply pw_below_drewN | apply below_drew1 | refine below_set ?_ GE236.out | refine below_set ?_ GE254.out) | exact HB.out)⟩⟩
         ·rw [if_neg c61] at H
          have c61b0 : decide (t270 < 0) = false := decide_eq_false c61
          clear c61
          (first | rw [c61b0] | (simp only [i64_w, i32_w]; rw [c61b0]) | skip)
          replace H := Option.bind_eq_some_iff.mp H
          obtain ⟨t272, A620, H⟩ := H
          replace H : (if t272 = true then (laws_FnExactMigrate.j1 kj15 l0 t244 t247 t255 (t258 != t247) l1_0) else (laws_FnExactMigrate.j1 kj15 l0 t244 t247 t255 true l1_0)) = some r := H
          have A62 := Aside0.mk A620
          clear A620
          by_cases c63 : t272 = true
          ·subst c63
           have H1 : (laws_FnExactMigrate.j1 kj15 l0 t244 t247 t255 (t258 != t247) l1_0) = some r := by rw [if_pos rfl] at H; exact H
           clear H
           have H := H1
           clear H1
           have H' := Aside0.mk H
           clear H
           obtain ⟨Ao64, co64, eo64⟩ := Kd.R_slice HO_10.out
           subst eo64
           obtain ⟨Ao65, co65, eo65⟩ := Kd.R_slice HO_6.out
           subst eo65
           go_wp2_with (first | (go_at_call 16; (with_reducible refine (laws_eqIntS.calls kj15 _ _ t255 _ _ t244 true _ ?side1 ?side2 ?side3 ?side4 A62.out).mono ?_); (case side1 => repeat (first | exact (Kd.R_reads' HO_10.out).2.2 | (with_reducible refine Kd.C_alloc ?_ _) | (with_reducible refine Kd.C_drewN ?_ _) | (with_reducible refine Kd.C_drew ?_))); (case side2 => exact (Kd.R_reads' HO_10.out).2.1); (case side3 => repeat (first | exact (Kd.R_reads' HO_6.out).2.2 | (with_reducible refine Kd.C_alloc ?_ _) | (with_reducible refine Kd.C_drewN ?_ _) | (with_reducible refine Kd.C_drew ?_))); (case side4 => exact (Kd.R_reads' HO_6.out).2.1); rintro e w' ⟨rfl, ⟨nd, rfl⟩⟩))
           go_meet
           case rel => exact ⟨_, ((t258 != t247)), (by first | rfl | (simp; done) | (simp [*]; done)), H', ⟨by have := HJ15.out; first | omega | exact Nat.le_refl _⟩, ⟨by (with_reducible repeat (first | apply Kd.R_alloc | apply Kd.R_drewN | apply Kd.R_drew)); exact Kd.R_mono HO_6.out (fun _ hk => by first | exact hk.2.1 | simp_all)⟩, ⟨by (with_reducible repeat (first | apply Kd.R_alloc | apply Kd.R_drewN | apply Kd.R_drew)); exact Kd.R_mono HO_10.out (fun _ hk => by first | exact hk.1 | simp_all)⟩, ⟨by (with_reducible repeat (first | apply Kd.R_alloc | apply Kd.R_drewN | apply Kd.R_drew)); exact Kd.R_mono HO_255000.out (fun _ hk => trivial)⟩, ⟨by (with_reducible repeat (first | refine blk_drewN ?_ _ | refine blk_drew ?_ | refine blk_alloc ?_ _)); exact BK236.out⟩, ⟨by (with_reducible repeat (first | refine blk_drewN ?_ _ | refine blk_drew ?_ | refine blk_alloc ?_ _)); exact BK254.out⟩, ⟨by repeat (first | (with_reducible first | exact HB.out | apply below_alloc | apply pw_below_drewN | apply below_drew1 | refine below_set ?_ GE236.out | refine below_set ?_ GE254.out) | exact HB.out)⟩⟩
          ·replace c63 := Bool.eq_false_iff.mpr c63
           subst c63
           have H1 : (laws_FnExactMigrate.j1 kj15 l0 t244 t247 t255 true l1_0) = some r := by rw [if_neg (show ¬ (false = true) by decide)] at H; exact H
           clear H
           have H := H1
           clear H1
           have H' := Aside0.mk H
           clear H
           obtain ⟨Ao66, co66, eo66⟩ := Kd.R_slice HO_10.out
           subst eo66
           obtain ⟨Ao67, co67, eo67⟩ := Kd.R_slice HO_6.out
           subst eo67
           go_wp2_with (first | (go_at_call 16; (with_reducible refine (laws_eqIntS.calls kj15 _ _ t255 _ _ t244 false _ ?side1 ?side2 ?side3 ?side4 A62.out).mono ?_); (case side1 => repeat (first | exact (Kd.R_reads' HO_10.out).2.2 | (with_reducible refine Kd.C_alloc ?_ _) | (with_reducible refine Kd.C_drewN ?_ _) | (with_reducible refine Kd.C_drew ?_))); (case side2 => exact (Kd.R_reads' HO_10.out).2.1); (case side3 => repeat (first | exact (Kd.R_reads' HO_6.out).2.2 | (with_reducible refine Kd.C_alloc ?_ _) | (with_reducible refine Kd.C_drewN ?_ _) | (with_reducible refine Kd.C_drew ?_))); (case side4 => exact (Kd.R_reads' HO_6.out).2.1); rintro e w' ⟨rfl, ⟨nd, rfl⟩⟩))
           go_meet
           case rel => exact ⟨_, (true), (by first | rfl | (simp; done) | (simp [*]; done)), H', ⟨by have := HJ15.out; first | omega | exact Nat.le_refl _⟩, ⟨by (with_reducible repeat (first | apply Kd.R_alloc | apply Kd.R_drewN | apply Kd.R_drew)); exact Kd.R_mono HO_6.out (fun _ hk => by first | exact hk.2.1 | simp_all)⟩, ⟨by (with_reducible repeat (first | apply Kd.R_alloc | apply Kd.R_drewN | apply Kd.R_drew)); exact Kd.R_mono HO_10.out (fun _ hk => by first | exact hk.1 | simp_all)⟩, ⟨by (with_reducible repeat (first | apply Kd.R_alloc | apply Kd.R_drewN | apply Kd.R_drew)); exact Kd.R_mono HO_255000.out (fun _ hk => trivial)⟩, ⟨by (with_reducible repeat (first | refine blk_drewN ?_ _ | refine blk_drew ?_ | refine blk_alloc ?_ _)); exact BK236.out⟩, ⟨by (with_reducible repeat (first | refine blk_drewN ?_ _ | refine blk_drew ?_ | refine blk_alloc ?_ _)); exact BK254.out⟩, ⟨by repeat (first | (with_reducible first | exact HB.out | apply below_alloc | apply pw_below_drewN | apply below_drew1 | refine below_set ?_ GE236.out | refine below_set ?_ GE254.out) | exact HB.out)⟩⟩
        case rest =>
         clear HC50
         try clear c1
         try clear p2
         try clear c3
         try clear c3b0
         try clear c3b1
         try clear c4
         try clear c5
         try clear c6
         try clear c6b0
         try clear c11
         try clear c12
         try clear c13
         try clear c14
         try clear c15
         try clear c16
         try clear c17
         try clear c18
         try clear c19
         try clear c31
         try clear c36
         try clear c41
         try clear c44
         try clear c47
         try clear c58
         try clear c61
         try clear c61b0
         try clear c63
         try clear hcz18_0
         try clear hcz27_0
         try clear hcz32_0
         try clear hcz59_0
         try clear hcz8_0
         try clear hfz18_0
         try clear hfz27_0
         try clear hfz32_0
         try clear hfz59_0
         try clear hfz8_0
         try clear p2
         obtain ⟨kq, x80_49, rfl, HA, HJ49, HO_6, HO_10, HO_255000, BK236, BK254, HB⟩ := hcut
         have hl255000_49 := (Kd.R_reads' HO_255000.out).1
         rw [hl255000_49] at HO_255000
         (try simp only [hl255000_49])
         (try simp only [hl255000_49] at BK236)
         (try simp only [hl255000_49] at BK254)
         (try simp only [hl255000_49] at HO_6)
         (try simp only [hl255000_49] at HO_10)
         cases kq with
         | zero => exact absurd HA.out (by simp [laws_FnExactMigrate.j1])
         | succ kj49 =>
          have H := HA.out
          clear HA
          simp only [laws_FnExactMigrate.j1] at H
          by_cases c68 : x80_49 = true
          ·subst c68
           have H1 : (none) = some r := by rw [if_pos rfl] at H; exact H
           clear H
           have H := H1
           clear H1
           exact absurd H (by simp)
          ·replace c68 := Bool.eq_false_iff.mpr c68
           subst c68
           have H1 : ((laws_markIntS.f kj49 t255 1).bind fun bt273 => ((laws_heldIntS.f kj49 bt273.2 1).bind fun t275 => (if t275 < 0 then (none) else (if t275 = bt273.1 then ((laws_toIntS.f kj49 l0).bind fun t276 => ((laws_toRules.f kj49 l1_0).bind fun t279 => ((impl_Migrate.f kj49 t276 t279).bind fun bt282 => ((laws_eqIntS.f kj49 bt282.1 t244).bind fun t286 => (if t286 = true then (laws_FnExactMigrate.j2 kj49 bt273.2 bt273.1 (bt282.2 != t247)) else (laws_FnExactMigrate.j2 kj49 bt273.2 bt273.1 true)))))) else (none))))) = some r := by rw [if_neg (show ¬ (false = true) by decide)] at H; exact H
           clear H
           have H := H1
           clear H1
           replace H := Option.bind_eq_some_iff.mp H
           obtain ⟨⟨t273, t274⟩, A690, H⟩ := H
           replace H : ((laws_heldIntS.f kj49 t274 1).bind fun t275 => (if t275 < 0 then (none) else (if t275 = t273 then ((laws_toIntS.f kj49 l0).bind fun t276 => ((laws_toRules.f kj49 l1_0).bind fun t279 => ((impl_Migrate.f kj49 t276 t279).bind fun bt282 => ((laws_eqIntS.f kj49 bt282.1 t244).bind fun t286 => (if t286 = true then (laws_FnExactMigrate.j2 kj49 t274 t273 (bt282.2 != t247)) else (laws_FnExactMigrate.j2 kj49 t274 t273 true)))))) else (none)))) = some r := H
           have A69 := Aside0.mk A690
           clear A690
           replace H := Option.bind_eq_some_iff.mp H
           obtain ⟨t275, A700, H⟩ := H
           replace H : (if t275 < 0 then (none) else (if t275 = t273 then ((laws_toIntS.f kj49 l0).bind fun t276 => ((laws_toRules.f kj49 l1_0).bind fun t279 => ((impl_Migrate.f kj49 t276 t279).bind fun bt282 => ((laws_eqIntS.f kj49 bt282.1 t244).bind fun t286 => (if t286 = true then (laws_FnExactMigrate.j2 kj49 t274 t273 (bt282.2 != t247)) else (laws_FnExactMigrate.j2 kj49 t274 t273 true)))))) else (none))) = some r := H
           have A70 := Aside0.mk A700
           clear A700
           by_cases c71 : t275 < 0
           ·rw [if_pos c71] at H
            exact absurd H (by simp)
           ·rw [if_neg c71] at H
            have c71b0 : decide (t275 < 0) = false := decide_eq_false c71
            clear c71
            by_cases c72 : t275 = t273
            ·rw [if_pos c72] at H
             have c72b0 : (t275 == t273) = true := beq_iff_eq.mpr c72
             have c72b1 : (t275 != t273) = false := bne_eq_false_iff_eq.mpr c72
             clear c72
             replace H := Option.bind_eq_some_iff.mp H
             obtain ⟨t276, A730, H⟩ := H
             replace H : ((laws_toRules.f kj49 l1_0).bind fun t279 => ((impl_Migrate.f kj49 t276 t279).bind fun bt282 => ((laws_eqIntS.f kj49 bt282.1 t244).bind fun t286 => (if t286 = true then (laws_FnExactMigrate.j2 kj49 t274 t273 (bt282.2 != t247)) else (laws_FnExactMigrate.j2 kj49 t274 t273 true))))) = some r := H
             have A73 := Aside0.mk A730
             clear A730
             replace H := Option.bind_eq_some_iff.mp H
             obtain ⟨t279, A740, H⟩ := H
             replace H : ((impl_Migrate.f kj49 t276 t279).bind fun bt282 => ((laws_eqIntS.f kj49 bt282.1 t244).bind fun t286 => (if t286 = true then (laws_FnExactMigrate.j2 kj49 t274 t273 (bt282.2 != t247)) else (laws_FnExactMigrate.j2 kj49 t274 t273 true)))) = some r := H
             have A74 := Aside0.mk A740
             clear A740
             replace H := Option.bind_eq_some_iff.mp H
             obtain ⟨⟨t282, t285⟩, A750, H⟩ := H
             replace H : ((laws_eqIntS.f kj49 t282 t244).bind fun t286 => (if t286 = true then (laws_FnExactMigrate.j2 kj49 t274 t273 (t285 != t247)) else (laws_FnExactMigrate.j2 kj49 t274 t273 true))) = some r := H
             have A75 := Aside0.mk A750
             clear A750
             have HC76 := Aside0.mk H
             clear H
             obtain ⟨Ao77, co77, eo77⟩ := Kd.R_slice HO_10.out
             subst eo77
             try go_wp2_with (first | ((with_reducible refine gate_callee (f := 18) rfl ?_); refine goesL_ (some 83) rfl rfl Try.func18 (by kernel_rfl) rfl #[.slice Ao77 t255.length co77, .int .i64 1] rfl (by (try simp only [List.map_toArray, List.map_cons, List.map_nil]); first | done | rfl | (simp only [List.length_drop, List.length_take]; rfl)) ?_; (with_reducible refine (laws_markIntS.calls kj49 (fun k_ => some k_ = (.slice Ao77 t255.length co77 : Value).ownBlock) (.slice Ao77 t255.length co77) t255 1 t273 t274 w _ ?side1 ?side2 A69.out).mono ?_); (case side1 => repeat (first | (with_reducible first | exact HB.out | apply below_alloc | apply pw_below_drewN | apply below_drew1 | refine below_set ?_ GE236.out | refine below_set ?_ GE254.out) | exact HB.out)); (case side2 => exact Kd.R_tight rfl HO_10.out); rintro e w78 ⟨rfl, hy0, hb, hkp⟩; refine ⟨_, rfl, ?_⟩; have n0_ := Aside0.mk (Kd.R_mono (ok' := fun k_ => some k_ ≠ (.slice Ao77 t255.length co77 : Value).ownBlock) (Kd.R_keptB (HO_6.out) hkp (fun k_ hk_ hs_ => by first | exact (hk_) hs_ | (simp only [show _ = _ from hs_, ne_eq, not_true_eq_false, and_false, false_and] at hk_; done) | simp_all)) (fun k_ hk_ => hk_.1)); have n1_ := Aside0.mk (Kd.R_reok rfl hy0 (fun k_ e_ => HO_10.out.1 k_ e_)); have n2_ := Aside0.mk (Kd.R_mono (ok' := fun k_ => True) (Kd.R_keptB ((Kd.R_apart' HO_255000.out (Kd.R_typed HO_10.out) (by decide))) hkp (fun k_ hk_ hs_ => by first | exact (hk_.2) hs_ | (simp only [show _ = _ from hs_, ne_eq, not_true_eq_false, and_false, false_and] at hk_; done) | simp_all)) (fun k_ hk_ => trivial)); have n3_ := Aside0.mk (blk_kept (pkb BK236.out) hkp (fun hs_ => (fun e_ => (Kd.R_ne HO_10.out BK236.out (by decide)) e_) hs_)); have n4_ := Aside0.mk (blk_kept (pkb BK254.out) hkp (fun hs_ => (fun e_ => (Kd.R_ne HO_10.out BK254.out (by decide)) e_) hs_)); have n5_ := Aside0.mk (hb); clear HO_6; clear HO_10; clear HO_255000; clear BK236; clear BK254; clear HB; have HO_6 := n0_; have HO_10 := n1_; have HO_255000 := n2_; have BK236 := n3_; have BK254 := n4_; have HB := n5_; clear n0_ n1_ n2_ n3_ n4_ n5_; (try clear hb); (try clear hkp); (try clear hy0)) | ((with_reducible refine gate_callee (f := 20) rfl ?_); refine goesL_ (some 86) rfl rfl Try.func20 (by kernel_rfl) rfl #[.slice Ao77 t274.length co77, .int .i64 1] rfl (by (try simp only [List.map_toArray, List.map_cons, List.map_nil]); first | done | (rw [show t274.length = t255.length from (Kd.R_reads' HO_10.out).1.symm] <;> rfl) | rfl | (simp only [List.length_drop, List.length_take]; rfl)) ?_; (with_reducible refine (laws_heldIntS.calls kj49 _ _ t274 1 t275 _ ?side1 ?side2 A70.out).mono ?_); (case side1 => repeat (first | exact (Kd.R_reads' HO_10.out).2.2 | (with_reducible refine Kd.C_alloc ?_ _) | (with_reducible refine Kd.C_drewN ?_ _) | (with_reducible refine Kd.C_drew ?_))); (case side2 => rw [show t274.length = t255.length from (Kd.R_reads' HO_10.out).1.symm]; exact (Kd.R_reads' HO_10.out).2.1); rintro e w' ⟨rfl, ⟨nd, rfl⟩⟩; refine ⟨_, rfl, ?_⟩))
             (try (rw [drewN_self w78]; generalize hq_ : World.drewN w78 _ = w78; have n0_ : Aside0 (Kd.R (Kd.int .i64) 3 w78 w.heap.size (fun k_ => some k_ ≠ (v245 : Value).ownBlock) (.slice Ao77 t255.length co77) t274) := ⟨by rw [← hq_]; exact (pkr HO_10.out)⟩; have n1_ : Aside0 (Kd.R k110 110 w78 w.heap.size (fun _ => True) (.slice Ao30 t271.length co30) t271) := ⟨by rw [← hq_]; exact (pkr HO_255000.out)⟩; have n2_ : Aside0 (Kd.R (Kd.int .i64) 3 w78 w.heap.size (fun k_ => some k_ ≠ (.slice Ao77 t255.length co77 : Value).ownBlock) v245 t244) := ⟨by rw [← hq_]; exact (pkr HO_6.out)⟩; have n3_ : Aside0 (w78.heap[gb236]? = some (.cells #[.slice A1_0 l1_0.length c1_0] 25 (0, 0))) := ⟨by rw [← hq_]; exact (pkb BK236.out)⟩; have n4_ : Aside0 (w78.heap[gb254]? = some (.cells #[.slice Ao30 t271.length co30] 32 (0, 0))) := ⟨by rw [← hq_]; exact (pkb BK254.out)⟩; have n5_ : Aside0 (Below w.heap.size w w78) := ⟨by rw [← hq_]; exact (by repeat (first | (with_reducible first | exact HB.out | apply below_alloc | apply pw_below_drewN | apply below_drew1 | refine below_set ?_ GE236.out | refine below_set ?_ GE254.out) | exact HB.out))⟩; clear HO_10 HO_255000 HO_6 BK236 BK254 HB hq_; have HO_10 := n0_; have HO_255000 := n1_; have HO_6 := n2_; have BK236 := n3_; have BK254 := n4_; have HB := n5_; clear n0_ n1_ n2_ n3_ n4_ n5_))
             have n0_ := Aside0.mk (Kd.R_drew HO_6.out)
             have n1_ := Aside0.mk (Kd.R_drew HO_10.out)
             have n2_ := Aside0.mk (Kd.R_drew HO_255000.out)
             have n3_ := Aside0.mk (blk_drew BK236.out)
             have n4_ := Aside0.mk (blk_drew BK254.out)
             have n5_ := Aside0.mk (below_drew1 HB.out)
             clear HO_6
             clear HO_10
             clear HO_255000
             clear BK236
             clear BK254
             clear HB
             have HO_6 := n0_
             have HO_10 := n1_
             have HO_255000 := n2_
             have BK236 := n3_
             have BK254 := n4_
             have HB := n5_
             clear n0_ n1_ n2_ n3_ n4_ n5_
             refine start_ (n := 10) (S := fun w' => w'.cell? ⟨gb236, 0, none⟩ = some (.slice A1_0 l1_0.length c1_0)) (ds := []) #[false, false, false, false, false, false, false, false, false, false] (by kernel_rfl) rfl rfl ((blk_cell BK236.out 0).trans rfl) (fun hHeld => ?_); refine with_tabW laws_FnExactMigrate.tab30 laws_FnExactMigrate.bits30 (fun HT_ HW_ => ?_)
             generalize w78.drew = w79 at HO_6 HO_10 HO_255000 BK236 BK254 HB hHeld ⊢
             refine pure_ (i := 0) (N := some 93) (v := ?_) (a' := ?_) #[true, false, false, false, false, false, false, false, false, false] rfl rfl (any_of HT_.out (by kernel_rfl)) (fun _ _ _ h => h) (Or.inl ⟨by rfl, ?_⟩) ?_ ?_
             rotate_left
             ·intro w'
              go_simp
              with_reducible rfl
             rotate_left
             ·simp only [Act.put, List.setIfInBounds_toArray, List.set_cons_zero, List.set_cons_succ, i64_w, i32_w]
              rfl
             refine take_ (i := 2) (N := some 95) (v := ?_) (a' := ?_) #[true, false, true, false, false, false, false, false, false, false] rfl rfl (take_ofW HT_.out HW_.out (by kernel_rfl)) (fun _ _ _ h => h) (Or.inl ⟨by rfl, ?_⟩) hHeld ?_ ?_
             rotate_left
             ·intro w' s0
              go_simp
              with_reducible rfl
             rotate_left
             ·simp only [Act.put, List.setIfInBounds_toArray, List.set_cons_zero, List.set_cons_succ, i64_w, i32_w]
              rfl
             refine one_ (i := 1) (N := some 94) #[true, true, true, false, false, false, false, false, false, false] rfl rfl (one_of HT_.out (by kernel_rfl)) (by decide) (fun K hK => ?_)
             refine goes_ Try.func13 (by kernel_rfl) rfl #[.slice A0 l0.length c0] (by rfl) rfl rfl (by (try simp only [List.map_toArray, List.map_cons, List.map_nil]); first | done | rfl | (simp only [List.length_drop, List.length_take]; rfl)) ?_
             with_reducible refine (laws_toIntS.calls kj49 _ _ l0 t276 _ ?side1 ?side2 A73.out).mono ?_
             (case side1 => repeat (first | exact (Kd.C_below HR0.out HB.out) | (with_reducible refine Kd.C_alloc ?_ _) | (with_reducible refine Kd.C_drewN ?_ _) | (with_reducible refine Kd.C_drew ?_)))
             (case side2 => exact HC0.out)
             rintro e w80 ⟨v277, rfl, ho0, hb⟩
             refine ⟨_, rfl, ?_⟩
             have n0_ := Aside0.mk (Kd.R_elder' (pkr HO_6.out) (Kd.R_base ho0) hb)
             have n1_ := Aside0.mk (Kd.R_elder' (pkr HO_10.out) (Kd.R_base ho0) hb)
             have n2_ := Aside0.mk (Kd.R_below (pkr HO_255000.out) hb)
             have n3_ := Aside0.mk (Kd.R_lower (Kd.R_new' (Kd.R_new' ho0 (Kd.R_lt (pkr HO_6.out))) (Kd.R_lt (pkr HO_10.out))) (below_size (by repeat (first | (with_reducible first | exact HB.out | apply below_alloc | apply pw_below_drewN | apply below_drew1 | refine below_set ?_ GE236.out | refine below_set ?_ GE254.out) | exact HB.out))))
             have n4_ := Aside0.mk (blk_below (g := gb236) (o := .cells #[.slice A1_0 l1_0.length c1_0] 25 (0, 0)) (pkb BK236.out) hb)
             have n5_ := Aside0.mk (blk_below (g := gb254) (o := .cells #[.slice Ao30 t271.length co30] 32 (0, 0)) (pkb BK254.out) hb)
             have n6_ := Aside0.mk (below_step (by repeat (first | (with_reducible first | exact HB.out | apply below_alloc | apply pw_below_drewN | apply below_drew1 | refine below_set ?_ GE236.out | refine below_set ?_ GE254.out) | exact HB.out)) hb)
             clear HO_6
             clear HO_10
             clear HO_255000
             clear BK236
             clear BK254
             clear HB
             have HO_6 := n0_
             have HO_10 := n1_
             have HO_255000 := n2_
             have HO278 := n3_
             have BK236 := n4_
             have BK254 := n5_
             have HB := n6_
             clear n0_ n1_ n2_ n3_ n4_ n5_ n6_
             (try clear hb)
             (try clear hb2)
             (try clear hk)
             (try clear hi)
             (try clear ho0)
             refine hK.out _ _ ((blk_cell BK236.out 0).trans rfl) (fun hHeld => ?_)
             clear hK K
             refine norm_ (a' := ?_) ?_ ?_
             rotate_left
             ·show Act.put _ (some 94) _ = _
              simp only [Act.put, List.setIfInBounds_toArray, List.set_cons_zero, List.set_cons_succ, i64_w, i32_w]
              rfl
             refine one_ (i := 3) (N := some 96) #[true, true, true, true, false, false, false, false, false, false] rfl rfl (one_of HT_.out (by kernel_rfl)) (by decide) (fun K hK => ?_)
             refine goes_ Try.func14 (by kernel_rfl) rfl #[.agg #[.slice A1_0 l1_0.length c1_0]] (by rfl) rfl rfl (by (try simp only [List.map_toArray, List.map_cons, List.map_nil]); first | done | rfl | (simp only [List.length_drop, List.length_take]; rfl)) ?_
             with_reducible refine (laws_toRules.calls kj49 _ _ l1_0 t279 _ ?side1 ?side2 A74.out).mono ?_
             (case side1 => repeat (first | exact (Kd.C_below HR1_0.out HB.out) | (with_reducible refine Kd.C_alloc ?_ _) | (with_reducible refine Kd.C_drewN ?_ _) | (with_reducible refine Kd.C_drew ?_)))
             (case side2 => exact HC1_0.out)
             rintro e w81 ⟨v280, rfl, ho0, hb⟩
             refine ⟨_, rfl, ?_⟩
             have n0_ := Aside0.mk (Kd.R_below (pkr HO_6.out) hb)
             have n1_ := Aside0.mk (Kd.R_below (pkr HO_10.out) hb)
             have n2_ := Aside0.mk (Kd.R_elder' (pkr HO_255000.out) (Kd.R_base ho0) hb)
             have n3_ := Aside0.mk (Kd.R_below (pkr HO278.out) hb)
             have n4_ := Aside0.mk (Kd.R_lower (Kd.R_new' ho0 (Kd.R_lt (pkr HO_255000.out))) (below_size (by repeat (first | (with_reducible first | exact HB.out | apply below_alloc | apply pw_below_drewN | apply below_drew1 | refine below_set ?_ GE236.out | refine below_set ?_ GE254.out) | exact HB.out))))
             have n5_ := Aside0.mk (blk_below (g := gb236) (o := .cells #[.slice A1_0 l1_0.length c1_0] 25 (0, 0)) (pkb BK236.out) hb)
             have n6_ := Aside0.mk (blk_below (g := gb254) (o := .cells #[.slice Ao30 t271.length co30] 32 (0, 0)) (pkb BK254.out) hb)
             have n7_ := Aside0.mk (below_step (by repeat (first | (with_reducible first | exact HB.out | apply below_alloc | apply pw_below_drewN | apply below_drew1 | refine below_set ?_ GE236.out | refine below_set ?_ GE254.out) | exact HB.out)) hb)
             clear HO_6
             clear HO_10
             clear HO_255000
             clear HO278
             clear BK236
             clear BK254
             clear HB
             have HO_6 := n0_
             have HO_10 := n1_
             have HO_255000 := n2_
             have HO278 := n3_
             have HO281 := n4_
             have BK236 := n5_
             have BK254 := n6_
             have HB := n7_
             clear n0_ n1_ n2_ n3_ n4_ n5_ n6_ n7_
             (try clear hb)
             (try clear hb2)
             (try clear hk)
             (try clear hi)
             (try clear ho0)
             obtain ⟨Ao82, co82, eo82⟩ := Kd.R_slice HO278.out
             (first | subst eo82 | (injection eo82 with f1_ f2_ f3_; have f4_ := f1_.symm; have f5_ := f3_.symm; clear f1_ f2_ f3_; subst f4_; subst f5_))
             obtain ⟨Ao83, co83, eo83⟩ := Kd.R_slice HO281.out
             (first | subst eo83 | (injection eo83 with f1_ f2_ f3_; have f4_ := f1_.symm; have f5_ := f3_.symm; clear f1_ f2_ f3_; subst f4_; subst f5_))
             refine hK.out _ _ ((blk_cell BK236.out 0).trans rfl) (fun hHeld => ?_)
             clear hK K
             refine norm_ (a' := ?_) ?_ ?_
             rotate_left
             ·show Act.put _ (some 96) _ = _
              simp only [Act.put, List.setIfInBounds_toArray, List.set_cons_zero, List.set_cons_succ, i64_w, i32_w]
              rfl
             refine one_ (i := 4) (N := some 97) #[true, true, true, true, true, false, false, false, false, false] rfl rfl (one_of HT_.out (by kernel_rfl)) (by decide) (fun K hK => ?_)
             refine goes_ Try.func15 (by kernel_rfl) rfl #[.slice Ao82 t276.length co82, .agg #[.slice Ao83 t279.length co83]] (by rfl) rfl rfl (by (try simp only [List.map_toArray, List.map_cons, List.map_nil]); first | done | rfl | (simp only [List.length_drop, List.length_take]; rfl)) ?_
             with_reducible refine (impl_Migrate.calls kj49 _ _ t276 _ _ t279 t282 t285 _ ?side1 ?side2 ?side3 ?side4 A75.out).mono ?_
             (case side1 => repeat (first | exact (Kd.R_reads' HO278.out).2.2 | (with_reducible refine Kd.C_alloc ?_ _) | (with_reducible refine Kd.C_drewN ?_ _) | (with_reducible refine Kd.C_drew ?_)))
             (case side2 => exact (Kd.R_reads' HO278.out).2.1)
             (case side3 => repeat (first | exact (Kd.R_reads' HO281.out).2.2 | (with_reducible refine Kd.C_alloc ?_ _) | (with_reducible refine Kd.C_drewN ?_ _) | (with_reducible refine Kd.C_drew ?_)))
             (case side4 => exact (Kd.R_reads' HO281.out).2.1)
             rintro e w84 ⟨v283, rfl, ho0, hb⟩
             refine ⟨_, rfl, ?_⟩
             have n0_ := Aside0.mk (Kd.R_elder' (pkr HO_6.out) (Kd.R_base ho0) hb)
             have n1_ := Aside0.mk (Kd.R_elder' (pkr HO_10.out) (Kd.R_base ho0) hb)
             have n2_ := Aside0.mk (Kd.R_below (pkr HO_255000.out) hb)
             have n3_ := Aside0.mk (Kd.R_elder' (pkr HO278.out) (Kd.R_base ho0) hb)
             have n4_ := Aside0.mk (Kd.R_below (pkr HO281.out) hb)
             have n5_ := Aside0.mk (Kd.R_lower (Kd.R_new' (Kd.R_new' (Kd.R_new' ho0 (Kd.R_lt (pkr HO_6.out))) (Kd.R_lt (pkr HO_10.out))) (Kd.R_lt (pkr HO278.out))) (below_size (by repeat (first | (with_reducible first | exact HB.out | apply below_alloc | apply pw_below_drewN | apply below_drew1 | refine below_set ?_ GE236.out | refine below_set ?_ GE254.out) | exact HB.out))))
             have n6_ := Aside0.mk (blk_below (g := gb236) (o := .cells #[.slice A1_0 l1_0.length c1_0] 25 (0, 0)) (pkb BK236.out) hb)
             have n7_ := Aside0.mk (blk_below (g := gb254) (o := .cells #[.slice Ao30 t271.length co30] 32 (0, 0)) (pkb BK254.out) hb)
             have n8_ := Aside0.mk (below_step (by repeat (first | (with_reducible first | exact HB.out | apply below_alloc | apply pw_below_drewN | apply below_drew1 | refine below_set ?_ GE236.out | refine below_set ?_ GE254.out) | exact HB.out)) hb)
             clear HO_6
             clear HO_10
             clear HO_255000
             clear HO278
             clear HO281
             clear BK236
             clear BK254
             clear HB
             have HO_6 := n0_
             have HO_10 := n1_
             have HO_255000 := n2_
             have HO278 := n3_
             have HO281 := n4_
             have HO284 := n5_
             have BK236 := n6_
             have BK254 := n7_
             have HB := n8_
             clear n0_ n1_ n2_ n3_ n4_ n5_ n6_ n7_ n8_
             (try clear hb)
             (try clear hb2)
             (try clear hk)
             (try clear hi)
             (try clear ho0)
             refine hK.out _ _ ((blk_cell BK236.out 0).trans rfl) (fun hHeld => ?_)
             clear hK K
             refine norm_ (a' := ?_) ?_ ?_
             rotate_left
             ·show Act.put _ (some 97) _ = _
              simp only [Act.put, List.setIfInBounds_toArray, List.set_cons_zero, List.set_cons_succ, i64_w, i32_w]
              rfl
             refine pure_ (i := 5) (N := some 92) (v := ?_) (a' := ?_) #[true, true, true, true, true, true, false, false, false, false] rfl rfl (any_of HT_.out (by kernel_rfl)) (fun _ _ _ h => h) (Or.inl ⟨by rfl, ?_⟩) ?_ ?_
             rotate_left
             ·intro w'
              go_simp
              with_reducible rfl
             rotate_left
             ·simp only [Act.put, List.setIfInBounds_toArray, List.set_cons_zero, List.set_cons_succ, i64_w, i32_w]
              rfl
             refine pure_ (i := 6) (N := some 98) (v := ?_) (a' := ?_) #[true, true, true, true, true, true, true, false, false, false] rfl rfl (any_of HT_.out (by kernel_rfl)) (fun _ _ _ h => h) (Or.inl ⟨by rfl, ?_⟩) ?_ ?_
             rotate_left
             ·intro w'
              go_simp
              with_reducible rfl
             rotate_left
             ·simp only [Act.put, List.setIfInBounds_toArray, List.set_cons_zero, List.set_cons_succ, i64_w, i32_w]
              rfl
             refine pure_ (i := 7) (N := some 99) (v := ?_) (a' := ?_) #[true, true, true, true, true, true, true, true, false, false] rfl rfl (any_of HT_.out (by kernel_rfl)) (fun _ _ _ h => h) (Or.inl ⟨by rfl, ?_⟩) ?_ ?_
             rotate_left
             ·intro w'
              go_simp
              with_reducible rfl
             rotate_left
             ·simp only [Act.put, List.setIfInBounds_toArray, List.set_cons_zero, List.set_cons_succ, i64_w, i32_w]
              rfl
             refine pure_ (i := 8) (N := some 15) (v := ?_) (a' := ?_) #[true, true, true, true, true, true, true, true, true, false] rfl rfl (any_of HT_.out (by kernel_rfl)) (fun _ _ _ h => h) (Or.inl ⟨by rfl, ?_⟩) ?_ ?_
             rotate_left
             ·intro w'
              go_simp
              with_reducible rfl
             rotate_left
             ·simp only [Act.put, List.setIfInBounds_toArray, List.set_cons_zero, List.set_cons_succ, i64_w, i32_w]
              rfl
             refine pure_ (i := 9) (N := some 16) (v := ?_) (a' := ?_) #[true, true, true, true, true, true, true, true, true, true] rfl rfl (any_of HT_.out (by kernel_rfl)) (fun _ _ _ h => h) (Or.inl ⟨by rfl, ?_⟩) ?_ ?_
             rotate_left
             ·intro w'
              go_simp
              with_reducible rfl
             rotate_left
             ·simp only [Act.put, List.setIfInBounds_toArray, List.set_cons_zero, List.set_cons_succ, i64_w, i32_w]
              rfl
             refine done_ (done_of HT_.out (by kernel_rfl)) ?_
             go_upto_region 31 with (fail)
             go_cut [108] (fun v108 wc => ∃ (kq : Nat) (x108_75 : Bool), v108 = .bool x108_75 ∧ Aside0 (laws_FnExactMigrate.j2 kq t274 t273 x108_75 = some r) ∧ Aside0 (kq ≤ kj49) ∧ Aside0 (Kd.R (Kd.int .i64) 3 wc w.heap.size (fun _ => True) (.slice Ao77 t255.length co77) t274) ∧ Aside0 (Kd.R k110 110 wc w.heap.size (fun _ => True) (.slice Ao30 t271.length co30) t271) ∧ Aside0 (wc.heap[gb236]? = some (.cells #[(.slice A1_0 l1_0.length c1_0)] 25 (0, 0))) ∧ Aside0 (wc.heap[gb254]? = some (.cells #[(.slice Ao30 t271.length co30)] 32 (0, 0))) ∧ Aside0 (Below w.heap.size w wc))
             case first =>
              have H := HC76.out
              clear HC76
              replace H := Option.bind_eq_some_iff.mp H
              obtain ⟨t286, A850, H⟩ := H
              replace H : (if t286 = true then (laws_FnExactMigrate.j2 kj49 t274 t273 (t285 != t247)) else (laws_FnExactMigrate.j2 kj49 t274 t273 true)) = some r := H
              have A85 := Aside0.mk A850
              clear A850
              by_cases c86 : t286 = true
              ·subst c86
               have H1 : (laws_FnExactMigrate.j2 kj49 t274 t273 (t285 != t247)) = some r := by rw [if_pos rfl] at H; exact H
               clear H
               have H := H1
               clear H1
               have H' := Aside0.mk H
               clear H
               obtain ⟨Ao87, co87, eo87⟩ := Kd.R_slice HO284.out
               subst eo87
               obtain ⟨Ao88, co88, eo88⟩ := Kd.R_slice HO_6.out
               subst eo88
               go_wp2_with (first | ((with_reducible refine gate_callee (f := 16) rfl ?_); refine goesL_ (some 102) rfl rfl Try.func16 (by kernel_rfl) rfl #[.slice Ao87 t282.length co87, .slice Ao88 t244.length co88] rfl (by (try simp only [List.map_toArray, List.map_cons, List.map_nil]); first | done | rfl | (simp only [List.length_drop, List.length_take]; rfl)) ?_; (with_reducible refine (laws_eqIntS.calls kj49 _ _ t282 _ _ t244 true _ ?side1 ?side2 ?side3 ?side4 A85.out).mono ?_); (case side1 => repeat (first | exact (Kd.R_reads' HO284.out).2.2 | (with_reducible refine Kd.C_alloc ?_ _) | (with_reducible refine Kd.C_drewN ?_ _) | (with_reducible refine Kd.C_drew ?_))); (case side2 => exact (Kd.R_reads' HO284.out).2.1); (case side3 => repeat (first | exact (Kd.R_reads' HO_6.out).2.2 | (with_reducible refine Kd.C_alloc ?_ _) | (with_reducible refine Kd.C_drewN ?_ _) | (with_reducible refine Kd.C_drew ?_))); (case side4 => exact (Kd.R_reads' HO_6.out).2.1); rintro e w' ⟨rfl, ⟨nd, rfl⟩⟩; refine ⟨_, rfl, ?_⟩))
               go_meet
               case rel => exact ⟨_, ((t285 != t247)), (by first | rfl | (simp; done) | (simp [*]; done)), H', ⟨by have := HJ15.out; have := HJ49.out; first | omega | exact Nat.le_refl _⟩, ⟨by (try simp only [hl255000_49]); (with_reducible repeat (first | apply Kd.R_alloc | apply Kd.R_drewN | apply Kd.R_drew)); exact Kd.R_mono HO_10.out (fun _ hk => trivial)⟩, ⟨by (try simp only [hl255000_49]); (with_reducible repeat (first | apply Kd.R_alloc | apply Kd.R_drewN | apply Kd.R_drew)); exact Kd.R_mono HO_255000.out (fun _ hk => trivial)⟩, ⟨by (try simp only [hl255000_49]); (with_reducible repeat (first | refine blk_drewN ?_ _ | refine blk_drew ?_ | refine blk_alloc ?_ _)); exact BK236.out⟩, ⟨by (try simp only [hl255000_49]); (with_reducible repeat (first | refine blk_drewN ?_ _ | refine blk_drew ?_ | refine blk_alloc ?_ _)); exact BK254.out⟩, ⟨by repeat (first | (with_reducible first | exact HB.out | apply below_alloc | apply pw_below_drewN | apply below_drew1 | refine below_set ?_ GE236.out | refine below_set ?_ GE254.out) | exact HB.out)⟩⟩
              ·replace c86 := Bool.eq_false_iff.mpr c86
               subst c86
               have H1 : (laws_FnExactMigrate.j2 kj49 t274 t273 true) = some r := by rw [if_neg (show ¬ (false = true) by decide)] at H; exact H
               clear H
               have H := H1
               clear H1
               have H' := Aside0.mk H
               clear H
               obtain ⟨Ao89, co89, eo89⟩ := Kd.R_slice HO284.out
               subst eo89
               obtain ⟨Ao90, co90, eo90⟩ := Kd.R_slice HO_6.out
               subst eo90
               go_wp2_with (first | ((with_reducible refine gate_callee (f := 16) rfl ?_); refine goesL_ (some 102) rfl rfl Try.func16 (by kernel_rfl) rfl #[.slice Ao89 t282.length co89, .slice Ao90 t244.length co90] rfl (by (try simp only [List.map_toArray, List.map_cons, List.map_nil]); first | done | rfl | (simp only [List.length_drop, List.length_take]; rfl)) ?_; (with_reducible refine (laws_eqIntS.calls kj49 _ _ t282 _ _ t244 false _ ?side1 ?side2 ?side3 ?side4 A85.out).mono ?_); (case side1 => repeat (first | exact (Kd.R_reads' HO284.out).2.2 | (with_reducible refine Kd.C_alloc ?_ _) | (with_reducible refine Kd.C_drewN ?_ _) | (with_reducible refine Kd.C_drew ?_))); (case side2 => exact (Kd.R_reads' HO284.out).2.1); (case side3 => repeat (first | exact (Kd.R_reads' HO_6.out).2.2 | (with_reducible refine Kd.C_alloc ?_ _) | (with_reducible refine Kd.C_drewN ?_ _) | (with_reducible refine Kd.C_drew ?_))); (case side4 => exact (Kd.R_reads' HO_6.out).2.1); rintro e w' ⟨rfl, ⟨nd, rfl⟩⟩; refine ⟨_, rfl, ?_⟩))
               go_meet
               case rel => exact ⟨_, (true), (by first | rfl | (simp; done) | (simp [*]; done)), H', ⟨by have := HJ15.out; have := HJ49.out; first | omega | exact Nat.le_refl _⟩, ⟨by (try simp only [hl255000_49]); (with_reducible repeat (first | apply Kd.R_alloc | apply Kd.R_drewN | apply Kd.R_drew)); exact Kd.R_mono HO_10.out (fun _ hk => trivial)⟩, ⟨by (try simp only [hl255000_49]); (with_reducible repeat (first | apply Kd.R_alloc | apply Kd.R_drewN | apply Kd.R_drew)); exact Kd.R_mono HO_255000.out (fun _ hk => trivial)⟩, ⟨by (try simp only [hl255000_49]); (with_reducible repeat (first | refine blk_drewN ?_ _ | refine blk_drew ?_ | refine blk_alloc ?_ _)); exact BK236.out⟩, ⟨by (try simp only [hl255000_49]); (with_reducible repeat (first | refine blk_drewN ?_ _ | refine blk_drew ?_ | refine blk_alloc ?_ _)); exact BK254.out⟩, ⟨by repeat (first | (with_reducible first | exact HB.out | apply below_alloc | apply pw_below_drewN | apply below_drew1 | refine below_set ?_ GE236.out | refine below_set ?_ GE254.out) | exact HB.out)⟩⟩
             case rest =>
              clear HC76
              try clear c1
              try clear c2
              try clear p2
              try clear c3
              try clear c3b0
              try clear c3b1
              try clear c4
              try clear c5
              try clear c6
              try clear c6b0
              try clear c7
              try clear c8
              try clear c11
              try clear c12
              try clear c13
              try clear c14
              try clear c15
              try clear c16
              try clear c17
              try clear c18
              try clear c19
              try clear c20
              try clear c31
              try clear c36
              try clear c41
              try clear c44
              try clear c47
              try clear c58
              try clear c61
              try clear c61b0
              try clear c63
              try clear c68
              try clear c71
              try clear c71b0
              try clear c72
              try clear c72b0
              try clear c72b1
              try clear c86
              try clear hcz18_0
              try clear hcz27_0
              try clear hcz32_0
              try clear hcz59_0
              try clear hcz8_0
              try clear hfz18_0
              try clear hfz27_0
              try clear hfz32_0
              try clear hfz59_0
              try clear hfz8_0
              try clear p2
              obtain ⟨kq, x108_75, rfl, HA, HJ75, HO_10, HO_255000, BK236, BK254, HB⟩ := hcut
              have hl10_75 := (Kd.R_reads' HO_10.out).1
              rw [hl10_75] at HO_10
              (try simp only [hl10_75])
              (try simp only [hl10_75] at BK236)
              (try simp only [hl10_75] at BK254)
              (try simp only [hl10_75] at HO_255000)
              cases kq with
              | zero => exact absurd HA.out (by simp [laws_FnExactMigrate.j2])
              | succ kj75 =>
               have H := HA.out
               clear HA
               simp only [laws_FnExactMigrate.j2] at H
               by_cases c91 : x108_75 = true
               ·subst c91
                have H1 : (none) = some r := by rw [if_pos rfl] at H; exact H
                clear H
                have H := H1
                clear H1
                exact absurd H (by simp)
               ·replace c91 := Bool.eq_false_iff.mpr c91
                subst c91
                have H1 : ((laws_heldIntS.f kj75 t274 1).bind fun t287 => (if t287 < 0 then (none) else (if t287 = t273 then (some true) else (none)))) = some r := by rw [if_neg (show ¬ (false = true) by decide)] at H; exact H
                clear H
                have H := H1
                clear H1
                replace H := Option.bind_eq_some_iff.mp H
                obtain ⟨t287, A920, H⟩ := H
                replace H : (if t287 < 0 then (none) else (if t287 = t273 then (some true) else (none))) = some r := H
                have A92 := Aside0.mk A920
                clear A920
                by_cases c93 : t287 < 0
                ·rw [if_pos c93] at H
                 exact absurd H (by simp)
                ·rw [if_neg c93] at H
                 have c93b0 : decide (t287 < 0) = false := decide_eq_false c93
                 clear c93
                 by_cases c94 : t287 = t273
                 ·rw [if_pos c94] at H
                  have c94b0 : (t287 == t273) = true := beq_iff_eq.mpr c94
                  have c94b1 : (t287 != t273) = false := bne_eq_false_iff_eq.mpr c94
                  clear c94
                  obtain rfl := Option.some.inj H
                  go_wp2_with (first | ((with_reducible refine gate_callee (f := 20) rfl ?_); refine goesL_ (some 111) rfl rfl Try.func20 (by kernel_rfl) rfl #[.slice Ao77 t274.length co77, .int .i64 1] rfl (by (try simp only [List.map_toArray, List.map_cons, List.map_nil]); first | done | rfl | (simp only [List.length_drop, List.length_take]; rfl)) ?_; (with_reducible refine (laws_heldIntS.calls kj75 _ _ t274 1 t287 _ ?side1 ?side2 A92.out).mono ?_); (case side1 => repeat (first | exact (Kd.R_reads' HO_10.out).2.2 | (with_reducible refine Kd.C_alloc ?_ _) | (with_reducible refine Kd.C_drewN ?_ _) | (with_reducible refine Kd.C_drew ?_))); (case side2 => exact (Kd.R_reads' HO_10.out).2.1); rintro e w' ⟨rfl, ⟨nd, rfl⟩⟩; refine ⟨_, rfl, ?_⟩))
                  go_ret
                  exact ⟨by first | rfl | (simp [errW_none, errW_some] <;> rfl) | (simp [*, errW_none, errW_some] <;> rfl), by repeat (first | (with_reducible first | exact HB.out | apply below_alloc | apply pw_below_drewN | apply below_drew1 | refine below_set ?_ GE236.out | refine below_set ?_ GE254.out) | exact HB.out)⟩
                 ·rw [if_neg c94] at H
                  exact absurd H (by simp)
            ·rw [if_neg c72] at H
             exact absurd H (by simp)
       ·replace c47 := Bool.eq_false_iff.mpr c47
        subst c47
        have H1 : (none) = some r := by rw [if_neg (show ¬ (false = true) by decide)] at H; exact H
        clear H
        have H := H1
        clear H1
        exact absurd H (by simp)
      ·replace c44 := Bool.eq_false_iff.mpr c44
       subst c44
       have H1 : (none) = some r := by rw [if_neg (show ¬ (false = true) by decide)] at H; exact H
       clear H
       have H := H1
       clear H1
       exact absurd H (by simp)

end Go.Proofs.Ytplhnalfhblkgaa.PFnExactMigrate
