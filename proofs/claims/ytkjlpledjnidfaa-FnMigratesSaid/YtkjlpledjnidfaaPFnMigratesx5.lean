-- written by xprint.py for this seat
import Derived.Test.YtkjlpledjnidfaaPFnMigratesx0
import Derived.Test.YtkjlpledjnidfaaPFnMigratesx1
import Derived.Test.YtkjlpledjnidfaaPFnMigratesx2
import Derived.Test.YtkjlpledjnidfaaPFnMigratesx3
import Derived.Test.YtkjlpledjnidfaaPFnMigratesx4
namespace Go.Proofs.Ytkjlpledjnidfaa.PFnMigrates
open Go.RowKit Go.Proofs.YtkjlpledjnidfaaW.PrintWords Go.Proofs.YtkjlpledjnidfaaW.PrintLast Go.Proofs.YtkjlpledjnidfaaW.PrintMore
attribute [local go_sem] max2_int min2_int max_two min_two max_three min_three max_four min_four   -- for this text's walks alone
set_option linter.unusedVariables false
set_option linter.unusedSimpArgs false

/-! ### laws_FnMigrates: function 5 -/
def laws_FnMigrates.f (k : Nat) (l0 : List Int) : Option (Bool) := (laws_big.f l0).bind fun t287 => (if t287 = true then (some true) else ((spec_DrawVars.f k l0).bind fun t288 => ((spec_DrawRules.f k l0).bind fun t291 => ((spec_DrawPlaces.f k l0).bind fun t295 => ((impl_IdentityRules.f k).bind fun t298 => ((impl_Migrate.f k t288 t298).bind fun bt301 => ((impl_Migrate.f k t288 t291).bind fun bt305 => ((impl_IdentityRules.f k).bind fun t309 => ((impl_ThenRules.f k t291 t288 t309).bind fun bt312 => (if 0 < (t295.length : Int) then (if bt301.2 = true then ((laws_sameInts.f k bt301.1 t288).bind fun t317 => (if t317 = true then (if bt305.2 = true then (if (bt305.1.length : Int) = 8 then (if 0 ≤ (Int.tmod (rd t295 0) 8) then (if (Int.tmod (rd t295 0) 8) < (bt305.1.length : Int) then (if (Int.tmod (rd t295 0) 8) < (t291.length : Int) then ((impl_EvalExpr.f k t288 ((rd_T58 t291 (Int.tmod (rd t295 0) 8)).f0) ((rd_T58 t291 (Int.tmod (rd t295 0) 8)).f1) ((rd_T58 t291 (Int.tmod (rd t295 0) 8)).f2)).bind fun t320 => (if (rd bt305.1 (Int.tmod (rd t295 0) 8)) = t320 then (if bt312.2 = true then ((laws_sameInts.f k bt312.1 bt305.1).bind fun t321 => (if t321 = true then ((impl_RulesOk.f k t291).bind fun t322 => (some t322)) else (none))) else (none)) else (none))) else (none)) else (none)) else (none)) else (none)) else (none)) else (none))) else (none)) else (none)))))))))))
theorem laws_FnMigrates.mono : ∀ a0 k, LeO (laws_FnMigrates.f k a0) (laws_FnMigrates.f (k + 1) a0) := by
 intro a0 k
 unfold laws_FnMigrates.f
 repeat' first
   | (with_reducible exact impl_EvalExpr.mono _ _ _ _ _)
   | (with_reducible exact impl_IdentityRules.mono _)
   | (with_reducible exact impl_Migrate.mono _ _ _)
   | (with_reducible exact impl_RulesOk.mono _ _)
   | (with_reducible exact impl_ThenRules.mono _ _ _ _)
   | (with_reducible exact laws_sameInts.mono _ _ _)
   | (with_reducible exact spec_DrawPlaces.mono _ _)
   | (with_reducible exact spec_DrawRules.mono _ _)
   | (with_reducible exact spec_DrawVars.mono _ _)
   | (with_reducible exact LeO.refl _)
   | (with_reducible exact LeO.none _)
   | (with_reducible refine LeO.ite ?_ ?_)
   | (with_reducible refine LeO.bind ?_ (fun _ => ?_))
   | exact impl_EvalExpr.mono _ _ _ _ _
   | exact impl_IdentityRules.mono _
   | exact impl_Migrate.mono _ _ _
   | exact impl_RulesOk.mono _ _
   | exact impl_ThenRules.mono _ _ _ _
   | exact laws_sameInts.mono _ _ _
   | exact spec_DrawPlaces.mono _ _
   | exact spec_DrawRules.mono _ _
   | exact spec_DrawVars.mono _ _
   | exact LeO.none _
   | refine LeO.ite ?_ ?_
   | refine LeO.bind ?_ (fun _ => ?_)
def laws_FnMigrates.T8 : Bool × List (List Nat × List Nat) := (true, [([], []), ([], []), ([], []), ([0, 1, 2, 2], [0, 1, 2]), ([3], [3]), ([4], [4]), ([4], [4]), ([5, 3, 0, 1, 2, 3, 4, 5], [5]), ([6, 7, 0, 1, 2, 3, 4, 5, 6, 7], [6])])
def laws_FnMigrates.B8 : List Nat := [0, 0, 0, 7, 15, 31, 31, 63, 255]
theorem laws_FnMigrates.tab8 : rtab .any (opsOf Try.f5 8) = laws_FnMigrates.T8 := by kernel_rfl
theorem laws_FnMigrates.bits8 : waitsOk laws_FnMigrates.T8.2 laws_FnMigrates.B8 = true := by kernel_rfl
def laws_FnMigrates.T10 : Bool × List (List Nat × List Nat) := (true, [([], []), ([0], [0]), ([1], [1]), ([1], [1]), ([2, 3, 1, 1], [1, 2, 3]), ([1, 4], [1, 4]), ([5, 4], [5]), ([6], [6]), ([6, 7], [6, 7]), ([8, 6], [8]), ([9], [9]), ([10, 9], [9, 10]), ([11, 9], [9, 11]), ([9, 12], [9, 12]), ([13, 9], [13]), ([14], [14]), ([14], [14]), ([15, 16, 14], [14, 15, 16]), ([17, 14], [14, 17]), ([14], [14]), ([14], [14]), ([20, 14], [14, 20]), ([14], [14]), ([21, 22, 14], [14, 21, 22]), ([23, 14], [14, 23]), ([19, 24, 14, 14], [14, 19, 24]), ([18, 25, 14], [14, 18, 25]), ([14, 26], [14, 26]), ([27, 25], [27]), ([28], [28]), ([28, 29], [28, 29]), ([30, 28], [30]), ([31], [31]), ([31], [31]), ([32, 33, 31, 31], [31, 32, 33]), ([31, 34], [31, 34]), ([35, 34], [35]), ([36], [36]), ([37, 36, 36], [36, 37]), ([36, 38], [36, 38]), ([39, 38, 0, 1, 2, 3, 4, 5, 6, 7, 8, 9, 10, 11, 12, 13, 14, 15, 16, 17, 18, 19, 20, 21, 22, 23, 24, 25, 26, 27, 28, 29, 30, 31, 32, 33, 34, 35, 36, 37, 38, 39], [39])])
def laws_FnMigrates.B10 : List Nat := [0, 1, 3, 3, 15, 31, 63, 127, 255, 511, 1023, 2047, 4095, 8191, 16383, 32767, 32767, 131071, 262143, 32767, 32767, 1081343, 32767, 7372799, 15761407, 33062911, 67108863, 134217727, 268435455, 536870911, 1073741823, 2147483647, 4294967295, 4294967295, 17179869183, 34359738367, 68719476735, 137438953471, 274877906943, 549755813887, 1099511627775]
theorem laws_FnMigrates.tab10 : rtab .any (opsOf Try.f5 10) = laws_FnMigrates.T10 := by kernel_rfl
theorem laws_FnMigrates.bits10 : waitsOk laws_FnMigrates.T10.2 laws_FnMigrates.B10 = true := by kernel_rfl
set_option maxHeartbeats 8000000 in
set_option maxRecDepth 100000 in
theorem laws_FnMigrates.calls (k : Nat) (A0 : Option Addr) (c0 : Nat) (l0 : List Int) (r : Bool) (w : World) (hr0 : Kd.C (Kd.int .u8) w A0 l0.length l0) (hc0 : l0.length ≤ c0) (h : laws_FnMigrates.f k l0 = some r) :
  Calls Try.prog 5 #[.slice A0 l0.length c0] w fun e w' => e = .returned (.bool r) ∧ Below w.heap.size w w' := by
 have hu50 := Try.underlying50
 have hu58 := Try.underlying58
 have HR0 := Aside0.mk hr0
 have HC0 := Aside0.mk hc0
 clear hr0 hc0
 have HB := Aside0.mk (Below.refl w.heap.size w)
 have H : ((laws_big.f l0).bind fun t287 => (if t287 = true then (some true) else ((spec_DrawVars.f k l0).bind fun t288 => ((spec_DrawRules.f k l0).bind fun t291 => ((spec_DrawPlaces.f k l0).bind fun t295 => ((impl_IdentityRules.f k).bind fun t298 => ((impl_Migrate.f k t288 t298).bind fun bt301 => ((impl_Migrate.f k t288 t291).bind fun bt305 => ((impl_IdentityRules.f k).bind fun t309 => ((impl_ThenRules.f k t291 t288 t309).bind fun bt312 => (if 0 < (t295.length : Int) then (if bt301.2 = true then ((laws_sameInts.f k bt301.1 t288).bind fun t317 => (if t317 = true then (if bt305.2 = true then (if (bt305.1.length : Int) = 8 then (if 0 ≤ (Int.tmod (rd t295 0) 8) then (if (Int.tmod (rd t295 0) 8) < (bt305.1.length : Int) then (if (Int.tmod (rd t295 0) 8) < (t291.length : Int) then ((impl_EvalExpr.f k t288 ((rd_T58 t291 (Int.tmod (rd t295 0) 8)).f0) ((rd_T58 t291 (Int.tmod (rd t295 0) 8)).f1) ((rd_T58 t291 (Int.tmod (rd t295 0) 8)).f2)).bind fun t320 => (if (rd bt305.1 (Int.tmod (rd t295 0) 8)) = t320 then (if bt312.2 = true then ((laws_sameInts.f k bt312.1 bt305.1).bind fun t321 => (if t321 = true then ((impl_RulesOk.f k t291).bind fun t322 => (some t322)) else (none))) else (none)) else (none))) else (none)) else (none)) else (none)) else (none)) else (none)) else (none))) else (none)) else (none)))))))))))) = some r := h
 clear h
 replace H := Option.bind_eq_some_iff.mp H
 obtain ⟨t287, A20, H⟩ := H
 replace H : (if t287 = true then (some true) else ((spec_DrawVars.f k l0).bind fun t288 => ((spec_DrawRules.f k l0).bind fun t291 => ((spec_DrawPlaces.f k l0).bind fun t295 => ((impl_IdentityRules.f k).bind fun t298 => ((impl_Migrate.f k t288 t298).bind fun bt301 => ((impl_Migrate.f k t288 t291).bind fun bt305 => ((impl_IdentityRules.f k).bind fun t309 => ((impl_ThenRules.f k t291 t288 t309).bind fun bt312 => (if 0 < (t295.length : Int) then (if bt301.2 = true then ((laws_sameInts.f k bt301.1 t288).bind fun t317 => (if t317 = true then (if bt305.2 = true then (if (bt305.1.length : Int) = 8 then (if 0 ≤ (Int.tmod (rd t295 0) 8) then (if (Int.tmod (rd t295 0) 8) < (bt305.1.length : Int) then (if (Int.tmod (rd t295 0) 8) < (t291.length : Int) then ((impl_EvalExpr.f k t288 ((rd_T58 t291 (Int.tmod (rd t295 0) 8)).f0) ((rd_T58 t291 (Int.tmod (rd t295 0) 8)).f1) ((rd_T58 t291 (Int.tmod (rd t295 0) 8)).f2)).bind fun t320 => (if (rd bt305.1 (Int.tmod (rd t295 0) 8)) = t320 then (if bt312.2 = true then ((laws_sameInts.f k bt312.1 bt305.1).bind fun t321 => (if t321 = true then ((impl_RulesOk.f k t291).bind fun t322 => (some t322)) else (none))) else (none)) else (none))) else (none)) else (none)) else (none)) else (none)) else (none)) else (none))) else (none)) else (none))))))))))) = some r := H
 have A2 := Aside0.mk A20
 clear A20
 by_cases c3 : t287 = true
 ·subst c3
  have H1 : (some true) = some r := by rw [if_pos rfl] at H; exact H
  clear H
  have H := H1
  clear H1
  obtain rfl := Option.some.inj H
  go_enter Try.func5, Try.ntmps5
  go_wp2_with (first | ((with_reducible refine gate_callee (f := 15) rfl ?_); refine goesL_ (some 14) rfl rfl Try.func15 (by kernel_rfl) rfl #[.slice A0 l0.length c0] rfl (by (try simp only [List.map_toArray, List.map_cons, List.map_nil]); first | done | rfl | (simp only [List.length_drop, List.length_take]; rfl)) ?_; (with_reducible refine (laws_big.calls _ _ l0 true _ ?side1 ?side2 A2.out).mono ?_); (case side1 => repeat (first | exact HR0.out | (with_reducible refine Kd.C_alloc ?_ _) | (with_reducible refine Kd.C_drewN ?_ _) | (with_reducible refine Kd.C_drew ?_))); (case side2 => exact HC0.out); rintro e w' ⟨rfl, ⟨nd, rfl⟩⟩; refine ⟨_, rfl, ?_⟩))
  go_ret
  exact ⟨by first | rfl | (simp [errW_none, errW_some] <;> rfl) | (simp [*, errW_none, errW_some] <;> rfl), by repeat (first | (with_reducible first | exact HB.out | apply below_alloc | apply pw_below_drewN | apply below_drew1) | exact HB.out)⟩
 ·replace c3 := Bool.eq_false_iff.mpr c3
  subst c3
  have H1 : ((spec_DrawVars.f k l0).bind fun t288 => ((spec_DrawRules.f k l0).bind fun t291 => ((spec_DrawPlaces.f k l0).bind fun t295 => ((impl_IdentityRules.f k).bind fun t298 => ((impl_Migrate.f k t288 t298).bind fun bt301 => ((impl_Migrate.f k t288 t291).bind fun bt305 => ((impl_IdentityRules.f k).bind fun t309 => ((impl_ThenRules.f k t291 t288 t309).bind fun bt312 => (if 0 < (t295.length : Int) then (if bt301.2 = true then ((laws_sameInts.f k bt301.1 t288).bind fun t317 => (if t317 = true then (if bt305.2 = true then (if (bt305.1.length : Int) = 8 then (if 0 ≤ (Int.tmod (rd t295 0) 8) then (if (Int.tmod (rd t295 0) 8) < (bt305.1.length : Int) then (if (Int.tmod (rd t295 0) 8) < (t291.length : Int) then ((impl_EvalExpr.f k t288 ((rd_T58 t291 (Int.tmod (rd t295 0) 8)).f0) ((rd_T58 t291 (Int.tmod (rd t295 0) 8)).f1) ((rd_T58 t291 (Int.tmod (rd t295 0) 8)).f2)).bind fun t320 => (if (rd bt305.1 (Int.tmod (rd t295 0) 8)) = t320 then (if bt312.2 = true then ((laws_sameInts.f k bt312.1 bt305.1).bind fun t321 => (if t321 = true then ((impl_RulesOk.f k t291).bind fun t322 => (some t322)) else (none))) else (none)) else (none))) else (none)) else (none)) else (none)) else (none)) else (none)) else (none))) else (none)) else (none)))))))))) = some r := by rw [if_neg (show ¬ (false = true) by decide)] at H; exact H
  clear H
  have H := H1
  clear H1
  replace H := Option.bind_eq_some_iff.mp H
  obtain ⟨t288, A40, H⟩ := H
  replace H : ((spec_DrawRules.f k l0).bind fun t291 => ((spec_DrawPlaces.f k l0).bind fun t295 => ((impl_IdentityRules.f k).bind fun t298 => ((impl_Migrate.f k t288 t298).bind fun bt301 => ((impl_Migrate.f k t288 t291).bind fun bt305 => ((impl_IdentityRules.f k).bind fun t309 => ((impl_ThenRules.f k t291 t288 t309).bind fun bt312 => (if 0 < (t295.length : Int) then (if bt301.2 = true then ((laws_sameInts.f k bt301.1 t288).bind fun t317 => (if t317 = true then (if bt305.2 = true then (if (bt305.1.length : Int) = 8 then (if 0 ≤ (Int.tmod (rd t295 0) 8) then (if (Int.tmod (rd t295 0) 8) < (bt305.1.length : Int) then (if (Int.tmod (rd t295 0) 8) < (t291.length : Int) then ((impl_EvalExpr.f k t288 ((rd_T58 t291 (Int.tmod (rd t295 0) 8)).f0) ((rd_T58 t291 (Int.tmod (rd t295 0) 8)).f1) ((rd_T58 t291 (Int.tmod (rd t295 0) 8)).f2)).bind fun t320 => (if (rd bt305.1 (Int.tmod (rd t295 0) 8)) = t320 then (if bt312.2 = true then ((laws_sameInts.f k bt312.1 bt305.1).bind fun t321 => (if t321 = true then ((impl_RulesOk.f k t291).bind fun t322 => (some t322)) else (none))) else (none)) else (none))) else (none)) else (none)) else (none)) else (none)) else (none)) else (none))) else (none)) else (none))))))))) = some r := H
  have A4 := Aside0.mk A40
  clear A40
  replace H := Option.bind_eq_some_iff.mp H
  obtain ⟨t291, A50, H⟩ := H
  replace H : ((spec_DrawPlaces.f k l0).bind fun t295 => ((impl_IdentityRules.f k).bind fun t298 => ((impl_Migrate.f k t288 t298).bind fun bt301 => ((impl_Migrate.f k t288 t291).bind fun bt305 => ((impl_IdentityRules.f k).bind fun t309 => ((impl_ThenRules.f k t291 t288 t309).bind fun bt312 => (if 0 < (t295.length : Int) then (if bt301.2 = true then ((laws_sameInts.f k bt301.1 t288).bind fun t317 => (if t317 = true then (if bt305.2 = true then (if (bt305.1.length : Int) = 8 then (if 0 ≤ (Int.tmod (rd t295 0) 8) then (if (Int.tmod (rd t295 0) 8) < (bt305.1.length : Int) then (if (Int.tmod (rd t295 0) 8) < (t291.length : Int) then ((impl_EvalExpr.f k t288 ((rd_T58 t291 (Int.tmod (rd t295 0) 8)).f0) ((rd_T58 t291 (Int.tmod (rd t295 0) 8)).f1) ((rd_T58 t291 (Int.tmod (rd t295 0) 8)).f2)).bind fun t320 => (if (rd bt305.1 (Int.tmod (rd t295 0) 8)) = t320 then (if bt312.2 = true then ((laws_sameInts.f k bt312.1 bt305.1).bind fun t321 => (if t321 = true then ((impl_RulesOk.f k t291).bind fun t322 => (some t322)) else (none))) else (none)) else (none))) else (none)) else (none)) else (none)) else (none)) else (none)) else (none))) else (none)) else (none)))))))) = some r := H
  have A5 := Aside0.mk A50
  clear A50
  replace H := Option.bind_eq_some_iff.mp H
  obtain ⟨t295, A60, H⟩ := H
  replace H : ((impl_IdentityRules.f k).bind fun t298 => ((impl_Migrate.f k t288 t298).bind fun bt301 => ((impl_Migrate.f k t288 t291).bind fun bt305 => ((impl_IdentityRules.f k).bind fun t309 => ((impl_ThenRules.f k t291 t288 t309).bind fun bt312 => (if 0 < (t295.length : Int) then (if bt301.2 = true then ((laws_sameInts.f k bt301.1 t288).bind fun t317 => (if t317 = true then (if bt305.2 = true then (if (bt305.1.length : Int) = 8 then (if 0 ≤ (Int.tmod (rd t295 0) 8) then (if (Int.tmod (rd t295 0) 8) < (bt305.1.length : Int) then (if (Int.tmod (rd t295 0) 8) < (t291.length : Int) then ((impl_EvalExpr.f k t288 ((rd_T58 t291 (Int.tmod (rd t295 0) 8)).f0) ((rd_T58 t291 (Int.tmod (rd t295 0) 8)).f1) ((rd_T58 t291 (Int.tmod (rd t295 0) 8)).f2)).bind fun t320 => (if (rd bt305.1 (Int.tmod (rd t295 0) 8)) = t320 then (if bt312.2 = true then ((laws_sameInts.f k bt312.1 bt305.1).bind fun t321 => (if t321 = true then ((impl_RulesOk.f k t291).bind fun t322 => (some t322)) else (none))) else (none)) else (none))) else (none)) else (none)) else (none)) else (none)) else (none)) else (none))) else (none)) else (none))))))) = some r := H
  have A6 := Aside0.mk A60
  clear A60
  replace H := Option.bind_eq_some_iff.mp H
  obtain ⟨t298, A70, H⟩ := H
  replace H : ((impl_Migrate.f k t288 t298).bind fun bt301 => ((impl_Migrate.f k t288 t291).bind fun bt305 => ((impl_IdentityRules.f k).bind fun t309 => ((impl_ThenRules.f k t291 t288 t309).bind fun bt312 => (if 0 < (t295.length : Int) then (if bt301.2 = true then ((laws_sameInts.f k bt301.1 t288).bind fun t317 => (if t317 = true then (if bt305.2 = true then (if (bt305.1.length : Int) = 8 then (if 0 ≤ (Int.tmod (rd t295 0) 8) then (if (Int.tmod (rd t295 0) 8) < (bt305.1.length : Int) then (if (Int.tmod (rd t295 0) 8) < (t291.length : Int) then ((impl_EvalExpr.f k t288 ((rd_T58 t291 (Int.tmod (rd t295 0) 8)).f0) ((rd_T58 t291 (Int.tmod (rd t295 0) 8)).f1) ((rd_T58 t291 (Int.tmod (rd t295 0) 8)).f2)).bind fun t320 => (if (rd bt305.1 (Int.tmod (rd t295 0) 8)) = t320 then (if bt312.2 = true then ((laws_sameInts.f k bt312.1 bt305.1).bind fun t321 => (if t321 = true then ((impl_RulesOk.f k t291).bind fun t322 => (some t322)) else (none))) else (none)) else (none))) else (none)) else (none)) else (none)) else (none)) else (none)) else (none))) else (none)) else (none)))))) = some r := H
  have A7 := Aside0.mk A70
  clear A70
  replace H := Option.bind_eq_some_iff.mp H
  obtain ⟨⟨t301, t304⟩, A80, H⟩ := H
  replace H : ((impl_Migrate.f k t288 t291).bind fun bt305 => ((impl_IdentityRules.f k).bind fun t309 => ((impl_ThenRules.f k t291 t288 t309).bind fun bt312 => (if 0 < (t295.length : Int) then (if t304 = true then ((laws_sameInts.f k t301 t288).bind fun t317 => (if t317 = true then (if bt305.2 = true then (if (bt305.1.length : Int) = 8 then (if 0 ≤ (Int.tmod (rd t295 0) 8) then (if (Int.tmod (rd t295 0) 8) < (bt305.1.length : Int) then (if (Int.tmod (rd t295 0) 8) < (t291.length : Int) then ((impl_EvalExpr.f k t288 ((rd_T58 t291 (Int.tmod (rd t295 0) 8)).f0) ((rd_T58 t291 (Int.tmod (rd t295 0) 8)).f1) ((rd_T58 t291 (Int.tmod (rd t295 0) 8)).f2)).bind fun t320 => (if (rd bt305.1 (Int.tmod (rd t295 0) 8)) = t320 then (if bt312.2 = true then ((laws_sameInts.f k bt312.1 bt305.1).bind fun t321 => (if t321 = true then ((impl_RulesOk.f k t291).bind fun t322 => (some t322)) else (none))) else (none)) else (none))) else (none)) else (none)) else (none)) else (none)) else (none)) else (none))) else (none)) else (none))))) = some r := H
  have A8 := Aside0.mk A80
  clear A80
  replace H := Option.bind_eq_some_iff.mp H
  obtain ⟨⟨t305, t308⟩, A90, H⟩ := H
  replace H : ((impl_IdentityRules.f k).bind fun t309 => ((impl_ThenRules.f k t291 t288 t309).bind fun bt312 => (if 0 < (t295.length : Int) then (if t304 = true then ((laws_sameInts.f k t301 t288).bind fun t317 => (if t317 = true then (if t308 = true then (if (t305.length : Int) = 8 then (if 0 ≤ (Int.tmod (rd t295 0) 8) then (if (Int.tmod (rd t295 0) 8) < (t305.length : Int) then (if (Int.tmod (rd t295 0) 8) < (t291.length : Int) then ((impl_EvalExpr.f k t288 ((rd_T58 t291 (Int.tmod (rd t295 0) 8)).f0) ((rd_T58 t291 (Int.tmod (rd t295 0) 8)).f1) ((rd_T58 t291 (Int.tmod (rd t295 0) 8)).f2)).bind fun t320 => (if (rd t305 (Int.tmod (rd t295 0) 8)) = t320 then (if bt312.2 = true then ((laws_sameInts.f k bt312.1 t305).bind fun t321 => (if t321 = true then ((impl_RulesOk.f k t291).bind fun t322 => (some t322)) else (none))) else (none)) else (none))) else (none)) else (none)) else (none)) else (none)) else (none)) else (none))) else (none)) else (none)))) = some r := H
  have A9 := Aside0.mk A90
  clear A90
  replace H := Option.bind_eq_some_iff.mp H
  obtain ⟨t309, A100, H⟩ := H
  replace H : ((impl_ThenRules.f k t291 t288 t309).bind fun bt312 => (if 0 < (t295.length : Int) then (if t304 = true then ((laws_sameInts.f k t301 t288).bind fun t317 => (if t317 = true then (if t308 = true then (if (t305.length : Int) = 8 then (if 0 ≤ (Int.tmod (rd t295 0) 8) then (if (Int.tmod (rd t295 0) 8) < (t305.length : Int) then (if (Int.tmod (rd t295 0) 8) < (t291.length : Int) then ((impl_EvalExpr.f k t288 ((rd_T58 t291 (Int.tmod (rd t295 0) 8)).f0) ((rd_T58 t291 (Int.tmod (rd t295 0) 8)).f1) ((rd_T58 t291 (Int.tmod (rd t295 0) 8)).f2)).bind fun t320 => (if (rd t305 (Int.tmod (rd t295 0) 8)) = t320 then (if bt312.2 = true then ((laws_sameInts.f k bt312.1 t305).bind fun t321 => (if t321 = true then ((impl_RulesOk.f k t291).bind fun t322 => (some t322)) else (none))) else (none)) else (none))) else (none)) else (none)) else (none)) else (none)) else (none)) else (none))) else (none)) else (none))) = some r := H
  have A10 := Aside0.mk A100
  clear A100
  replace H := Option.bind_eq_some_iff.mp H
  obtain ⟨⟨t312, t315⟩, A110, H⟩ := H
  replace H : (if 0 < (t295.length : Int) then (if t304 = true then ((laws_sameInts.f k t301 t288).bind fun t317 => (if t317 = true then (if t308 = true then (if (t305.length : Int) = 8 then (if 0 ≤ (Int.tmod (rd t295 0) 8) then (if (Int.tmod (rd t295 0) 8) < (t305.length : Int) then (if (Int.tmod (rd t295 0) 8) < (t291.length : Int) then ((impl_EvalExpr.f k t288 ((rd_T58 t291 (Int.tmod (rd t295 0) 8)).f0) ((rd_T58 t291 (Int.tmod (rd t295 0) 8)).f1) ((rd_T58 t291 (Int.tmod (rd t295 0) 8)).f2)).bind fun t320 => (if (rd t305 (Int.tmod (rd t295 0) 8)) = t320 then (if t315 = true then ((laws_sameInts.f k t312 t305).bind fun t321 => (if t321 = true then ((impl_RulesOk.f k t291).bind fun t322 => (some t322)) else (none))) else (none)) else (none))) else (none)) else (none)) else (none)) else (none)) else (none)) else (none))) else (none)) else (none)) = some r := H
  have A11 := Aside0.mk A110
  clear A110
  by_cases c12 : 0 < (t295.length : Int)
  ·rw [if_pos c12] at H
   have c12b0 : decide (0 < (t295.length : Int)) = true := decide_eq_true c12
   have c12b1 : decide (0 < t295.length) = true := decide_eq_true (by omega)
   clear c12
   by_cases c13 : t304 = true
   ·subst c13
    have H1 : ((laws_sameInts.f k t301 t288).bind fun t317 => (if t317 = true then (if t308 = true then (if (t305.length : Int) = 8 then (if 0 ≤ (Int.tmod (rd t295 0) 8) then (if (Int.tmod (rd t295 0) 8) < (t305.length : Int) then (if (Int.tmod (rd t295 0) 8) < (t291.length : Int) then ((impl_EvalExpr.f k t288 ((rd_T58 t291 (Int.tmod (rd t295 0) 8)).f0) ((rd_T58 t291 (Int.tmod (rd t295 0) 8)).f1) ((rd_T58 t291 (Int.tmod (rd t295 0) 8)).f2)).bind fun t320 => (if (rd t305 (Int.tmod (rd t295 0) 8)) = t320 then (if t315 = true then ((laws_sameInts.f k t312 t305).bind fun t321 => (if t321 = true then ((impl_RulesOk.f k t291).bind fun t322 => (some t322)) else (none))) else (none)) else (none))) else (none)) else (none)) else (none)) else (none)) else (none)) else (none))) = some r := by rw [if_pos rfl] at H; exact H
    clear H
    have H := H1
    clear H1
    replace H := Option.bind_eq_some_iff.mp H
    obtain ⟨t317, A140, H⟩ := H
    replace H : (if t317 = true then (if t308 = true then (if (t305.length : Int) = 8 then (if 0 ≤ (Int.tmod (rd t295 0) 8) then (if (Int.tmod (rd t295 0) 8) < (t305.length : Int) then (if (Int.tmod (rd t295 0) 8) < (t291.length : Int) then ((impl_EvalExpr.f k t288 ((rd_T58 t291 (Int.tmod (rd t295 0) 8)).f0) ((rd_T58 t291 (Int.tmod (rd t295 0) 8)).f1) ((rd_T58 t291 (Int.tmod (rd t295 0) 8)).f2)).bind fun t320 => (if (rd t305 (Int.tmod (rd t295 0) 8)) = t320 then (if t315 = true then ((laws_sameInts.f k t312 t305).bind fun t321 => (if t321 = true then ((impl_RulesOk.f k t291).bind fun t322 => (some t322)) else (none))) else (none)) else (none))) else (none)) else (none)) else (none)) else (none)) else (none)) else (none)) = some r := H
    have A14 := Aside0.mk A140
    clear A140
    by_cases c15 : t317 = true
    ·subst c15
     have H1 : (if t308 = true then (if (t305.length : Int) = 8 then (if 0 ≤ (Int.tmod (rd t295 0) 8) then (if (Int.tmod (rd t295 0) 8) < (t305.length : Int) then (if (Int.tmod (rd t295 0) 8) < (t291.length : Int) then ((impl_EvalExpr.f k t288 ((rd_T58 t291 (Int.tmod (rd t295 0) 8)).f0) ((rd_T58 t291 (Int.tmod (rd t295 0) 8)).f1) ((rd_T58 t291 (Int.tmod (rd t295 0) 8)).f2)).bind fun t320 => (if (rd t305 (Int.tmod (rd t295 0) 8)) = t320 then (if t315 = true then ((laws_sameInts.f k t312 t305).bind fun t321 => (if t321 = true then ((impl_RulesOk.f k t291).bind fun t322 => (some t322)) else (none))) else (none)) else (none))) else (none)) else (none)) else (none)) else (none)) else (none)) = some r := by rw [if_pos rfl] at H; exact H
     clear H
     have H := H1
     clear H1
     by_cases c16 : t308 = true
     ·subst c16
      have H1 : (if (t305.length : Int) = 8 then (if 0 ≤ (Int.tmod (rd t295 0) 8) then (if (Int.tmod (rd t295 0) 8) < (t305.length : Int) then (if (Int.tmod (rd t295 0) 8) < (t291.length : Int) then ((impl_EvalExpr.f k t288 ((rd_T58 t291 (Int.tmod (rd t295 0) 8)).f0) ((rd_T58 t291 (Int.tmod (rd t295 0) 8)).f1) ((rd_T58 t291 (Int.tmod (rd t295 0) 8)).f2)).bind fun t320 => (if (rd t305 (Int.tmod (rd t295 0) 8)) = t320 then (if t315 = true then ((laws_sameInts.f k t312 t305).bind fun t321 => (if t321 = true then ((impl_RulesOk.f k t291).bind fun t322 => (some t322)) else (none))) else (none)) else (none))) else (none)) else (none)) else (none)) else (none)) = some r := by rw [if_pos rfl] at H; exact H
      clear H
      have H := H1
      clear H1
      by_cases c17 : (t305.length : Int) = 8
      ·rw [if_pos c17] at H
       have c17b0 : ((t305.length : Int) == 8) = true := beq_iff_eq.mpr c17
       have c17b1 : ((t305.length : Int) != 8) = false := bne_eq_false_iff_eq.mpr c17
       clear c17
       obtain ⟨ji18, hji18⟩ : ∃ j_ : Int, (Int.tmod (rd t295 0) 8) = j_ := ⟨_, rfl⟩
       replace H : (if 0 ≤ (ji18) then (if (ji18) < (t305.length : Int) then (if (ji18) < (t291.length : Int) then ((impl_EvalExpr.f k t288 ((rd_T58 t291 (ji18)).f0) ((rd_T58 t291 (ji18)).f1) ((rd_T58 t291 (ji18)).f2)).bind fun t320 => (if (rd t305 (ji18)) = t320 then (if t315 = true then ((laws_sameInts.f k t312 t305).bind fun t321 => (if t321 = true then ((impl_RulesOk.f k t291).bind fun t322 => (some t322)) else (none))) else (none)) else (none))) else (none)) else (none)) else (none)) = some r := by first | (rw [hji18] at H; exact H) | (simp only [hji18] at H ⊢; exact H)
       (try rw [hji18] at A2)
       (try rw [hji18] at A4)
       (try rw [hji18] at A5)
       (try rw [hji18] at A6)
       (try rw [hji18] at A7)
       (try rw [hji18] at A8)
       (try rw [hji18] at A9)
       (try rw [hji18] at A10)
       (try rw [hji18] at A11)
       (try rw [hji18] at A14)
       by_cases c19 : 0 ≤ (ji18)
       ·rw [if_pos c19] at H
        have c19b0 : decide (0 ≤ (ji18)) = true := decide_eq_true c19
        clear c19
        by_cases c20 : (ji18) < (t305.length : Int)
        ·rw [if_pos c20] at H
         have c20b0 : decide ((ji18) < (t305.length : Int)) = true := decide_eq_true c20
         clear c20
         by_cases c21 : (ji18) < (t291.length : Int)
         ·rw [if_pos c21] at H
          have c21b0 : decide ((ji18) < (t291.length : Int)) = true := decide_eq_true c21
          clear c21
          replace H := Option.bind_eq_some_iff.mp H
          obtain ⟨t320, A220, H⟩ := H
          replace H : (if (rd t305 (ji18)) = t320 then (if t315 = true then ((laws_sameInts.f k t312 t305).bind fun t321 => (if t321 = true then ((impl_RulesOk.f k t291).bind fun t322 => (some t322)) else (none))) else (none)) else (none)) = some r := H
          have A22 := Aside0.mk A220
          clear A220
          by_cases c23 : (rd t305 (ji18)) = t320
          ·rw [if_pos c23] at H
           have c23b0 : ((rd t305 (ji18)) == t320) = true := beq_iff_eq.mpr c23
           have c23b1 : ((rd t305 (ji18)) != t320) = false := bne_eq_false_iff_eq.mpr c23
           clear c23
           by_cases c24 : t315 = true
           ·subst c24
            have H1 : ((laws_sameInts.f k t312 t305).bind fun t321 => (if t321 = true then ((impl_RulesOk.f k t291).bind fun t322 => (some t322)) else (none))) = some r := by rw [if_pos rfl] at H; exact H
            clear H
            have H := H1
            clear H1
            replace H := Option.bind_eq_some_iff.mp H
            obtain ⟨t321, A250, H⟩ := H
            replace H : (if t321 = true then ((impl_RulesOk.f k t291).bind fun t322 => (some t322)) else (none)) = some r := H
            have A25 := Aside0.mk A250
            clear A250
            by_cases c26 : t321 = true
            ·subst c26
             have H1 : ((impl_RulesOk.f k t291).bind fun t322 => (some t322)) = some r := by rw [if_pos rfl] at H; exact H
             clear H
             have H := H1
             clear H1
             replace H := Option.bind_eq_some_iff.mp H
             obtain ⟨t322, A270, H⟩ := H
             replace H : (some t322) = some r := H
             have A27 := Aside0.mk A270
             clear A270
             obtain rfl := Option.some.inj H
             go_enter Try.func5, Try.ntmps5
             try go_wp2_with (first | ((with_reducible refine gate_callee (f := 15) rfl ?_); refine goesL_ (some 14) rfl rfl Try.func15 (by kernel_rfl) rfl #[.slice A0 l0.length c0] rfl (by (try simp only [List.map_toArray, List.map_cons, List.map_nil]); first | done | rfl | (simp only [List.length_drop, List.length_take]; rfl)) ?_; (with_reducible refine (laws_big.calls _ _ l0 false _ ?side1 ?side2 A2.out).mono ?_); (case side1 => repeat (first | exact HR0.out | (with_reducible refine Kd.C_alloc ?_ _) | (with_reducible refine Kd.C_drewN ?_ _) | (with_reducible refine Kd.C_drew ?_))); (case side2 => exact HC0.out); rintro e w' ⟨rfl, ⟨nd, rfl⟩⟩; refine ⟨_, rfl, ?_⟩) | ((with_reducible refine gate_callee (f := 28) rfl ?_); refine goesL_ (some 16) rfl rfl Try.func28 (by kernel_rfl) rfl #[.slice A0 l0.length c0] rfl (by (try simp only [List.map_toArray, List.map_cons, List.map_nil]); first | done | rfl | (simp only [List.length_drop, List.length_take]; rfl)) ?_; (with_reducible refine (spec_DrawVars.calls k _ _ l0 t288 _ ?side1 ?side2 A4.out).mono ?_); (case side1 => repeat (first | exact HR0.out | (with_reducible refine Kd.C_alloc ?_ _) | (with_reducible refine Kd.C_drewN ?_ _) | (with_reducible refine Kd.C_drew ?_))); (case side2 => exact HC0.out); rintro e w28 ⟨v289, rfl, ho0, hb⟩; refine ⟨_, rfl, ?_⟩; have n0_ := Aside0.mk (Kd.R_lower ho0 (below_size (by repeat (first | (with_reducible first | exact HB.out | apply below_alloc | apply pw_below_drewN | apply below_drew1) | exact HB.out)))); have n1_ := Aside0.mk (below_step (by repeat (first | (with_reducible first | exact HB.out | apply below_alloc | apply pw_below_drewN | apply below_drew1) | exact HB.out)) hb); clear HB; have HO290 := n0_; have HB := n1_; clear n0_ n1_; (try clear hb); (try clear hb2); (try clear hk); (try clear hi); (try clear ho0)) | ((with_reducible refine gate_callee (f := 29) rfl ?_); refine goesL_ (some 18) rfl rfl Try.func29 (by kernel_rfl) rfl #[.slice A0 l0.length c0] rfl (by (try simp only [List.map_toArray, List.map_cons, List.map_nil]); first | done | rfl | (simp only [List.length_drop, List.length_take]; rfl)) ?_; (with_reducible refine (spec_DrawRules.calls k _ _ l0 t291 _ ?side1 ?side2 A5.out).mono ?_); (case side1 => repeat (first | exact (Kd.C_below HR0.out HB.out) | (with_reducible refine Kd.C_alloc ?_ _) | (with_reducible refine Kd.C_drewN ?_ _) | (with_reducible refine Kd.C_drew ?_))); (case side2 => exact HC0.out); rintro e w29 ⟨v292, rfl, ho0, hb⟩; refine ⟨_, rfl, ?_⟩; have n0_ := Aside0.mk (Kd.R_below (pkr HO290.out) hb); have n1_ := Aside0.mk (Kd.R_lower ho0 (below_size (by repeat (first | (with_reducible first | exact HB.out | apply below_alloc | apply pw_below_drewN | apply below_drew1) | exact HB.out)))); have n2_ := Aside0.mk (below_step (by repeat (first | (with_reducible first | exact HB.out | apply below_alloc | apply pw_below_drewN | apply below_drew1) | exact HB.out)) hb); clear HO290; clear HB; have HO290 := n0_; have HO293 := n1_; have HB := n2_; clear n0_ n1_ n2_; (try clear hb); (try clear hb2); (try clear hk); (try clear hi); (try clear ho0)) | ((with_reducible refine gate_dst (N := 4) rfl ?_); (try (refine gate_guard (by rfl) ?_; dsimp only)); refine box_event ?hg (N := 4) ?hd (cs := #[.slice none 0 0]) (t := 50) ?hr ?_; (case hd => rfl); (case hg => rfl); (case hr => first | (go_simp; done) | (go_simp; rfl)); intro gb294 hg w30 hbox hb; have n0_ := Aside0.mk (Kd.R_below (pkr HO290.out) hb); have n1_ := Aside0.mk (Kd.R_below (pkr HO293.out) hb); have n2_ := Aside0.mk (below_step (by repeat (first | (with_reducible first | exact HB.out | apply below_alloc | apply pw_below_drewN | apply below_drew1) | exact HB.out)) hb); have n3_ := Aside0.mk (hbox); have n4_ := Aside0.mk ((by rw [hg]; exact (below_size (by repeat (first | (with_reducible first | exact HB.out | apply below_alloc | apply pw_below_drewN | apply below_drew1) | exact HB.out))) : w.heap.size ≤ gb294)); have n5_ := n4_; clear HO290; clear HO293; clear HB; have HO290 := n0_; have HO293 := n1_; have HB := n2_; have BK294 := n3_; have GW294 := n4_; have GE294 := n5_; clear n0_ n1_ n2_ n3_ n4_ n5_; clear hb hbox hg; obtain ⟨Ao31, co31, eo31⟩ := Kd.R_slice HO293.out; subst eo31; have hcz32_0 := pc0 BK294.out; have hfz32_0 := blk_frozen BK294.out 0) | ((with_reducible refine gate_callee (f := 17) rfl ?_); refine goesL_ (some 20) rfl rfl Try.func17 (by kernel_rfl) rfl #[.slice A0 l0.length c0] rfl (by (try simp only [List.map_toArray, List.map_cons, List.map_nil]); first | done | rfl | (simp only [List.length_drop, List.length_take]; rfl)) ?_; (with_reducible refine (spec_DrawPlaces.calls k _ _ l0 t295 _ ?side1 ?side2 A6.out).mono ?_); (case side1 => exact Kd.C_below HR0.out (by repeat (first | (with_reducible first | exact HB.out | apply below_alloc | apply pw_below_drewN | apply below_drew1 | refine below_set ?_ GE294.out) | exact HB.out))); (case side2 => exact HC0.out); rintro e w33 ⟨v296, rfl, ho0, hb⟩; refine ⟨_, rfl, ?_⟩; have n0_ := Aside0.mk (Kd.R_elder' (pkr ((Kd.R_mono (Kd.R_far (p := ⟨gb294, 0, none⟩) (Kd.R_types HO290.out BK294.out (by decide)) (fun _ hk => by first | exact hk.2 | simp_all) (.slice Ao31 t291.length co31)) (fun _ h_ => by first | exact h_.1 | simp_all)))) (Kd.R_base ho0) hb); have n1_ := Aside0.mk (Kd.R_below (pkr ((Kd.R_mono (Kd.R_far (p := ⟨gb294, 0, none⟩) (Kd.R_types HO293.out BK294.out (by decide)) (fun _ hk => by first | exact hk.2 | simp_all) (.slice Ao31 t291.length co31)) (fun _ h_ => by first | exact h_.1 | simp_all)))) hb); have n2_ := Aside0.mk (Kd.R_lower (Kd.R_new' ho0 (Kd.R_lt (pkr ((Kd.R_mono (Kd.R_far (p := ⟨gb294, 0, none⟩) (Kd.R_types HO290.out BK294.out (by decide)) (fun _ hk => by first | exact hk.2 | simp_all) (.slice Ao31 t291.length co31)) (fun _ h_ => by first | exact h_.1 | simp_all)))))) (below_size (by repeat (first | (with_reducible first | exact HB.out | apply below_alloc | apply pw_below_drewN | apply below_drew1 | refine below_set ?_ GE294.out) | exact HB.out)))); have n3_ := Aside0.mk (blk_below (g := gb294) (o := .cells #[.slice Ao31 t291.length co31] 50 (0, 0)) (by (with_reducible repeat (first | refine blk_drewN ?_ _ | refine blk_drew ?_ | refine blk_alloc ?_ _)); refine blk_put (cs := #[.slice none 0 0]) ?_ 0 _ rfl; (with_reducible repeat (first | refine blk_drewN ?_ _ | refine blk_drew ?_ | refine blk_alloc ?_ _)); exact BK294.out) hb); have n4_ := Aside0.mk (below_step (by repeat (first | (with_reducible first | exact HB.out | apply below_alloc | apply pw_below_drewN | apply below_drew1 | refine below_set ?_ GE294.out) | exact HB.out)) hb); clear HO290; clear HO293; clear BK294; clear HB; have HO290 := n0_; have HO293 := n1_; have HO297 := n2_; have BK294 := n3_; have HB := n4_; clear n0_ n1_ n2_ n3_ n4_; (try clear hb); (try clear hb2); (try clear hk); (try clear hi); (try clear ho0)) | ((with_reducible refine gate_callee (f := 31) rfl ?_); refine goesL_ (some 23) rfl rfl Try.func31 (by kernel_rfl) rfl #[] rfl (by (try simp only [List.map_toArray, List.map_cons, List.map_nil]); first | done | rfl | (simp only [List.length_drop, List.length_take]; rfl)) ?_; (with_reducible refine (impl_IdentityRules.calls k  t298 _ A7.out).mono ?_); rintro e w34 ⟨v299, rfl, ho0, hb⟩; refine ⟨_, rfl, ?_⟩; have n0_ := Aside0.mk (Kd.R_below (pkr HO290.out) hb); have n1_ := Aside0.mk (Kd.R_elder' (pkr HO293.out) (Kd.R_base ho0) hb); have n2_ := Aside0.mk (Kd.R_below (pkr HO297.out) hb); have n3_ := Aside0.mk (Kd.R_lower (Kd.R_new' ho0 (Kd.R_lt (pkr HO293.out))) (below_size (by repeat (first | (with_reducible first | exact HB.out | apply below_alloc | apply pw_below_drewN | apply below_drew1 | refine below_set ?_ GE294.out) | exact HB.out)))); have n4_ := Aside0.mk (blk_below (pkb BK294.out) hb); have n5_ := Aside0.mk (below_step (by repeat (first | (with_reducible first | exact HB.out | apply below_alloc | apply pw_below_drewN | apply below_drew1 | refine below_set ?_ GE294.out) | exact HB.out)) hb); clear HO290; clear HO293; clear HO297; clear BK294; clear HB; have HO290 := n0_; have HO293 := n1_; have HO297 := n2_; have HO300 := n3_; have BK294 := n4_; have HB := n5_; clear n0_ n1_ n2_ n3_ n4_ n5_; (try clear hb); (try clear hb2); (try clear hk); (try clear hi); (try clear ho0); obtain ⟨Ao35, co35, eo35⟩ := Kd.R_slice HO290.out; subst eo35; obtain ⟨Ao36, co36, eo36⟩ := Kd.R_slice HO300.out; subst eo36) | ((with_reducible refine gate_callee (f := 30) rfl ?_); refine goesL_ (some 24) rfl rfl Try.func30 (by kernel_rfl) rfl #[.slice Ao35 t288.length co35, .agg #[.slice Ao36 t298.length co36]] rfl (by (try simp only [List.map_toArray, List.map_cons, List.map_nil]); first | done | rfl | (simp only [List.length_drop, List.length_take]; rfl)) ?_; (with_reducible refine (impl_Migrate.calls k _ _ t288 _ _ t298 t301 true _ ?side1 ?side2 ?side3 ?side4 A8.out).mono ?_); (case side1 => repeat (first | exact (Kd.R_reads' HO290.out).2.2 | (with_reducible refine Kd.C_alloc ?_ _) | (with_reducible refine Kd.C_drewN ?_ _) | (with_reducible refine Kd.C_drew ?_))); (case side2 => exact (Kd.R_reads' HO290.out).2.1); (case side3 => repeat (first | exact (Kd.R_reads' HO300.out).2.2 | (with_reducible refine Kd.C_alloc ?_ _) | (with_reducible refine Kd.C_drewN ?_ _) | (with_reducible refine Kd.C_drew ?_))); (case side4 => exact (Kd.R_reads' HO300.out).2.1); rintro e w37 ⟨v302, rfl, ho0, hb⟩; refine ⟨_, rfl, ?_⟩; have n0_ := Aside0.mk (Kd.R_elder' (pkr HO290.out) (Kd.R_base ho0) hb); have n1_ := Aside0.mk (Kd.R_below (pkr HO293.out) hb); have n2_ := Aside0.mk (Kd.R_elder' (pkr HO297.out) (Kd.R_base ho0) hb); have n3_ := Aside0.mk (Kd.R_below (pkr HO300.out) hb); have n4_ := Aside0.mk (Kd.R_lower (Kd.R_new' (Kd.R_new' ho0 (Kd.R_lt (pkr HO290.out))) (Kd.R_lt (pkr HO297.out))) (below_size (by repeat (first | (with_reducible first | exact HB.out | apply below_alloc | apply pw_below_drewN | apply below_drew1 | refine below_set ?_ GE294.out) | exact HB.out)))); have n5_ := Aside0.mk (blk_below (pkb BK294.out) hb); have n6_ := Aside0.mk (below_step (by repeat (first | (with_reducible first | exact HB.out | apply below_alloc | apply pw_below_drewN | apply below_drew1 | refine below_set ?_ GE294.out) | exact HB.out)) hb); clear HO290; clear HO293; clear HO297; clear HO300; clear BK294; clear HB; have HO290 := n0_; have HO293 := n1_; have HO297 := n2_; have HO300 := n3_; have HO303 := n4_; have BK294 := n5_; have HB := n6_; clear n0_ n1_ n2_ n3_ n4_ n5_ n6_; (try clear hb); (try clear hb2); (try clear hk); (try clear hi); (try clear ho0); have hcz38_0 := pc0 BK294.out; have hfz38_0 := blk_frozen BK294.out 0) | ((with_reducible refine gate_callee (f := 30) rfl ?_); refine goesL_ (some 30) rfl rfl Try.func30 (by kernel_rfl) rfl #[.slice Ao35 t288.length co35, .agg #[.slice Ao31 t291.length co31]] rfl (by (try simp only [List.map_toArray, List.map_cons, List.map_nil]); first | done | rfl | (simp only [List.length_drop, List.length_take]; rfl)) ?_; (with_reducible refine (impl_Migrate.calls k _ _ t288 _ _ t291 t305 true _ ?side1 ?side2 ?side3 ?side4 A9.out).mono ?_); (case side1 => repeat (first | exact (Kd.R_reads' HO290.out).2.2 | (with_reducible refine Kd.C_alloc ?_ _) | (with_reducible refine Kd.C_drewN ?_ _) | (with_reducible refine Kd.C_drew ?_))); (case side2 => exact (Kd.R_reads' HO290.out).2.1); (case side3 => repeat (first | exact (Kd.R_reads' HO293.out).2.2 | (with_reducible refine Kd.C_alloc ?_ _) | (with_reducible refine Kd.C_drewN ?_ _) | (with_reducible refine Kd.C_drew ?_))); (case side4 => exact (Kd.R_reads' HO293.out).2.1); rintro e w39 ⟨v306, rfl, ho0, hb⟩; refine ⟨_, rfl, ?_⟩; have n0_ := Aside0.mk (Kd.R_elder' (pkr HO290.out) (Kd.R_base ho0) hb); have n1_ := Aside0.mk (Kd.R_below (pkr HO293.out) hb); have n2_ := Aside0.mk (Kd.R_elder' (pkr HO297.out) (Kd.R_base ho0) hb); have n3_ := Aside0.mk (Kd.R_below (pkr HO300.out) hb); have n4_ := Aside0.mk (Kd.R_elder' (pkr HO303.out) (Kd.R_base ho0) hb); have n5_ := Aside0.mk (Kd.R_lower (Kd.R_new' (Kd.R_new' (Kd.R_new' ho0 (Kd.R_lt (pkr HO290.out))) (Kd.R_lt (pkr HO297.out))) (Kd.R_lt (pkr HO303.out))) (below_size (by repeat (first | (with_reducible first | exact HB.out | apply below_alloc | apply pw_below_drewN | apply below_drew1 | refine below_set ?_ GE294.out) | exact HB.out)))); have n6_ := Aside0.mk (blk_below (pkb BK294.out) hb); have n7_ := Aside0.mk (below_step (by repeat (first | (with_reducible first | exact HB.out | apply below_alloc | apply pw_below_drewN | apply below_drew1 | refine below_set ?_ GE294.out) | exact HB.out)) hb); clear HO290; clear HO293; clear HO297; clear HO300; clear HO303; clear BK294; clear HB; have HO290 := n0_; have HO293 := n1_; have HO297 := n2_; have HO300 := n3_; have HO303 := n4_; have HO307 := n5_; have BK294 := n6_; have HB := n7_; clear n0_ n1_ n2_ n3_ n4_ n5_ n6_ n7_; (try clear hb); (try clear hb2); (try clear hk); (try clear hi); (try clear ho0)))
             have n0_ := Aside0.mk (Kd.R_drew HO290.out)
             have n1_ := Aside0.mk (Kd.R_drew HO293.out)
             have n2_ := Aside0.mk (Kd.R_drew HO297.out)
             have n3_ := Aside0.mk (Kd.R_drew HO300.out)
             have n4_ := Aside0.mk (Kd.R_drew HO303.out)
             have n5_ := Aside0.mk (Kd.R_drew HO307.out)
             have n6_ := Aside0.mk (blk_drew BK294.out)
             have n7_ := Aside0.mk (below_drew1 HB.out)
             clear HO290
             clear HO293
             clear HO297
             clear HO300
             clear HO303
             clear HO307
             clear BK294
             clear HB
             have HO290 := n0_
             have HO293 := n1_
             have HO297 := n2_
             have HO300 := n3_
             have HO303 := n4_
             have HO307 := n5_
             have BK294 := n6_
             have HB := n7_
             clear n0_ n1_ n2_ n3_ n4_ n5_ n6_ n7_
             refine start_ (n := 9) (S := fun w' => w'.cell? ⟨gb294, 0, none⟩ = some (.slice Ao31 t291.length co31)) (ds := []) #[false, false, false, false, false, false, false, false, false] (by kernel_rfl) rfl rfl ((blk_cell BK294.out 0).trans rfl) (fun hHeld => ?_); refine with_tabW laws_FnMigrates.tab8 laws_FnMigrates.bits8 (fun HT_ HW_ => ?_)
             generalize w39.drew = w40 at HO290 HO293 HO297 HO300 HO303 HO307 BK294 HB hHeld ⊢
             refine pure_ (i := 1) (N := some 35) (v := ?_) (a' := ?_) #[false, true, false, false, false, false, false, false, false] rfl rfl (any_of HT_.out (by kernel_rfl)) (fun _ _ _ h => h) (Or.inl ⟨by rfl, ?_⟩) ?_ ?_
             rotate_left
             ·intro w'
              go_simp
              with_reducible rfl
             rotate_left
             ·simp only [Act.put, List.setIfInBounds_toArray, List.set_cons_zero, List.set_cons_succ, i64_w, i32_w]
              rfl
             refine take_ (i := 0) (N := some 34) (v := ?_) (a' := ?_) #[true, true, false, false, false, false, false, false, false] rfl rfl (take_ofW HT_.out HW_.out (by kernel_rfl)) (fun _ _ _ h => h) (Or.inl ⟨by rfl, ?_⟩) hHeld ?_ ?_
             rotate_left
             ·intro w' s0
              go_simp
              with_reducible rfl
             rotate_left
             ·simp only [Act.put, List.setIfInBounds_toArray, List.set_cons_zero, List.set_cons_succ, i64_w, i32_w]
              rfl
             refine one_ (i := 2) (N := some 36) #[true, true, true, false, false, false, false, false, false] rfl rfl (one_of HT_.out (by kernel_rfl)) (by decide) (fun K hK => ?_)
             refine goes_ Try.func31 (by kernel_rfl) rfl #[] (by rfl) rfl rfl (by (try simp only [List.map_toArray, List.map_cons, List.map_nil]); first | done | rfl | (simp only [List.length_drop, List.length_take]; rfl)) ?_
             with_reducible refine (impl_IdentityRules.calls k  t309 _ A10.out).mono ?_
             rintro e w41 ⟨v310, rfl, ho0, hb⟩
             refine ⟨_, rfl, ?_⟩
             have n0_ := Aside0.mk (Kd.R_below (pkr HO290.out) hb)
             have n1_ := Aside0.mk (Kd.R_elder' (pkr HO293.out) (Kd.R_base ho0) hb)
             have n2_ := Aside0.mk (Kd.R_below (pkr HO297.out) hb)
             have n3_ := Aside0.mk (Kd.R_elder' (pkr HO300.out) (Kd.R_base ho0) hb)
             have n4_ := Aside0.mk (Kd.R_below (pkr HO303.out) hb)
             have n5_ := Aside0.mk (Kd.R_below (pkr HO307.out) hb)
             have n6_ := Aside0.mk (Kd.R_lower (Kd.R_new' (Kd.R_new' ho0 (Kd.R_lt (pkr HO293.out))) (Kd.R_lt (pkr HO300.out))) (below_size (by repeat (first | (with_reducible first | exact HB.out | apply below_alloc | apply pw_below_drewN | apply below_drew1 | refine below_set ?_ GE294.out) | exact HB.out))))
             have n7_ := Aside0.mk (blk_below (pkb BK294.out) hb)
             have n8_ := Aside0.mk (below_step (by repeat (first | (with_reducible first | exact HB.out | apply below_alloc | apply pw_below_drewN | apply below_drew1 | refine below_set ?_ GE294.out) | exact HB.out)) hb)
             clear HO290
             clear HO293
             clear HO297
             clear HO300
             clear HO303
             clear HO307
             clear BK294
             clear HB
             have HO290 := n0_
             have HO293 := n1_
             have HO297 := n2_
             have HO300 := n3_
             have HO303 := n4_
             have HO307 := n5_
             have HO311 := n6_
             have BK294 := n7_
             have HB := n8_
             clear n0_ n1_ n2_ n3_ n4_ n5_ n6_ n7_ n8_
             (try clear hb)
             (try clear hb2)
             (try clear hk)
             (try clear hi)
             (try clear ho0)
             obtain ⟨Ao42, co42, eo42⟩ := Kd.R_slice HO311.out
             (first | subst eo42 | (injection eo42 with f1_ f2_ f3_; have f4_ := f1_.symm; have f5_ := f3_.symm; clear f1_ f2_ f3_; subst f4_; subst f5_))
             refine hK.out _ _ ((blk_cell BK294.out 0).trans rfl) (fun hHeld => ?_)
             clear hK K
             refine norm_ (a' := ?_) ?_ ?_
             rotate_left
             ·show Act.put _ (some 36) _ = _
              simp only [Act.put, List.setIfInBounds_toArray, List.set_cons_zero, List.set_cons_succ, i64_w, i32_w]
              rfl
             refine one_ (i := 3) (N := some 37) #[true, true, true, true, false, false, false, false, false] rfl rfl (one_of HT_.out (by kernel_rfl)) (by decide) (fun K hK => ?_)
             refine goes_ Try.func32 (by kernel_rfl) rfl #[.agg #[.slice Ao31 t291.length co31], .slice Ao35 t288.length co35, .agg #[.slice Ao42 t309.length co42]] (by rfl) rfl rfl (by (try simp only [List.map_toArray, List.map_cons, List.map_nil]); first | done | rfl | (simp only [List.length_drop, List.length_take]; rfl)) ?_
             with_reducible refine (impl_ThenRules.calls k _ _ t291 _ _ t288 _ _ t309 t312 true _ ?side1 ?side2 ?side3 ?side4 ?side5 ?side6 A11.out).mono ?_
             (case side1 => repeat (first | exact (Kd.R_reads' HO293.out).2.2 | (with_reducible refine Kd.C_alloc ?_ _) | (with_reducible refine Kd.C_drewN ?_ _) | (with_reducible refine Kd.C_drew ?_)))
             (case side2 => exact (Kd.R_reads' HO293.out).2.1)
             (case side3 => repeat (first | exact (Kd.R_reads' HO290.out).2.2 | (with_reducible refine Kd.C_alloc ?_ _) | (with_reducible refine Kd.C_drewN ?_ _) | (with_reducible refine Kd.C_drew ?_)))
             (case side4 => exact (Kd.R_reads' HO290.out).2.1)
             (case side5 => repeat (first | exact (Kd.R_reads' HO311.out).2.2 | (with_reducible refine Kd.C_alloc ?_ _) | (with_reducible refine Kd.C_drewN ?_ _) | (with_reducible refine Kd.C_drew ?_)))
             (case side6 => exact (Kd.R_reads' HO311.out).2.1)
             rintro e w43 ⟨v313, rfl, ho0, hb⟩
             refine ⟨_, rfl, ?_⟩
             have n0_ := Aside0.mk (Kd.R_elder' (pkr HO290.out) (Kd.R_base ho0) hb)
             have n1_ := Aside0.mk (Kd.R_below (pkr HO293.out) hb)
             have n2_ := Aside0.mk (Kd.R_elder' (pkr HO297.out) (Kd.R_base ho0) hb)
             have n3_ := Aside0.mk (Kd.R_below (pkr HO300.out) hb)
             have n4_ := Aside0.mk (Kd.R_elder' (pkr HO303.out) (Kd.R_base ho0) hb)
             have n5_ := Aside0.mk (Kd.R_elder' (pkr HO307.out) (Kd.R_base ho0) hb)
             have n6_ := Aside0.mk (Kd.R_below (pkr HO311.out) hb)
             have n7_ := Aside0.mk (Kd.R_lower (Kd.R_new' (Kd.R_new' (Kd.R_new' (Kd.R_new' ho0 (Kd.R_lt (pkr HO290.out))) (Kd.R_lt (pkr HO297.out))) (Kd.R_lt (pkr HO303.out))) (Kd.R_lt (pkr HO307.out))) (below_size (by repeat (first | (with_reducible first | exact HB.out | apply below_alloc | apply pw_below_drewN | apply below_drew1 | refine below_set ?_ GE294.out) | exact HB.out))))
             have n8_ := Aside0.mk (blk_below (pkb BK294.out) hb)
             have n9_ := Aside0.mk (below_step (by repeat (first | (with_reducible first | exact HB.out | apply below_alloc | apply pw_below_drewN | apply below_drew1 | refine below_set ?_ GE294.out) | exact HB.out)) hb)
             clear HO290
             clear HO293
             clear HO297
             clear HO300
             clear HO303
             clear HO307
             clear HO311
             clear BK294
             clear HB
             have HO290 := n0_
             have HO293 := n1_
             have HO297 := n2_
             have HO300 := n3_
             have HO303 := n4_
             have HO307 := n5_
             have HO311 := n6_
             have HO314 := n7_
             have BK294 := n8_
             have HB := n9_
             clear n0_ n1_ n2_ n3_ n4_ n5_ n6_ n7_ n8_ n9_
             (try clear hb)
             (try clear hb2)
             (try clear hk)
             (try clear hi)
             (try clear ho0)
             refine hK.out _ _ ((blk_cell BK294.out 0).trans rfl) (fun hHeld => ?_)
             clear hK K
             refine norm_ (a' := ?_) ?_ ?_
             rotate_left
             ·show Act.put _ (some 37) _ = _
              simp only [Act.put, List.setIfInBounds_toArray, List.set_cons_zero, List.set_cons_succ, i64_w, i32_w]
              rfl
             refine pure_ (i := 4) (N := some 33) (v := ?_) (a' := ?_) #[true, true, true, true, true, false, false, false, false] rfl rfl (any_of HT_.out (by kernel_rfl)) (fun _ _ _ h => h) (Or.inl ⟨by rfl, ?_⟩) ?_ ?_
             rotate_left
             ·intro w'
              go_simp
              with_reducible rfl
             rotate_left
             ·simp only [Act.put, List.setIfInBounds_toArray, List.set_cons_zero, List.set_cons_succ, i64_w, i32_w]
              rfl
             refine pure_ (i := 5) (N := some 38) (v := ?_) (a' := ?_) #[true, true, true, true, true, true, false, false, false] rfl rfl (any_of HT_.out (by kernel_rfl)) (fun _ _ _ h => h) (Or.inl ⟨by rfl, ?_⟩) ?_ ?_
             rotate_left
             ·intro w'
              go_simp
              with_reducible rfl
             rotate_left
             ·simp only [Act.put, List.setIfInBounds_toArray, List.set_cons_zero, List.set_cons_succ, i64_w, i32_w]
              rfl
             refine pure_ (i := 6) (N := some 39) (v := ?_) (a' := ?_) #[true, true, true, true, true, true, true, false, false] rfl rfl (any_of HT_.out (by kernel_rfl)) (fun _ _ _ h => h) (Or.inl ⟨by rfl, ?_⟩) ?_ ?_
             rotate_left
             ·intro w'
              go_simp
              with_reducible rfl
             rotate_left
             ·simp only [Act.put, List.setIfInBounds_toArray, List.set_cons_zero, List.set_cons_succ, i64_w, i32_w]
              rfl
             refine pure_ (i := 7) (N := some 10) (v := ?_) (a' := ?_) #[true, true, true, true, true, true, true, true, false] rfl rfl (any_of HT_.out (by kernel_rfl)) (fun _ _ _ h => h) (Or.inl ⟨by rfl, ?_⟩) ?_ ?_
             rotate_left
             ·intro w'
              go_simp
              with_reducible rfl
             rotate_left
             ·simp only [Act.put, List.setIfInBounds_toArray, List.set_cons_zero, List.set_cons_succ, i64_w, i32_w]
              rfl
             refine pure_ (i := 8) (N := some 11) (v := ?_) (a' := ?_) #[true, true, true, true, true, true, true, true, true] rfl rfl (any_of HT_.out (by kernel_rfl)) (fun _ _ _ h => h) (Or.inl ⟨by rfl, ?_⟩) ?_ ?_
             rotate_left
             ·intro w'
              go_simp
              with_reducible rfl
             rotate_left
             ·simp only [Act.put, List.setIfInBounds_toArray, List.set_cons_zero, List.set_cons_succ, i64_w, i32_w]
              rfl
             refine done_ (done_of HT_.out (by kernel_rfl)) ?_
             obtain ⟨Ao44, co44, eo44⟩ := Kd.R_slice HO297.out
             subst eo44
             have p316 : 0 ≤ (0 : Int) := (by omega)
             have q316 : 0 < (t295.length : Int) := of_decide_eq_true (by first | (with_reducible assumption) | assumption)
             obtain ⟨ad316, e316, hx316_0⟩ := Kd.at_int (Kd.R_reads' HO297.out).2.2 0 p316 q316
             cases e316
             have qi316 : (0 < t295.length) = True := eq_true (by omega)
             (try rw [show ((0 : Int)).toNat = 0 from rfl] at hx316_0)
             (try rw [Addr.add_zero'] at hx316_0)
             replace p316 := eq_true p316
             replace q316 := eq_true q316
             try go_wp2
             have n0_ := Aside0.mk (Kd.R_drew HO290.out)
             have n1_ := Aside0.mk (Kd.R_drew HO293.out)
             have n2_ := Aside0.mk (Kd.R_drew HO297.out)
             have n3_ := Aside0.mk (Kd.R_drew HO300.out)
             have n4_ := Aside0.mk (Kd.R_drew HO303.out)
             have n5_ := Aside0.mk (Kd.R_drew HO307.out)
             have n6_ := Aside0.mk (Kd.R_drew HO311.out)
             have n7_ := Aside0.mk (Kd.R_drew HO314.out)
             have n8_ := Aside0.mk (blk_drew BK294.out)
             have n9_ := Aside0.mk (below_drew1 HB.out)
             clear HO290
             clear HO293
             clear HO297
             clear HO300
             clear HO303
             clear HO307
             clear HO311
             clear HO314
             clear BK294
             clear HB
             have HO290 := n0_
             have HO293 := n1_
             have HO297 := n2_
             have HO300 := n3_
             have HO303 := n4_
             have HO307 := n5_
             have HO311 := n6_
             have HO314 := n7_
             have BK294 := n8_
             have HB := n9_
             clear n0_ n1_ n2_ n3_ n4_ n5_ n6_ n7_ n8_ n9_
             obtain ⟨Ao46, co46, eo46⟩ := Kd.R_slice HO303.out
             (first | subst eo46 | (injection eo46 with f1_ f2_ f3_; have f4_ := f1_.symm; have f5_ := f3_.symm; clear f1_ f2_ f3_; subst f4_; subst f5_))
             have p318 : 0 ≤ ((ji18) : Int) := of_decide_eq_true (by first | (with_reducible assumption) | assumption)
             have q318 : (ji18) < (t305.length : Int) := of_decide_eq_true (by first | (with_reducible assumption) | assumption)
             obtain ⟨Ao47, co47, eo47⟩ := Kd.R_slice HO307.out
             (first | subst eo47 | (injection eo47 with f1_ f2_ f3_; have f4_ := f1_.symm; have f5_ := f3_.symm; clear f1_ f2_ f3_; subst f4_; subst f5_))
             obtain ⟨ad318, e318, hx318_0⟩ := Kd.at_int (Kd.R_reads' HO307.out).2.2 (ji18) p318 q318
             cases e318
             replace p318 := eq_true p318
             replace q318 := eq_true q318
             have p319 : 0 ≤ ((ji18) : Int) := of_decide_eq_true (by first | (with_reducible assumption) | assumption)
             have q319 : (ji18) < (t291.length : Int) := of_decide_eq_true (by first | (with_reducible assumption) | assumption)
             obtain ⟨ad319, e319, hx319_0, hx319_1, hx319_2⟩ := at_T58 (Kd.R_reads' HO293.out).2.2 (ji18) p319 q319
             cases e319
             replace p319 := eq_true p319
             replace q319 := eq_true q319
             refine start_ (n := 41) (S := fun w' => w'.cell? ⟨gb294, 0, none⟩ = some (.slice (some ad319) t291.length co31) ∧ w'.cell? (ad318.add ((ji18)).toNat) = some (.int .i64 (rd t305 (ji18))) ∧ w'.cell? (ad319.add (((ji18)).toNat * 3)) = some (.int .i64 ((rd_T58 t291 (ji18)).f0)) ∧ w'.cell? ⟨(ad319.add (((ji18)).toNat * 3)).block, (ad319.add (((ji18)).toNat * 3)).off + 1, none⟩ = some (.int .i64 ((rd_T58 t291 (ji18)).f1)) ∧ w'.cell? ⟨(ad319.add (((ji18)).toNat * 3)).block, (ad319.add (((ji18)).toNat * 3)).off + 2, none⟩ = some (.int .i64 ((rd_T58 t291 (ji18)).f2))) (ds := []) #[false, false, false, false, false, false, false, false, false, false, false, false, false, false, false, false, false, false, false, false, false, false, false, false, false, false, false, false, false, false, false, false, false, false, false, false, false, false, false, false, false] (by kernel_rfl) rfl rfl ⟨(blk_cell BK294.out 0).trans rfl, hx318_0, hx319_0, hx319_1, hx319_2⟩ (fun hHeld => ?_); refine with_tabW laws_FnMigrates.tab10 laws_FnMigrates.bits10 (fun HT_ HW_ => ?_)
             generalize w43.drew = w45 at HO290 HO293 HO297 HO300 HO303 HO307 HO311 HO314 BK294 HB hx318_0 hx319_0 hx319_1 hx319_2 hHeld ⊢
             refine pure_ (i := 0) (N := some 44) (v := ?_) (a' := ?_) #[true, false, false, false, false, false, false, false, false, false, false, false, false, false, false, false, false, false, false, false, false, false, false, false, false, false, false, false, false, false, false, false, false, false, false, false, false, false, false, false, false] rfl rfl (any_of HT_.out (by kernel_rfl)) (fun _ _ _ h => h) (Or.inl ⟨by rfl, ?_⟩) ?_ ?_
             rotate_left
             ·intro w'
              go_simp
              with_reducible rfl
             rotate_left
             ·simp only [Act.put, List.setIfInBounds_toArray, List.set_cons_zero, List.set_cons_succ, i64_w, i32_w]
              rfl
             refine pure_ (i := 1) (N := some 45) (v := ?_) (a' := ?_) #[true, true, false, false, false, false, false, false, false, false, false, false, false, false, false, false, false, false, false, false, false, false, false, false, false, false, false, false, false, false, false, false, false, false, false, false, false, false, false, false, false] rfl rfl (any_of HT_.out (by kernel_rfl)) (fun _ _ _ h => h) (Or.inl ⟨by rfl, ?_⟩) ?_ ?_
             rotate_left
             ·intro w'
              go_simp
              with_reducible rfl
             rotate_left
             ·simp only [Act.put, List.setIfInBounds_toArray, List.set_cons_zero, List.set_cons_succ, i64_w, i32_w]
              rfl
             refine pure_ (i := 2) (N := some 46) (v := ?_) (a' := ?_) #[true, true, true, false, false, false, false, false, false, false, false, false, false, false, false, false, false, false, false, false, false, false, false, false, false, false, false, false, false, false, false, false, false, false, false, false, false, false, false, false, false] rfl rfl (any_of HT_.out (by kernel_rfl)) (fun _ _ _ h => h) (Or.inl ⟨by rfl, ?_⟩) ?_ ?_
             rotate_left
             ·intro w'
              go_simp
              with_reducible rfl
             rotate_left
             ·simp only [Act.put, List.setIfInBounds_toArray, List.set_cons_zero, List.set_cons_succ, i64_w, i32_w]
              rfl
             refine pure_ (i := 3) (N := some 47) (v := ?_) (a' := ?_) #[true, true, true, true, false, false, false, false, false, false, false, false, false, false, false, false, false, false, false, false, false, false, false, false, false, false, false, false, false, false, false, false, false, false, false, false, false, false, false, false, false] rfl rfl (any_of HT_.out (by kernel_rfl)) (fun _ _ _ h => h) (Or.inl ⟨by rfl, ?_⟩) ?_ ?_
             rotate_left
             ·intro w'
              go_simp
              with_reducible rfl
             rotate_left
             ·simp only [Act.put, List.setIfInBounds_toArray, List.set_cons_zero, List.set_cons_succ, i64_w, i32_w]
              rfl
             refine one_ (i := 4) (N := some 48) #[true, true, true, true, true, false, false, false, false, false, false, false, false, false, false, false, false, false, false, false, false, false, false, false, false, false, false, false, false, false, false, false, false, false, false, false, false, false, false, false, false] rfl rfl (one_of HT_.out (by kernel_rfl)) (by decide) (fun K hK => ?_)
             refine goes_ Try.func33 (by kernel_rfl) rfl #[.slice Ao46 t301.length co46, .slice Ao35 t288.length co35] (by rfl) rfl rfl (by (try simp only [List.map_toArray, List.map_cons, List.map_nil]); first | done | rfl | (simp only [List.length_drop, List.length_take]; rfl)) ?_
             with_reducible refine (laws_sameInts.calls k _ _ t301 _ _ t288 true _ ?side1 ?side2 ?side3 ?side4 A14.out).mono ?_
             (case side1 => repeat (first | exact (Kd.R_reads' HO303.out).2.2 | (with_reducible refine Kd.C_alloc ?_ _) | (with_reducible refine Kd.C_drewN ?_ _) | (with_reducible refine Kd.C_drew ?_)))
             (case side2 => exact (Kd.R_reads' HO303.out).2.1)
             (case side3 => repeat (first | exact (Kd.R_reads' HO290.out).2.2 | (with_reducible refine Kd.C_alloc ?_ _) | (with_reducible refine Kd.C_drewN ?_ _) | (with_reducible refine Kd.C_drew ?_)))
             (case side4 => exact (Kd.R_reads' HO290.out).2.1)
             rintro e w' ⟨rfl, ⟨nd, rfl⟩⟩
             refine ⟨_, rfl, ?_⟩
             refine hK.out _ _ ⟨(blk_cell BK294.out 0).trans rfl, hHeld.2.1, hHeld.2.2.1, hHeld.2.2.2.1, hHeld.2.2.2.2⟩ (fun hHeld => ?_)
             clear hK K
             refine norm_ (a' := ?_) ?_ ?_
             rotate_left
             ·show Act.put _ (some 48) _ = _
              simp only [Act.put, List.setIfInBounds_toArray, List.set_cons_zero, List.set_cons_succ, i64_w, i32_w]
              rfl
             refine pure_ (i := 5) (N := some 49) (v := ?_) (a' := ?_) #[true, true, true, true, true, true, false, false, false, false, false, false, false, false, false, false, false, false, false, false, false, false, false, false, false, false, false, false, false, false, false, false, false, false, false, false, false, false, false, false, false] rfl rfl (any_of HT_.out (by kernel_rfl)) (fun _ _ _ h => h) (Or.inl ⟨by rfl, ?_⟩) ?_ ?_
             rotate_left
             ·intro w'
              go_simp
              with_reducible rfl
             rotate_left
             ·simp only [Act.put, List.setIfInBounds_toArray, List.set_cons_zero, List.set_cons_succ, i64_w, i32_w]
              rfl
             refine pure_ (i := 6) (N := some 50) (v := ?_) (a' := ?_) #[true, true, true, true, true, true, true, false, false, false, false, false, false, false, false, false, false, false, false, false, false, false, false, false, false, false, false, false, false, false, false, false, false, false, false, false, false, false, false, false, false] rfl rfl (any_of HT_.out (by kernel_rfl)) (fun _ _ _ h => h) (Or.inl ⟨by rfl, ?_⟩) ?_ ?_
             rotate_left
             ·intro w'
              go_simp
              with_reducible rfl
             rotate_left
             ·simp only [Act.put, List.setIfInBounds_toArray, List.set_cons_zero, List.set_cons_succ, i64_w, i32_w]
              rfl
             refine pure_ (i := 7) (N := some 51) (v := ?_) (a' := ?_) #[true, true, true, true, true, true, true, true, false, false, false, false, false, false, false, false, false, false, false, false, false, false, false, false, false, false, false, false, false, false, false, false, false, false, false, false, false, false, false, false, false] rfl rfl (any_of HT_.out (by kernel_rfl)) (fun _ _ _ h => h) (Or.inl ⟨by rfl, ?_⟩) ?_ ?_
             rotate_left
             ·intro w'
              go_simp
              with_reducible rfl
             rotate_left
             ·simp only [Act.put, List.setIfInBounds_toArray, List.set_cons_zero, List.set_cons_succ, i64_w, i32_w]
              rfl
             refine pure_ (i := 8) (N := some 52) (v := ?_) (a' := ?_) #[true, true, true, true, true, true, true, true, true, false, false, false, false, false, false, false, false, false, false, false, false, false, false, false, false, false, false, false, false, false, false, false, false, false, false, false, false, false, false, false, false] rfl rfl (any_of HT_.out (by kernel_rfl)) (fun _ _ _ h => h) (Or.inl ⟨by rfl, ?_⟩) ?_ ?_
             rotate_left
             ·intro w'
              go_simp
              with_reducible rfl
             rotate_left
             ·simp only [Act.put, List.setIfInBounds_toArray, List.set_cons_zero, List.set_cons_succ, i64_w, i32_w]
              rfl
             refine pure_ (i := 9) (N := some 53) (v := ?_) (a' := ?_) #[true, true, true, true, true, true, true, true, true, true, false, false, false, false, false, false, false, false, false, false, false, false, false, false, false, false, false, false, false, false, false, false, false, false, false, false, false, false, false, false, false] rfl rfl (any_of HT_.out (by kernel_rfl)) (fun _ _ _ h => h) (Or.inl ⟨by rfl, ?_⟩) ?_ ?_
             rotate_left
             ·intro w'
              go_simp
              with_reducible rfl
             rotate_left
             ·simp only [Act.put, List.setIfInBounds_toArray, List.set_cons_zero, List.set_cons_succ, i64_w, i32_w]
              rfl
             refine pure_ (i := 10) (N := some 54) (v := ?_) (a' := ?_) #[true, true, true, true, true, true, true, true, true, true, true, false, false, false, false, false, false, false, false, false, false, false, false, false, false, false, false, false, false, false, false, false, false, false, false, false, false, false, false, false, false] rfl rfl (any_of HT_.out (by kernel_rfl)) (fun _ _ _ h => h) (Or.inl ⟨by rfl, ?_⟩) ?_ ?_
             rotate_left
             ·intro w'
              go_simp
              with_reducible rfl
             rotate_left
             ·simp only [Act.put, List.setIfInBounds_toArray, List.set_cons_zero, List.set_cons_succ, i64_w, i32_w]
              rfl
             refine pure_ (i := 11) (N := some 55) (v := ?_) (a' := ?_) #[true, true, true, true, true, true, true, true, true, true, true, true, false, false, false, false, false, false, false, false, false, false, false, false, false, false, false, false, false, false, false, false, false, false, false, false, false, false, false, false, false] rfl rfl (any_of HT_.out (by kernel_rfl)) (fun _ _ _ h => h) (Or.inl ⟨by rfl, ?_⟩) ?_ ?_
             rotate_left
             ·intro w'
              go_simp
              with_reducible rfl
             rotate_left
             ·simp only [Act.put, List.setIfInBounds_toArray, List.set_cons_zero, List.set_cons_succ, i64_w, i32_w]
              rfl
             refine pure_ (i := 12) (N := some 56) (v := ?_) (a' := ?_) #[true, true, true, true, true, true, true, true, true, true, true, true, true, false, false, false, false, false, false, false, false, false, false, false, false, false, false, false, false, false, false, false, false, false, false, false, false, false, false, false, false] rfl rfl (any_of HT_.out (by kernel_rfl)) (fun _ _ _ h => h) (Or.inl ⟨by rfl, ?_⟩) ?_ ?_
             rotate_left
             ·intro w'
              go_simp
              with_reducible rfl
             rotate_left
             ·simp only [Act.put, List.setIfInBounds_toArray, List.set_cons_zero, List.set_cons_succ, i64_w, i32_w]
              rfl
             refine pure_ (i := 13) (N := some 57) (v := ?_) (a' := ?_) #[true, true, true, true, true, true, true, true, true, true, true, true, true, true, false, false, false, false, false, false, false, false, false, false, false, false, false, false, false, false, false, false, false, false, false, false, false, false, false, false, false] rfl rfl (any_of HT_.out (by kernel_rfl)) (fun _ _ _ h => h) (Or.inl ⟨by rfl, ?_⟩) ?_ ?_
             rotate_left
             ·intro w'
              go_simp
              with_reducible rfl
             rotate_left
             ·simp only [Act.put, List.setIfInBounds_toArray, List.set_cons_zero, List.set_cons_succ, i64_w, i32_w]
              rfl
             refine pure_ (i := 14) (N := some 58) (v := ?_) (a' := ?_) #[true, true, true, true, true, true, true, true, true, true, true, true, true, true, true, false, false, false, false, false, false, false, false, false, false, false, false, false, false, false, false, false, false, false, false, false, false, false, false, false, false] rfl rfl (any_of HT_.out (by kernel_rfl)) (fun _ _ _ h => h) (Or.inl ⟨by rfl, ?_⟩) ?_ ?_
             rotate_left
             ·intro w'
              go_simp
              with_reducible rfl
             rotate_left
             ·simp only [Act.put, List.setIfInBounds_toArray, List.set_cons_zero, List.set_cons_succ, i64_w, i32_w]
              rfl
             refine pure_ (i := 15) (N := some 59) (v := ?_) (a' := ?_) #[true, true, true, true, true, true, true, true, true, true, true, true, true, true, true, true, false, false, false, false, false, false, false, false, false, false, false, false, false, false, false, false, false, false, false, false, false, false, false, false, false] rfl rfl (any_of HT_.out (by kernel_rfl)) (fun _ _ _ h => h) (Or.inl ⟨by rfl, ?_⟩) ?_ ?_
             rotate_left
             ·intro w'
              go_simp
              with_reducible rfl
             rotate_left
             ·simp only [Act.put, List.setIfInBounds_toArray, List.set_cons_zero, List.set_cons_succ, i64_w, i32_w]
              rfl
             refine pure_ (i := 16) (N := some 60) (v := ?_) (a' := ?_) #[true, true, true, true, true, true, true, true, true, true, true, true, true, true, true, true, true, false, false, false, false, false, false, false, false, false, false, false, false, false, false, false, false, false, false, false, false, false, false, false, false] rfl rfl (any_of HT_.out (by kernel_rfl)) (fun _ _ _ h => h) (Or.inl ⟨by rfl, ?_⟩) ?_ ?_
             rotate_left
             ·intro w'
              go_simp
              with_reducible rfl
             rotate_left
             ·simp only [Act.put, List.setIfInBounds_toArray, List.set_cons_zero, List.set_cons_succ, i64_w, i32_w]
              rfl
             refine pure_ (i := 17) (N := some 61) (v := ?_) (a' := ?_) #[true, true, true, true, true, true, true, true, true, true, true, true, true, true, true, true, true, true, false, false, false, false, false, false, false, false, false, false, false, false, false, false, false, false, false, false, false, false, false, false, false] rfl rfl (any_of HT_.out (by kernel_rfl)) (fun _ _ _ h => h) (Or.inl ⟨by rfl, ?_⟩) ?_ ?_
             rotate_left
             ·intro w'
              go_simp
              with_reducible rfl
             rotate_left
             ·simp only [Act.put, List.setIfInBounds_toArray, List.set_cons_zero, List.set_cons_succ, i64_w, i32_w]
              rfl
             refine pure_ (i := 19) (N := some 63) (v := ?_) (a' := ?_) #[true, true, true, true, true, true, true, true, true, true, true, true, true, true, true, true, true, true, false, true, false, false, false, false, false, false, false, false, false, false, false, false, false, false, false, false, false, false, false, false, false] rfl rfl (any_of HT_.out (by kernel_rfl)) (fun _ _ _ h => h) (Or.inl ⟨by rfl, ?_⟩) ?_ ?_
             rotate_left
             ·intro w'
              go_simp
              with_reducible rfl
             rotate_left
             ·simp only [Act.put, List.setIfInBounds_toArray, List.set_cons_zero, List.set_cons_succ, i64_w, i32_w]
              rfl
             refine pure_ (i := 20) (N := some 64) (v := ?_) (a' := ?_) #[true, true, true, true, true, true, true, true, true, true, true, true, true, true, true, true, true, true, false, true, true, false, false, false, false, false, false, false, false, false, false, false, false, false, false, false, false, false, false, false, false] rfl rfl (any_of HT_.out (by kernel_rfl)) (fun _ _ _ h => h) (Or.inl ⟨by rfl, ?_⟩) ?_ ?_
             rotate_left
             ·intro w'
              go_simp
              with_reducible rfl
             rotate_left
             ·simp only [Act.put, List.setIfInBounds_toArray, List.set_cons_zero, List.set_cons_succ, i64_w, i32_w]
              rfl
             refine pure_ (i := 22) (N := some 66) (v := ?_) (a' := ?_) #[true, true, true, true, true, true, true, true, true, true, true, true, true, true, true, true, true, true, false, true, true, false, true, false, false, false, false, false, false, false, false, false, false, false, false, false, false, false, false, false, false] rfl rfl (any_of HT_.out (by kernel_rfl)) (fun _ _ _ h => h) (Or.inl ⟨by rfl, ?_⟩) ?_ ?_
             rotate_left
             ·intro w'
              go_simp
              with_reducible rfl
             rotate_left
             ·simp only [Act.put, List.setIfInBounds_toArray, List.set_cons_zero, List.set_cons_succ, i64_w, i32_w]
              rfl
             refine take_ (i := 18) (N := some 62) (v := ?_) (a' := ?_) #[true, true, true, true, true, true, true, true, true, true, true, true, true, true, true, true, true, true, true, true, true, false, true, false, false, false, false, false, false, false, false, false, false, false, false, false, false, false, false, false, false] rfl rfl (take_ofW HT_.out HW_.out (by kernel_rfl)) (fun _ _ _ h => h) (Or.inl ⟨by rfl, ?_⟩) hHeld ?_ ?_
             rotate_left
             ·rintro w' ⟨s0, s1, s2, s3, s4⟩
              go_simp
              with_reducible rfl
             rotate_left
             ·simp only [Act.put, List.setIfInBounds_toArray, List.set_cons_zero, List.set_cons_succ, i64_w, i32_w]
              rfl
             refine take_ (i := 21) (N := some 65) (v := ?_) (a' := ?_) #[true, true, true, true, true, true, true, true, true, true, true, true, true, true, true, true, true, true, true, true, true, true, true, false, false, false, false, false, false, false, false, false, false, false, false, false, false, false, false, false, false] rfl rfl (take_ofW HT_.out HW_.out (by kernel_rfl)) (fun _ _ _ h => h) (Or.inl ⟨by rfl, ?_⟩) hHeld ?_ ?_
             rotate_left
             ·rintro w' ⟨s0, s1, s2, s3, s4⟩
              go_simp
              with_reducible rfl
             rotate_left
             ·simp only [Act.put, List.setIfInBounds_toArray, List.set_cons_zero, List.set_cons_succ, i64_w, i32_w]
              rfl
             refine pure_ (i := 23) (N := some 67) (v := ?_) (a' := ?_) #[true, true, true, true, true, true, true, true, true, true, true, true, true, true, true, true, true, true, true, true, true, true, true, true, false, false, false, false, false, false, false, false, false, false, false, false, false, false, false, false, false] rfl rfl (any_of HT_.out (by kernel_rfl)) (fun _ _ _ h => h) (Or.inl ⟨by rfl, ?_⟩) ?_ ?_
             rotate_left
             ·intro w'
              go_simp
              with_reducible rfl
             rotate_left
             ·simp only [Act.put, List.setIfInBounds_toArray, List.set_cons_zero, List.set_cons_succ, i64_w, i32_w]
              rfl
             refine take_ (i := 24) (N := some 68) (v := ?_) (a' := ?_) #[true, true, true, true, true, true, true, true, true, true, true, true, true, true, true, true, true, true, true, true, true, true, true, true, true, false, false, false, false, false, false, false, false, false, false, false, false, false, false, false, false] rfl rfl (take_ofW HT_.out HW_.out (by kernel_rfl)) (fun _ _ _ h => h) (Or.inl ⟨by rfl, ?_⟩) hHeld ?_ ?_
             rotate_left
             ·rintro w' ⟨s0, s1, s2, s3, s4⟩
              go_simp
              with_reducible rfl
             rotate_left
             ·simp only [Act.put, List.setIfInBounds_toArray, List.set_cons_zero, List.set_cons_succ, i64_w, i32_w]
              rfl
             refine one_ (i := 25) (N := some 69) #[true, true, true, true, true, true, true, true, true, true, true, true, true, true, true, true, true, true, true, true, true, true, true, true, true, true, false, false, false, false, false, false, false, false, false, false, false, false, false, false, false] rfl rfl (one_of HT_.out (by kernel_rfl)) (by decide) (fun K hK => ?_)
             refine goes_ Try.func34 (by kernel_rfl) rfl #[.slice Ao35 t288.length co35, .agg #[.int .i64 ((rd_T58 t291 (ji18)).f0), .int .i64 ((rd_T58 t291 (ji18)).f1), .int .i64 ((rd_T58 t291 (ji18)).f2)]] (by rfl) rfl rfl (by (try simp only [List.map_toArray, List.map_cons, List.map_nil]); first | done | (simp only [hji18]; rfl) | rfl | (simp only [List.length_drop, List.length_take]; rfl)) ?_
             with_reducible refine (impl_EvalExpr.calls k _ _ t288 ((rd_T58 t291 (ji18)).f0) ((rd_T58 t291 (ji18)).f1) ((rd_T58 t291 (ji18)).f2) t320 _ ?side1 ?side2 A22.out).mono ?_
             (case side1 => repeat (first | exact (Kd.R_reads' HO290.out).2.2 | (with_reducible refine Kd.C_alloc ?_ _) | (with_reducible refine Kd.C_drewN ?_ _) | (with_reducible refine Kd.C_drew ?_)))
             (case side2 => exact (Kd.R_reads' HO290.out).2.1)
             rintro e w48 ⟨rfl, hb⟩
             have HS1_ := (hb.cell (World.block_lt_of_cell? _ _ (hHeld.2.1))).trans (hHeld.2.1)
             have HS2_ := (hb.cell (World.block_lt_of_cell? _ _ (hHeld.2.2.1))).trans (hHeld.2.2.1)
             have HS3_ := (hb.cell (World.block_lt_of_cell? _ _ (hHeld.2.2.2.1))).trans (hHeld.2.2.2.1)
             have HS4_ := (hb.cell (World.block_lt_of_cell? _ _ (hHeld.2.2.2.2))).trans (hHeld.2.2.2.2)
             refine ⟨_, rfl, ?_⟩
             have n0_ := Aside0.mk (Kd.R_below (pkr HO290.out) hb)
             have n1_ := Aside0.mk (Kd.R_below (pkr HO293.out) hb)
             have n2_ := Aside0.mk (Kd.R_below (pkr HO297.out) hb)
             have n3_ := Aside0.mk (Kd.R_below (pkr HO300.out) hb)
             have n4_ := Aside0.mk (Kd.R_below (pkr HO303.out) hb)
             have n5_ := Aside0.mk (Kd.R_below (pkr HO307.out) hb)
             have n6_ := Aside0.mk (Kd.R_below (pkr HO311.out) hb)
             have n7_ := Aside0.mk (Kd.R_below (pkr HO314.out) hb)
             have n8_ := Aside0.mk (blk_below (pkb BK294.out) hb)
             have n9_ := Aside0.mk (below_step (by repeat (first | (with_reducible first | exact HB.out | apply below_alloc | apply pw_below_drewN | apply below_drew1 | refine below_set ?_ GE294.out) | exact HB.out)) hb)
             clear HO290
             clear HO293
             clear HO297
             clear HO300
             clear HO303
             clear HO307
             clear HO311
             clear HO314
             clear BK294
             clear HB
             have HO290 := n0_
             have HO293 := n1_
             have HO297 := n2_
             have HO300 := n3_
             have HO303 := n4_
             have HO307 := n5_
             have HO311 := n6_
             have HO314 := n7_
             have BK294 := n8_
             have HB := n9_
             clear n0_ n1_ n2_ n3_ n4_ n5_ n6_ n7_ n8_ n9_
             (try clear hb)
             (try clear hb2)
             (try clear hk)
             (try clear hi)
             obtain ⟨Ao49, co49, eo49⟩ := Kd.R_slice HO314.out
             (first | subst eo49 | (injection eo49 with f1_ f2_ f3_; have f4_ := f1_.symm; have f5_ := f3_.symm; clear f1_ f2_ f3_; subst f4_; subst f5_))
             refine hK.out _ _ ⟨(blk_cell BK294.out 0).trans rfl, HS1_, HS2_, HS3_, HS4_⟩ (fun hHeld => ?_)
             clear hK K
             refine norm_ (a' := ?_) ?_ ?_
             rotate_left
             ·show Act.put _ (some 69) _ = _
              simp only [Act.put, List.setIfInBounds_toArray, List.set_cons_zero, List.set_cons_succ, i64_w, i32_w]
              rfl
             refine pure_ (i := 26) (N := some 70) (v := ?_) (a' := ?_) #[true, true, true, true, true, true, true, true, true, true, true, true, true, true, true, true, true, true, true, true, true, true, true, true, true, true, true, false, false, false, false, false, false, false, false, false, false, false, false, false, false] rfl rfl (any_of HT_.out (by kernel_rfl)) (fun _ _ _ h => h) (Or.inl ⟨by rfl, ?_⟩) ?_ ?_
             rotate_left
             ·intro w'
              go_simp
              with_reducible rfl
             rotate_left
             ·simp only [Act.put, List.setIfInBounds_toArray, List.set_cons_zero, List.set_cons_succ, i64_w, i32_w]
              rfl
             refine pure_ (i := 27) (N := some 71) (v := ?_) (a' := ?_) #[true, true, true, true, true, true, true, true, true, true, true, true, true, true, true, true, true, true, true, true, true, true, true, true, true, true, true, true, false, false, false, false, false, false, false, false, false, false, false, false, false] rfl rfl (any_of HT_.out (by kernel_rfl)) (fun _ _ _ h => h) (Or.inl ⟨by rfl, ?_⟩) ?_ ?_
             rotate_left
             ·intro w'
              go_simp
              with_reducible rfl
             rotate_left
             ·simp only [Act.put, List.setIfInBounds_toArray, List.set_cons_zero, List.set_cons_succ, i64_w, i32_w]
              rfl
             refine pure_ (i := 28) (N := some 72) (v := ?_) (a' := ?_) #[true, true, true, true, true, true, true, true, true, true, true, true, true, true, true, true, true, true, true, true, true, true, true, true, true, true, true, true, true, false, false, false, false, false, false, false, false, false, false, false, false] rfl rfl (any_of HT_.out (by kernel_rfl)) (fun _ _ _ h => h) (Or.inl ⟨by rfl, ?_⟩) ?_ ?_
             rotate_left
             ·intro w'
              go_simp
              with_reducible rfl
             rotate_left
             ·simp only [Act.put, List.setIfInBounds_toArray, List.set_cons_zero, List.set_cons_succ, i64_w, i32_w]
              rfl
             refine pure_ (i := 29) (N := some 73) (v := ?_) (a' := ?_) #[true, true, true, true, true, true, true, true, true, true, true, true, true, true, true, true, true, true, true, true, true, true, true, true, true, true, true, true, true, true, false, false, false, false, false, false, false, false, false, false, false] rfl rfl (any_of HT_.out (by kernel_rfl)) (fun _ _ _ h => h) (Or.inl ⟨by rfl, ?_⟩) ?_ ?_
             rotate_left
             ·intro w'
              go_simp
              with_reducible rfl
             rotate_left
             ·simp only [Act.put, List.setIfInBounds_toArray, List.set_cons_zero, List.set_cons_succ, i64_w, i32_w]
              rfl
             refine pure_ (i := 30) (N := some 74) (v := ?_) (a' := ?_) #[true, true, true, true, true, true, true, true, true, true, true, true, true, true, true, true, true, true, true, true, true, true, true, true, true, true, true, true, true, true, true, false, false, false, false, false, false, false, false, false, false] rfl rfl (any_of HT_.out (by kernel_rfl)) (fun _ _ _ h => h) (Or.inl ⟨by rfl, ?_⟩) ?_ ?_
             rotate_left
             ·intro w'
              go_simp
              with_reducible rfl
             rotate_left
             ·simp only [Act.put, List.setIfInBounds_toArray, List.set_cons_zero, List.set_cons_succ, i64_w, i32_w]
              rfl
             refine pure_ (i := 31) (N := some 75) (v := ?_) (a' := ?_) #[true, true, true, true, true, true, true, true, true, true, true, true, true, true, true, true, true, true, true, true, true, true, true, true, true, true, true, true, true, true, true, true, false, false, false, false, false, false, false, false, false] rfl rfl (any_of HT_.out (by kernel_rfl)) (fun _ _ _ h => h) (Or.inl ⟨by rfl, ?_⟩) ?_ ?_
             rotate_left
             ·intro w'
              go_simp
              with_reducible rfl
             rotate_left
             ·simp only [Act.put, List.setIfInBounds_toArray, List.set_cons_zero, List.set_cons_succ, i64_w, i32_w]
              rfl
             refine pure_ (i := 32) (N := some 76) (v := ?_) (a' := ?_) #[true, true, true, true, true, true, true, true, true, true, true, true, true, true, true, true, true, true, true, true, true, true, true, true, true, true, true, true, true, true, true, true, true, false, false, false, false, false, false, false, false] rfl rfl (any_of HT_.out (by kernel_rfl)) (fun _ _ _ h => h) (Or.inl ⟨by rfl, ?_⟩) ?_ ?_
             rotate_left
             ·intro w'
              go_simp
              with_reducible rfl
             rotate_left
             ·simp only [Act.put, List.setIfInBounds_toArray, List.set_cons_zero, List.set_cons_succ, i64_w, i32_w]
              rfl
             refine pure_ (i := 33) (N := some 77) (v := ?_) (a' := ?_) #[true, true, true, true, true, true, true, true, true, true, true, true, true, true, true, true, true, true, true, true, true, true, true, true, true, true, true, true, true, true, true, true, true, true, false, false, false, false, false, false, false] rfl rfl (any_of HT_.out (by kernel_rfl)) (fun _ _ _ h => h) (Or.inl ⟨by rfl, ?_⟩) ?_ ?_
             rotate_left
             ·intro w'
              go_simp
              with_reducible rfl
             rotate_left
             ·simp only [Act.put, List.setIfInBounds_toArray, List.set_cons_zero, List.set_cons_succ, i64_w, i32_w]
              rfl
             refine one_ (i := 34) (N := some 78) #[true, true, true, true, true, true, true, true, true, true, true, true, true, true, true, true, true, true, true, true, true, true, true, true, true, true, true, true, true, true, true, true, true, true, true, false, false, false, false, false, false] rfl rfl (one_of HT_.out (by kernel_rfl)) (by decide) (fun K hK => ?_)
             refine goes_ Try.func33 (by kernel_rfl) rfl #[.slice Ao49 t312.length co49, .slice (some ad318) t305.length co47] (by rfl) rfl rfl (by (try simp only [List.map_toArray, List.map_cons, List.map_nil]); first | done | rfl | (simp only [List.length_drop, List.length_take]; rfl)) ?_
             with_reducible refine (laws_sameInts.calls k _ _ t312 _ _ t305 true _ ?side1 ?side2 ?side3 ?side4 A25.out).mono ?_
             (case side1 => repeat (first | exact (Kd.R_reads' HO314.out).2.2 | (with_reducible refine Kd.C_alloc ?_ _) | (with_reducible refine Kd.C_drewN ?_ _) | (with_reducible refine Kd.C_drew ?_)))
             (case side2 => exact (Kd.R_reads' HO314.out).2.1)
             (case side3 => repeat (first | exact (Kd.R_reads' HO307.out).2.2 | (with_reducible refine Kd.C_alloc ?_ _) | (with_reducible refine Kd.C_drewN ?_ _) | (with_reducible refine Kd.C_drew ?_)))
             (case side4 => exact (Kd.R_reads' HO307.out).2.1)
             rintro e w' ⟨rfl, ⟨nd, rfl⟩⟩
             refine ⟨_, rfl, ?_⟩
             refine hK.out _ _ ⟨(blk_cell BK294.out 0).trans rfl, hHeld.2.1, hHeld.2.2.1, hHeld.2.2.2.1, hHeld.2.2.2.2⟩ (fun hHeld => ?_)
             clear hK K
             refine norm_ (a' := ?_) ?_ ?_
             rotate_left
             ·show Act.put _ (some 78) _ = _
              simp only [Act.put, List.setIfInBounds_toArray, List.set_cons_zero, List.set_cons_succ, i64_w, i32_w]
              rfl
             refine pure_ (i := 35) (N := some 79) (v := ?_) (a' := ?_) #[true, true, true, true, true, true, true, true, true, true, true, true, true, true, true, true, true, true, true, true, true, true, true, true, true, true, true, true, true, true, true, true, true, true, true, true, false, false, false, false, false] rfl rfl (any_of HT_.out (by kernel_rfl)) (fun _ _ _ h => h) (Or.inl ⟨by rfl, ?_⟩) ?_ ?_
             rotate_left
             ·intro w'
              go_simp
              with_reducible rfl
             rotate_left
             ·simp only [Act.put, List.setIfInBounds_toArray, List.set_cons_zero, List.set_cons_succ, i64_w, i32_w]
              rfl
             refine pure_ (i := 36) (N := some 80) (v := ?_) (a' := ?_) #[true, true, true, true, true, true, true, true, true, true, true, true, true, true, true, true, true, true, true, true, true, true, true, true, true, true, true, true, true, true, true, true, true, true, true, true, true, false, false, false, false] rfl rfl (any_of HT_.out (by kernel_rfl)) (fun _ _ _ h => h) (Or.inl ⟨by rfl, ?_⟩) ?_ ?_
             rotate_left
             ·intro w'
              go_simp
              with_reducible rfl
             rotate_left
             ·simp only [Act.put, List.setIfInBounds_toArray, List.set_cons_zero, List.set_cons_succ, i64_w, i32_w]
              rfl
             refine take_ (i := 37) (N := some 81) (v := ?_) (a' := ?_) #[true, true, true, true, true, true, true, true, true, true, true, true, true, true, true, true, true, true, true, true, true, true, true, true, true, true, true, true, true, true, true, true, true, true, true, true, true, true, false, false, false] rfl rfl (take_ofW HT_.out HW_.out (by kernel_rfl)) (fun _ _ _ h => h) (Or.inl ⟨by rfl, ?_⟩) hHeld ?_ ?_
             rotate_left
             ·rintro w' ⟨s0, s1, s2, s3, s4⟩
              go_simp
              with_reducible rfl
             rotate_left
             ·simp only [Act.put, List.setIfInBounds_toArray, List.set_cons_zero, List.set_cons_succ, i64_w, i32_w]
              rfl
             refine one_ (i := 38) (N := some 82) #[true, true, true, true, true, true, true, true, true, true, true, true, true, true, true, true, true, true, true, true, true, true, true, true, true, true, true, true, true, true, true, true, true, true, true, true, true, true, true, false, false] rfl rfl (one_of HT_.out (by kernel_rfl)) (by decide) (fun K hK => ?_)
             refine goes_ Try.func35 (by kernel_rfl) rfl #[.agg #[.slice (some ad319) t291.length co31]] (by rfl) rfl rfl (by (try simp only [List.map_toArray, List.map_cons, List.map_nil]); first | done | rfl | (simp only [List.length_drop, List.length_take]; rfl)) ?_
             with_reducible refine (impl_RulesOk.calls k _ _ t291 t322 _ ?side1 ?side2 A27.out).mono ?_
             (case side1 => repeat (first | exact (Kd.R_reads' HO293.out).2.2 | (with_reducible refine Kd.C_alloc ?_ _) | (with_reducible refine Kd.C_drewN ?_ _) | (with_reducible refine Kd.C_drew ?_)))
             (case side2 => exact (Kd.R_reads' HO293.out).2.1)
             rintro e w50 ⟨rfl, hb⟩
             have HS1_ := (hb.cell (World.block_lt_of_cell? _ _ (hHeld.2.1))).trans (hHeld.2.1)
             have HS2_ := (hb.cell (World.block_lt_of_cell? _ _ (hHeld.2.2.1))).trans (hHeld.2.2.1)
             have HS3_ := (hb.cell (World.block_lt_of_cell? _ _ (hHeld.2.2.2.1))).trans (hHeld.2.2.2.1)
             have HS4_ := (hb.cell (World.block_lt_of_cell? _ _ (hHeld.2.2.2.2))).trans (hHeld.2.2.2.2)
             refine ⟨_, rfl, ?_⟩
             have n0_ := Aside0.mk (Kd.R_below (pkr HO290.out) hb)
             have n1_ := Aside0.mk (Kd.R_below (pkr HO293.out) hb)
             have n2_ := Aside0.mk (Kd.R_below (pkr HO297.out) hb)
             have n3_ := Aside0.mk (Kd.R_below (pkr HO300.out) hb)
             have n4_ := Aside0.mk (Kd.R_below (pkr HO303.out) hb)
             have n5_ := Aside0.mk (Kd.R_below (pkr HO307.out) hb)
             have n6_ := Aside0.mk (Kd.R_below (pkr HO311.out) hb)
             have n7_ := Aside0.mk (Kd.R_below (pkr HO314.out) hb)
             have n8_ := Aside0.mk (blk_below (pkb BK294.out) hb)
             have n9_ := Aside0.mk (below_step (by repeat (first | (with_reducible first | exact HB.out | apply below_alloc | apply pw_below_drewN | apply below_drew1 | refine below_set ?_ GE294.out) | exact HB.out)) hb)
             clear HO290
             clear HO293
             clear HO297
             clear HO300
             clear HO303
             clear HO307
             clear HO311
             clear HO314
             clear BK294
             clear HB
             have HO290 := n0_
             have HO293 := n1_
             have HO297 := n2_
             have HO300 := n3_
             have HO303 := n4_
             have HO307 := n5_
             have HO311 := n6_
             have HO314 := n7_
             have BK294 := n8_
             have HB := n9_
             clear n0_ n1_ n2_ n3_ n4_ n5_ n6_ n7_ n8_ n9_
             (try clear hb)
             (try clear hb2)
             (try clear hk)
             (try clear hi)
             refine hK.out _ _ ⟨(blk_cell BK294.out 0).trans rfl, HS1_, HS2_, HS3_, HS4_⟩ (fun hHeld => ?_)
             clear hK K
             refine norm_ (a' := ?_) ?_ ?_
             rotate_left
             ·show Act.put _ (some 82) _ = _
              simp only [Act.put, List.setIfInBounds_toArray, List.set_cons_zero, List.set_cons_succ, i64_w, i32_w]
              rfl
             refine pure_ (i := 39) (N := some 83) (v := ?_) (a' := ?_) #[true, true, true, true, true, true, true, true, true, true, true, true, true, true, true, true, true, true, true, true, true, true, true, true, true, true, true, true, true, true, true, true, true, true, true, true, true, true, true, true, false] rfl rfl (any_of HT_.out (by kernel_rfl)) (fun _ _ _ h => h) (Or.inl ⟨by rfl, ?_⟩) ?_ ?_
             rotate_left
             ·intro w'
              go_simp
              with_reducible rfl
             rotate_left
             ·simp only [Act.put, List.setIfInBounds_toArray, List.set_cons_zero, List.set_cons_succ, i64_w, i32_w]
              rfl
             refine pure_ (i := 40) (N := some 2) (v := ?_) (a' := ?_) #[true, true, true, true, true, true, true, true, true, true, true, true, true, true, true, true, true, true, true, true, true, true, true, true, true, true, true, true, true, true, true, true, true, true, true, true, true, true, true, true, true] rfl rfl (any_of HT_.out (by kernel_rfl)) (fun _ _ _ h => h) (Or.inl ⟨by rfl, ?_⟩) ?_ ?_
             rotate_left
             ·intro w'
              go_simp
              with_reducible rfl
             rotate_left
             ·simp only [Act.put, List.setIfInBounds_toArray, List.set_cons_zero, List.set_cons_succ, i64_w, i32_w]
              rfl
             refine done_ (done_of HT_.out (by kernel_rfl)) ?_
             try go_wp2
             go_ret
             exact ⟨by first | rfl | (simp [errW_none, errW_some] <;> rfl) | (simp only [← hji18]; first | rfl | (simp [errW_none, errW_some] <;> rfl)) | (simp [*, errW_none, errW_some] <;> rfl), by repeat (first | (with_reducible first | exact HB.out | apply below_alloc | apply pw_below_drewN | apply below_drew1 | refine below_set ?_ GE294.out) | exact HB.out)⟩
            ·replace c26 := Bool.eq_false_iff.mpr c26
             subst c26
             have H1 : (none) = some r := by rw [if_neg (show ¬ (false = true) by decide)] at H; exact H
             clear H
             have H := H1
             clear H1
             exact absurd H (by simp)
           ·replace c24 := Bool.eq_false_iff.mpr c24
            subst c24
            have H1 : (none) = some r := by rw [if_neg (show ¬ (false = true) by decide)] at H; exact H
            clear H
            have H := H1
            clear H1
            exact absurd H (by simp)
          ·rw [if_neg c23] at H
           have c23b0 : ((rd t305 (ji18)) == t320) = false := beq_eq_false_iff_ne.mpr c23
           have c23b1 : ((rd t305 (ji18)) != t320) = true := bne_iff_ne.mpr c23
           exact absurd H (by simp)
         ·rw [if_neg c21] at H
          exact absurd H (by simp)
        ·rw [if_neg c20] at H
         exact absurd H (by simp)
       ·rw [if_neg c19] at H
        exact absurd H (by simp)
      ·rw [if_neg c17] at H
       have c17b0 : ((t305.length : Int) == 8) = false := beq_eq_false_iff_ne.mpr c17
       have c17b1 : ((t305.length : Int) != 8) = true := bne_iff_ne.mpr c17
       exact absurd H (by simp)
     ·replace c16 := Bool.eq_false_iff.mpr c16
      subst c16
      have H1 : (none) = some r := by rw [if_neg (show ¬ (false = true) by decide)] at H; exact H
      clear H
      have H := H1
      clear H1
      exact absurd H (by simp)
    ·replace c15 := Bool.eq_false_iff.mpr c15
     subst c15
     have H1 : (none) = some r := by rw [if_neg (show ¬ (false = true) by decide)] at H; exact H
     clear H
     have H := H1
     clear H1
     exact absurd H (by simp)
   ·replace c13 := Bool.eq_false_iff.mpr c13
    subst c13
    have H1 : (none) = some r := by rw [if_neg (show ¬ (false = true) by decide)] at H; exact H
    clear H
    have H := H1
    clear H1
    exact absurd H (by simp)
  ·rw [if_neg c12] at H
   exact absurd H (by simp)

end Go.Proofs.Ytkjlpledjnidfaa.PFnMigrates
