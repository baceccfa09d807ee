-- written by xprint.py for this seat
import Derived.Test.YtniiebpibdkgjaaPFnExactFinishTicksx0
import Derived.Test.YtniiebpibdkgjaaPFnExactFinishTicksx1
import Derived.Test.YtniiebpibdkgjaaPFnExactFinishTicksx2
import Derived.Test.YtniiebpibdkgjaaPFnExactFinishTicksx4
import Derived.Test.YtniiebpibdkgjaaPFnExactFinishTicksx6
namespace Go.Proofs.Ytniiebpibdkgjaa.PFnExactFinishTicks
open Go.RowKit Go.Proofs.YtniiebpibdkgjaaW.PrintWords Go.Proofs.YtniiebpibdkgjaaW.PrintLast Go.Proofs.YtniiebpibdkgjaaW.PrintMore
attribute [local go_sem] max2_int min2_int max_two min_two max_three min_three max_four min_four   -- for this text's walks alone
set_option linter.unusedVariables false
set_option linter.unusedSimpArgs false

/-! ### laws_FnExactFinishTicks: function 6 -/
def laws_FnExactFinishTicks.j0 : Nat → List (S47) → List Int → List Int → List Int → Bool → Option (Bool)
 | 0, _, _, _, _, _ => none
 | k + 1, x0, x1, x6, x9, x61 => if x61 = true then (none) else ((laws_markIntS.f k x9 1).bind fun bt238 => ((laws_heldIntS.f k bt238.2 1).bind fun t240 => (if t240 < 0 then (none) else (if t240 = bt238.1 then ((laws_toJobS.f k x0).bind fun t241 => ((laws_toIntS.f k x1).bind fun t244 => ((impl_FinishTicks.f k t241 t244).bind fun t247 => ((laws_eqIntS.f k t247 x6).bind fun t250 => (if t250 = true then ((laws_heldIntS.f k bt238.2 1).bind fun t251 => (if t251 < 0 then (none) else (if t251 = bt238.1 then (some true) else (none)))) else (none)))))) else (none)))))
def laws_FnExactFinishTicks.f (k : Nat) (l0 : List (S47)) (l1 : List Int) : Option (Bool) := if (l1.length : Int) > 1048576 then (some true) else ((laws_szJobS.f l0 1048576).bind fun t205 => (if t205 < 0 then (some true) else ((laws_toJobS.f k l0).bind fun t206 => ((laws_toIntS.f k l1).bind fun t209 => ((spec_FinishTicks.f k t206 t209).bind fun t212 => ((laws_toJobS.f k l0).bind fun t215 => ((laws_toIntS.f k l1).bind fun t218 => ((impl_FinishTicks.f k t215 t218).bind fun t221 => ((laws_eqIntS.f k t221 t212).bind fun t224 => (if t224 = true then ((laws_toJobS.f k l0).bind fun t225 => ((laws_eqJobS.f k t215 t225).bind fun t228 => (if t228 = true then ((laws_toIntS.f k l1).bind fun t229 => ((laws_eqIntS.f k t218 t229).bind fun t232 => (if t232 = true then ((laws_markJobS.f k t215 1).bind fun bt233 => ((laws_markIntS.f k t218 bt233.1).bind fun bt235 => (if bt235.1 < 0 then (laws_FnExactFinishTicks.j0 k l0 l1 t212 t221 true) else ((laws_eqIntS.f k t221 t212).bind fun t237 => (laws_FnExactFinishTicks.j0 k l0 l1 t212 t221 (!t237)))))) else (none)))) else (none)))) else (none)))))))))))
theorem laws_FnExactFinishTicks.mono_l : ∀ k, (∀ y0 y1 y2 y3 y4, LeO (laws_FnExactFinishTicks.j0 k y0 y1 y2 y3 y4) (laws_FnExactFinishTicks.j0 (k + 1) y0 y1 y2 y3 y4))
 | 0 => fun _ _ _ _ _ r h => by simp [laws_FnExactFinishTicks.j0] at h
 | k + 1 => by
  have ih0 := laws_FnExactFinishTicks.mono_l k
  ·intro y0 y1 y2 y3 y4
   unfold laws_FnExactFinishTicks.j0
   repeat' first
   | (with_reducible exact ih0 _ _ _ _ _)
   | (with_reducible exact impl_FinishTicks.mono _ _ _)
   | (with_reducible exact laws_eqIntS.mono _ _ _)
   | (with_reducible exact laws_eqJobS.mono _ _ _)
   | (with_reducible exact laws_heldIntS.mono _ _ _)
   | (with_reducible exact laws_markIntS.mono _ _ _)
   | (with_reducible exact laws_markJobS.mono _ _ _)
   | (with_reducible exact laws_toIntS.mono _ _)
   | (with_reducible exact laws_toJobS.mono _ _)
   | (with_reducible exact spec_FinishTicks.mono _ _ _)
   | (with_reducible exact LeO.refl _)
   | (with_reducible exact LeO.none _)
   | (with_reducible refine LeO.ite ?_ ?_)
   | (with_reducible refine LeO.bind ?_ (fun _ => ?_))
   | exact ih0 _ _ _ _ _
   | exact impl_FinishTicks.mono _ _ _
   | exact laws_eqIntS.mono _ _ _
   | exact laws_eqJobS.mono _ _ _
   | exact laws_heldIntS.mono _ _ _
   | exact laws_markIntS.mono _ _ _
   | exact laws_markJobS.mono _ _ _
   | exact laws_toIntS.mono _ _
   | exact laws_toJobS.mono _ _
   | exact spec_FinishTicks.mono _ _ _
   | exact LeO.none _
   | refine LeO.ite ?_ ?_
   | refine LeO.bind ?_ (fun _ => ?_)
theorem laws_FnExactFinishTicks.mono : ∀ a0 a1 k, LeO (laws_FnExactFinishTicks.f k a0 a1) (laws_FnExactFinishTicks.f (k + 1) a0 a1) := by
 intro a0 a1 k
 have ih0 := laws_FnExactFinishTicks.mono_l k
 unfold laws_FnExactFinishTicks.f
 repeat' first
   | (with_reducible exact ih0 _ _ _ _ _)
   | (with_reducible exact impl_FinishTicks.mono _ _ _)
   | (with_reducible exact laws_eqIntS.mono _ _ _)
   | (with_reducible exact laws_eqJobS.mono _ _ _)
   | (with_reducible exact laws_heldIntS.mono _ _ _)
   | (with_reducible exact laws_markIntS.mono _ _ _)
   | (with_reducible exact laws_markJobS.mono _ _ _)
   | (with_reducible exact laws_toIntS.mono _ _)
   | (with_reducible exact laws_toJobS.mono _ _)
   | (with_reducible exact spec_FinishTicks.mono _ _ _)
   | (with_reducible exact LeO.refl _)
   | (with_reducible exact LeO.none _)
   | (with_reducible refine LeO.ite ?_ ?_)
   | (with_reducible refine LeO.bind ?_ (fun _ => ?_))
   | exact ih0 _ _ _ _ _
   | exact impl_FinishTicks.mono _ _ _
   | exact laws_eqIntS.mono _ _ _
   | exact laws_eqJobS.mono _ _ _
   | exact laws_heldIntS.mono _ _ _
   | exact laws_markIntS.mono _ _ _
   | exact laws_markJobS.mono _ _ _
   | exact laws_toIntS.mono _ _
   | exact laws_toJobS.mono _ _
   | exact spec_FinishTicks.mono _ _ _
   | exact LeO.none _
   | refine LeO.ite ?_ ?_
   | refine LeO.bind ?_ (fun _ => ?_)
set_option maxHeartbeats 8000000 in
set_option maxRecDepth 100000 in
theorem laws_FnExactFinishTicks.calls (k : Nat) (A0 : Option Addr) (c0 : Nat) (l0 : List (S47)) (A1 : Option Addr) (c1 : Nat) (l1 : List Int) (r : Bool) (w : World) (hr0 : Kd.C k47 w A0 l0.length l0) (hc0 : l0.length ≤ c0) (hr1 : Kd.C (Kd.int .i64) w A1 l1.length l1) (hc1 : l1.length ≤ c1) (h : laws_FnExactFinishTicks.f k l0 l1 = some r) :
  Calls Try.prog 6 #[.slice A0 l0.length c0, .slice A1 l1.length c1] w fun e w' => e = .returned (.bool r) ∧ Below w.heap.size w w' := by
 have HR0 := Aside0.mk hr0
 have HC0 := Aside0.mk hc0
 clear hr0 hc0
 have HR1 := Aside0.mk hr1
 have HC1 := Aside0.mk hc1
 clear hr1 hc1
 have HB := Aside0.mk (Below.refl w.heap.size w)
 have H : (if (l1.length : Int) > 1048576 then (some true) else ((laws_szJobS.f l0 1048576).bind fun t205 => (if t205 < 0 then (some true) else ((laws_toJobS.f k l0).bind fun t206 => ((laws_toIntS.f k l1).bind fun t209 => ((spec_FinishTicks.f k t206 t209).bind fun t212 => ((laws_toJobS.f k l0).bind fun t215 => ((laws_toIntS.f k l1).bind fun t218 => ((impl_FinishTicks.f k t215 t218).bind fun t221 => ((laws_eqIntS.f k t221 t212).bind fun t224 => (if t224 = true then ((laws_toJobS.f k l0).bind fun t225 => ((laws_eqJobS.f k t215 t225).bind fun t228 => (if t228 = true then ((laws_toIntS.f k l1).bind fun t229 => ((laws_eqIntS.f k t218 t229).bind fun t232 => (if t232 = true then ((laws_markJobS.f k t215 1).bind fun bt233 => ((laws_markIntS.f k t218 bt233.1).bind fun bt235 => (if bt235.1 < 0 then (laws_FnExactFinishTicks.j0 k l0 l1 t212 t221 true) else ((laws_eqIntS.f k t221 t212).bind fun t237 => (laws_FnExactFinishTicks.j0 k l0 l1 t212 t221 (!t237)))))) else (none)))) else (none)))) else (none)))))))))))) = some r := h
 clear h
 by_cases c3 : (l1.length : Int) > 1048576
 ·rw [if_pos c3] at H
  have c3b0 : decide (1048576 < (l1.length : Int)) = true := decide_eq_true c3
  have c3b1 : decide (1048576 < l1.length) = true := decide_eq_true (by omega)
  clear c3
  obtain rfl := Option.some.inj H
  go_enter Try.func6, Try.ntmps6
  go_wp2
  go_ret
  exact ⟨by first | rfl | (simp [errW_none, errW_some] <;> rfl) | (simp [*, errW_none, errW_some] <;> rfl), by repeat (first | (with_reducible first | exact HB.out | apply below_alloc | apply pw_below_drewN | apply below_drew1) | exact HB.out)⟩
 ·rw [if_neg c3] at H
  have c3b0 : decide (1048576 < (l1.length : Int)) = false := decide_eq_false c3
  have c3b1 : decide (1048576 < l1.length) = false := decide_eq_false (by omega)
  clear c3
  replace H := Option.bind_eq_some_iff.mp H
  obtain ⟨t205, A40, H⟩ := H
  replace H : (if t205 < 0 then (some true) else ((laws_toJobS.f k l0).bind fun t206 => ((laws_toIntS.f k l1).bind fun t209 => ((spec_FinishTicks.f k t206 t209).bind fun t212 => ((laws_toJobS.f k l0).bind fun t215 => ((laws_toIntS.f k l1).bind fun t218 => ((impl_FinishTicks.f k t215 t218).bind fun t221 => ((laws_eqIntS.f k t221 t212).bind fun t224 => (if t224 = true then ((laws_toJobS.f k l0).bind fun t225 => ((laws_eqJobS.f k t215 t225).bind fun t228 => (if t228 = true then ((laws_toIntS.f k l1).bind fun t229 => ((laws_eqIntS.f k t218 t229).bind fun t232 => (if t232 = true then ((laws_markJobS.f k t215 1).bind fun bt233 => ((laws_markIntS.f k t218 bt233.1).bind fun bt235 => (if bt235.1 < 0 then (laws_FnExactFinishTicks.j0 k l0 l1 t212 t221 true) else ((laws_eqIntS.f k t221 t212).bind fun t237 => (laws_FnExactFinishTicks.j0 k l0 l1 t212 t221 (!t237)))))) else (none)))) else (none)))) else (none)))))))))) = some r := H
  have A4 := Aside0.mk A40
  clear A40
  by_cases c5 : t205 < 0
  ·rw [if_pos c5] at H
   have c5b0 : decide (t205 < 0) = true := decide_eq_true c5
   clear c5
   obtain rfl := Option.some.inj H
   go_enter Try.func6, Try.ntmps6
   go_wp2_with (first | ((with_reducible refine gate_callee (f := 13) rfl ?_); refine goesL_ (some 19) rfl rfl Try.func13 (by kernel_rfl) rfl #[.slice A0 l0.length c0, .int .i64 1048576] rfl (by (try simp only [List.map_toArray, List.map_cons, List.map_nil]); first | done | rfl | (simp only [List.length_drop, List.length_take]; rfl)) ?_; (with_reducible refine (laws_szJobS.calls _ _ l0 1048576 t205 _ ?side1 ?side2 A4.out).mono ?_); (case side1 => repeat (first | exact HR0.out | (with_reducible refine Kd.C_alloc ?_ _) | (with_reducible refine Kd.C_drewN ?_ _) | (with_reducible refine Kd.C_drew ?_))); (case side2 => exact HC0.out); rintro e w' ⟨rfl, ⟨nd, rfl⟩⟩; refine ⟨_, rfl, ?_⟩))
   go_ret
   exact ⟨by first | rfl | (simp [errW_none, errW_some] <;> rfl) | (simp [*, errW_none, errW_some] <;> rfl), by repeat (first | (with_reducible first | exact HB.out | apply below_alloc | apply pw_below_drewN | apply below_drew1) | exact HB.out)⟩
  ·rw [if_neg c5] at H
   have c5b0 : decide (t205 < 0) = false := decide_eq_false c5
   clear c5
   replace H := Option.bind_eq_some_iff.mp H
   obtain ⟨t206, A60, H⟩ := H
   replace H : ((laws_toIntS.f k l1).bind fun t209 => ((spec_FinishTicks.f k t206 t209).bind fun t212 => ((laws_toJobS.f k l0).bind fun t215 => ((laws_toIntS.f k l1).bind fun t218 => ((impl_FinishTicks.f k t215 t218).bind fun t221 => ((laws_eqIntS.f k t221 t212).bind fun t224 => (if t224 = true then ((laws_toJobS.f k l0).bind fun t225 => ((laws_eqJobS.f k t215 t225).bind fun t228 => (if t228 = true then ((laws_toIntS.f k l1).bind fun t229 => ((laws_eqIntS.f k t218 t229).bind fun t232 => (if t232 = true then ((laws_markJobS.f k t215 1).bind fun bt233 => ((laws_markIntS.f k t218 bt233.1).bind fun bt235 => (if bt235.1 < 0 then (laws_FnExactFinishTicks.j0 k l0 l1 t212 t221 true) else ((laws_eqIntS.f k t221 t212).bind fun t237 => (laws_FnExactFinishTicks.j0 k l0 l1 t212 t221 (!t237)))))) else (none)))) else (none)))) else (none)))))))) = some r := H
   have A6 := Aside0.mk A60
   clear A60
   replace H := Option.bind_eq_some_iff.mp H
   obtain ⟨t209, A70, H⟩ := H
   replace H : ((spec_FinishTicks.f k t206 t209).bind fun t212 => ((laws_toJobS.f k l0).bind fun t215 => ((laws_toIntS.f k l1).bind fun t218 => ((impl_FinishTicks.f k t215 t218).bind fun t221 => ((laws_eqIntS.f k t221 t212).bind fun t224 => (if t224 = true then ((laws_toJobS.f k l0).bind fun t225 => ((laws_eqJobS.f k t215 t225).bind fun t228 => (if t228 = true then ((laws_toIntS.f k l1).bind fun t229 => ((laws_eqIntS.f k t218 t229).bind fun t232 => (if t232 = true then ((laws_markJobS.f k t215 1).bind fun bt233 => ((laws_markIntS.f k t218 bt233.1).bind fun bt235 => (if bt235.1 < 0 then (laws_FnExactFinishTicks.j0 k l0 l1 t212 t221 true) else ((laws_eqIntS.f k t221 t212).bind fun t237 => (laws_FnExactFinishTicks.j0 k l0 l1 t212 t221 (!t237)))))) else (none)))) else (none)))) else (none))))))) = some r := H
   have A7 := Aside0.mk A70
   clear A70
   replace H := Option.bind_eq_some_iff.mp H
   obtain ⟨t212, A80, H⟩ := H
   replace H : ((laws_toJobS.f k l0).bind fun t215 => ((laws_toIntS.f k l1).bind fun t218 => ((impl_FinishTicks.f k t215 t218).bind fun t221 => ((laws_eqIntS.f k t221 t212).bind fun t224 => (if t224 = true then ((laws_toJobS.f k l0).bind fun t225 => ((laws_eqJobS.f k t215 t225).bind fun t228 => (if t228 = true then ((laws_toIntS.f k l1).bind fun t229 => ((laws_eqIntS.f k t218 t229).bind fun t232 => (if t232 = true then ((laws_markJobS.f k t215 1).bind fun bt233 => ((laws_markIntS.f k t218 bt233.1).bind fun bt235 => (if bt235.1 < 0 then (laws_FnExactFinishTicks.j0 k l0 l1 t212 t221 true) else ((laws_eqIntS.f k t221 t212).bind fun t237 => (laws_FnExactFinishTicks.j0 k l0 l1 t212 t221 (!t237)))))) else (none)))) else (none)))) else (none)))))) = some r := H
   have A8 := Aside0.mk A80
   clear A80
   replace H := Option.bind_eq_some_iff.mp H
   obtain ⟨t215, A90, H⟩ := H
   replace H : ((laws_toIntS.f k l1).bind fun t218 => ((impl_FinishTicks.f k t215 t218).bind fun t221 => ((laws_eqIntS.f k t221 t212).bind fun t224 => (if t224 = true then ((laws_toJobS.f k l0).bind fun t225 => ((laws_eqJobS.f k t215 t225).bind fun t228 => (if t228 = true then ((laws_toIntS.f k l1).bind fun t229 => ((laws_eqIntS.f k t218 t229).bind fun t232 => (if t232 = true then ((laws_markJobS.f k t215 1).bind fun bt233 => ((laws_markIntS.f k t218 bt233.1).bind fun bt235 => (if bt235.1 < 0 then (laws_FnExactFinishTicks.j0 k l0 l1 t212 t221 true) else ((laws_eqIntS.f k t221 t212).bind fun t237 => (laws_FnExactFinishTicks.j0 k l0 l1 t212 t221 (!t237)))))) else (none)))) else (none)))) else (none))))) = some r := H
   have A9 := Aside0.mk A90
   clear A90
   replace H := Option.bind_eq_some_iff.mp H
   obtain ⟨t218, A100, H⟩ := H
   replace H : ((impl_FinishTicks.f k t215 t218).bind fun t221 => ((laws_eqIntS.f k t221 t212).bind fun t224 => (if t224 = true then ((laws_toJobS.f k l0).bind fun t225 => ((laws_eqJobS.f k t215 t225).bind fun t228 => (if t228 = true then ((laws_toIntS.f k l1).bind fun t229 => ((laws_eqIntS.f k t218 t229).bind fun t232 => (if t232 = true then ((laws_markJobS.f k t215 1).bind fun bt233 => ((laws_markIntS.f k t218 bt233.1).bind fun bt235 => (if bt235.1 < 0 then (laws_FnExactFinishTicks.j0 k l0 l1 t212 t221 true) else ((laws_eqIntS.f k t221 t212).bind fun t237 => (laws_FnExactFinishTicks.j0 k l0 l1 t212 t221 (!t237)))))) else (none)))) else (none)))) else (none)))) = some r := H
   have A10 := Aside0.mk A100
   clear A100
   replace H := Option.bind_eq_some_iff.mp H
   obtain ⟨t221, A110, H⟩ := H
   replace H : ((laws_eqIntS.f k t221 t212).bind fun t224 => (if t224 = true then ((laws_toJobS.f k l0).bind fun t225 => ((laws_eqJobS.f k t215 t225).bind fun t228 => (if t228 = true then ((laws_toIntS.f k l1).bind fun t229 => ((laws_eqIntS.f k t218 t229).bind fun t232 => (if t232 = true then ((laws_markJobS.f k t215 1).bind fun bt233 => ((laws_markIntS.f k t218 bt233.1).bind fun bt235 => (if bt235.1 < 0 then (laws_FnExactFinishTicks.j0 k l0 l1 t212 t221 true) else ((laws_eqIntS.f k t221 t212).bind fun t237 => (laws_FnExactFinishTicks.j0 k l0 l1 t212 t221 (!t237)))))) else (none)))) else (none)))) else (none))) = some r := H
   have A11 := Aside0.mk A110
   clear A110
   replace H := Option.bind_eq_some_iff.mp H
   obtain ⟨t224, A120, H⟩ := H
   replace H : (if t224 = true then ((laws_toJobS.f k l0).bind fun t225 => ((laws_eqJobS.f k t215 t225).bind fun t228 => (if t228 = true then ((laws_toIntS.f k l1).bind fun t229 => ((laws_eqIntS.f k t218 t229).bind fun t232 => (if t232 = true then ((laws_markJobS.f k t215 1).bind fun bt233 => ((laws_markIntS.f k t218 bt233.1).bind fun bt235 => (if bt235.1 < 0 then (laws_FnExactFinishTicks.j0 k l0 l1 t212 t221 true) else ((laws_eqIntS.f k t221 t212).bind fun t237 => (laws_FnExactFinishTicks.j0 k l0 l1 t212 t221 (!t237)))))) else (none)))) else (none)))) else (none)) = some r := H
   have A12 := Aside0.mk A120
   clear A120
   by_cases c13 : t224 = true
   ·subst c13
    have H1 : ((laws_toJobS.f k l0).bind fun t225 => ((laws_eqJobS.f k t215 t225).bind fun t228 => (if t228 = true then ((laws_toIntS.f k l1).bind fun t229 => ((laws_eqIntS.f k t218 t229).bind fun t232 => (if t232 = true then ((laws_markJobS.f k t215 1).bind fun bt233 => ((laws_markIntS.f k t218 bt233.1).bind fun bt235 => (if bt235.1 < 0 then (laws_FnExactFinishTicks.j0 k l0 l1 t212 t221 true) else ((laws_eqIntS.f k t221 t212).bind fun t237 => (laws_FnExactFinishTicks.j0 k l0 l1 t212 t221 (!t237)))))) else (none)))) else (none)))) = some r := by rw [if_pos rfl] at H; exact H
    clear H
    have H := H1
    clear H1
    replace H := Option.bind_eq_some_iff.mp H
    obtain ⟨t225, A140, H⟩ := H
    replace H : ((laws_eqJobS.f k t215 t225).bind fun t228 => (if t228 = true then ((laws_toIntS.f k l1).bind fun t229 => ((laws_eqIntS.f k t218 t229).bind fun t232 => (if t232 = true then ((laws_markJobS.f k t215 1).bind fun bt233 => ((laws_markIntS.f k t218 bt233.1).bind fun bt235 => (if bt235.1 < 0 then (laws_FnExactFinishTicks.j0 k l0 l1 t212 t221 true) else ((laws_eqIntS.f k t221 t212).bind fun t237 => (laws_FnExactFinishTicks.j0 k l0 l1 t212 t221 (!t237)))))) else (none)))) else (none))) = some r := H
    have A14 := Aside0.mk A140
    clear A140
    replace H := Option.bind_eq_some_iff.mp H
    obtain ⟨t228, A150, H⟩ := H
    replace H : (if t228 = true then ((laws_toIntS.f k l1).bind fun t229 => ((laws_eqIntS.f k t218 t229).bind fun t232 => (if t232 = true then ((laws_markJobS.f k t215 1).bind fun bt233 => ((laws_markIntS.f k t218 bt233.1).bind fun bt235 => (if bt235.1 < 0 then (laws_FnExactFinishTicks.j0 k l0 l1 t212 t221 true) else ((laws_eqIntS.f k t221 t212).bind fun t237 => (laws_FnExactFinishTicks.j0 k l0 l1 t212 t221 (!t237)))))) else (none)))) else (none)) = some r := H
    have A15 := Aside0.mk A150
    clear A150
    by_cases c16 : t228 = true
    ·subst c16
     have H1 : ((laws_toIntS.f k l1).bind fun t229 => ((laws_eqIntS.f k t218 t229).bind fun t232 => (if t232 = true then ((laws_markJobS.f k t215 1).bind fun bt233 => ((laws_markIntS.f k t218 bt233.1).bind fun bt235 => (if bt235.1 < 0 then (laws_FnExactFinishTicks.j0 k l0 l1 t212 t221 true) else ((laws_eqIntS.f k t221 t212).bind fun t237 => (laws_FnExactFinishTicks.j0 k l0 l1 t212 t221 (!t237)))))) else (none)))) = some r := by rw [if_pos rfl] at H; exact H
     clear H
     have H := H1
     clear H1
     replace H := Option.bind_eq_some_iff.mp H
     obtain ⟨t229, A170, H⟩ := H
     replace H : ((laws_eqIntS.f k t218 t229).bind fun t232 => (if t232 = true then ((laws_markJobS.f k t215 1).bind fun bt233 => ((laws_markIntS.f k t218 bt233.1).bind fun bt235 => (if bt235.1 < 0 then (laws_FnExactFinishTicks.j0 k l0 l1 t212 t221 true) else ((laws_eqIntS.f k t221 t212).bind fun t237 => (laws_FnExactFinishTicks.j0 k l0 l1 t212 t221 (!t237)))))) else (none))) = some r := H
     have A17 := Aside0.mk A170
     clear A170
     replace H := Option.bind_eq_some_iff.mp H
     obtain ⟨t232, A180, H⟩ := H
     replace H : (if t232 = true then ((laws_markJobS.f k t215 1).bind fun bt233 => ((laws_markIntS.f k t218 bt233.1).bind fun bt235 => (if bt235.1 < 0 then (laws_FnExactFinishTicks.j0 k l0 l1 t212 t221 true) else ((laws_eqIntS.f k t221 t212).bind fun t237 => (laws_FnExactFinishTicks.j0 k l0 l1 t212 t221 (!t237)))))) else (none)) = some r := H
     have A18 := Aside0.mk A180
     clear A180
     by_cases c19 : t232 = true
     ·subst c19
      have H1 : ((laws_markJobS.f k t215 1).bind fun bt233 => ((laws_markIntS.f k t218 bt233.1).bind fun bt235 => (if bt235.1 < 0 then (laws_FnExactFinishTicks.j0 k l0 l1 t212 t221 true) else ((laws_eqIntS.f k t221 t212).bind fun t237 => (laws_FnExactFinishTicks.j0 k l0 l1 t212 t221 (!t237)))))) = some r := by rw [if_pos rfl] at H; exact H
      clear H
      have H := H1
      clear H1
      replace H := Option.bind_eq_some_iff.mp H
      obtain ⟨⟨t233, t234⟩, A200, H⟩ := H
      replace H : ((laws_markIntS.f k t218 t233).bind fun bt235 => (if bt235.1 < 0 then (laws_FnExactFinishTicks.j0 k l0 l1 t212 t221 true) else ((laws_eqIntS.f k t221 t212).bind fun t237 => (laws_FnExactFinishTicks.j0 k l0 l1 t212 t221 (!t237))))) = some r := H
      have A20 := Aside0.mk A200
      clear A200
      replace H := Option.bind_eq_some_iff.mp H
      obtain ⟨⟨t235, t236⟩, A210, H⟩ := H
      replace H : (if t235 < 0 then (laws_FnExactFinishTicks.j0 k l0 l1 t212 t221 true) else ((laws_eqIntS.f k t221 t212).bind fun t237 => (laws_FnExactFinishTicks.j0 k l0 l1 t212 t221 (!t237)))) = some r := H
      have A21 := Aside0.mk A210
      clear A210
      have HC22 := Aside0.mk H
      clear H
      go_enter Try.func6, Try.ntmps6
      go_upto_region 20 with (first | ((with_reducible refine gate_callee (f := 13) rfl ?_); refine goesL_ (some 19) rfl rfl Try.func13 (by kernel_rfl) rfl #[.slice A0 l0.length c0, .int .i64 1048576] rfl (by (try simp only [List.map_toArray, List.map_cons, List.map_nil]); first | done | rfl | (simp only [List.length_drop, List.length_take]; rfl)) ?_; (with_reducible refine (laws_szJobS.calls _ _ l0 1048576 t205 _ ?side1 ?side2 A4.out).mono ?_); (case side1 => repeat (first | exact HR0.out | (with_reducible refine Kd.C_alloc ?_ _) | (with_reducible refine Kd.C_drewN ?_ _) | (with_reducible refine Kd.C_drew ?_))); (case side2 => exact HC0.out); rintro e w' ⟨rfl, ⟨nd, rfl⟩⟩; refine ⟨_, rfl, ?_⟩) | ((with_reducible refine gate_callee (f := 15) rfl ?_); refine goesL_ (some 23) rfl rfl Try.func15 (by kernel_rfl) rfl #[.slice A0 l0.length c0] rfl (by (try simp only [List.map_toArray, List.map_cons, List.map_nil]); first | done | rfl | (simp only [List.length_drop, List.length_take]; rfl)) ?_; (with_reducible refine (laws_toJobS.calls k _ _ l0 t206 _ ?side1 ?side2 A6.out).mono ?_); (case side1 => repeat (first | exact HR0.out | (with_reducible refine Kd.C_alloc ?_ _) | (with_reducible refine Kd.C_drewN ?_ _) | (with_reducible refine Kd.C_drew ?_))); (case side2 => exact HC0.out); rintro e w23 ⟨v207, rfl, ho0, hb⟩; refine ⟨_, rfl, ?_⟩; have n0_ := Aside0.mk (Kd.R_lower ho0 (below_size (by repeat (first | (with_reducible first | exact HB.out | apply below_alloc | apply pw_below_drewN | apply below_drew1) | exact HB.out)))); have n1_ := Aside0.mk (below_step (by repeat (first | (with_reducible first | exact HB.out | apply below_alloc | apply pw_below_drewN | apply below_drew1) | exact HB.out)) hb); clear HB; have HO208 := n0_; have HB := n1_; clear n0_ n1_; (try clear hb); (try clear hb2); (try clear hk); (try clear hi); (try clear ho0)) | ((with_reducible refine gate_callee (f := 10) rfl ?_); refine goesL_ (some 25) rfl rfl Try.func10 (by kernel_rfl) rfl #[.slice A1 l1.length c1] rfl (by (try simp only [List.map_toArray, List.map_cons, List.map_nil]); first | done | rfl | (simp only [List.length_drop, List.length_take]; rfl)) ?_; (with_reducible refine (laws_toIntS.calls k _ _ l1 t209 _ ?side1 ?side2 A7.out).mono ?_); (case side1 => repeat (first | exact (Kd.C_below HR1.out HB.out) | (with_reducible refine Kd.C_alloc ?_ _) | (with_reducible refine Kd.C_drewN ?_ _) | (with_reducible refine Kd.C_drew ?_))); (case side2 => exact HC1.out); rintro e w24 ⟨v210, rfl, ho0, hb⟩; refine ⟨_, rfl, ?_⟩; have n0_ := Aside0.mk (Kd.R_below (by (with_reducible repeat (first | apply Kd.R_alloc | apply Kd.R_drewN | apply Kd.R_drew)); exact HO208.out) hb); have n1_ := Aside0.mk (Kd.R_lower ho0 (below_size (by repeat (first | (with_reducible first | exact HB.out | apply below_alloc | apply pw_below_drewN | apply below_drew1) | exact HB.out)))); have n2_ := Aside0.mk (below_step (by repeat (first | (with_reducible first | exact HB.out | apply below_alloc | apply pw_below_drewN | apply below_drew1) | exact HB.out)) hb); clear HO208; clear HB; have HO208 := n0_; have HO211 := n1_; have HB := n2_; clear n0_ n1_ n2_; (try clear hb); (try clear hb2); (try clear hk); (try clear hi); (try clear ho0); obtain ⟨Ao25, co25, eo25⟩ := Kd.R_slice HO208.out; subst eo25; obtain ⟨Ao26, co26, eo26⟩ := Kd.R_slice HO211.out; subst eo26) | ((with_reducible refine gate_callee (f := 23) rfl ?_); refine goesL_ (some 26) rfl rfl Try.func23 (by kernel_rfl) rfl #[.slice Ao25 t206.length co25, .slice Ao26 t209.length co26] rfl (by (try simp only [List.map_toArray, List.map_cons, List.map_nil]); first | done | rfl | (simp only [List.length_drop, List.length_take]; rfl)) ?_; (with_reducible refine (spec_FinishTicks.calls k _ _ t206 _ _ t209 t212 _ ?side1 ?side2 ?side3 ?side4 A8.out).mono ?_); (case side1 => repeat (first | exact (Kd.R_reads' HO208.out).2.2 | (with_reducible refine Kd.C_alloc ?_ _) | (with_reducible refine Kd.C_drewN ?_ _) | (with_reducible refine Kd.C_drew ?_))); (case side2 => exact (Kd.R_reads' HO208.out).2.1); (case side3 => repeat (first | exact (Kd.R_reads' HO211.out).2.2 | (with_reducible refine Kd.C_alloc ?_ _) | (with_reducible refine Kd.C_drewN ?_ _) | (with_reducible refine Kd.C_drew ?_))); (case side4 => exact (Kd.R_reads' HO211.out).2.1); rintro e w27 ⟨v213, rfl, ho0, hb⟩; refine ⟨_, rfl, ?_⟩; have n0_ := Aside0.mk (Kd.R_below (by (with_reducible repeat (first | apply Kd.R_alloc | apply Kd.R_drewN | apply Kd.R_drew)); exact HO208.out) hb); have n1_ := Aside0.mk (Kd.R_elder' (by (with_reducible repeat (first | apply Kd.R_alloc | apply Kd.R_drewN | apply Kd.R_drew)); exact HO211.out) (Kd.R_base ho0) hb); have n2_ := Aside0.mk (Kd.R_lower (Kd.R_new' ho0 (Kd.R_lt (by (with_reducible repeat (first | apply Kd.R_alloc | apply Kd.R_drewN | apply Kd.R_drew)); exact HO211.out))) (below_size (by repeat (first | (with_reducible first | exact HB.out | apply below_alloc | apply pw_below_drewN | apply below_drew1) | exact HB.out)))); have n3_ := Aside0.mk (below_step (by repeat (first | (with_reducible first | exact HB.out | apply below_alloc | apply pw_below_drewN | apply below_drew1) | exact HB.out)) hb); clear HO208; clear HO211; clear HB; have HO208 := n0_; have HO211 := n1_; have HO214 := n2_; have HB := n3_; clear n0_ n1_ n2_ n3_; (try clear hb); (try clear hb2); (try clear hk); (try clear hi); (try clear ho0)) | ((with_reducible refine gate_callee (f := 15) rfl ?_); refine goesL_ (some 28) rfl rfl Try.func15 (by kernel_rfl) rfl #[.slice A0 l0.length c0] rfl (by (try simp only [List.map_toArray, List.map_cons, List.map_nil]); first | done | rfl | (simp only [List.length_drop, List.length_take]; rfl)) ?_; (with_reducible refine (laws_toJobS.calls k _ _ l0 t215 _ ?side1 ?side2 A9.out).mono ?_); (case side1 => repeat (first | exact (Kd.C_below HR0.out HB.out) | (with_reducible refine Kd.C_alloc ?_ _) | (with_reducible refine Kd.C_drewN ?_ _) | (with_reducible refine Kd.C_drew ?_))); (case side2 => exact HC0.out); rintro e w28 ⟨v216, rfl, ho0, hb⟩; refine ⟨_, rfl, ?_⟩; have n0_ := Aside0.mk (Kd.R_elder' (by (with_reducible repeat (first | apply Kd.R_alloc | apply Kd.R_drewN | apply Kd.R_drew)); exact HO208.out) (Kd.R_base ho0) hb); have n1_ := Aside0.mk (Kd.R_below (by (with_reducible repeat (first | apply Kd.R_alloc | apply Kd.R_drewN | apply Kd.R_drew)); exact HO211.out) hb); have n2_ := Aside0.mk (Kd.R_below (by (with_reducible repeat (first | apply Kd.R_alloc | apply Kd.R_drewN | apply Kd.R_drew)); exact HO214.out) hb); have n3_ := Aside0.mk (Kd.R_lower (Kd.R_new' ho0 (Kd.R_lt (by (with_reducible repeat (first | apply Kd.R_alloc | apply Kd.R_drewN | apply Kd.R_drew)); exact HO208.out))) (below_size (by repeat (first | (with_reducible first | exact HB.out | apply below_alloc | apply pw_below_drewN | apply below_drew1) | exact HB.out)))); have n4_ := Aside0.mk (below_step (by repeat (first | (with_reducible first | exact HB.out | apply below_alloc | apply pw_below_drewN | apply below_drew1) | exact HB.out)) hb); clear HO208; clear HO211; clear HO214; clear HB; have HO208 := n0_; have HO211 := n1_; have HO214 := n2_; have HO217 := n3_; have HB := n4_; clear n0_ n1_ n2_ n3_ n4_; (try clear hb); (try clear hb2); (try clear hk); (try clear hi); (try clear ho0)) | ((with_reducible refine gate_callee (f := 10) rfl ?_); refine goesL_ (some 30) rfl rfl Try.func10 (by kernel_rfl) rfl #[.slice A1 l1.length c1] rfl (by (try simp only [List.map_toArray, List.map_cons, List.map_nil]); first | done | rfl | (simp only [List.length_drop, List.length_take]; rfl)) ?_; (with_reducible refine (laws_toIntS.calls k _ _ l1 t218 _ ?side1 ?side2 A10.out).mono ?_); (case side1 => repeat (first | exact (Kd.C_below HR1.out HB.out) | (with_reducible refine Kd.C_alloc ?_ _) | (with_reducible refine Kd.C_drewN ?_ _) | (with_reducible refine Kd.C_drew ?_))); (case side2 => exact HC1.out); rintro e w29 ⟨v219, rfl, ho0, hb⟩; refine ⟨_, rfl, ?_⟩; have n0_ := Aside0.mk (Kd.R_below (by (with_reducible repeat (first | apply Kd.R_alloc | apply Kd.R_drewN | apply Kd.R_drew)); exact HO208.out) hb); have n1_ := Aside0.mk (Kd.R_elder' (by (with_reducible repeat (first | apply Kd.R_alloc | apply Kd.R_drewN | apply Kd.R_drew)); exact HO211.out) (Kd.R_base ho0) hb); have n2_ := Aside0.mk (Kd.R_elder' (by (with_reducible repeat (first | apply Kd.R_alloc | apply Kd.R_drewN | apply Kd.R_drew)); exact HO214.out) (Kd.R_base ho0) hb); have n3_ := Aside0.mk (Kd.R_below (by (with_reducible repeat (first | apply Kd.R_alloc | apply Kd.R_drewN | apply Kd.R_drew)); exact HO217.out) hb); have n4_ := Aside0.mk (Kd.R_lower (Kd.R_new' (Kd.R_new' ho0 (Kd.R_lt (by (with_reducible repeat (first | apply Kd.R_alloc | apply Kd.R_drewN | apply Kd.R_drew)); exact HO211.out))) (Kd.R_lt (by (with_reducible repeat (first | apply Kd.R_alloc | apply Kd.R_drewN | apply Kd.R_drew)); exact HO214.out))) (below_size (by repeat (first | (with_reducible first | exact HB.out | apply below_alloc | apply pw_below_drewN | apply below_drew1) | exact HB.out)))); have n5_ := Aside0.mk (below_step (by repeat (first | (with_reducible first | exact HB.out | apply below_alloc | apply pw_below_drewN | apply below_drew1) | exact HB.out)) hb); clear HO208; clear HO211; clear HO214; clear HO217; clear HB; have HO208 := n0_; have HO211 := n1_; have HO214 := n2_; have HO217 := n3_; have HO220 := n4_; have HB := n5_; clear n0_ n1_ n2_ n3_ n4_ n5_; (try clear hb); (try clear hb2); (try clear hk); (try clear hi); (try clear ho0); obtain ⟨Ao30, co30, eo30⟩ := Kd.R_slice HO217.out; subst eo30; obtain ⟨Ao31, co31, eo31⟩ := Kd.R_slice HO220.out; subst eo31) | ((with_reducible refine gate_callee (f := 24) rfl ?_); refine goesL_ (some 33) rfl rfl Try.func24 (by kernel_rfl) rfl #[.slice Ao30 t215.length co30, .slice Ao31 t218.length co31] rfl (by (try simp only [List.map_toArray, List.map_cons, List.map_nil]); first | done | rfl | (simp only [List.length_drop, List.length_take]; rfl)) ?_; (with_reducible refine (impl_FinishTicks.calls k _ _ t215 _ _ t218 t221 _ ?side1 ?side2 ?side3 ?side4 A11.out).mono ?_); (case side1 => repeat (first | exact (Kd.R_reads' HO217.out).2.2 | (with_reducible refine Kd.C_alloc ?_ _) | (with_reducible refine Kd.C_drewN ?_ _) | (with_reducible refine Kd.C_drew ?_))); (case side2 => exact (Kd.R_reads' HO217.out).2.1); (case side3 => repeat (first | exact (Kd.R_reads' HO220.out).2.2 | (with_reducible refine Kd.C_alloc ?_ _) | (with_reducible refine Kd.C_drewN ?_ _) | (with_reducible refine Kd.C_drew ?_))); (case side4 => exact (Kd.R_reads' HO220.out).2.1); rintro e w32 ⟨v222, rfl, ho0, hb⟩; refine ⟨_, rfl, ?_⟩; have n0_ := Aside0.mk (Kd.R_below (by (with_reducible repeat (first | apply Kd.R_alloc | apply Kd.R_drewN | apply Kd.R_drew)); exact HO208.out) hb); have n1_ := Aside0.mk (Kd.R_elder' (by (with_reducible repeat (first | apply Kd.R_alloc | apply Kd.R_drewN | apply Kd.R_drew)); exact HO211.out) (Kd.R_base ho0) hb); have n2_ := Aside0.mk (Kd.R_elder' (by (with_reducible repeat (first | apply Kd.R_alloc | apply Kd.R_drewN | apply Kd.R_drew)); exact HO214.out) (Kd.R_base ho0) hb); have n3_ := Aside0.mk (Kd.R_below (by (with_reducible repeat (first | apply Kd.R_alloc | apply Kd.R_drewN | apply Kd.R_drew)); exact HO217.out) hb); have n4_ := Aside0.mk (Kd.R_elder' (by (with_reducible repeat (first | apply Kd.R_alloc | apply Kd.R_drewN | apply Kd.R_drew)); exact HO220.out) (Kd.R_base ho0) hb); have n5_ := Aside0.mk (Kd.R_lower (Kd.R_new' (Kd.R_new' (Kd.R_new' ho0 (Kd.R_lt (by (with_reducible repeat (first | apply Kd.R_alloc | apply Kd.R_drewN | apply Kd.R_drew)); exact HO211.out))) (Kd.R_lt (by (with_reducible repeat (first | apply Kd.R_alloc | apply Kd.R_drewN | apply Kd.R_drew)); exact HO214.out))) (Kd.R_lt (by (with_reducible repeat (first | apply Kd.R_alloc | apply Kd.R_drewN | apply Kd.R_drew)); exact HO220.out))) (below_size (by repeat (first | (with_reducible first | exact HB.out | apply below_alloc | apply pw_below_drewN | apply below_drew1) | exact HB.out)))); have n6_ := Aside0.mk (below_step (by repeat (first | (with_reducible first | exact HB.out | apply below_alloc | apply pw_below_drewN | apply below_drew1) | exact HB.out)) hb); clear HO208; clear HO211; clear HO214; clear HO217; clear HO220; clear HB; have HO208 := n0_; have HO211 := n1_; have HO214 := n2_; have HO217 := n3_; have HO220 := n4_; have HO223 := n5_; have HB := n6_; clear n0_ n1_ n2_ n3_ n4_ n5_ n6_; (try clear hb); (try clear hb2); (try clear hk); (try clear hi); (try clear ho0); obtain ⟨Ao33, co33, eo33⟩ := Kd.R_slice HO223.out; subst eo33; obtain ⟨Ao34, co34, eo34⟩ := Kd.R_slice HO214.out; subst eo34) | ((with_reducible refine gate_callee (f := 12) rfl ?_); refine goesL_ (some 36) rfl rfl Try.func12 (by kernel_rfl) rfl #[.slice Ao33 t221.length co33, .slice Ao34 t212.length co34] rfl (by (try simp only [List.map_toArray, List.map_cons, List.map_nil]); first | done | rfl | (simp only [List.length_drop, List.length_take]; rfl)) ?_; (with_reducible refine (laws_eqIntS.calls k _ _ t221 _ _ t212 true _ ?side1 ?side2 ?side3 ?side4 A12.out).mono ?_); (case side1 => repeat (first | exact (Kd.R_reads' HO223.out).2.2 | (with_reducible refine Kd.C_alloc ?_ _) | (with_reducible refine Kd.C_drewN ?_ _) | (with_reducible refine Kd.C_drew ?_))); (case side2 => exact (Kd.R_reads' HO223.out).2.1); (case side3 => repeat (first | exact (Kd.R_reads' HO214.out).2.2 | (with_reducible refine Kd.C_alloc ?_ _) | (with_reducible refine Kd.C_drewN ?_ _) | (with_reducible refine Kd.C_drew ?_))); (case side4 => exact (Kd.R_reads' HO214.out).2.1); rintro e w' ⟨rfl, ⟨nd, rfl⟩⟩; refine ⟨_, rfl, ?_⟩) | ((with_reducible refine gate_callee (f := 15) rfl ?_); refine goesL_ (some 40) rfl rfl Try.func15 (by kernel_rfl) rfl #[.slice A0 l0.length c0] rfl (by (try simp only [List.map_toArray, List.map_cons, List.map_nil]); first | done | rfl | (simp only [List.length_drop, List.length_take]; rfl)) ?_; (with_reducible refine (laws_toJobS.calls k _ _ l0 t225 _ ?side1 ?side2 A14.out).mono ?_); (case side1 => repeat (first | exact (Kd.C_below HR0.out (by repeat (first | (with_reducible first | exact HB.out | apply below_alloc | apply pw_below_drewN | apply below_drew1) | exact HB.out))) | (with_reducible refine Kd.C_alloc ?_ _) | (with_reducible refine Kd.C_drewN ?_ _) | (with_reducible refine Kd.C_drew ?_))); (case side2 => exact HC0.out); rintro e w35 ⟨v226, rfl, ho0, hb⟩; refine ⟨_, rfl, ?_⟩; have n0_ := Aside0.mk (Kd.R_elder' (by (with_reducible repeat (first | apply Kd.R_alloc | apply Kd.R_drewN | apply Kd.R_drew)); exact HO208.out) (Kd.R_base ho0) hb); have n1_ := Aside0.mk (Kd.R_below (by (with_reducible repeat (first | apply Kd.R_alloc | apply Kd.R_drewN | apply Kd.R_drew)); exact HO211.out) hb); have n2_ := Aside0.mk (Kd.R_below (by (with_reducible repeat (first | apply Kd.R_alloc | apply Kd.R_drewN | apply Kd.R_drew)); exact HO214.out) hb); have n3_ := Aside0.mk (Kd.R_elder' (by (with_reducible repeat (first | apply Kd.R_alloc | apply Kd.R_drewN | apply Kd.R_drew)); exact HO217.out) (Kd.R_base ho0) hb); have n4_ := Aside0.mk (Kd.R_below (by (with_reducible repeat (first | apply Kd.R_alloc | apply Kd.R_drewN | apply Kd.R_drew)); exact HO220.out) hb); have n5_ := Aside0.mk (Kd.R_below (by (with_reducible repeat (first | apply Kd.R_alloc | apply Kd.R_drewN | apply Kd.R_drew)); exact HO223.out) hb); have n6_ := Aside0.mk (Kd.R_lower (Kd.R_new' (Kd.R_new' ho0 (Kd.R_lt (by (with_reducible repeat (first | apply Kd.R_alloc | apply Kd.R_drewN | apply Kd.R_drew)); exact HO208.out))) (Kd.R_lt (by (with_reducible repeat (first | apply Kd.R_alloc | apply Kd.R_drewN | apply Kd.R_drew)); exact HO217.out))) (below_size (by repeat (first | (with_reducible first | exact HB.out | apply below_alloc | apply pw_below_drewN | apply below_drew1) | exact HB.out)))); have n7_ := Aside0.mk (below_step (by repeat (first | (with_reducible first | exact HB.out | apply below_alloc | apply pw_below_drewN | apply below_drew1) | exact HB.out)) hb); clear HO208; clear HO211; clear HO214; clear HO217; clear HO220; clear HO223; clear HB; have HO208 := n0_; have HO211 := n1_; have HO214 := n2_; have HO217 := n3_; have HO220 := n4_; have HO223 := n5_; have HO227 := n6_; have HB := n7_; clear n0_ n1_ n2_ n3_ n4_ n5_ n6_ n7_; (try clear hb); (try clear hb2); (try clear hk); (try clear hi); (try clear ho0); obtain ⟨Ao36, co36, eo36⟩ := Kd.R_slice HO227.out; subst eo36) | ((with_reducible refine gate_callee (f := 17) rfl ?_); refine goesL_ (some 41) rfl rfl Try.func17 (by kernel_rfl) rfl #[.slice Ao30 t215.length co30, .slice Ao36 t225.length co36] rfl (by (try simp only [List.map_toArray, List.map_cons, List.map_nil]); first | done | rfl | (simp only [List.length_drop, List.length_take]; rfl)) ?_; (with_reducible refine (laws_eqJobS.calls k _ _ t215 _ _ t225 true _ ?side1 ?side2 ?side3 ?side4 A15.out).mono ?_); (case side1 => repeat (first | exact (Kd.R_reads' HO217.out).2.2 | (with_reducible refine Kd.C_alloc ?_ _) | (with_reducible refine Kd.C_drewN ?_ _) | (with_reducible refine Kd.C_drew ?_))); (case side2 => exact (Kd.R_reads' HO217.out).2.1); (case side3 => repeat (first | exact (Kd.R_reads' HO227.out).2.2 | (with_reducible refine Kd.C_alloc ?_ _) | (with_reducible refine Kd.C_drewN ?_ _) | (with_reducible refine Kd.C_drew ?_))); (case side4 => exact (Kd.R_reads' HO227.out).2.1); rintro e w37 ⟨rfl, hb⟩; refine ⟨_, rfl, ?_⟩; have n0_ := Aside0.mk (Kd.R_below (by (with_reducible repeat (first | apply Kd.R_alloc | apply Kd.R_drewN | apply Kd.R_drew)); exact HO208.out) hb); have n1_ := Aside0.mk (Kd.R_below (by (with_reducible repeat (first | apply Kd.R_alloc | apply Kd.R_drewN | apply Kd.R_drew)); exact HO211.out) hb); have n2_ := Aside0.mk (Kd.R_below (by (with_reducible repeat (first | apply Kd.R_alloc | apply Kd.R_drewN | apply Kd.R_drew)); exact HO214.out) hb); have n3_ := Aside0.mk (Kd.R_below (by (with_reducible repeat (first | apply Kd.R_alloc | apply Kd.R_drewN | apply Kd.R_drew)); exact HO217.out) hb); have n4_ := Aside0.mk (Kd.R_below (by (with_reducible repeat (first | apply Kd.R_alloc | apply Kd.R_drewN | apply Kd.R_drew)); exact HO220.out) hb); have n5_ := Aside0.mk (Kd.R_below (by (with_reducible repeat (first | apply Kd.R_alloc | apply Kd.R_drewN | apply Kd.R_drew)); exact HO223.out) hb); have n6_ := Aside0.mk (Kd.R_below (by (with_reducible repeat (first | apply Kd.R_alloc | apply Kd.R_drewN | apply Kd.R_drew)); exact HO227.out) hb); have n7_ := Aside0.mk (below_step (by repeat (first | (with_reducible first | exact HB.out | apply below_alloc | apply pw_below_drewN | apply below_drew1) | exact HB.out)) hb); clear HO208; clear HO211; clear HO214; clear HO217; clear HO220; clear HO223; clear HO227; clear HB; have HO208 := n0_; have HO211 := n1_; have HO214 := n2_; have HO217 := n3_; have HO220 := n4_; have HO223 := n5_; have HO227 := n6_; have HB := n7_; clear n0_ n1_ n2_ n3_ n4_ n5_ n6_ n7_; (try clear hb); (try clear hb2); (try clear hk); (try clear hi)) | ((with_reducible refine gate_callee (f := 10) rfl ?_); refine goesL_ (some 45) rfl rfl Try.func10 (by kernel_rfl) rfl #[.slice A1 l1.length c1] rfl (by (try simp only [List.map_toArray, List.map_cons, List.map_nil]); first | done | rfl | (simp only [List.length_drop, List.length_take]; rfl)) ?_; (with_reducible refine (laws_toIntS.calls k _ _ l1 t229 _ ?side1 ?side2 A17.out).mono ?_); (case side1 => repeat (first | exact (Kd.C_below HR1.out HB.out) | (with_reducible refine Kd.C_alloc ?_ _) | (with_reducible refine Kd.C_drewN ?_ _) | (with_reducible refine Kd.C_drew ?_))); (case side2 => exact HC1.out); rintro e w38 ⟨v230, rfl, ho0, hb⟩; refine ⟨_, rfl, ?_⟩; have n0_ := Aside0.mk (Kd.R_below (by (with_reducible repeat (first | apply Kd.R_alloc | apply Kd.R_drewN | apply Kd.R_drew)); exact HO208.out) hb); have n1_ := Aside0.mk (Kd.R_elder' (by (with_reducible repeat (first | apply Kd.R_alloc | apply Kd.R_drewN | apply Kd.R_drew)); exact HO211.out) (Kd.R_base ho0) hb); have n2_ := Aside0.mk (Kd.R_elder' (by (with_reducible repeat (first | apply Kd.R_alloc | apply Kd.R_drewN | apply Kd.R_drew)); exact HO214.out) (Kd.R_base ho0) hb); have n3_ := Aside0.mk (Kd.R_below (by (with_reducible repeat (first | apply Kd.R_alloc | apply Kd.R_drewN | apply Kd.R_drew)); exact HO217.out) hb); have n4_ := Aside0.mk (Kd.R_elder' (by (with_reducible repeat (first | apply Kd.R_alloc | apply Kd.R_drewN | apply Kd.R_drew)); exact HO220.out) (Kd.R_base ho0) hb); have n5_ := Aside0.mk (Kd.R_elder' (by (with_reducible repeat (first | apply Kd.R_alloc | apply Kd.R_drewN | apply Kd.R_drew)); exact HO223.out) (Kd.R_base ho0) hb); have n6_ := Aside0.mk (Kd.R_below (by (with_reducible repeat (first | apply Kd.R_alloc | apply Kd.R_drewN | apply Kd.R_drew)); exact HO227.out) hb); have n7_ := Aside0.mk (Kd.R_lower (Kd.R_new' (Kd.R_new' (Kd.R_new' (Kd.R_new' ho0 (Kd.R_lt (by (with_reducible repeat (first | apply Kd.R_alloc | apply Kd.R_drewN | apply Kd.R_drew)); exact HO211.out))) (Kd.R_lt (by (with_reducible repeat (first | apply Kd.R_alloc | apply Kd.R_drewN | apply Kd.R_drew)); exact HO214.out))) (Kd.R_lt (by (with_reducible repeat (first | apply Kd.R_alloc | apply Kd.R_drewN | apply Kd.R_drew)); exact HO220.out))) (Kd.R_lt (by (with_reducible repeat (first | apply Kd.R_alloc | apply Kd.R_drewN | apply Kd.R_drew)); exact HO223.out))) (below_size (by repeat (first | (with_reducible first | exact HB.out | apply below_alloc | apply pw_below_drewN | apply below_drew1) | exact HB.out)))); have n8_ := Aside0.mk (below_step (by repeat (first | (with_reducible first | exact HB.out | apply below_alloc | apply pw_below_drewN | apply below_drew1) | exact HB.out)) hb); clear HO208; clear HO211; clear HO214; clear HO217; clear HO220; clear HO223; clear HO227; clear HB; have HO208 := n0_; have HO211 := n1_; have HO214 := n2_; have HO217 := n3_; have HO220 := n4_; have HO223 := n5_; have HO227 := n6_; have HO231 := n7_; have HB := n8_; clear n0_ n1_ n2_ n3_ n4_ n5_ n6_ n7_ n8_; (try clear hb); (try clear hb2); (try clear hk); (try clear hi); (try clear ho0); obtain ⟨Ao39, co39, eo39⟩ := Kd.R_slice HO231.out; subst eo39) | ((with_reducible refine gate_callee (f := 12) rfl ?_); refine goesL_ (some 46) rfl rfl Try.func12 (by kernel_rfl) rfl #[.slice Ao31 t218.length co31, .slice Ao39 t229.length co39] rfl (by (try simp only [List.map_toArray, List.map_cons, List.map_nil]); first | done | rfl | (simp only [List.length_drop, List.length_take]; rfl)) ?_; (with_reducible refine (laws_eqIntS.calls k _ _ t218 _ _ t229 true _ ?side1 ?side2 ?side3 ?side4 A18.out).mono ?_); (case side1 => repeat (first | exact (Kd.R_reads' HO220.out).2.2 | (with_reducible refine Kd.C_alloc ?_ _) | (with_reducible refine Kd.C_drewN ?_ _) | (with_reducible refine Kd.C_drew ?_))); (case side2 => exact (Kd.R_reads' HO220.out).2.1); (case side3 => repeat (first | exact (Kd.R_reads' HO231.out).2.2 | (with_reducible refine Kd.C_alloc ?_ _) | (with_reducible refine Kd.C_drewN ?_ _) | (with_reducible refine Kd.C_drew ?_))); (case side4 => exact (Kd.R_reads' HO231.out).2.1); rintro e w' ⟨rfl, ⟨nd, rfl⟩⟩; refine ⟨_, rfl, ?_⟩) | ((with_reducible refine gate_callee (f := 20) rfl ?_); refine goesL_ (some 50) rfl rfl Try.func20 (by kernel_rfl) rfl #[.slice Ao30 t215.length co30, .int .i64 1] rfl (by (try simp only [List.map_toArray, List.map_cons, List.map_nil]); first | done | rfl | (simp only [List.length_drop, List.length_take]; rfl)) ?_; (with_reducible refine (laws_markJobS.calls k (fun k_ => some k_ = (.slice Ao30 t215.length co30 : Value).ownBlock) (.slice Ao30 t215.length co30) t215 1 t233 t234 w _ ?side1 ?side2 A20.out).mono ?_); (case side1 => repeat (first | (with_reducible first | exact HB.out | apply below_alloc | apply pw_below_drewN | apply below_drew1) | exact HB.out)); (case side2 => exact Kd.R_tight rfl HO217.out); rintro e w40 ⟨rfl, hy0, hb, hkp⟩; refine ⟨_, rfl, ?_⟩; have n0_ := Aside0.mk (Kd.R_mono (ok' := fun k_ => some k_ ≠ (.slice Ao30 t215.length co30 : Value).ownBlock ∧ some k_ ≠ (.slice Ao36 t225.length co36 : Value).ownBlock) (Kd.R_keptB (HO208.out) hkp (fun k_ hk_ hs_ => by first | exact (hk_.1.2) hs_ | (simp only [show _ = _ from hs_, ne_eq, not_true_eq_false, and_false, false_and] at hk_; done) | simp_all)) (fun k_ hk_ => by first | exact ⟨hk_.1.1.2, hk_.1.2⟩ | (simp only [hk_, ne_eq, not_false_eq_true, and_self]; done) | simp_all)); have n1_ := Aside0.mk (Kd.R_mono (ok' := fun k_ => some k_ ≠ (.slice Ao34 t212.length co34 : Value).ownBlock ∧ some k_ ≠ (.slice Ao31 t218.length co31 : Value).ownBlock ∧ some k_ ≠ (.slice Ao33 t221.length co33 : Value).ownBlock ∧ some k_ ≠ (.slice Ao39 t229.length co39 : Value).ownBlock) (Kd.R_keptB ((Kd.R_apart' HO211.out (Kd.R_typed HO217.out) (by decide))) hkp (fun k_ hk_ hs_ => by first | exact (hk_.2) hs_ | (simp only [show _ = _ from hs_, ne_eq, not_true_eq_false, and_false, false_and] at hk_; done) | simp_all)) (fun k_ hk_ => by first | exact ⟨hk_.1.1.1.1.1.2, hk_.1.1.1.1.2, hk_.1.1.1.2, hk_.1.1.2⟩ | (simp only [hk_, ne_eq, not_false_eq_true, and_self]; done) | simp_all)); have n2_ := Aside0.mk (Kd.R_mono (ok' := fun k_ => some k_ ≠ (.slice Ao26 t209.length co26 : Value).ownBlock ∧ some k_ ≠ (.slice Ao31 t218.length co31 : Value).ownBlock ∧ some k_ ≠ (.slice Ao33 t221.length co33 : Value).ownBlock ∧ some k_ ≠ (.slice Ao39 t229.length co39 : Value).ownBlock) (Kd.R_keptB ((Kd.R_apart' HO214.out (Kd.R_typed HO217.out) (by decide))) hkp (fun k_ hk_ hs_ => by first | exact (hk_.2) hs_ | (simp only [show _ = _ from hs_, ne_eq, not_true_eq_false, and_false, false_and] at hk_; done) | simp_all)) (fun k_ hk_ => by first | exact ⟨hk_.1.1.1.1.1.2, hk_.1.1.1.1.2, hk_.1.1.1.2, hk_.1.1.2⟩ | (simp only [hk_, ne_eq, not_false_eq_true, and_self]; done) | simp_all)); have n3_ := Aside0.mk (Kd.R_reok rfl hy0 (fun k_ e_ => HO217.out.1 k_ e_)); have n4_ := Aside0.mk (Kd.R_mono (ok' := fun k_ => some k_ ≠ (.slice Ao26 t209.length co26 : Value).ownBlock ∧ some k_ ≠ (.slice Ao34 t212.length co34 : Value).ownBlock ∧ some k_ ≠ (.slice Ao33 t221.length co33 : Value).ownBlock ∧ some k_ ≠ (.slice Ao39 t229.length co39 : Value).ownBlock) (Kd.R_keptB ((Kd.R_apart' HO220.out (Kd.R_typed HO217.out) (by decide))) hkp (fun k_ hk_ hs_ => by first | exact (hk_.2) hs_ | (simp only [show _ = _ from hs_, ne_eq, not_true_eq_false, and_false, false_and] at hk_; done) | simp_all)) (fun k_ hk_ => by first | exact ⟨hk_.1.1.1.1.1.2, hk_.1.1.1.1.2, hk_.1.1.1.2, hk_.1.1.2⟩ | (simp only [hk_, ne_eq, not_false_eq_true, and_self]; done) | simp_all)); have n5_ := Aside0.mk (Kd.R_mono (ok' := fun k_ => some k_ ≠ (.slice Ao26 t209.length co26 : Value).ownBlock ∧ some k_ ≠ (.slice Ao34 t212.length co34 : Value).ownBlock ∧ some k_ ≠ (.slice Ao31 t218.length co31 : Value).ownBlock ∧ some k_ ≠ (.slice Ao39 t229.length co39 : Value).ownBlock) (Kd.R_keptB ((Kd.R_apart' HO223.out (Kd.R_typed HO217.out) (by decide))) hkp (fun k_ hk_ hs_ => by first | exact (hk_.2) hs_ | (simp only [show _ = _ from hs_, ne_eq, not_true_eq_false, and_false, false_and] at hk_; done) | simp_all)) (fun k_ hk_ => by first | exact ⟨hk_.1.1.1.1.1.2, hk_.1.1.1.1.2, hk_.1.1.1.2, hk_.1.1.2⟩ | (simp only [hk_, ne_eq, not_false_eq_true, and_self]; done) | simp_all)); have n6_ := Aside0.mk (Kd.R_mono (ok' := fun k_ => some k_ ≠ (.slice Ao25 t206.length co25 : Value).ownBlock ∧ some k_ ≠ (.slice Ao30 t215.length co30 : Value).ownBlock) (Kd.R_keptB (HO227.out) hkp (fun k_ hk_ hs_ => by first | exact (hk_.2) hs_ | (simp only [show _ = _ from hs_, ne_eq, not_true_eq_false, and_false, false_and] at hk_; done) | simp_all)) (fun k_ hk_ => by first | exact ⟨hk_.1.1.2, hk_.1.2⟩ | (simp only [hk_, ne_eq, not_false_eq_true, and_self]; done) | simp_all)); have n7_ := Aside0.mk (Kd.R_mono (ok' := fun k_ => some k_ ≠ (.slice Ao26 t209.length co26 : Value).ownBlock ∧ some k_ ≠ (.slice Ao34 t212.length co34 : Value).ownBlock ∧ some k_ ≠ (.slice Ao31 t218.length co31 : Value).ownBlock ∧ some k_ ≠ (.slice Ao33 t221.length co33 : Value).ownBlock) (Kd.R_keptB ((Kd.R_apart' HO231.out (Kd.R_typed HO217.out) (by decide))) hkp (fun k_ hk_ hs_ => by first | exact (hk_.2) hs_ | (simp only [show _ = _ from hs_, ne_eq, not_true_eq_false, and_false, false_and] at hk_; done) | simp_all)) (fun k_ hk_ => by first | exact ⟨hk_.1.1.1.1.1.2, hk_.1.1.1.1.2, hk_.1.1.1.2, hk_.1.1.2⟩ | (simp only [hk_, ne_eq, not_false_eq_true, and_self]; done) | simp_all)); have n8_ := Aside0.mk (hb); clear HO208; clear HO211; clear HO214; clear HO217; clear HO220; clear HO223; clear HO227; clear HO231; clear HB; have HO208 := n0_; have HO211 := n1_; have HO214 := n2_; have HO217 := n3_; have HO220 := n4_; have HO223 := n5_; have HO227 := n6_; have HO231 := n7_; have HB := n8_; clear n0_ n1_ n2_ n3_ n4_ n5_ n6_ n7_ n8_; (try clear hb); (try clear hkp); (try clear hy0)) | ((with_reducible refine gate_callee (f := 21) rfl ?_); refine goesL_ (some 53) rfl rfl Try.func21 (by kernel_rfl) rfl #[.slice Ao31 t218.length co31, .int .i64 t233] rfl (by (try simp only [List.map_toArray, List.map_cons, List.map_nil]); first | done | rfl | (simp only [List.length_drop, List.length_take]; rfl)) ?_; (with_reducible refine (laws_markIntS.calls k (fun k_ => some k_ = (.slice Ao31 t218.length co31 : Value).ownBlock) (.slice Ao31 t218.length co31) t218 t233 t235 t236 w _ ?side1 ?side2 A21.out).mono ?_); (case side1 => repeat (first | (with_reducible first | exact HB.out | apply below_alloc | apply pw_below_drewN | apply below_drew1) | exact HB.out)); (case side2 => exact Kd.R_tight rfl HO220.out); rintro e w41 ⟨rfl, hy0, hb, hkp⟩; refine ⟨_, rfl, ?_⟩; have n0_ := Aside0.mk (Kd.R_mono (ok' := fun k_ => some k_ ≠ (.slice Ao30 t215.length co30 : Value).ownBlock ∧ some k_ ≠ (.slice Ao36 t225.length co36 : Value).ownBlock) (Kd.R_keptB ((Kd.R_apart' HO208.out (Kd.R_typed HO220.out) (by decide))) hkp (fun k_ hk_ hs_ => by first | exact (hk_.2) hs_ | (simp only [show _ = _ from hs_, ne_eq, not_true_eq_false, and_false, false_and] at hk_; done) | simp_all)) (fun k_ hk_ => by first | exact ⟨hk_.1.1.1, hk_.1.1.2⟩ | (simp only [hk_, ne_eq, not_false_eq_true, and_self]; done) | simp_all)); have n1_ := Aside0.mk (Kd.R_mono (ok' := fun k_ => some k_ ≠ (.slice Ao34 t212.length co34 : Value).ownBlock ∧ some k_ ≠ (.slice Ao31 t218.length co31 : Value).ownBlock ∧ some k_ ≠ (.slice Ao33 t221.length co33 : Value).ownBlock ∧ some k_ ≠ (.slice Ao39 t229.length co39 : Value).ownBlock) (Kd.R_keptB (HO211.out) hkp (fun k_ hk_ hs_ => by first | exact (hk_.2.1) hs_ | (simp only [show _ = _ from hs_, ne_eq, not_true_eq_false, and_false, false_and] at hk_; done) | simp_all)) (fun k_ hk_ => by first | exact ⟨hk_.1.1, hk_.1.2.1, hk_.1.2.2.1, hk_.1.2.2.2⟩ | (simp only [hk_, ne_eq, not_false_eq_true, and_self]; done) | simp_all)); have n2_ := Aside0.mk (Kd.R_mono (ok' := fun k_ => some k_ ≠ (.slice Ao26 t209.length co26 : Value).ownBlock ∧ some k_ ≠ (.slice Ao31 t218.length co31 : Value).ownBlock ∧ some k_ ≠ (.slice Ao33 t221.length co33 : Value).ownBlock ∧ some k_ ≠ (.slice Ao39 t229.length co39 : Value).ownBlock) (Kd.R_keptB (HO214.out) hkp (fun k_ hk_ hs_ => by first | exact (hk_.2.1) hs_ | (simp only [show _ = _ from hs_, ne_eq, not_true_eq_false, and_false, false_and] at hk_; done) | simp_all)) (fun k_ hk_ => by first | exact ⟨hk_.1.1, hk_.1.2.1, hk_.1.2.2.1, hk_.1.2.2.2⟩ | (simp only [hk_, ne_eq, not_false_eq_true, and_self]; done) | simp_all)); have n3_ := Aside0.mk (Kd.R_mono (ok' := fun k_ => some k_ ≠ (.slice Ao25 t206.length co25 : Value).ownBlock ∧ some k_ ≠ (.slice Ao36 t225.length co36 : Value).ownBlock) (Kd.R_keptB ((Kd.R_apart' HO217.out (Kd.R_typed HO220.out) (by decide))) hkp (fun k_ hk_ hs_ => by first | exact (hk_.2) hs_ | (simp only [show _ = _ from hs_, ne_eq, not_true_eq_false, and_false, false_and] at hk_; done) | simp_all)) (fun k_ hk_ => by first | exact ⟨hk_.1.1.1.2, hk_.1.1.2⟩ | (simp only [hk_, ne_eq, not_false_eq_true, and_self]; done) | simp_all)); have n4_ := Aside0.mk (Kd.R_reok rfl hy0 (fun k_ e_ => HO220.out.1 k_ e_)); have n5_ := Aside0.mk (Kd.R_mono (ok' := fun k_ => some k_ ≠ (.slice Ao26 t209.length co26 : Value).ownBlock ∧ some k_ ≠ (.slice Ao34 t212.length co34 : Value).ownBlock ∧ some k_ ≠ (.slice Ao31 t218.length co31 : Value).ownBlock ∧ some k_ ≠ (.slice Ao39 t229.length co39 : Value).ownBlock) (Kd.R_keptB (HO223.out) hkp (fun k_ hk_ hs_ => by first | exact (hk_.2.2.1) hs_ | (simp only [show _ = _ from hs_, ne_eq, not_true_eq_false, and_false, false_and] at hk_; done) | simp_all)) (fun k_ hk_ => by first | exact ⟨hk_.1.1, hk_.1.2.1, hk_.1.2.2.1, hk_.1.2.2.2⟩ | (simp only [hk_, ne_eq, not_false_eq_true, and_self]; done) | simp_all)); have n6_ := Aside0.mk (Kd.R_mono (ok' := fun k_ => some k_ ≠ (.slice Ao25 t206.length co25 : Value).ownBlock ∧ some k_ ≠ (.slice Ao30 t215.length co30 : Value).ownBlock) (Kd.R_keptB ((Kd.R_apart' HO227.out (Kd.R_typed HO220.out) (by decide))) hkp (fun k_ hk_ hs_ => by first | exact (hk_.2) hs_ | (simp only [show _ = _ from hs_, ne_eq, not_true_eq_false, and_false, false_and] at hk_; done) | simp_all)) (fun k_ hk_ => by first | exact ⟨hk_.1.1.1, hk_.1.1.2⟩ | (simp only [hk_, ne_eq, not_false_eq_true, and_self]; done) | simp_all)); have n7_ := Aside0.mk (Kd.R_mono (ok' := fun k_ => some k_ ≠ (.slice Ao26 t209.length co26 : Value).ownBlock ∧ some k_ ≠ (.slice Ao34 t212.length co34 : Value).ownBlock ∧ some k_ ≠ (.slice Ao31 t218.length co31 : Value).ownBlock ∧ some k_ ≠ (.slice Ao33 t221.length co33 : Value).ownBlock) (Kd.R_keptB (HO231.out) hkp (fun k_ hk_ hs_ => by first | exact (hk_.2.2.1) hs_ | (simp only [show _ = _ from hs_, ne_eq, not_true_eq_false, and_false, false_and] at hk_; done) | simp_all)) (fun k_ hk_ => by first | exact ⟨hk_.1.1, hk_.1.2.1, hk_.1.2.2.1, hk_.1.2.2.2⟩ | (simp only [hk_, ne_eq, not_false_eq_true, and_self]; done) | simp_all)); have n8_ := Aside0.mk (hb); clear HO208; clear HO211; clear HO214; clear HO217; clear HO220; clear HO223; clear HO227; clear HO231; clear HB; have HO208 := n0_; have HO211 := n1_; have HO214 := n2_; have HO217 := n3_; have HO220 := n4_; have HO223 := n5_; have HO227 := n6_; have HO231 := n7_; have HB := n8_; clear n0_ n1_ n2_ n3_ n4_ n5_ n6_ n7_ n8_; (try clear hb); (try clear hkp); (try clear hy0)))
      (try simp only [Act.put, List.setIfInBounds_toArray, List.set_cons_zero, List.set_cons_succ])
      go_cut [61] (fun v61 wc => ∃ (kq : Nat) (x61_21 : Bool), v61 = .bool x61_21 ∧ Aside0 (laws_FnExactFinishTicks.j0 kq l0 l1 t212 t221 x61_21 = some r) ∧ Aside0 (kq ≤ k) ∧ Aside0 (Kd.R (Kd.int .i64) 3 wc w.heap.size (fun k_ => some k_ ≠ ((.slice Ao33 t221.length co33) : Value).ownBlock) (.slice Ao34 t212.length co34) t212) ∧ Aside0 (Kd.R (Kd.int .i64) 3 wc w.heap.size (fun k_ => some k_ ≠ ((.slice Ao34 t212.length co34) : Value).ownBlock) (.slice Ao33 t221.length co33) t221) ∧ Aside0 (Below w.heap.size w wc))
      case first =>
       have H := HC22.out
       clear HC22
       by_cases c42 : t235 < 0
       ·rw [if_pos c42] at H
        have c42b0 : decide (t235 < 0) = true := decide_eq_true c42
        clear c42
        (first | rw [c42b0] | (simp only [i64_w, i32_w]; rw [c42b0]) | skip)
        have H' := Aside0.mk H
        clear H
        go_wp2
        go_meet
        case rel => exact ⟨_, (true), (by first | rfl | (simp; done) | (simp [*]; done)), H', ⟨by first | omega | exact Nat.le_refl _⟩, ⟨by (with_reducible repeat (first | apply Kd.R_alloc | apply Kd.R_drewN | apply Kd.R_drew)); exact Kd.R_mono HO214.out (fun _ hk => by first | exact hk.2.2.1 | simp_all)⟩, ⟨by (with_reducible repeat (first | apply Kd.R_alloc | apply Kd.R_drewN | apply Kd.R_drew)); exact Kd.R_mono HO223.out (fun _ hk => by first | exact hk.2.1 | simp_all)⟩, ⟨by repeat (first | (with_reducible first | exact HB.out | apply below_alloc | apply pw_below_drewN | apply below_drew1) | exact HB.out)⟩⟩
       ·rw [if_neg c42] at H
        have c42b0 : decide (t235 < 0) = false := decide_eq_false c42
        clear c42
        (first | rw [c42b0] | (simp only [i64_w, i32_w]; rw [c42b0]) | skip)
        replace H := Option.bind_eq_some_iff.mp H
        obtain ⟨t237, A430, H⟩ := H
        replace H : (laws_FnExactFinishTicks.j0 k l0 l1 t212 t221 (!t237)) = some r := H
        have A43 := Aside0.mk A430
        clear A430
        have H' := Aside0.mk H
        clear H
        go_wp2_with (first | (go_at_call 12; (with_reducible refine (laws_eqIntS.calls k _ _ t221 _ _ t212 t237 _ ?side1 ?side2 ?side3 ?side4 A43.out).mono ?_); (case side1 => repeat (first | exact (Kd.R_reads' HO223.out).2.2 | (with_reducible refine Kd.C_alloc ?_ _) | (with_reducible refine Kd.C_drewN ?_ _) | (with_reducible refine Kd.C_drew ?_))); (case side2 => exact (Kd.R_reads' HO223.out).2.1); (case side3 => repeat (first | exact (Kd.R_reads' HO214.out).2.2 | (with_reducible refine Kd.C_alloc ?_ _) | (with_reducible refine Kd.C_drewN ?_ _) | (with_reducible refine Kd.C_drew ?_))); (case side4 => exact (Kd.R_reads' HO214.out).2.1); rintro e w' ⟨rfl, ⟨nd, rfl⟩⟩))
        go_meet
        case rel => exact ⟨_, (!t237), (by first | rfl | (simp; done) | (simp [*]; done)), H', ⟨by first | omega | exact Nat.le_refl _⟩, ⟨by (with_reducible repeat (first | apply Kd.R_alloc | apply Kd.R_drewN | apply Kd.R_drew)); exact Kd.R_mono HO214.out (fun _ hk => by first | exact hk.2.2.1 | simp_all)⟩, ⟨by (with_reducible repeat (first | apply Kd.R_alloc | apply Kd.R_drewN | apply Kd.R_drew)); exact Kd.R_mono HO223.out (fun _ hk => by first | exact hk.2.1 | simp_all)⟩, ⟨by repeat (first | (with_reducible first | exact HB.out | apply below_alloc | apply pw_below_drewN | apply below_drew1) | exact HB.out)⟩⟩
      case rest =>
       clear HC22
       try clear c1
       try clear c2
       try clear p2
       try clear c3
       try clear c3b0
       try clear c3b1
       try clear c4
       try clear c5
       try clear c5b0
       try clear c6
       try clear c10
       try clear c12
       try clear c13
       try clear c15
       try clear c16
       try clear c17
       try clear c19
       try clear c20
       try clear c21
       try clear c23
       try clear c24
       try clear c42
       try clear c42b0
       obtain ⟨kq, x61_21, rfl, HA, HJ21, HO_6, HO_9, HB⟩ := hcut
       cases kq with
       | zero => exact absurd HA.out (by simp [laws_FnExactFinishTicks.j0])
       | succ kj21 =>
        have H := HA.out
        clear HA
        simp only [laws_FnExactFinishTicks.j0] at H
        by_cases c44 : x61_21 = true
        ·subst c44
         have H1 : (none) = some r := by rw [if_pos rfl] at H; exact H
         clear H
         have H := H1
         clear H1
         exact absurd H (by simp)
        ·replace c44 := Bool.eq_false_iff.mpr c44
         subst c44
         have H1 : ((laws_markIntS.f kj21 t221 1).bind fun bt238 => ((laws_heldIntS.f kj21 bt238.2 1).bind fun t240 => (if t240 < 0 then (none) else (if t240 = bt238.1 then ((laws_toJobS.f kj21 l0).bind fun t241 => ((laws_toIntS.f kj21 l1).bind fun t244 => ((impl_FinishTicks.f kj21 t241 t244).bind fun t247 => ((laws_eqIntS.f kj21 t247 t212).bind fun t250 => (if t250 = true then ((laws_heldIntS.f kj21 bt238.2 1).bind fun t251 => (if t251 < 0 then (none) else (if t251 = bt238.1 then (some true) else (none)))) else (none)))))) else (none))))) = some r := by rw [if_neg (show ¬ (false = true) by decide)] at H; exact H
         clear H
         have H := H1
         clear H1
         replace H := Option.bind_eq_some_iff.mp H
         obtain ⟨⟨t238, t239⟩, A450, H⟩ := H
         replace H : ((laws_heldIntS.f kj21 t239 1).bind fun t240 => (if t240 < 0 then (none) else (if t240 = t238 then ((laws_toJobS.f kj21 l0).bind fun t241 => ((laws_toIntS.f kj21 l1).bind fun t244 => ((impl_FinishTicks.f kj21 t241 t244).bind fun t247 => ((laws_eqIntS.f kj21 t247 t212).bind fun t250 => (if t250 = true then ((laws_heldIntS.f kj21 t239 1).bind fun t251 => (if t251 < 0 then (none) else (if t251 = t238 then (some true) else (none)))) else (none)))))) else (none)))) = some r := H
         have A45 := Aside0.mk A450
         clear A450
         replace H := Option.bind_eq_some_iff.mp H
         obtain ⟨t240, A460, H⟩ := H
         replace H : (if t240 < 0 then (none) else (if t240 = t238 then ((laws_toJobS.f kj21 l0).bind fun t241 => ((laws_toIntS.f kj21 l1).bind fun t244 => ((impl_FinishTicks.f kj21 t241 t244).bind fun t247 => ((laws_eqIntS.f kj21 t247 t212).bind fun t250 => (if t250 = true then ((laws_heldIntS.f kj21 t239 1).bind fun t251 => (if t251 < 0 then (none) else (if t251 = t238 then (some true) else (none)))) else (none)))))) else (none))) = some r := H
         have A46 := Aside0.mk A460
         clear A460
         by_cases c47 : t240 < 0
         ·rw [if_pos c47] at H
          exact absurd H (by simp)
         ·rw [if_neg c47] at H
          have c47b0 : decide (t240 < 0) = false := decide_eq_false c47
          clear c47
          by_cases c48 : t240 = t238
          ·rw [if_pos c48] at H
           have c48b0 : (t240 == t238) = true := beq_iff_eq.mpr c48
           have c48b1 : (t240 != t238) = false := bne_eq_false_iff_eq.mpr c48
           clear c48
           replace H := Option.bind_eq_some_iff.mp H
           obtain ⟨t241, A490, H⟩ := H
           replace H : ((laws_toIntS.f kj21 l1).bind fun t244 => ((impl_FinishTicks.f kj21 t241 t244).bind fun t247 => ((laws_eqIntS.f kj21 t247 t212).bind fun t250 => (if t250 = true then ((laws_heldIntS.f kj21 t239 1).bind fun t251 => (if t251 < 0 then (none) else (if t251 = t238 then (some true) else (none)))) else (none))))) = some r := H
           have A49 := Aside0.mk A490
           clear A490
           replace H := Option.bind_eq_some_iff.mp H
           obtain ⟨t244, A500, H⟩ := H
           replace H : ((impl_FinishTicks.f kj21 t241 t244).bind fun t247 => ((laws_eqIntS.f kj21 t247 t212).bind fun t250 => (if t250 = true then ((laws_heldIntS.f kj21 t239 1).bind fun t251 => (if t251 < 0 then (none) else (if t251 = t238 then (some true) else (none)))) else (none)))) = some r := H
           have A50 := Aside0.mk A500
           clear A500
           replace H := Option.bind_eq_some_iff.mp H
           obtain ⟨t247, A510, H⟩ := H
           replace H : ((laws_eqIntS.f kj21 t247 t212).bind fun t250 => (if t250 = true then ((laws_heldIntS.f kj21 t239 1).bind fun t251 => (if t251 < 0 then (none) else (if t251 = t238 then (some true) else (none)))) else (none))) = some r := H
           have A51 := Aside0.mk A510
           clear A510
           replace H := Option.bind_eq_some_iff.mp H
           obtain ⟨t250, A520, H⟩ := H
           replace H : (if t250 = true then ((laws_heldIntS.f kj21 t239 1).bind fun t251 => (if t251 < 0 then (none) else (if t251 = t238 then (some true) else (none)))) else (none)) = some r := H
           have A52 := Aside0.mk A520
           clear A520
           by_cases c53 : t250 = true
           ·subst c53
            have H1 : ((laws_heldIntS.f kj21 t239 1).bind fun t251 => (if t251 < 0 then (none) else (if t251 = t238 then (some true) else (none)))) = some r := by rw [if_pos rfl] at H; exact H
            clear H
            have H := H1
            clear H1
            replace H := Option.bind_eq_some_iff.mp H
            obtain ⟨t251, A540, H⟩ := H
            replace H : (if t251 < 0 then (none) else (if t251 = t238 then (some true) else (none))) = some r := H
            have A54 := Aside0.mk A540
            clear A540
            by_cases c55 : t251 < 0
            ·rw [if_pos c55] at H
             exact absurd H (by simp)
            ·rw [if_neg c55] at H
             have c55b0 : decide (t251 < 0) = false := decide_eq_false c55
             clear c55
             by_cases c56 : t251 = t238
             ·rw [if_pos c56] at H
              have c56b0 : (t251 == t238) = true := beq_iff_eq.mpr c56
              have c56b1 : (t251 != t238) = false := bne_eq_false_iff_eq.mpr c56
              clear c56
              obtain rfl := Option.some.inj H
              go_wp2_with (first | ((with_reducible refine gate_callee (f := 21) rfl ?_); refine goesL_ (some 64) rfl rfl Try.func21 (by kernel_rfl) rfl #[.slice Ao33 t221.length co33, .int .i64 1] rfl (by (try simp only [List.map_toArray, List.map_cons, List.map_nil]); first | done | rfl | (simp only [List.length_drop, List.length_take]; rfl)) ?_; (with_reducible refine (laws_markIntS.calls kj21 (fun k_ => some k_ = (.slice Ao33 t221.length co33 : Value).ownBlock) (.slice Ao33 t221.length co33) t221 1 t238 t239 w _ ?side1 ?side2 A45.out).mono ?_); (case side1 => repeat (first | (with_reducible first | exact HB.out | apply below_alloc | apply pw_below_drewN | apply below_drew1) | exact HB.out)); (case side2 => exact Kd.R_tight rfl HO_9.out); rintro e w57 ⟨rfl, hy0, hb, hkp⟩; refine ⟨_, rfl, ?_⟩; have n0_ := Aside0.mk (Kd.R_mono (ok' := fun k_ => some k_ ≠ (.slice Ao33 t221.length co33 : Value).ownBlock) (Kd.R_keptB (HO_6.out) hkp (fun k_ hk_ hs_ => by first | exact (hk_) hs_ | (simp only [show _ = _ from hs_, ne_eq, not_true_eq_false, and_false, false_and] at hk_; done) | simp_all)) (fun k_ hk_ => hk_.1)); have n1_ := Aside0.mk (Kd.R_reok rfl hy0 (fun k_ e_ => HO_9.out.1 k_ e_)); have n2_ := Aside0.mk (hb); clear HO_6; clear HO_9; clear HB; have HO_6 := n0_; have HO_9 := n1_; have HB := n2_; clear n0_ n1_ n2_; (try clear hb); (try clear hkp); (try clear hy0)) | ((with_reducible refine gate_callee (f := 22) rfl ?_); refine goesL_ (some 67) rfl rfl Try.func22 (by kernel_rfl) rfl #[.slice Ao33 t239.length co33, .int .i64 1] rfl (by (try simp only [List.map_toArray, List.map_cons, List.map_nil]); first | done | (rw [show t239.length = t221.length from (Kd.R_reads' HO_9.out).1.symm] <;> rfl) | rfl | (simp only [List.length_drop, List.length_take]; rfl)) ?_; (with_reducible refine (laws_heldIntS.calls kj21 _ _ t239 1 t240 _ ?side1 ?side2 A46.out).mono ?_); (case side1 => repeat (first | exact (Kd.R_reads' HO_9.out).2.2 | (with_reducible refine Kd.C_alloc ?_ _) | (with_reducible refine Kd.C_drewN ?_ _) | (with_reducible refine Kd.C_drew ?_))); (case side2 => rw [show t239.length = t221.length from (Kd.R_reads' HO_9.out).1.symm]; exact (Kd.R_reads' HO_9.out).2.1); rintro e w' ⟨rfl, ⟨nd, rfl⟩⟩; refine ⟨_, rfl, ?_⟩) | ((with_reducible refine gate_callee (f := 15) rfl ?_); refine goesL_ (some 74) rfl rfl Try.func15 (by kernel_rfl) rfl #[.slice A0 l0.length c0] rfl (by (try simp only [List.map_toArray, List.map_cons, List.map_nil]); first | done | rfl | (simp only [List.length_drop, List.length_take]; rfl)) ?_; (with_reducible refine (laws_toJobS.calls kj21 _ _ l0 t241 _ ?side1 ?side2 A49.out).mono ?_); (case side1 => repeat (first | exact (Kd.C_below HR0.out (by repeat (first | (with_reducible first | exact HB.out | apply below_alloc | apply pw_below_drewN | apply below_drew1) | exact HB.out))) | (with_reducible refine Kd.C_alloc ?_ _) | (with_reducible refine Kd.C_drewN ?_ _) | (with_reducible refine Kd.C_drew ?_))); (case side2 => exact HC0.out); rintro e w58 ⟨v242, rfl, ho0, hb⟩; refine ⟨_, rfl, ?_⟩; have n0_ := Aside0.mk (Kd.R_below (by (with_reducible repeat (first | apply Kd.R_alloc | apply Kd.R_drewN | apply Kd.R_drew)); exact HO_6.out) hb); have n1_ := Aside0.mk (Kd.R_below (by (with_reducible repeat (first | apply Kd.R_alloc | apply Kd.R_drewN | apply Kd.R_drew)); exact HO_9.out) hb); have n2_ := Aside0.mk (Kd.R_lower ho0 (below_size (by repeat (first | (with_reducible first | exact HB.out | apply below_alloc | apply pw_below_drewN | apply below_drew1) | exact HB.out)))); have n3_ := Aside0.mk (below_step (by repeat (first | (with_reducible first | exact HB.out | apply below_alloc | apply pw_below_drewN | apply below_drew1) | exact HB.out)) hb); clear HO_6; clear HO_9; clear HB; have HO_6 := n0_; have HO_9 := n1_; have HO243 := n2_; have HB := n3_; clear n0_ n1_ n2_ n3_; (try clear hb); (try clear hb2); (try clear hk); (try clear hi); (try clear ho0)) | ((with_reducible refine gate_callee (f := 10) rfl ?_); refine goesL_ (some 76) rfl rfl Try.func10 (by kernel_rfl) rfl #[.slice A1 l1.length c1] rfl (by (try simp only [List.map_toArray, List.map_cons, List.map_nil]); first | done | rfl | (simp only [List.length_drop, List.length_take]; rfl)) ?_; (with_reducible refine (laws_toIntS.calls kj21 _ _ l1 t244 _ ?side1 ?side2 A50.out).mono ?_); (case side1 => repeat (first | exact (Kd.C_below HR1.out HB.out) | (with_reducible refine Kd.C_alloc ?_ _) | (with_reducible refine Kd.C_drewN ?_ _) | (with_reducible refine Kd.C_drew ?_))); (case side2 => exact HC1.out); rintro e w59 ⟨v245, rfl, ho0, hb⟩; refine ⟨_, rfl, ?_⟩; have n0_ := Aside0.mk (Kd.R_elder' (by (with_reducible repeat (first | apply Kd.R_alloc | apply Kd.R_drewN | apply Kd.R_drew)); exact HO_6.out) (Kd.R_base ho0) hb); have n1_ := Aside0.mk (Kd.R_elder' (by (with_reducible repeat (first | apply Kd.R_alloc | apply Kd.R_drewN | apply Kd.R_drew)); exact HO_9.out) (Kd.R_base ho0) hb); have n2_ := Aside0.mk (Kd.R_below (by (with_reducible repeat (first | apply Kd.R_alloc | apply Kd.R_drewN | apply Kd.R_drew)); exact HO243.out) hb); have n3_ := Aside0.mk (Kd.R_lower (Kd.R_new' (Kd.R_new' ho0 (Kd.R_lt (by (with_reducible repeat (first | apply Kd.R_alloc | apply Kd.R_drewN | apply Kd.R_drew)); exact HO_6.out))) (Kd.R_lt (by (with_reducible repeat (first | apply Kd.R_alloc | apply Kd.R_drewN | apply Kd.R_drew)); exact HO_9.out))) (below_size (by repeat (first | (with_reducible first | exact HB.out | apply below_alloc | apply pw_below_drewN | apply below_drew1) | exact HB.out)))); have n4_ := Aside0.mk (below_step (by repeat (first | (with_reducible first | exact HB.out | apply below_alloc | apply pw_below_drewN | apply below_drew1) | exact HB.out)) hb); clear HO_6; clear HO_9; clear HO243; clear HB; have HO_6 := n0_; have HO_9 := n1_; have HO243 := n2_; have HO246 := n3_; have HB := n4_; clear n0_ n1_ n2_ n3_ n4_; (try clear hb); (try clear hb2); (try clear hk); (try clear hi); (try clear ho0); obtain ⟨Ao60, co60, eo60⟩ := Kd.R_slice HO243.out; subst eo60; obtain ⟨Ao61, co61, eo61⟩ := Kd.R_slice HO246.out; subst eo61) | ((with_reducible refine gate_callee (f := 24) rfl ?_); refine goesL_ (some 77) rfl rfl Try.func24 (by kernel_rfl) rfl #[.slice Ao60 t241.length co60, .slice Ao61 t244.length co61] rfl (by (try simp only [List.map_toArray, List.map_cons, List.map_nil]); first | done | rfl | (simp only [List.length_drop, List.length_take]; rfl)) ?_; (with_reducible refine (impl_FinishTicks.calls kj21 _ _ t241 _ _ t244 t247 _ ?side1 ?side2 ?side3 ?side4 A51.out).mono ?_); (case side1 => repeat (first | exact (Kd.R_reads' HO243.out).2.2 | (with_reducible refine Kd.C_alloc ?_ _) | (with_reducible refine Kd.C_drewN ?_ _) | (with_reducible refine Kd.C_drew ?_))); (case side2 => exact (Kd.R_reads' HO243.out).2.1); (case side3 => repeat (first | exact (Kd.R_reads' HO246.out).2.2 | (with_reducible refine Kd.C_alloc ?_ _) | (with_reducible refine Kd.C_drewN ?_ _) | (with_reducible refine Kd.C_drew ?_))); (case side4 => exact (Kd.R_reads' HO246.out).2.1); rintro e w62 ⟨v248, rfl, ho0, hb⟩; refine ⟨_, rfl, ?_⟩; have n0_ := Aside0.mk (Kd.R_elder' (by (with_reducible repeat (first | apply Kd.R_alloc | apply Kd.R_drewN | apply Kd.R_drew)); exact HO_6.out) (Kd.R_base ho0) hb); have n1_ := Aside0.mk (Kd.R_elder' (by (with_reducible repeat (first | apply Kd.R_alloc | apply Kd.R_drewN | apply Kd.R_drew)); exact HO_9.out) (Kd.R_base ho0) hb); have n2_ := Aside0.mk (Kd.R_below (by (with_reducible repeat (first | apply Kd.R_alloc | apply Kd.R_drewN | apply Kd.R_drew)); exact HO243.out) hb); have n3_ := Aside0.mk (Kd.R_elder' (by (with_reducible repeat (first | apply Kd.R_alloc | apply Kd.R_drewN | apply Kd.R_drew)); exact HO246.out) (Kd.R_base ho0) hb); have n4_ := Aside0.mk (Kd.R_lower (Kd.R_new' (Kd.R_new' (Kd.R_new' ho0 (Kd.R_lt (by (with_reducible repeat (first | apply Kd.R_alloc | apply Kd.R_drewN | apply Kd.R_drew)); exact HO_6.out))) (Kd.R_lt (by (with_reducible repeat (first | apply Kd.R_alloc | apply Kd.R_drewN | apply Kd.R_drew)); exact HO_9.out))) (Kd.R_lt (by (with_reducible repeat (first | apply Kd.R_alloc | apply Kd.R_drewN | apply Kd.R_drew)); exact HO246.out))) (below_size (by repeat (first | (with_reducible first | exact HB.out | apply below_alloc | apply pw_below_drewN | apply below_drew1) | exact HB.out)))); have n5_ := Aside0.mk (below_step (by repeat (first | (with_reducible first | exact HB.out | apply below_alloc | apply pw_below_drewN | apply below_drew1) | exact HB.out)) hb); clear HO_6; clear HO_9; clear HO243; clear HO246; clear HB; have HO_6 := n0_; have HO_9 := n1_; have HO243 := n2_; have HO246 := n3_; have HO249 := n4_; have HB := n5_; clear n0_ n1_ n2_ n3_ n4_ n5_; (try clear hb); (try clear hb2); (try clear hk); (try clear hi); (try clear ho0); obtain ⟨Ao63, co63, eo63⟩ := Kd.R_slice HO249.out; subst eo63) | ((with_reducible refine gate_callee (f := 12) rfl ?_); refine goesL_ (some 80) rfl rfl Try.func12 (by kernel_rfl) rfl #[.slice Ao63 t247.length co63, .slice Ao34 t212.length co34] rfl (by (try simp only [List.map_toArray, List.map_cons, List.map_nil]); first | done | rfl | (simp only [List.length_drop, List.length_take]; rfl)) ?_; (with_reducible refine (laws_eqIntS.calls kj21 _ _ t247 _ _ t212 true _ ?side1 ?side2 ?side3 ?side4 A52.out).mono ?_); (case side1 => repeat (first | exact (Kd.R_reads' HO249.out).2.2 | (with_reducible refine Kd.C_alloc ?_ _) | (with_reducible refine Kd.C_drewN ?_ _) | (with_reducible refine Kd.C_drew ?_))); (case side2 => exact (Kd.R_reads' HO249.out).2.1); (case side3 => repeat (first | exact (Kd.R_reads' HO_6.out).2.2 | (with_reducible refine Kd.C_alloc ?_ _) | (with_reducible refine Kd.C_drewN ?_ _) | (with_reducible refine Kd.C_drew ?_))); (case side4 => exact (Kd.R_reads' HO_6.out).2.1); rintro e w' ⟨rfl, ⟨nd, rfl⟩⟩; refine ⟨_, rfl, ?_⟩) | ((with_reducible refine gate_callee (f := 22) rfl ?_); refine goesL_ (some 84) rfl rfl Try.func22 (by kernel_rfl) rfl #[.slice Ao33 t239.length co33, .int .i64 1] rfl (by (try simp only [List.map_toArray, List.map_cons, List.map_nil]); first | done | (rw [show t239.length = t221.length from (Kd.R_reads' HO_9.out).1.symm] <;> rfl) | rfl | (simp only [List.length_drop, List.length_take]; rfl)) ?_; (with_reducible refine (laws_heldIntS.calls kj21 _ _ t239 1 t251 _ ?side1 ?side2 A54.out).mono ?_); (case side1 => repeat (first | exact (Kd.R_reads' HO_9.out).2.2 | (with_reducible refine Kd.C_alloc ?_ _) | (with_reducible refine Kd.C_drewN ?_ _) | (with_reducible refine Kd.C_drew ?_))); (case side2 => rw [show t239.length = t221.length from (Kd.R_reads' HO_9.out).1.symm]; exact (Kd.R_reads' HO_9.out).2.1); rintro e w' ⟨rfl, ⟨nd, rfl⟩⟩; refine ⟨_, rfl, ?_⟩))
              go_ret
              exact ⟨by first | rfl | (simp [errW_none, errW_some] <;> rfl) | (simp [*, errW_none, errW_some] <;> rfl), by repeat (first | (with_reducible first | exact HB.out | apply below_alloc | apply pw_below_drewN | apply below_drew1) | exact HB.out)⟩
             ·rw [if_neg c56] at H
              exact absurd H (by simp)
           ·replace c53 := Bool.eq_false_iff.mpr c53
            subst c53
            have H1 : (none) = some r := by rw [if_neg (show ¬ (false = true) by decide)] at H; exact H
            clear H
            have H := H1
            clear H1
            exact absurd H (by simp)
          ·rw [if_neg c48] at H
           exact absurd H (by simp)
     ·replace c19 := Bool.eq_false_iff.mpr c19
      subst c19
      have H1 : (none) = some r := by rw [if_neg (show ¬ (false = true) by decide)] at H; exact H
      clear H
      have H := H1
      clear H1
      exact absurd H (by simp)
    ·replace c16 := Bool.eq_false_iff.mpr c16
     subst c16
     have H1 : (none) = some r := by rw [if_neg (show ¬ (false = true) by decide)] at H; exact H
     clear H
     have H := H1
     clear H1
     exact absurd H (by simp)
   ·replace c13 := Bool.eq_false_iff.mpr c13
    subst c13
    have H1 : (none) = some r := by rw [if_neg (show ¬ (false = true) by decide)] at H; exact H
    clear H
    have H := H1
    clear H1
    exact absurd H (by simp)

end Go.Proofs.Ytniiebpibdkgjaa.PFnExactFinishTicks
