-- written by xprint.py for this seat
import Derived.Test.YtkjlpledjnidfaaPFnExactReceiveAllx0
import Derived.Test.YtkjlpledjnidfaaPFnExactReceiveAllx1
import Derived.Test.YtkjlpledjnidfaaPFnExactReceiveAllx2
import Derived.Test.YtkjlpledjnidfaaPFnExactReceiveAllx3
import Derived.Test.YtkjlpledjnidfaaPFnExactReceiveAllx4
namespace Go.Proofs.Ytkjlpledjnidfaa.PFnExactReceiveAll
open Go.RowKit Go.Proofs.YtkjlpledjnidfaaW.PrintWords Go.Proofs.YtkjlpledjnidfaaW.PrintLast Go.Proofs.YtkjlpledjnidfaaW.PrintMore
attribute [local go_sem] max2_int min2_int max_two min_two max_three min_three max_four min_four   -- for this text's walks alone
set_option linter.unusedVariables false
set_option linter.unusedSimpArgs false

/-! ### laws_FnExactReceiveAll: function 8 -/
mutual
def laws_FnExactReceiveAll.j0 : Nat → List (S145) → List Bool → Int → List (S107) → List Bool → Int → Bool → List Int → List Int → List Int → List Int → Option (Bool)
 | 0, _, _, _, _, _, _, _, _, _, _, _ => none
 | k + 1, x1, x2, x9, x11, x12, x14, x64, x198000, x214000, x218000, x229000 => if x64 = true then (none) else ((laws_toGateway.f k x198000).bind fun t230 => ((laws_eqGateway.f k x218000 t230).bind fun t233 => (if t233 = true then ((laws_toPacketS.f k x1).bind fun t234 => ((laws_eqPacketS.f k x11 t234).bind fun t237 => (if t237 = true then ((laws_toBoolS.f k x2).bind fun t238 => ((laws_eqBoolS.f k x12 t238).bind fun t241 => (if t241 = true then ((laws_markGateway.f k x218000 1).bind fun bt242 => ((laws_markPacketS.f k x11 bt242.1).bind fun bt244 => ((laws_markBoolS.f k x12 bt244.1).bind fun bt246 => (if bt246.1 < 0 then (laws_FnExactReceiveAll.j1 k x1 x2 x9 true x198000 x214000 x229000) else ((laws_eqGateway.f k x229000 x214000).bind fun t248 => (if t248 = true then (laws_FnExactReceiveAll.j1 k x1 x2 x9 (x14 != x9) x198000 x214000 x229000) else (laws_FnExactReceiveAll.j1 k x1 x2 x9 true x198000 x214000 x229000))))))) else (none)))) else (none)))) else (none))))
def laws_FnExactReceiveAll.j1 : Nat → List (S145) → List Bool → Int → Bool → List Int → List Int → List Int → Option (Bool)
 | 0, _, _, _, _, _, _, _ => none
 | k + 1, x1, x2, x9, x101, x198000, x214000, x229000 => if x101 = true then (none) else ((laws_markGateway.f k x229000 1).bind fun bt249 => ((laws_heldGateway.f k bt249.2 1).bind fun t251 => (if t251 < 0 then (none) else (if t251 = bt249.1 then ((laws_toGateway.f k x198000).bind fun t252 => ((laws_toPacketS.f k x1).bind fun t255 => ((laws_toBoolS.f k x2).bind fun t258 => ((impl_ReceiveAll.f k t252 t255 t258).bind fun bt261 => ((laws_eqGateway.f k bt261.1 x214000).bind fun t266 => (if t266 = true then (laws_FnExactReceiveAll.j2 k bt249.1 (bt261.2 != x9) bt249.2) else (laws_FnExactReceiveAll.j2 k bt249.1 true bt249.2))))))) else (none)))))
def laws_FnExactReceiveAll.j2 : Nat → Int → Bool → List Int → Option (Bool)
 | 0, _, _, _ => none
 | k + 1, x16, x131, x229000 => if x131 = true then (none) else ((laws_heldGateway.f k x229000 1).bind fun t267 => (if t267 < 0 then (none) else (if t267 = x16 then (some true) else (none))))
end
def laws_FnExactReceiveAll.f (k : Nat) (l0_0 : List Int) (l1 : List (S145)) (l2 : List Bool) : Option (Bool) := if (l2.length : Int) > 1048576 then (some true) else ((laws_szGateway.f l0_0 1048576).bind fun t198 => (if t198 < 0 then (some true) else ((laws_szPacketS.f l1 t198).bind fun t199 => (if t199 < 0 then (some true) else ((laws_toGateway.f k l0_0).bind fun t200 => ((laws_toPacketS.f k l1).bind fun t203 => ((laws_toBoolS.f k l2).bind fun t206 => ((spec_ReceiveAll.f k t200 t203 t206).bind fun bt209 => ((laws_toGateway.f k l0_0).bind fun t214 => ((laws_toPacketS.f k l1).bind fun t218 => ((laws_toBoolS.f k l2).bind fun t221 => ((impl_ReceiveAll.f k t214 t218 t221).bind fun bt224 => ((laws_eqGateway.f k bt224.1 bt209.1).bind fun t229 => (if t229 = true then (laws_FnExactReceiveAll.j0 k l1 l2 bt209.2 t218 t221 bt224.2 (bt224.2 != bt209.2) l0_0 bt209.1 t214 bt224.1) else (laws_FnExactReceiveAll.j0 k l1 l2 bt209.2 t218 t221 bt224.2 true l0_0 bt209.1 t214 bt224.1)))))))))))))))
theorem laws_FnExactReceiveAll.mono_l : ∀ k, (∀ y0 y1 y2 y3 y4 y5 y6 y7 y8 y9 y10, LeO (laws_FnExactReceiveAll.j0 k y0 y1 y2 y3 y4 y5 y6 y7 y8 y9 y10) (laws_FnExactReceiveAll.j0 (k + 1) y0 y1 y2 y3 y4 y5 y6 y7 y8 y9 y10)) ∧ (∀ y0 y1 y2 y3 y4 y5 y6, LeO (laws_FnExactReceiveAll.j1 k y0 y1 y2 y3 y4 y5 y6) (laws_FnExactReceiveAll.j1 (k + 1) y0 y1 y2 y3 y4 y5 y6)) ∧ (∀ y0 y1 y2, LeO (laws_FnExactReceiveAll.j2 k y0 y1 y2) (laws_FnExactReceiveAll.j2 (k + 1) y0 y1 y2))
 | 0 => ⟨fun _ _ _ _ _ _ _ _ _ _ _ r h => by simp [laws_FnExactReceiveAll.j0] at h, fun _ _ _ _ _ _ _ r h => by simp [laws_FnExactReceiveAll.j1] at h, fun _ _ _ r h => by simp [laws_FnExactReceiveAll.j2] at h⟩
 | k + 1 => by
  obtain ⟨ih0, ih1, ih2⟩ := laws_FnExactReceiveAll.mono_l k
  refine ⟨?_, ?_, ?_⟩
  ·intro y0 y1 y2 y3 y4 y5 y6 y7 y8 y9 y10
   unfold laws_FnExactReceiveAll.j0
   repeat' first
   | (with_reducible exact ih0 _ _ _ _ _ _ _ _ _ _ _)
   | (with_reducible exact ih1 _ _ _ _ _ _ _)
   | (with_reducible exact ih2 _ _ _)
   | (with_reducible exact impl_ReceiveAll.mono _ _ _ _)
   | (with_reducible exact laws_eqBoolS.mono _ _ _)
   | (with_reducible exact laws_eqGateway.mono _ _ _)
   | (with_reducible exact laws_eqPacketS.mono _ _ _)
   | (with_reducible exact laws_heldGateway.mono _ _ _)
   | (with_reducible exact laws_markBoolS.mono _ _ _)
   | (with_reducible exact laws_markGateway.mono _ _ _)
   | (with_reducible exact laws_markPacketS.mono _ _ _)
   | (with_reducible exact laws_toBoolS.mono _ _)
   | (with_reducible exact laws_toGateway.mono _ _)
   | (with_reducible exact laws_toPacketS.mono _ _)
   | (with_reducible exact spec_ReceiveAll.mono _ _ _ _)
   | (with_reducible exact LeO.refl _)
   | (with_reducible exact LeO.none _)
   | (with_reducible refine LeO.ite ?_ ?_)
   | (with_reducible refine LeO.bind ?_ (fun _ => ?_))
   | exact ih0 _ _ _ _ _ _ _ _ _ _ _
   | exact ih1 _ _ _ _ _ _ _
   | exact ih2 _ _ _
   | exact impl_ReceiveAll.mono _ _ _ _
   | exact laws_eqBoolS.mono _ _ _
   | exact laws_eqGateway.mono _ _ _
   | exact laws_eqPacketS.mono _ _ _
   | exact laws_heldGateway.mono _ _ _
   | exact laws_markBoolS.mono _ _ _
   | exact laws_markGateway.mono _ _ _
   | exact laws_markPacketS.mono _ _ _
   | exact laws_toBoolS.mono _ _
   | exact laws_toGateway.mono _ _
   | exact laws_toPacketS.mono _ _
   | exact spec_ReceiveAll.mono _ _ _ _
   | exact LeO.none _
   | refine LeO.ite ?_ ?_
   | refine LeO.bind ?_ (fun _ => ?_)
  ·intro y0 y1 y2 y3 y4 y5 y6
   unfold laws_FnExactReceiveAll.j1
   repeat' first
   | (with_reducible exact ih0 _ _ _ _ _ _ _ _ _ _ _)
   | (with_reducible exact ih1 _ _ _ _ _ _ _)
   | (with_reducible exact ih2 _ _ _)
   | (with_reducible exact impl_ReceiveAll.mono _ _ _ _)
   | (with_reducible exact laws_eqBoolS.mono _ _ _)
   | (with_reducible exact laws_eqGateway.mono _ _ _)
   | (with_reducible exact laws_eqPacketS.mono _ _ _)
   | (with_reducible exact laws_heldGateway.mono _ _ _)
   | (with_reducible exact laws_markBoolS.mono _ _ _)
   | (with_reducible exact laws_markGateway.mono _ _ _)
   | (with_reducible exact laws_markPacketS.mono _ _ _)
   | (with_reducible exact laws_toBoolS.mono _ _)
   | (with_reducible exact laws_toGateway.mono _ _)
   | (with_reducible exact laws_toPacketS.mono _ _)
   | (with_reducible exact spec_ReceiveAll.mono _ _ _ _)
   | (with_reducible exact LeO.refl _)
   | (with_reducible exact LeO.none _)
   | (with_reducible refine LeO.ite ?_ ?_)
   | (with_reducible refine LeO.bind ?_ (fun _ => ?_))
   | exact ih0 _ _ _ _ _ _ _ _ _ _ _
   | exact ih1 _ _ _ _ _ _ _
   | exact ih2 _ _ _
   | exact impl_ReceiveAll.mono _ _ _ _
   | exact laws_eqBoolS.mono _ _ _
   | exact laws_eqGateway.mono _ _ _
   | exact laws_eqPacketS.mono _ _ _
   | exact laws_heldGateway.mono _ _ _
   | exact laws_markBoolS.mono _ _ _
   | exact laws_markGateway.mono _ _ _
   | exact laws_markPacketS.mono _ _ _
   | exact laws_toBoolS.mono _ _
   | exact laws_toGateway.mono _ _
   | exact laws_toPacketS.mono _ _
   | exact spec_ReceiveAll.mono _ _ _ _
   | exact LeO.none _
   | refine LeO.ite ?_ ?_
   | refine LeO.bind ?_ (fun _ => ?_)
  ·intro y0 y1 y2
   unfold laws_FnExactReceiveAll.j2
   repeat' first
   | (with_reducible exact ih0 _ _ _ _ _ _ _ _ _ _ _)
   | (with_reducible exact ih1 _ _ _ _ _ _ _)
   | (with_reducible exact ih2 _ _ _)
   | (with_reducible exact impl_ReceiveAll.mono _ _ _ _)
   | (with_reducible exact laws_eqBoolS.mono _ _ _)
   | (with_reducible exact laws_eqGateway.mono _ _ _)
   | (with_reducible exact laws_eqPacketS.mono _ _ _)
   | (with_reducible exact laws_heldGateway.mono _ _ _)
   | (with_reducible exact laws_markBoolS.mono _ _ _)
   | (with_reducible exact laws_markGateway.mono _ _ _)
   | (with_reducible exact laws_markPacketS.mono _ _ _)
   | (with_reducible exact laws_toBoolS.mono _ _)
   | (with_reducible exact laws_toGateway.mono _ _)
   | (with_reducible exact laws_toPacketS.mono _ _)
   | (with_reducible exact spec_ReceiveAll.mono _ _ _ _)
   | (with_reducible exact LeO.refl _)
   | (with_reducible exact LeO.none _)
   | (with_reducible refine LeO.ite ?_ ?_)
   | (with_reducible refine LeO.bind ?_ (fun _ => ?_))
   | exact ih0 _ _ _ _ _ _ _ _ _ _ _
   | exact ih1 _ _ _ _ _ _ _
   | exact ih2 _ _ _
   | exact impl_ReceiveAll.mono _ _ _ _
   | exact laws_eqBoolS.mono _ _ _
   | exact laws_eqGateway.mono _ _ _
   | exact laws_eqPacketS.mono _ _ _
   | exact laws_heldGateway.mono _ _ _
   | exact laws_markBoolS.mono _ _ _
   | exact laws_markGateway.mono _ _ _
   | exact laws_markPacketS.mono _ _ _
   | exact laws_toBoolS.mono _ _
   | exact laws_toGateway.mono _ _
   | exact laws_toPacketS.mono _ _
   | exact spec_ReceiveAll.mono _ _ _ _
   | exact LeO.none _
   | refine LeO.ite ?_ ?_
   | refine LeO.bind ?_ (fun _ => ?_)
theorem laws_FnExactReceiveAll.mono : ∀ a0 a1 a2 k, LeO (laws_FnExactReceiveAll.f k a0 a1 a2) (laws_FnExactReceiveAll.f (k + 1) a0 a1 a2) := by
 intro a0 a1 a2 k
 obtain ⟨ih0, ih1, ih2⟩ := laws_FnExactReceiveAll.mono_l k
 unfold laws_FnExactReceiveAll.f
 repeat' first
   | (with_reducible exact ih0 _ _ _ _ _ _ _ _ _ _ _)
   | (with_reducible exact ih1 _ _ _ _ _ _ _)
   | (with_reducible exact ih2 _ _ _)
   | (with_reducible exact impl_ReceiveAll.mono _ _ _ _)
   | (with_reducible exact laws_eqBoolS.mono _ _ _)
   | (with_reducible exact laws_eqGateway.mono _ _ _)
   | (with_reducible exact laws_eqPacketS.mono _ _ _)
   | (with_reducible exact laws_heldGateway.mono _ _ _)
   | (with_reducible exact laws_markBoolS.mono _ _ _)
   | (with_reducible exact laws_markGateway.mono _ _ _)
   | (with_reducible exact laws_markPacketS.mono _ _ _)
   | (with_reducible exact laws_toBoolS.mono _ _)
   | (with_reducible exact laws_toGateway.mono _ _)
   | (with_reducible exact laws_toPacketS.mono _ _)
   | (with_reducible exact spec_ReceiveAll.mono _ _ _ _)
   | (with_reducible exact LeO.refl _)
   | (with_reducible exact LeO.none _)
   | (with_reducible refine LeO.ite ?_ ?_)
   | (with_reducible refine LeO.bind ?_ (fun _ => ?_))
   | exact ih0 _ _ _ _ _ _ _ _ _ _ _
   | exact ih1 _ _ _ _ _ _ _
   | exact ih2 _ _ _
   | exact impl_ReceiveAll.mono _ _ _ _
   | exact laws_eqBoolS.mono _ _ _
   | exact laws_eqGateway.mono _ _ _
   | exact laws_eqPacketS.mono _ _ _
   | exact laws_heldGateway.mono _ _ _
   | exact laws_markBoolS.mono _ _ _
   | exact laws_markGateway.mono _ _ _
   | exact laws_markPacketS.mono _ _ _
   | exact laws_toBoolS.mono _ _
   | exact laws_toGateway.mono _ _
   | exact laws_toPacketS.mono _ _
   | exact spec_ReceiveAll.mono _ _ _ _
   | exact LeO.none _
   | refine LeO.ite ?_ ?_
   | refine LeO.bind ?_ (fun _ => ?_)
set_option maxHeartbeats 8000000 in
set_option maxRecDepth 100000 in
theorem laws_FnExactReceiveAll.calls (k : Nat) (A0_0 : Option Addr) (c0_0 : Nat) (l0_0 : List Int) (A1 : Option Addr) (c1 : Nat) (l1 : List (S145)) (A2 : Option Addr) (c2 : Nat) (l2 : List Bool) (r : Bool) (w : World) (hr0_0 : Kd.C (Kd.int .i64) w A0_0 l0_0.length l0_0) (hc0_0 : l0_0.length ≤ c0_0) (hr1 : Kd.C k145 w A1 l1.length l1) (hc1 : l1.length ≤ c1) (hr2 : Kd.C Kd.bool w A2 l2.length l2) (hc2 : l2.length ≤ c2) (h : laws_FnExactReceiveAll.f k l0_0 l1 l2 = some r) :
  Calls Try.prog 8 #[.agg #[.slice A0_0 l0_0.length c0_0], .slice A1 l1.length c1, .slice A2 l2.length c2] w fun e w' => e = .returned (.bool r) ∧ Below w.heap.size w w' := by
 have hu61 := Try.underlying61
 have hu66 := Try.underlying66
 have HR0_0 := Aside0.mk hr0_0
 have HC0_0 := Aside0.mk hc0_0
 clear hr0_0 hc0_0
 have HR1 := Aside0.mk hr1
 have HC1 := Aside0.mk hc1
 clear hr1 hc1
 have HR2 := Aside0.mk hr2
 have HC2 := Aside0.mk hc2
 clear hr2 hc2
 have HB := Aside0.mk (Below.refl w.heap.size w)
 have H : (if (l2.length : Int) > 1048576 then (some true) else ((laws_szGateway.f l0_0 1048576).bind fun t198 => (if t198 < 0 then (some true) else ((laws_szPacketS.f l1 t198).bind fun t199 => (if t199 < 0 then (some true) else ((laws_toGateway.f k l0_0).bind fun t200 => ((laws_toPacketS.f k l1).bind fun t203 => ((laws_toBoolS.f k l2).bind fun t206 => ((spec_ReceiveAll.f k t200 t203 t206).bind fun bt209 => ((laws_toGateway.f k l0_0).bind fun t214 => ((laws_toPacketS.f k l1).bind fun t218 => ((laws_toBoolS.f k l2).bind fun t221 => ((impl_ReceiveAll.f k t214 t218 t221).bind fun bt224 => ((laws_eqGateway.f k bt224.1 bt209.1).bind fun t229 => (if t229 = true then (laws_FnExactReceiveAll.j0 k l1 l2 bt209.2 t218 t221 bt224.2 (bt224.2 != bt209.2) l0_0 bt209.1 t214 bt224.1) else (laws_FnExactReceiveAll.j0 k l1 l2 bt209.2 t218 t221 bt224.2 true l0_0 bt209.1 t214 bt224.1)))))))))))))))) = some r := h
 clear h
 by_cases c4 : (l2.length : Int) > 1048576
 ·rw [if_pos c4] at H
  have c4b0 : decide (1048576 < (l2.length : Int)) = true := decide_eq_true c4
  have c4b1 : decide (1048576 < l2.length) = true := decide_eq_true (by omega)
  clear c4
  obtain rfl := Option.some.inj H
  go_enter Try.func8, Try.ntmps8
  go_wp2_with (first | ((with_reducible refine gate_dst (N := 3) rfl ?_); refine box_event ?hg (N := 3) ?hd (cs := #[.slice A0_0 l0_0.length c0_0]) (t := 61) ?hr ?_; (case hd => rfl); (case hg => rfl); (case hr => first | (go_simp; done) | (go_simp; rfl)); intro gb197 hg w5 hbox hb; have n0_ := Aside0.mk (below_step (by repeat (first | (with_reducible first | exact HB.out | apply below_alloc | apply pw_below_drewN | apply below_drew1) | exact HB.out)) hb); have n1_ := Aside0.mk (hbox); have n2_ := Aside0.mk ((by rw [hg]; exact (below_size (by repeat (first | (with_reducible first | exact HB.out | apply below_alloc | apply pw_below_drewN | apply below_drew1) | exact HB.out))) : w.heap.size ≤ gb197)); have n3_ := Aside0.mk ((by rw [hg]; exact (below_size (by repeat (first | (with_reducible first | exact HB.out | apply below_alloc | apply pw_below_drewN | apply below_drew1) | exact HB.out))) : w.heap.size ≤ gb197)); clear HB; have HB := n0_; have BK197 := n1_; have GW197 := n2_; have GE197 := n3_; clear n0_ n1_ n2_ n3_; clear hb hbox hg))
  go_ret
  exact ⟨by first | rfl | (simp [errW_none, errW_some] <;> rfl) | (simp [*, errW_none, errW_some] <;> rfl), by repeat (first | (with_reducible first | exact HB.out | apply below_alloc | apply pw_below_drewN | apply below_drew1 | refine below_set ?_ GE197.out) | exact HB.out)⟩
 ·rw [if_neg c4] at H
  have c4b0 : decide (1048576 < (l2.length : Int)) = false := decide_eq_false c4
  have c4b1 : decide (1048576 < l2.length) = false := decide_eq_false (by omega)
  clear c4
  replace H := Option.bind_eq_some_iff.mp H
  obtain ⟨t198, A60, H⟩ := H
  replace H : (if t198 < 0 then (some true) else ((laws_szPacketS.f l1 t198).bind fun t199 => (if t199 < 0 then (some true) else ((laws_toGateway.f k l0_0).bind fun t200 => ((laws_toPacketS.f k l1).bind fun t203 => ((laws_toBoolS.f k l2).bind fun t206 => ((spec_ReceiveAll.f k t200 t203 t206).bind fun bt209 => ((laws_toGateway.f k l0_0).bind fun t214 => ((laws_toPacketS.f k l1).bind fun t218 => ((laws_toBoolS.f k l2).bind fun t221 => ((impl_ReceiveAll.f k t214 t218 t221).bind fun bt224 => ((laws_eqGateway.f k bt224.1 bt209.1).bind fun t229 => (if t229 = true then (laws_FnExactReceiveAll.j0 k l1 l2 bt209.2 t218 t221 bt224.2 (bt224.2 != bt209.2) l0_0 bt209.1 t214 bt224.1) else (laws_FnExactReceiveAll.j0 k l1 l2 bt209.2 t218 t221 bt224.2 true l0_0 bt209.1 t214 bt224.1)))))))))))))) = some r := H
  have A6 := Aside0.mk A60
  clear A60
  by_cases c7 : t198 < 0
  ·rw [if_pos c7] at H
   have c7b0 : decide (t198 < 0) = true := decide_eq_true c7
   clear c7
   obtain rfl := Option.some.inj H
   go_enter Try.func8, Try.ntmps8
   go_wp2_with (first | ((with_reducible refine gate_dst (N := 3) rfl ?_); refine box_event ?hg (N := 3) ?hd (cs := #[.slice A0_0 l0_0.length c0_0]) (t := 61) ?hr ?_; (case hd => rfl); (case hg => rfl); (case hr => first | (go_simp; done) | (go_simp; rfl)); intro gb197 hg w8 hbox hb; have n0_ := Aside0.mk (below_step (by repeat (first | (with_reducible first | exact HB.out | apply below_alloc | apply pw_below_drewN | apply below_drew1) | exact HB.out)) hb); have n1_ := Aside0.mk (hbox); have n2_ := Aside0.mk ((by rw [hg]; exact (below_size (by repeat (first | (with_reducible first | exact HB.out | apply below_alloc | apply pw_below_drewN | apply below_drew1) | exact HB.out))) : w.heap.size ≤ gb197)); have n3_ := Aside0.mk ((by rw [hg]; exact (below_size (by repeat (first | (with_reducible first | exact HB.out | apply below_alloc | apply pw_below_drewN | apply below_drew1) | exact HB.out))) : w.heap.size ≤ gb197)); clear HB; have HB := n0_; have BK197 := n1_; have GW197 := n2_; have GE197 := n3_; clear n0_ n1_ n2_ n3_; clear hb hbox hg; have hcz9_0 : w8.cell? ⟨gb197, 0, none⟩ = some (.slice A0_0 l0_0.length c0_0) := (blk_cell BK197.out 0).trans rfl; have hfz9_0 := blk_frozen BK197.out 0) | ((with_reducible refine gate_callee (f := 44) rfl ?_); refine goesL_ (some 25) rfl rfl Try.func44 (by kernel_rfl) rfl #[.agg #[.slice A0_0 l0_0.length c0_0], .int .i64 1048576] rfl (by (try simp only [List.map_toArray, List.map_cons, List.map_nil]); first | done | rfl | (simp only [List.length_drop, List.length_take]; rfl)) ?_; (with_reducible refine (laws_szGateway.calls _ _ l0_0 1048576 t198 _ ?side1 ?side2 A6.out).mono ?_); (case side1 => repeat (first | exact (Kd.C_below HR0_0.out HB.out) | (with_reducible refine Kd.C_alloc ?_ _) | (with_reducible refine Kd.C_drewN ?_ _) | (with_reducible refine Kd.C_drew ?_))); (case side2 => exact HC0_0.out); rintro e w10 ⟨rfl, hb⟩; refine ⟨_, rfl, ?_⟩; have n0_ := Aside0.mk (blk_below (g := gb197) (o := .cells #[.slice A0_0 l0_0.length c0_0] 61 (0, 0)) (pkb BK197.out) hb); have n1_ := Aside0.mk (below_step (by repeat (first | (with_reducible first | exact HB.out | apply below_alloc | apply pw_below_drewN | apply below_drew1 | refine below_set ?_ GE197.out) | exact HB.out)) hb); clear BK197; clear HB; have BK197 := n0_; have HB := n1_; clear n0_ n1_; (try clear hb); (try clear hb2); (try clear hk); (try clear hi)))
   go_ret
   exact ⟨by first | rfl | (simp [errW_none, errW_some] <;> rfl) | (simp [*, errW_none, errW_some] <;> rfl), by repeat (first | (with_reducible first | exact HB.out | apply below_alloc | apply pw_below_drewN | apply below_drew1 | refine below_set ?_ GE197.out) | exact HB.out)⟩
  ·rw [if_neg c7] at H
   have c7b0 : decide (t198 < 0) = false := decide_eq_false c7
   clear c7
   replace H := Option.bind_eq_some_iff.mp H
   obtain ⟨t199, A110, H⟩ := H
   replace H : (if t199 < 0 then (some true) else ((laws_toGateway.f k l0_0).bind fun t200 => ((laws_toPacketS.f k l1).bind fun t203 => ((laws_toBoolS.f k l2).bind fun t206 => ((spec_ReceiveAll.f k t200 t203 t206).bind fun bt209 => ((laws_toGateway.f k l0_0).bind fun t214 => ((laws_toPacketS.f k l1).bind fun t218 => ((laws_toBoolS.f k l2).bind fun t221 => ((impl_ReceiveAll.f k t214 t218 t221).bind fun bt224 => ((laws_eqGateway.f k bt224.1 bt209.1).bind fun t229 => (if t229 = true then (laws_FnExactReceiveAll.j0 k l1 l2 bt209.2 t218 t221 bt224.2 (bt224.2 != bt209.2) l0_0 bt209.1 t214 bt224.1) else (laws_FnExactReceiveAll.j0 k l1 l2 bt209.2 t218 t221 bt224.2 true l0_0 bt209.1 t214 bt224.1)))))))))))) = some r := H
   have A11 := Aside0.mk A110
   clear A110
   by_cases c12 : t199 < 0
   ·rw [if_pos c12] at H
    have c12b0 : decide (t199 < 0) = true := decide_eq_true c12
    clear c12
    obtain rfl := Option.some.inj H
    go_enter Try.func8, Try.ntmps8
    go_wp2_with (first | ((with_reducible refine gate_dst (N := 3) rfl ?_); refine box_event ?hg (N := 3) ?hd (cs := #[.slice A0_0 l0_0.length c0_0]) (t := 61) ?hr ?_; (case hd => rfl); (case hg => rfl); (case hr => first | (go_simp; done) | (go_simp; rfl)); intro gb197 hg w13 hbox hb; have n0_ := Aside0.mk (below_step (by repeat (first | (with_reducible first | exact HB.out | apply below_alloc | apply pw_below_drewN | apply below_drew1) | exact HB.out)) hb); have n1_ := Aside0.mk (hbox); have n2_ := Aside0.mk ((by rw [hg]; exact (below_size (by repeat (first | (with_reducible first | exact HB.out | apply below_alloc | apply pw_below_drewN | apply below_drew1) | exact HB.out))) : w.heap.size ≤ gb197)); have n3_ := Aside0.mk ((by rw [hg]; exact (below_size (by repeat (first | (with_reducible first | exact HB.out | apply below_alloc | apply pw_below_drewN | apply below_drew1) | exact HB.out))) : w.heap.size ≤ gb197)); clear HB; have HB := n0_; have BK197 := n1_; have GW197 := n2_; have GE197 := n3_; clear n0_ n1_ n2_ n3_; clear hb hbox hg; have hcz14_0 : w13.cell? ⟨gb197, 0, none⟩ = some (.slice A0_0 l0_0.length c0_0) := (blk_cell BK197.out 0).trans rfl; have hfz14_0 := blk_frozen BK197.out 0) | ((with_reducible refine gate_callee (f := 44) rfl ?_); refine goesL_ (some 25) rfl rfl Try.func44 (by kernel_rfl) rfl #[.agg #[.slice A0_0 l0_0.length c0_0], .int .i64 1048576] rfl (by (try simp only [List.map_toArray, List.map_cons, List.map_nil]); first | done | rfl | (simp only [List.length_drop, List.length_take]; rfl)) ?_; (with_reducible refine (laws_szGateway.calls _ _ l0_0 1048576 t198 _ ?side1 ?side2 A6.out).mono ?_); (case side1 => repeat (first | exact (Kd.C_below HR0_0.out HB.out) | (with_reducible refine Kd.C_alloc ?_ _) | (with_reducible refine Kd.C_drewN ?_ _) | (with_reducible refine Kd.C_drew ?_))); (case side2 => exact HC0_0.out); rintro e w15 ⟨rfl, hb⟩; refine ⟨_, rfl, ?_⟩; have n0_ := Aside0.mk (blk_below (g := gb197) (o := .cells #[.slice A0_0 l0_0.length c0_0] 61 (0, 0)) (pkb BK197.out) hb); have n1_ := Aside0.mk (below_step (by repeat (first | (with_reducible first | exact HB.out | apply below_alloc | apply pw_below_drewN | apply below_drew1 | refine below_set ?_ GE197.out) | exact HB.out)) hb); clear BK197; clear HB; have BK197 := n0_; have HB := n1_; clear n0_ n1_; (try clear hb); (try clear hb2); (try clear hk); (try clear hi)) | ((with_reducible refine gate_callee (f := 45) rfl ?_); refine goesL_ (some 30) rfl rfl Try.func45 (by kernel_rfl) rfl #[.slice A1 l1.length c1, .int .i64 t198] rfl (by (try simp only [List.map_toArray, List.map_cons, List.map_nil]); first | done | rfl | (simp only [List.length_drop, List.length_take]; rfl)) ?_; (with_reducible refine (laws_szPacketS.calls _ _ l1 t198 t199 _ ?side1 ?side2 A11.out).mono ?_); (case side1 => repeat (first | exact (Kd.C_below HR1.out HB.out) | (with_reducible refine Kd.C_alloc ?_ _) | (with_reducible refine Kd.C_drewN ?_ _) | (with_reducible refine Kd.C_drew ?_))); (case side2 => exact HC1.out); rintro e w' ⟨rfl, ⟨nd, rfl⟩⟩; refine ⟨_, rfl, ?_⟩))
    go_ret
    exact ⟨by first | rfl | (simp [errW_none, errW_some] <;> rfl) | (simp [*, errW_none, errW_some] <;> rfl), by repeat (first | (with_reducible first | exact HB.out | apply below_alloc | apply pw_below_drewN | apply below_drew1 | refine below_set ?_ GE197.out) | exact HB.out)⟩
   ·rw [if_neg c12] at H
    have c12b0 : decide (t199 < 0) = false := decide_eq_false c12
    clear c12
    replace H := Option.bind_eq_some_iff.mp H
    obtain ⟨t200, A160, H⟩ := H
    replace H : ((laws_toPacketS.f k l1).bind fun t203 => ((laws_toBoolS.f k l2).bind fun t206 => ((spec_ReceiveAll.f k t200 t203 t206).bind fun bt209 => ((laws_toGateway.f k l0_0).bind fun t214 => ((laws_toPacketS.f k l1).bind fun t218 => ((laws_toBoolS.f k l2).bind fun t221 => ((impl_ReceiveAll.f k t214 t218 t221).bind fun bt224 => ((laws_eqGateway.f k bt224.1 bt209.1).bind fun t229 => (if t229 = true then (laws_FnExactReceiveAll.j0 k l1 l2 bt209.2 t218 t221 bt224.2 (bt224.2 != bt209.2) l0_0 bt209.1 t214 bt224.1) else (laws_FnExactReceiveAll.j0 k l1 l2 bt209.2 t218 t221 bt224.2 true l0_0 bt209.1 t214 bt224.1)))))))))) = some r := H
    have A16 := Aside0.mk A160
    clear A160
    replace H := Option.bind_eq_some_iff.mp H
    obtain ⟨t203, A170, H⟩ := H
    replace H : ((laws_toBoolS.f k l2).bind fun t206 => ((spec_ReceiveAll.f k t200 t203 t206).bind fun bt209 => ((laws_toGateway.f k l0_0).bind fun t214 => ((laws_toPacketS.f k l1).bind fun t218 => ((laws_toBoolS.f k l2).bind fun t221 => ((impl_ReceiveAll.f k t214 t218 t221).bind fun bt224 => ((laws_eqGateway.f k bt224.1 bt209.1).bind fun t229 => (if t229 = true then (laws_FnExactReceiveAll.j0 k l1 l2 bt209.2 t218 t221 bt224.2 (bt224.2 != bt209.2) l0_0 bt209.1 t214 bt224.1) else (laws_FnExactReceiveAll.j0 k l1 l2 bt209.2 t218 t221 bt224.2 true l0_0 bt209.1 t214 bt224.1))))))))) = some r := H
    have A17 := Aside0.mk A170
    clear A170
    replace H := Option.bind_eq_some_iff.mp H
    obtain ⟨t206, A180, H⟩ := H
    replace H : ((spec_ReceiveAll.f k t200 t203 t206).bind fun bt209 => ((laws_toGateway.f k l0_0).bind fun t214 => ((laws_toPacketS.f k l1).bind fun t218 => ((laws_toBoolS.f k l2).bind fun t221 => ((impl_ReceiveAll.f k t214 t218 t221).bind fun bt224 => ((laws_eqGateway.f k bt224.1 bt209.1).bind fun t229 => (if t229 = true then (laws_FnExactReceiveAll.j0 k l1 l2 bt209.2 t218 t221 bt224.2 (bt224.2 != bt209.2) l0_0 bt209.1 t214 bt224.1) else (laws_FnExactReceiveAll.j0 k l1 l2 bt209.2 t218 t221 bt224.2 true l0_0 bt209.1 t214 bt224.1)))))))) = some r := H
    have A18 := Aside0.mk A180
    clear A180
    replace H := Option.bind_eq_some_iff.mp H
    obtain ⟨⟨t209, t212⟩, A190, H⟩ := H
    replace H : ((laws_toGateway.f k l0_0).bind fun t214 => ((laws_toPacketS.f k l1).bind fun t218 => ((laws_toBoolS.f k l2).bind fun t221 => ((impl_ReceiveAll.f k t214 t218 t221).bind fun bt224 => ((laws_eqGateway.f k bt224.1 t209).bind fun t229 => (if t229 = true then (laws_FnExactReceiveAll.j0 k l1 l2 t212 t218 t221 bt224.2 (bt224.2 != t212) l0_0 t209 t214 bt224.1) else (laws_FnExactReceiveAll.j0 k l1 l2 t212 t218 t221 bt224.2 true l0_0 t209 t214 bt224.1))))))) = some r := H
    have A19 := Aside0.mk A190
    clear A190
    replace H := Option.bind_eq_some_iff.mp H
    obtain ⟨t214, A200, H⟩ := H
    replace H : ((laws_toPacketS.f k l1).bind fun t218 => ((laws_toBoolS.f k l2).bind fun t221 => ((impl_ReceiveAll.f k t214 t218 t221).bind fun bt224 => ((laws_eqGateway.f k bt224.1 t209).bind fun t229 => (if t229 = true then (laws_FnExactReceiveAll.j0 k l1 l2 t212 t218 t221 bt224.2 (bt224.2 != t212) l0_0 t209 t214 bt224.1) else (laws_FnExactReceiveAll.j0 k l1 l2 t212 t218 t221 bt224.2 true l0_0 t209 t214 bt224.1)))))) = some r := H
    have A20 := Aside0.mk A200
    clear A200
    replace H := Option.bind_eq_some_iff.mp H
    obtain ⟨t218, A210, H⟩ := H
    replace H : ((laws_toBoolS.f k l2).bind fun t221 => ((impl_ReceiveAll.f k t214 t218 t221).bind fun bt224 => ((laws_eqGateway.f k bt224.1 t209).bind fun t229 => (if t229 = true then (laws_FnExactReceiveAll.j0 k l1 l2 t212 t218 t221 bt224.2 (bt224.2 != t212) l0_0 t209 t214 bt224.1) else (laws_FnExactReceiveAll.j0 k l1 l2 t212 t218 t221 bt224.2 true l0_0 t209 t214 bt224.1))))) = some r := H
    have A21 := Aside0.mk A210
    clear A210
    replace H := Option.bind_eq_some_iff.mp H
    obtain ⟨t221, A220, H⟩ := H
    replace H : ((impl_ReceiveAll.f k t214 t218 t221).bind fun bt224 => ((laws_eqGateway.f k bt224.1 t209).bind fun t229 => (if t229 = true then (laws_FnExactReceiveAll.j0 k l1 l2 t212 t218 t221 bt224.2 (bt224.2 != t212) l0_0 t209 t214 bt224.1) else (laws_FnExactReceiveAll.j0 k l1 l2 t212 t218 t221 bt224.2 true l0_0 t209 t214 bt224.1)))) = some r := H
    have A22 := Aside0.mk A220
    clear A220
    replace H := Option.bind_eq_some_iff.mp H
    obtain ⟨⟨t224, t227⟩, A230, H⟩ := H
    replace H : ((laws_eqGateway.f k t224 t209).bind fun t229 => (if t229 = true then (laws_FnExactReceiveAll.j0 k l1 l2 t212 t218 t221 t227 (t227 != t212) l0_0 t209 t214 t224) else (laws_FnExactReceiveAll.j0 k l1 l2 t212 t218 t221 t227 true l0_0 t209 t214 t224))) = some r := H
    have A23 := Aside0.mk A230
    clear A230
    have HC24 := Aside0.mk H
    clear H
    go_enter Try.func8, Try.ntmps8
    go_upto_region 15 with (first | ((with_reducible refine gate_dst (N := 3) rfl ?_); refine box_event ?hg (N := 3) ?hd (cs := #[.slice A0_0 l0_0.length c0_0]) (t := 61) ?hr ?_; (case hd => rfl); (case hg => rfl); (case hr => first | (go_simp; done) | (go_simp; rfl)); intro gb197 hg w25 hbox hb; have n0_ := Aside0.mk (below_step (by repeat (first | (with_reducible first | exact HB.out | apply below_alloc | apply pw_below_drewN | apply below_drew1) | exact HB.out)) hb); have n1_ := Aside0.mk (hbox); have n2_ := Aside0.mk ((by rw [hg]; exact (below_size (by repeat (first | (with_reducible first | exact HB.out | apply below_alloc | apply pw_below_drewN | apply below_drew1) | exact HB.out))) : w.heap.size ≤ gb197)); have n3_ := Aside0.mk ((by rw [hg]; exact (below_size (by repeat (first | (with_reducible first | exact HB.out | apply below_alloc | apply pw_below_drewN | apply below_drew1) | exact HB.out))) : w.heap.size ≤ gb197)); clear HB; have HB := n0_; have BK197 := n1_; have GW197 := n2_; have GE197 := n3_; clear n0_ n1_ n2_ n3_; clear hb hbox hg; have hcz26_0 : w25.cell? ⟨gb197, 0, none⟩ = some (.slice A0_0 l0_0.length c0_0) := (blk_cell BK197.out 0).trans rfl; have hfz26_0 := blk_frozen BK197.out 0) | ((with_reducible refine gate_callee (f := 44) rfl ?_); refine goesL_ (some 25) rfl rfl Try.func44 (by kernel_rfl) rfl #[.agg #[.slice A0_0 l0_0.length c0_0], .int .i64 1048576] rfl (by (try simp only [List.map_toArray, List.map_cons, List.map_nil]); first | done | rfl | (simp only [List.length_drop, List.length_take]; rfl)) ?_; (with_reducible refine (laws_szGateway.calls _ _ l0_0 1048576 t198 _ ?side1 ?side2 A6.out).mono ?_); (case side1 => repeat (first | exact (Kd.C_below HR0_0.out HB.out) | (with_reducible refine Kd.C_alloc ?_ _) | (with_reducible refine Kd.C_drewN ?_ _) | (with_reducible refine Kd.C_drew ?_))); (case side2 => exact HC0_0.out); rintro e w27 ⟨rfl, hb⟩; refine ⟨_, rfl, ?_⟩; have n0_ := Aside0.mk (blk_below (g := gb197) (o := .cells #[.slice A0_0 l0_0.length c0_0] 61 (0, 0)) (pkb BK197.out) hb); have n1_ := Aside0.mk (below_step (by repeat (first | (with_reducible first | exact HB.out | apply below_alloc | apply pw_below_drewN | apply below_drew1 | refine below_set ?_ GE197.out) | exact HB.out)) hb); clear BK197; clear HB; have BK197 := n0_; have HB := n1_; clear n0_ n1_; (try clear hb); (try clear hb2); (try clear hk); (try clear hi)) | ((with_reducible refine gate_callee (f := 45) rfl ?_); refine goesL_ (some 30) rfl rfl Try.func45 (by kernel_rfl) rfl #[.slice A1 l1.length c1, .int .i64 t198] rfl (by (try simp only [List.map_toArray, List.map_cons, List.map_nil]); first | done | rfl | (simp only [List.length_drop, List.length_take]; rfl)) ?_; (with_reducible refine (laws_szPacketS.calls _ _ l1 t198 t199 _ ?side1 ?side2 A11.out).mono ?_); (case side1 => repeat (first | exact (Kd.C_below HR1.out HB.out) | (with_reducible refine Kd.C_alloc ?_ _) | (with_reducible refine Kd.C_drewN ?_ _) | (with_reducible refine Kd.C_drew ?_))); (case side2 => exact HC1.out); rintro e w' ⟨rfl, ⟨nd, rfl⟩⟩; refine ⟨_, rfl, ?_⟩; (try (rw [drewN_self w27]; generalize hq_ : World.drewN w27 _ = w27; have n0_ : Aside0 (w27.heap[gb197]? = some (.cells #[.slice A0_0 l0_0.length c0_0] 61 (0, 0))) := ⟨by rw [← hq_]; exact (pkb BK197.out)⟩; have n1_ : Aside0 (Below w.heap.size w w27) := ⟨by rw [← hq_]; exact (by repeat (first | (with_reducible first | exact HB.out | apply below_alloc | apply pw_below_drewN | apply below_drew1 | refine below_set ?_ GE197.out) | exact HB.out))⟩; clear BK197 HB hq_; have BK197 := n0_; have HB := n1_; clear n0_ n1_)); have hcz28_0 : w27.cell? ⟨gb197, 0, none⟩ = some (.slice A0_0 l0_0.length c0_0) := (blk_cell BK197.out 0).trans rfl; have hfz28_0 := blk_frozen BK197.out 0) | ((with_reducible refine gate_callee (f := 47) rfl ?_); refine goesL_ (some 35) rfl rfl Try.func47 (by kernel_rfl) rfl #[.agg #[.slice A0_0 l0_0.length c0_0]] rfl (by (try simp only [List.map_toArray, List.map_cons, List.map_nil]); first | done | rfl | (simp only [List.length_drop, List.length_take]; rfl)) ?_; (with_reducible refine (laws_toGateway.calls k _ _ l0_0 t200 _ ?side1 ?side2 A16.out).mono ?_); (case side1 => repeat (first | exact (Kd.C_below HR0_0.out HB.out) | (with_reducible refine Kd.C_alloc ?_ _) | (with_reducible refine Kd.C_drewN ?_ _) | (with_reducible refine Kd.C_drew ?_))); (case side2 => exact HC0_0.out); rintro e w29 ⟨v201, rfl, ho0, hb⟩; refine ⟨_, rfl, ?_⟩; have n0_ := Aside0.mk (Kd.R_lower ho0 (below_size (by repeat (first | (with_reducible first | exact HB.out | apply below_alloc | apply pw_below_drewN | apply below_drew1 | refine below_set ?_ GE197.out) | exact HB.out)))); have n1_ := Aside0.mk (blk_below (g := gb197) (o := .cells #[.slice A0_0 l0_0.length c0_0] 61 (0, 0)) (pkb BK197.out) hb); have n2_ := Aside0.mk (below_step (by repeat (first | (with_reducible first | exact HB.out | apply below_alloc | apply pw_below_drewN | apply below_drew1 | refine below_set ?_ GE197.out) | exact HB.out)) hb); clear BK197; clear HB; have HO202 := n0_; have BK197 := n1_; have HB := n2_; clear n0_ n1_ n2_; (try clear hb); (try clear hb2); (try clear hk); (try clear hi); (try clear ho0)) | ((with_reducible refine gate_callee (f := 48) rfl ?_); refine goesL_ (some 37) rfl rfl Try.func48 (by kernel_rfl) rfl #[.slice A1 l1.length c1] rfl (by (try simp only [List.map_toArray, List.map_cons, List.map_nil]); first | done | rfl | (simp only [List.length_drop, List.length_take]; rfl)) ?_; (with_reducible refine (laws_toPacketS.calls k _ _ l1 t203 _ ?side1 ?side2 A17.out).mono ?_); (case side1 => repeat (first | exact (Kd.C_below HR1.out HB.out) | (with_reducible refine Kd.C_alloc ?_ _) | (with_reducible refine Kd.C_drewN ?_ _) | (with_reducible refine Kd.C_drew ?_))); (case side2 => exact HC1.out); rintro e w30 ⟨v204, rfl, ho0, hb⟩; refine ⟨_, rfl, ?_⟩; have n0_ := Aside0.mk (Kd.R_below (pkr HO202.out) hb); have n1_ := Aside0.mk (Kd.R_lower ho0 (below_size (by repeat (first | (with_reducible first | exact HB.out | apply below_alloc | apply pw_below_drewN | apply below_drew1 | refine below_set ?_ GE197.out) | exact HB.out)))); have n2_ := Aside0.mk (blk_below (g := gb197) (o := .cells #[.slice A0_0 l0_0.length c0_0] 61 (0, 0)) (pkb BK197.out) hb); have n3_ := Aside0.mk (below_step (by repeat (first | (with_reducible first | exact HB.out | apply below_alloc | apply pw_below_drewN | apply below_drew1 | refine below_set ?_ GE197.out) | exact HB.out)) hb); clear HO202; clear BK197; clear HB; have HO202 := n0_; have HO205 := n1_; have BK197 := n2_; have HB := n3_; clear n0_ n1_ n2_ n3_; (try clear hb); (try clear hb2); (try clear hk); (try clear hi); (try clear ho0)) | ((with_reducible refine gate_callee (f := 49) rfl ?_); refine goesL_ (some 39) rfl rfl Try.func49 (by kernel_rfl) rfl #[.slice A2 l2.length c2] rfl (by (try simp only [List.map_toArray, List.map_cons, List.map_nil]); first | done | rfl | (simp only [List.length_drop, List.length_take]; rfl)) ?_; (with_reducible refine (laws_toBoolS.calls k _ _ l2 t206 _ ?side1 ?side2 A18.out).mono ?_); (case side1 => repeat (first | exact (Kd.C_below HR2.out HB.out) | (with_reducible refine Kd.C_alloc ?_ _) | (with_reducible refine Kd.C_drewN ?_ _) | (with_reducible refine Kd.C_drew ?_))); (case side2 => exact HC2.out); rintro e w31 ⟨v207, rfl, ho0, hb⟩; refine ⟨_, rfl, ?_⟩; have n0_ := Aside0.mk (Kd.R_below (pkr HO202.out) hb); have n1_ := Aside0.mk (Kd.R_below (pkr HO205.out) hb); have n2_ := Aside0.mk (Kd.R_lower ho0 (below_size (by repeat (first | (with_reducible first | exact HB.out | apply below_alloc | apply pw_below_drewN | apply below_drew1 | refine below_set ?_ GE197.out) | exact HB.out)))); have n3_ := Aside0.mk (blk_below (g := gb197) (o := .cells #[.slice A0_0 l0_0.length c0_0] 61 (0, 0)) (pkb BK197.out) hb); have n4_ := Aside0.mk (below_step (by repeat (first | (with_reducible first | exact HB.out | apply below_alloc | apply pw_below_drewN | apply below_drew1 | refine below_set ?_ GE197.out) | exact HB.out)) hb); clear HO202; clear HO205; clear BK197; clear HB; have HO202 := n0_; have HO205 := n1_; have HO208 := n2_; have BK197 := n3_; have HB := n4_; clear n0_ n1_ n2_ n3_ n4_; (try clear hb); (try clear hb2); (try clear hk); (try clear hi); (try clear ho0); obtain ⟨Ao32, co32, eo32⟩ := Kd.R_slice HO202.out; subst eo32; obtain ⟨Ao33, co33, eo33⟩ := Kd.R_slice HO205.out; subst eo33; obtain ⟨Ao34, co34, eo34⟩ := Kd.R_slice HO208.out; subst eo34) | ((with_reducible refine gate_callee (f := 46) rfl ?_); refine goesL_ (some 40) rfl rfl Try.func46 (by kernel_rfl) rfl #[.agg #[.slice Ao32 t200.length co32], .slice Ao33 t203.length co33, .slice Ao34 t206.length co34] rfl (by (try simp only [List.map_toArray, List.map_cons, List.map_nil]); first | done | rfl | (simp only [List.length_drop, List.length_take]; rfl)) ?_; (with_reducible refine (spec_ReceiveAll.calls k _ _ t200 _ _ t203 _ _ t206 t209 t212 _ ?side1 ?side2 ?side3 ?side4 ?side5 ?side6 A19.out).mono ?_); (case side1 => repeat (first | exact (Kd.R_reads' HO202.out).2.2 | (with_reducible refine Kd.C_alloc ?_ _) | (with_reducible refine Kd.C_drewN ?_ _) | (with_reducible refine Kd.C_drew ?_))); (case side2 => exact (Kd.R_reads' HO202.out).2.1); (case side3 => repeat (first | exact (Kd.R_reads' HO205.out).2.2 | (with_reducible refine Kd.C_alloc ?_ _) | (with_reducible refine Kd.C_drewN ?_ _) | (with_reducible refine Kd.C_drew ?_))); (case side4 => exact (Kd.R_reads' HO205.out).2.1); (case side5 => repeat (first | exact (Kd.R_reads' HO208.out).2.2 | (with_reducible refine Kd.C_alloc ?_ _) | (with_reducible refine Kd.C_drewN ?_ _) | (with_reducible refine Kd.C_drew ?_))); (case side6 => exact (Kd.R_reads' HO208.out).2.1); rintro e w35 ⟨v210, rfl, ho0, hb⟩; refine ⟨_, rfl, ?_⟩; have n0_ := Aside0.mk (Kd.R_elder' (pkr HO202.out) (Kd.R_base ho0) hb); have n1_ := Aside0.mk (Kd.R_below (pkr HO205.out) hb); have n2_ := Aside0.mk (Kd.R_below (pkr HO208.out) hb); have n3_ := Aside0.mk (Kd.R_lower (Kd.R_new' ho0 (Kd.R_lt (pkr HO202.out))) (below_size (by repeat (first | (with_reducible first | exact HB.out | apply below_alloc | apply pw_below_drewN | apply below_drew1 | refine below_set ?_ GE197.out) | exact HB.out)))); have n4_ := Aside0.mk (blk_below (g := gb197) (o := .cells #[.slice A0_0 l0_0.length c0_0] 61 (0, 0)) (pkb BK197.out) hb); have n5_ := Aside0.mk (below_step (by repeat (first | (with_reducible first | exact HB.out | apply below_alloc | apply pw_below_drewN | apply below_drew1 | refine below_set ?_ GE197.out) | exact HB.out)) hb); clear HO202; clear HO205; clear HO208; clear BK197; clear HB; have HO202 := n0_; have HO205 := n1_; have HO208 := n2_; have HO211 := n3_; have BK197 := n4_; have HB := n5_; clear n0_ n1_ n2_ n3_ n4_ n5_; (try clear hb); (try clear hb2); (try clear hk); (try clear hi); (try clear ho0)) | ((with_reducible refine gate_dst (N := 8) rfl ?_); refine box_event ?hg (N := 8) ?hd (cs := #[.slice none 0 0]) (t := 66) ?hr ?_; (case hd => rfl); (case hg => rfl); (case hr => first | (go_simp; done) | (go_simp; rfl)); intro gb213 hg w36 hbox hb; have n0_ := Aside0.mk (Kd.R_below (pkr HO202.out) hb); have n1_ := Aside0.mk (Kd.R_below (pkr HO205.out) hb); have n2_ := Aside0.mk (Kd.R_below (pkr HO208.out) hb); have n3_ := Aside0.mk (Kd.R_below (pkr HO211.out) hb); have n4_ := Aside0.mk (blk_below (g := gb197) (o := .cells #[.slice A0_0 l0_0.length c0_0] 61 (0, 0)) (pkb BK197.out) hb); have n5_ := Aside0.mk (below_step (by repeat (first | (with_reducible first | exact HB.out | apply below_alloc | apply pw_below_drewN | apply below_drew1 | refine below_set ?_ GE197.out) | exact HB.out)) hb); have n6_ := Aside0.mk (hbox); have n7_ := Aside0.mk ((by rw [hg]; exact (below_size (by repeat (first | (with_reducible first | exact HB.out | apply below_alloc | apply pw_below_drewN | apply below_drew1 | refine below_set ?_ GE197.out) | exact HB.out))) : w.heap.size ≤ gb213)); have n8_ := Aside0.mk ((by rw [hg]; exact (below_size (by repeat (first | (with_reducible first | exact HB.out | apply below_alloc | apply pw_below_drewN | apply below_drew1 | refine below_set ?_ GE197.out) | exact HB.out))) : w.heap.size ≤ gb213)); have n9_ := Aside0.mk ((by rw [hg]; exact Nat.ne_of_lt (blk_lt (g := gb197) (o := .cells #[.slice A0_0 l0_0.length c0_0] 61 (0, 0)) (pkb BK197.out)) : gb197 ≠ gb213)); have n10_ := Aside0.mk ((by rw [hg]; exact Nat.ne_of_gt (blk_lt (g := gb197) (o := .cells #[.slice A0_0 l0_0.length c0_0] 61 (0, 0)) (pkb BK197.out)) : gb213 ≠ gb197)); clear HO202; clear HO205; clear HO208; clear HO211; clear BK197; clear HB; have HO202 := n0_; have HO205 := n1_; have HO208 := n2_; have HO211 := n3_; have BK197 := n4_; have HB := n5_; have BK213 := n6_; have GW213 := n7_; have GE213 := n8_; have NB197_213 := n9_; have NB213_197 := n10_; clear n0_ n1_ n2_ n3_ n4_ n5_ n6_ n7_ n8_ n9_ n10_; clear hb hbox hg; obtain ⟨Ao37, co37, eo37⟩ := Kd.R_slice HO211.out; subst eo37; have hnb38 := NB213_197.out; have hnc38 := NB197_213.out; have hcz39_0 : w36.cell? ⟨gb213, 0, none⟩ = some (.slice none 0 0) := (blk_cell BK213.out 0).trans rfl; have hfz39_0 := blk_frozen BK213.out 0; have hcz40_0 : w36.cell? ⟨gb197, 0, none⟩ = some (.slice A0_0 l0_0.length c0_0) := (blk_cell BK197.out 0).trans rfl; have hfz40_0 := blk_frozen BK197.out 0) | ((with_reducible refine gate_callee (f := 47) rfl ?_); refine goesL_ (some 44) rfl rfl Try.func47 (by kernel_rfl) rfl #[.agg #[.slice A0_0 l0_0.length c0_0]] rfl (by (try simp only [List.map_toArray, List.map_cons, List.map_nil]); first | done | rfl | (simp only [List.length_drop, List.length_take]; rfl)) ?_; (with_reducible refine (laws_toGateway.calls k _ _ l0_0 t214 _ ?side1 ?side2 A20.out).mono ?_); (case side1 => exact Kd.C_below HR0_0.out (by repeat (first | (with_reducible first | exact HB.out | apply below_alloc | apply pw_below_drewN | apply below_drew1 | refine below_set ?_ GE197.out | refine below_set ?_ GE213.out) | exact HB.out))); (case side2 => exact HC0_0.out); rintro e w41 ⟨v215, rfl, ho0, hb⟩; refine ⟨_, rfl, ?_⟩; have n0_ := Aside0.mk (Kd.R_elder' (pkr ((Kd.R_mono (Kd.R_far (p := ⟨gb213, 0, none⟩) (Kd.R_types HO202.out BK213.out (by decide)) (fun _ hk => by first | exact hk.2 | simp_all) (.slice Ao37 t209.length co37)) (fun _ h_ => by first | exact h_.1 | simp_all)))) (Kd.R_base ho0) hb); have n1_ := Aside0.mk (Kd.R_below (pkr ((Kd.R_mono (Kd.R_far (p := ⟨gb213, 0, none⟩) (Kd.R_types HO205.out BK213.out (by decide)) (fun _ hk => by first | exact hk.2 | simp_all) (.slice Ao37 t209.length co37)) (fun _ h_ => by first | exact h_.1 | simp_all)))) hb); have n2_ := Aside0.mk (Kd.R_below (pkr ((Kd.R_mono (Kd.R_far (p := ⟨gb213, 0, none⟩) (Kd.R_types HO208.out BK213.out (by decide)) (fun _ hk => by first | exact hk.2 | simp_all) (.slice Ao37 t209.length co37)) (fun _ h_ => by first | exact h_.1 | simp_all)))) hb); have n3_ := Aside0.mk (Kd.R_elder' (pkr ((Kd.R_mono (Kd.R_far (p := ⟨gb213, 0, none⟩) (Kd.R_types HO211.out BK213.out (by decide)) (fun _ hk => by first | exact hk.2 | simp_all) (.slice Ao37 t209.length co37)) (fun _ h_ => by first | exact h_.1 | simp_all)))) (Kd.R_base ho0) hb); have n4_ := Aside0.mk (Kd.R_lower (Kd.R_new' (Kd.R_new' ho0 (Kd.R_lt (pkr ((Kd.R_mono (Kd.R_far (p := ⟨gb213, 0, none⟩) (Kd.R_types HO202.out BK213.out (by decide)) (fun _ hk => by first | exact hk.2 | simp_all) (.slice Ao37 t209.length co37)) (fun _ h_ => by first | exact h_.1 | simp_all)))))) (Kd.R_lt (pkr ((Kd.R_mono (Kd.R_far (p := ⟨gb213, 0, none⟩) (Kd.R_types HO211.out BK213.out (by decide)) (fun _ hk => by first | exact hk.2 | simp_all) (.slice Ao37 t209.length co37)) (fun _ h_ => by first | exact h_.1 | simp_all)))))) (below_size (by repeat (first | (with_reducible first | exact HB.out | apply below_alloc | apply pw_below_drewN | apply below_drew1 | refine below_set ?_ GE197.out | refine below_set ?_ GE213.out) | exact HB.out)))); have n5_ := Aside0.mk (blk_below (g := gb197) (o := .cells #[.slice A0_0 l0_0.length c0_0] 61 (0, 0)) (by (with_reducible repeat (first | refine blk_drewN ?_ _ | refine blk_drew ?_ | refine blk_alloc ?_ _)); refine blk_far ?_ NB197_213.out _; (with_reducible repeat (first | refine blk_drewN ?_ _ | refine blk_drew ?_ | refine blk_alloc ?_ _)); exact BK197.out) hb); have n6_ := Aside0.mk (blk_below (g := gb213) (o := .cells #[.slice Ao37 t209.length co37] 66 (0, 0)) (by (with_reducible repeat (first | refine blk_drewN ?_ _ | refine blk_drew ?_ | refine blk_alloc ?_ _)); refine blk_put (cs := #[.slice none 0 0]) ?_ 0 _ rfl; (with_reducible repeat (first | refine blk_drewN ?_ _ | refine blk_drew ?_ | refine blk_alloc ?_ _)); exact BK213.out) hb); have n7_ := Aside0.mk (below_step (by repeat (first | (with_reducible first | exact HB.out | apply below_alloc | apply pw_below_drewN | apply below_drew1 | refine below_set ?_ GE197.out | refine below_set ?_ GE213.out) | exact HB.out)) hb); clear HO202; clear HO205; clear HO208; clear HO211; clear BK197; clear BK213; clear HB; have HO202 := n0_; have HO205 := n1_; have HO208 := n2_; have HO211 := n3_; have HO216 := n4_; have BK197 := n5_; have BK213 := n6_; have HB := n7_; clear n0_ n1_ n2_ n3_ n4_ n5_ n6_ n7_; (try clear hb); (try clear hb2); (try clear hk); (try clear hi); (try clear ho0)) | ((with_reducible refine gate_dst (N := 10) rfl ?_); refine box_event ?hg (N := 10) ?hd (cs := #[.slice none 0 0]) (t := 66) ?hr ?_; (case hd => rfl); (case hg => rfl); (case hr => first | (go_simp; done) | (go_simp; rfl)); intro gb217 hg w42 hbox hb; have n0_ := Aside0.mk (Kd.R_below (pkr HO202.out) hb); have n1_ := Aside0.mk (Kd.R_below (pkr HO205.out) hb); have n2_ := Aside0.mk (Kd.R_below (pkr HO208.out) hb); have n3_ := Aside0.mk (Kd.R_below (pkr HO211.out) hb); have n4_ := Aside0.mk (Kd.R_below (pkr HO216.out) hb); have n5_ := Aside0.mk (blk_below (g := gb197) (o := .cells #[.slice A0_0 l0_0.length c0_0] 61 (0, 0)) (pkb BK197.out) hb); have n6_ := Aside0.mk (blk_below (g := gb213) (o := .cells #[.slice Ao37 t209.length co37] 66 (0, 0)) (pkb BK213.out) hb); have n7_ := Aside0.mk (below_step (by repeat (first | (with_reducible first | exact HB.out | apply below_alloc | apply pw_below_drewN | apply below_drew1 | refine below_set ?_ GE197.out | refine below_set ?_ GE213.out) | exact HB.out)) hb); have n8_ := Aside0.mk (hbox); have n9_ := Aside0.mk ((by rw [hg]; exact (below_size (by repeat (first | (with_reducible first | exact HB.out | apply below_alloc | apply pw_below_drewN | apply below_drew1 | refine below_set ?_ GE197.out | refine below_set ?_ GE213.out) | exact HB.out))) : w.heap.size ≤ gb217)); have n10_ := Aside0.mk ((by rw [hg]; exact (below_size (by repeat (first | (with_reducible first | exact HB.out | apply below_alloc | apply pw_below_drewN | apply below_drew1 | refine below_set ?_ GE197.out | refine below_set ?_ GE213.out) | exact HB.out))) : w.heap.size ≤ gb217)); have n11_ := Aside0.mk ((by rw [hg]; exact Nat.ne_of_lt (blk_lt (g := gb197) (o := .cells #[.slice A0_0 l0_0.length c0_0] 61 (0, 0)) (pkb BK197.out)) : gb197 ≠ gb217)); have n12_ := Aside0.mk ((by rw [hg]; exact Nat.ne_of_gt (blk_lt (g := gb197) (o := .cells #[.slice A0_0 l0_0.length c0_0] 61 (0, 0)) (pkb BK197.out)) : gb217 ≠ gb197)); have n13_ := Aside0.mk ((by rw [hg]; exact Nat.ne_of_lt (blk_lt (g := gb213) (o := .cells #[.slice Ao37 t209.length co37] 66 (0, 0)) (pkb BK213.out)) : gb213 ≠ gb217)); have n14_ := Aside0.mk ((by rw [hg]; exact Nat.ne_of_gt (blk_lt (g := gb213) (o := .cells #[.slice Ao37 t209.length co37] 66 (0, 0)) (pkb BK213.out)) : gb217 ≠ gb213)); clear HO202; clear HO205; clear HO208; clear HO211; clear HO216; clear BK197; clear BK213; clear HB; have HO202 := n0_; have HO205 := n1_; have HO208 := n2_; have HO211 := n3_; have HO216 := n4_; have BK197 := n5_; have BK213 := n6_; have HB := n7_; have BK217 := n8_; have GW217 := n9_; have GE217 := n10_; have NB197_217 := n11_; have NB217_197 := n12_; have NB213_217 := n13_; have NB217_213 := n14_; clear n0_ n1_ n2_ n3_ n4_ n5_ n6_ n7_ n8_ n9_ n10_ n11_ n12_ n13_ n14_; clear hb hbox hg; obtain ⟨Ao43, co43, eo43⟩ := Kd.R_slice HO216.out; subst eo43; have hnb44 := NB217_197.out; have hnc44 := NB197_217.out; have hnb45 := NB217_213.out; have hnc45 := NB213_217.out; have hcz46_0 : w42.cell? ⟨gb217, 0, none⟩ = some (.slice none 0 0) := (blk_cell BK217.out 0).trans rfl; have hfz46_0 := blk_frozen BK217.out 0) | ((with_reducible refine gate_callee (f := 48) rfl ?_); refine goesL_ (some 46) rfl rfl Try.func48 (by kernel_rfl) rfl #[.slice A1 l1.length c1] rfl (by (try simp only [List.map_toArray, List.map_cons, List.map_nil]); first | done | rfl | (simp only [List.length_drop, List.length_take]; rfl)) ?_; (with_reducible refine (laws_toPacketS.calls k _ _ l1 t218 _ ?side1 ?side2 A21.out).mono ?_); (case side1 => exact Kd.C_below HR1.out (by repeat (first | (with_reducible first | exact HB.out | apply below_alloc | apply pw_below_drewN | apply below_drew1 | refine below_set ?_ GE197.out | refine below_set ?_ GE213.out | refine below_set ?_ GE217.out) | exact HB.out))); (case side2 => exact HC1.out); rintro e w47 ⟨v219, rfl, ho0, hb⟩; refine ⟨_, rfl, ?_⟩; have n0_ := Aside0.mk (Kd.R_below (pkr ((Kd.R_mono (Kd.R_far (p := ⟨gb217, 0, none⟩) (Kd.R_types HO202.out BK217.out (by decide)) (fun _ hk => by first | exact hk.2 | simp_all) (.slice Ao43 t214.length co43)) (fun _ h_ => by first | exact h_.1 | simp_all)))) hb); have n1_ := Aside0.mk (Kd.R_elder' (pkr ((Kd.R_mono (Kd.R_far (p := ⟨gb217, 0, none⟩) (Kd.R_types HO205.out BK217.out (by decide)) (fun _ hk => by first | exact hk.2 | simp_all) (.slice Ao43 t214.length co43)) (fun _ h_ => by first | exact h_.1 | simp_all)))) (Kd.R_base ho0) hb); have n2_ := Aside0.mk (Kd.R_below (pkr ((Kd.R_mono (Kd.R_far (p := ⟨gb217, 0, none⟩) (Kd.R_types HO208.out BK217.out (by decide)) (fun _ hk => by first | exact hk.2 | simp_all) (.slice Ao43 t214.length co43)) (fun _ h_ => by first | exact h_.1 | simp_all)))) hb); have n3_ := Aside0.mk (Kd.R_below (pkr ((Kd.R_mono (Kd.R_far (p := ⟨gb217, 0, none⟩) (Kd.R_types HO211.out BK217.out (by decide)) (fun _ hk => by first | exact hk.2 | simp_all) (.slice Ao43 t214.length co43)) (fun _ h_ => by first | exact h_.1 | simp_all)))) hb); have n4_ := Aside0.mk (Kd.R_below (pkr ((Kd.R_mono (Kd.R_far (p := ⟨gb217, 0, none⟩) (Kd.R_types HO216.out BK217.out (by decide)) (fun _ hk => by first | exact hk.2 | simp_all) (.slice Ao43 t214.length co43)) (fun _ h_ => by first | exact h_.1 | simp_all)))) hb); have n5_ := Aside0.mk (Kd.R_lower (Kd.R_new' ho0 (Kd.R_lt (pkr ((Kd.R_mono (Kd.R_far (p := ⟨gb217, 0, none⟩) (Kd.R_types HO205.out BK217.out (by decide)) (fun _ hk => by first | exact hk.2 | simp_all) (.slice Ao43 t214.length co43)) (fun _ h_ => by first | exact h_.1 | simp_all)))))) (below_size (by repeat (first | (with_reducible first | exact HB.out | apply below_alloc | apply pw_below_drewN | apply below_drew1 | refine below_set ?_ GE197.out | refine below_set ?_ GE213.out | refine below_set ?_ GE217.out) | exact HB.out)))); have n6_ := Aside0.mk (blk_below (g := gb197) (o := .cells #[.slice A0_0 l0_0.length c0_0] 61 (0, 0)) (by (with_reducible repeat (first | refine blk_drewN ?_ _ | refine blk_drew ?_ | refine blk_alloc ?_ _)); refine blk_far ?_ NB197_217.out _; (with_reducible repeat (first | refine blk_drewN ?_ _ | refine blk_drew ?_ | refine blk_alloc ?_ _)); exact BK197.out) hb); have n7_ := Aside0.mk (blk_below (g := gb213) (o := .cells #[.slice Ao37 t209.length co37] 66 (0, 0)) (by (with_reducible repeat (first | refine blk_drewN ?_ _ | refine blk_drew ?_ | refine blk_alloc ?_ _)); refine blk_far ?_ NB213_217.out _; (with_reducible repeat (first | refine blk_drewN ?_ _ | refine blk_drew ?_ | refine blk_alloc ?_ _)); exact BK213.out) hb); have n8_ := Aside0.mk (blk_below (g := gb217) (o := .cells #[.slice Ao43 t214.length co43] 66 (0, 0)) (by (with_reducible repeat (first | refine blk_drewN ?_ _ | refine blk_drew ?_ | refine blk_alloc ?_ _)); refine blk_put (cs := #[.slice none 0 0]) ?_ 0 _ rfl; (with_reducible repeat (first | refine blk_drewN ?_ _ | refine blk_drew ?_ | refine blk_alloc ?_ _)); exact BK217.out) hb); have n9_ := Aside0.mk (below_step (by repeat (first | (with_reducible first | exact HB.out | apply below_alloc | apply pw_below_drewN | apply below_drew1 | refine below_set ?_ GE197.out | refine below_set ?_ GE213.out | refine below_set ?_ GE217.out) | exact HB.out)) hb); clear HO202; clear HO205; clear HO208; clear HO211; clear HO216; clear BK197; clear BK213; clear BK217; clear HB; have HO202 := n0_; have HO205 := n1_; have HO208 := n2_; have HO211 := n3_; have HO216 := n4_; have HO220 := n5_; have BK197 := n6_; have BK213 := n7_; have BK217 := n8_; have HB := n9_; clear n0_ n1_ n2_ n3_ n4_ n5_ n6_ n7_ n8_ n9_; (try clear hb); (try clear hb2); (try clear hk); (try clear hi); (try clear ho0)) | ((with_reducible refine gate_callee (f := 49) rfl ?_); refine goesL_ (some 48) rfl rfl Try.func49 (by kernel_rfl) rfl #[.slice A2 l2.length c2] rfl (by (try simp only [List.map_toArray, List.map_cons, List.map_nil]); first | done | rfl | (simp only [List.length_drop, List.length_take]; rfl)) ?_; (with_reducible refine (laws_toBoolS.calls k _ _ l2 t221 _ ?side1 ?side2 A22.out).mono ?_); (case side1 => repeat (first | exact (Kd.C_below HR2.out HB.out) | (with_reducible refine Kd.C_alloc ?_ _) | (with_reducible refine Kd.C_drewN ?_ _) | (with_reducible refine Kd.C_drew ?_))); (case side2 => exact HC2.out); rintro e w48 ⟨v222, rfl, ho0, hb⟩; refine ⟨_, rfl, ?_⟩; have n0_ := Aside0.mk (Kd.R_below (pkr HO202.out) hb); have n1_ := Aside0.mk (Kd.R_below (pkr HO205.out) hb); have n2_ := Aside0.mk (Kd.R_elder' (pkr HO208.out) (Kd.R_base ho0) hb); have n3_ := Aside0.mk (Kd.R_below (pkr HO211.out) hb); have n4_ := Aside0.mk (Kd.R_below (pkr HO216.out) hb); have n5_ := Aside0.mk (Kd.R_below (pkr HO220.out) hb); have n6_ := Aside0.mk (Kd.R_lower (Kd.R_new' ho0 (Kd.R_lt (pkr HO208.out))) (below_size (by repeat (first | (with_reducible first | exact HB.out | apply below_alloc | apply pw_below_drewN | apply below_drew1 | refine below_set ?_ GE197.out | refine below_set ?_ GE213.out | refine below_set ?_ GE217.out) | exact HB.out)))); have n7_ := Aside0.mk (blk_below (g := gb197) (o := .cells #[.slice A0_0 l0_0.length c0_0] 61 (0, 0)) (pkb BK197.out) hb); have n8_ := Aside0.mk (blk_below (g := gb213) (o := .cells #[.slice Ao37 t209.length co37] 66 (0, 0)) (pkb BK213.out) hb); have n9_ := Aside0.mk (blk_below (g := gb217) (o := .cells #[.slice Ao43 t214.length co43] 66 (0, 0)) (pkb BK217.out) hb); have n10_ := Aside0.mk (below_step (by repeat (first | (with_reducible first | exact HB.out | apply below_alloc | apply pw_below_drewN | apply below_drew1 | refine below_set ?_ GE197.out | refine below_set ?_ GE213.out | refine below_set ?_ GE217.out) | exact HB.out)) hb); clear HO202; clear HO205; clear HO208; clear HO211; clear HO216; clear HO220; clear BK197; clear BK213; clear BK217; clear HB; have HO202 := n0_; have HO205 := n1_; have HO208 := n2_; have HO211 := n3_; have HO216 := n4_; have HO220 := n5_; have HO223 := n6_; have BK197 := n7_; have BK213 := n8_; have BK217 := n9_; have HB := n10_; clear n0_ n1_ n2_ n3_ n4_ n5_ n6_ n7_ n8_ n9_ n10_; (try clear hb); (try clear hb2); (try clear hk); (try clear hi); (try clear ho0); have hcz49_0 : w48.cell? ⟨gb217, 0, none⟩ = some (.slice Ao43 t214.length co43) := (blk_cell BK217.out 0).trans rfl; have hfz49_0 := blk_frozen BK217.out 0; obtain ⟨Ao50, co50, eo50⟩ := Kd.R_slice HO220.out; subst eo50; obtain ⟨Ao51, co51, eo51⟩ := Kd.R_slice HO223.out; subst eo51) | ((with_reducible refine gate_callee (f := 50) rfl ?_); refine goesL_ (some 53) rfl rfl Try.func50 (by kernel_rfl) rfl #[.agg #[.slice Ao43 t214.length co43], .slice Ao50 t218.length co50, .slice Ao51 t221.length co51] rfl (by (try simp only [List.map_toArray, List.map_cons, List.map_nil]); first | done | rfl | (simp only [List.length_drop, List.length_take]; rfl)) ?_; (with_reducible refine (impl_ReceiveAll.calls k _ _ t214 _ _ t218 _ _ t221 t224 t227 _ ?side1 ?side2 ?side3 ?side4 ?side5 ?side6 A23.out).mono ?_); (case side1 => repeat (first | exact (Kd.R_reads' HO216.out).2.2 | (with_reducible refine Kd.C_alloc ?_ _) | (with_reducible refine Kd.C_drewN ?_ _) | (with_reducible refine Kd.C_drew ?_))); (case side2 => exact (Kd.R_reads' HO216.out).2.1); (case side3 => repeat (first | exact (Kd.R_reads' HO220.out).2.2 | (with_reducible refine Kd.C_alloc ?_ _) | (with_reducible refine Kd.C_drewN ?_ _) | (with_reducible refine Kd.C_drew ?_))); (case side4 => exact (Kd.R_reads' HO220.out).2.1); (case side5 => repeat (first | exact (Kd.R_reads' HO223.out).2.2 | (with_reducible refine Kd.C_alloc ?_ _) | (with_reducible refine Kd.C_drewN ?_ _) | (with_reducible refine Kd.C_drew ?_))); (case side6 => exact (Kd.R_reads' HO223.out).2.1); rintro e w52 ⟨v225, rfl, ho0, hb⟩; refine ⟨_, rfl, ?_⟩; have n0_ := Aside0.mk (Kd.R_elder' (pkr HO202.out) (Kd.R_base ho0) hb); have n1_ := Aside0.mk (Kd.R_below (pkr HO205.out) hb); have n2_ := Aside0.mk (Kd.R_below (pkr HO208.out) hb); have n3_ := Aside0.mk (Kd.R_elder' (pkr HO211.out) (Kd.R_base ho0) hb); have n4_ := Aside0.mk (Kd.R_elder' (pkr HO216.out) (Kd.R_base ho0) hb); have n5_ := Aside0.mk (Kd.R_below (pkr HO220.out) hb); have n6_ := Aside0.mk (Kd.R_below (pkr HO223.out) hb); have n7_ := Aside0.mk (Kd.R_lower (Kd.R_new' (Kd.R_new' (Kd.R_new' ho0 (Kd.R_lt (pkr HO202.out))) (Kd.R_lt (pkr HO211.out))) (Kd.R_lt (pkr HO216.out))) (below_size (by repeat (first | (with_reducible first | exact HB.out | apply below_alloc | apply pw_below_drewN | apply below_drew1 | refine below_set ?_ GE197.out | refine below_set ?_ GE213.out | refine below_set ?_ GE217.out) | exact HB.out)))); have n8_ := Aside0.mk (blk_below (g := gb197) (o := .cells #[.slice A0_0 l0_0.length c0_0] 61 (0, 0)) (pkb BK197.out) hb); have n9_ := Aside0.mk (blk_below (g := gb213) (o := .cells #[.slice Ao37 t209.length co37] 66 (0, 0)) (pkb BK213.out) hb); have n10_ := Aside0.mk (blk_below (g := gb217) (o := .cells #[.slice Ao43 t214.length co43] 66 (0, 0)) (pkb BK217.out) hb); have n11_ := Aside0.mk (below_step (by repeat (first | (with_reducible first | exact HB.out | apply below_alloc | apply pw_below_drewN | apply below_drew1 | refine below_set ?_ GE197.out | refine below_set ?_ GE213.out | refine below_set ?_ GE217.out) | exact HB.out)) hb); clear HO202; clear HO205; clear HO208; clear HO211; clear HO216; clear HO220; clear HO223; clear BK197; clear BK213; clear BK217; clear HB; have HO202 := n0_; have HO205 := n1_; have HO208 := n2_; have HO211 := n3_; have HO216 := n4_; have HO220 := n5_; have HO223 := n6_; have HO226 := n7_; have BK197 := n8_; have BK213 := n9_; have BK217 := n10_; have HB := n11_; clear n0_ n1_ n2_ n3_ n4_ n5_ n6_ n7_ n8_ n9_ n10_ n11_; (try clear hb); (try clear hb2); (try clear hk); (try clear hi); (try clear ho0)) | ((with_reducible refine gate_dst (N := 13) rfl ?_); refine box_event ?hg (N := 13) ?hd (cs := #[.slice none 0 0]) (t := 66) ?hr ?_; (case hd => rfl); (case hg => rfl); (case hr => first | (go_simp; done) | (go_simp; rfl)); intro gb228 hg w53 hbox hb; have n0_ := Aside0.mk (Kd.R_below (pkr HO202.out) hb); have n1_ := Aside0.mk (Kd.R_below (pkr HO205.out) hb); have n2_ := Aside0.mk (Kd.R_below (pkr HO208.out) hb); have n3_ := Aside0.mk (Kd.R_below (pkr HO211.out) hb); have n4_ := Aside0.mk (Kd.R_below (pkr HO216.out) hb); have n5_ := Aside0.mk (Kd.R_below (pkr HO220.out) hb); have n6_ := Aside0.mk (Kd.R_below (pkr HO223.out) hb); have n7_ := Aside0.mk (Kd.R_below (pkr HO226.out) hb); have n8_ := Aside0.mk (blk_below (g := gb197) (o := .cells #[.slice A0_0 l0_0.length c0_0] 61 (0, 0)) (pkb BK197.out) hb); have n9_ := Aside0.mk (blk_below (g := gb213) (o := .cells #[.slice Ao37 t209.length co37] 66 (0, 0)) (pkb BK213.out) hb); have n10_ := Aside0.mk (blk_below (g := gb217) (o := .cells #[.slice Ao43 t214.length co43] 66 (0, 0)) (pkb BK217.out) hb); have n11_ := Aside0.mk (below_step (by repeat (first | (with_reducible first | exact HB.out | apply below_alloc | apply pw_below_drewN | apply below_drew1 | refine below_set ?_ GE197.out | refine below_set ?_ GE213.out | refine below_set ?_ GE217.out) | exact HB.out)) hb); have n12_ := Aside0.mk (hbox); have n13_ := Aside0.mk ((by rw [hg]; exact (below_size (by repeat (first | (with_reducible first | exact HB.out | apply below_alloc | apply pw_below_drewN | apply below_drew1 | refine below_set ?_ GE197.out | refine below_set ?_ GE213.out | refine below_set ?_ GE217.out) | exact HB.out))) : w.heap.size ≤ gb228)); have n14_ := Aside0.mk ((by rw [hg]; exact (below_size (by repeat (first | (with_reducible first | exact HB.out | apply below_alloc | apply pw_below_drewN | apply below_drew1 | refine below_set ?_ GE197.out | refine below_set ?_ GE213.out | refine below_set ?_ GE217.out) | exact HB.out))) : w.heap.size ≤ gb228)); have n15_ := Aside0.mk ((by rw [hg]; exact Nat.ne_of_lt (blk_lt (g := gb197) (o := .cells #[.slice A0_0 l0_0.length c0_0] 61 (0, 0)) (pkb BK197.out)) : gb197 ≠ gb228)); have n16_ := Aside0.mk ((by rw [hg]; exact Nat.ne_of_gt (blk_lt (g := gb197) (o := .cells #[.slice A0_0 l0_0.length c0_0] 61 (0, 0)) (pkb BK197.out)) : gb228 ≠ gb197)); have n17_ := Aside0.mk ((by rw [hg]; exact Nat.ne_of_lt (blk_lt (g := gb213) (o := .cells #[.slice Ao37 t209.length co37] 66 (0, 0)) (pkb BK213.out)) : gb213 ≠ gb228)); have n18_ := Aside0.mk ((by rw [hg]; exact Nat.ne_of_gt (blk_lt (g := gb213) (o := .cells #[.slice Ao37 t209.length co37] 66 (0, 0)) (pkb BK213.out)) : gb228 ≠ gb213)); have n19_ := Aside0.mk ((by rw [hg]; exact Nat.ne_of_lt (blk_lt (g := gb217) (o := .cells #[.slice Ao43 t214.length co43] 66 (0, 0)) (pkb BK217.out)) : gb217 ≠ gb228)); have n20_ := Aside0.mk ((by rw [hg]; exact Nat.ne_of_gt (blk_lt (g := gb217) (o := .cells #[.slice Ao43 t214.length co43] 66 (0, 0)) (pkb BK217.out)) : gb228 ≠ gb217)); clear HO202; clear HO205; clear HO208; clear HO211; clear HO216; clear HO220; clear HO223; clear HO226; clear BK197; clear BK213; clear BK217; clear HB; have HO202 := n0_; have HO205 := n1_; have HO208 := n2_; have HO211 := n3_; have HO216 := n4_; have HO220 := n5_; have HO223 := n6_; have HO226 := n7_; have BK197 := n8_; have BK213 := n9_; have BK217 := n10_; have HB := n11_; have BK228 := n12_; have GW228 := n13_; have GE228 := n14_; have NB197_228 := n15_; have NB228_197 := n16_; have NB213_228 := n17_; have NB228_213 := n18_; have NB217_228 := n19_; have NB228_217 := n20_; clear n0_ n1_ n2_ n3_ n4_ n5_ n6_ n7_ n8_ n9_ n10_ n11_ n12_ n13_ n14_ n15_ n16_ n17_ n18_ n19_ n20_; clear hb hbox hg; obtain ⟨Ao54, co54, eo54⟩ := Kd.R_slice HO226.out; subst eo54; have hnb55 := NB228_197.out; have hnc55 := NB197_228.out; have hnb56 := NB228_213.out; have hnc56 := NB213_228.out; have hnb57 := NB228_217.out; have hnc57 := NB217_228.out; have hcz58_0 : w53.cell? ⟨gb228, 0, none⟩ = some (.slice none 0 0) := (blk_cell BK228.out 0).trans rfl; have hfz58_0 := blk_frozen BK228.out 0))
    (try simp only [Act.put, List.setIfInBounds_toArray, List.set_cons_zero, List.set_cons_succ])
    go_cut [64] (fun v64 wc => ∃ (kq : Nat) (x64_23 : Bool), v64 = .bool x64_23 ∧ Aside0 (laws_FnExactReceiveAll.j0 kq l1 l2 t212 t218 t221 t227 x64_23 l0_0 t209 t214 t224 = some r) ∧ Aside0 (kq ≤ k) ∧ Aside0 (Kd.R k107 107 wc w.heap.size (fun _ => True) (.slice Ao50 t218.length co50) t218) ∧ Aside0 (Kd.R Kd.bool 4 wc w.heap.size (fun _ => True) (.slice Ao51 t221.length co51) t221) ∧ Aside0 (Kd.R (Kd.int .i64) 3 wc w.heap.size (fun k_ => some k_ ≠ ((.slice Ao43 t214.length co43) : Value).ownBlock ∧ some k_ ≠ ((.slice Ao54 t224.length co54) : Value).ownBlock) (.slice Ao37 t209.length co37) t209) ∧ Aside0 (Kd.R (Kd.int .i64) 3 wc w.heap.size (fun k_ => some k_ ≠ ((.slice Ao37 t209.length co37) : Value).ownBlock ∧ some k_ ≠ ((.slice Ao54 t224.length co54) : Value).ownBlock) (.slice Ao43 t214.length co43) t214) ∧ Aside0 (Kd.R (Kd.int .i64) 3 wc w.heap.size (fun k_ => some k_ ≠ ((.slice Ao37 t209.length co37) : Value).ownBlock ∧ some k_ ≠ ((.slice Ao43 t214.length co43) : Value).ownBlock) (.slice Ao54 t224.length co54) t224) ∧ Aside0 (wc.heap[gb197]? = some (.cells #[(.slice A0_0 l0_0.length c0_0)] 61 (0, 0))) ∧ Aside0 (wc.heap[gb213]? = some (.cells #[(.slice Ao37 t209.length co37)] 66 (0, 0))) ∧ Aside0 (wc.heap[gb217]? = some (.cells #[(.slice Ao43 t214.length co43)] 66 (0, 0))) ∧ Aside0 (wc.heap[gb228]? = some (.cells #[(.slice Ao54 t224.length co54)] 66 (0, 0))) ∧ Aside0 (Below w.heap.size w wc))
    case first =>
     have H := HC24.out
     clear HC24
     replace H := Option.bind_eq_some_iff.mp H
     obtain ⟨t229, A590, H⟩ := H
     replace H : (if t229 = true then (laws_FnExactReceiveAll.j0 k l1 l2 t212 t218 t221 t227 (t227 != t212) l0_0 t209 t214 t224) else (laws_FnExactReceiveAll.j0 k l1 l2 t212 t218 t221 t227 true l0_0 t209 t214 t224)) = some r := H
     have A59 := Aside0.mk A590
     clear A590
     by_cases c60 : t229 = true
     ·subst c60
      have H1 : (laws_FnExactReceiveAll.j0 k l1 l2 t212 t218 t221 t227 (t227 != t212) l0_0 t209 t214 t224) = some r := by rw [if_pos rfl] at H; exact H
      clear H
      have H := H1
      clear H1
      have H' := Aside0.mk H
      clear H
      have hnb61 := NB228_197.out
      have hnc61 := NB197_228.out
      have hnb62 := NB228_213.out
      have hnc62 := NB213_228.out
      have hnb63 := NB228_217.out
      have hnc63 := NB217_228.out
      have hcz64_0 : w53.cell? ⟨gb228, 0, none⟩ = some (.slice none 0 0) := (blk_cell BK228.out 0).trans rfl
      have hfz64_0 := blk_frozen BK228.out 0
      have hnb65 := NB213_197.out
      have hnc65 := NB197_213.out
      have hnb66 := NB213_217.out
      have hnc66 := NB217_213.out
      have hcz67_0 : w53.cell? ⟨gb213, 0, none⟩ = some (.slice Ao37 t209.length co37) := (blk_cell BK213.out 0).trans rfl
      have hfz67_0 := blk_frozen BK213.out 0
      go_wp2_with (first | ((with_reducible refine gate_callee (f := 51) rfl ?_); refine goesL_ (some 58) rfl rfl Try.func51 (by kernel_rfl) rfl #[.agg #[.slice Ao54 t224.length co54], .agg #[.slice Ao37 t209.length co37]] rfl (by (try simp only [List.map_toArray, List.map_cons, List.map_nil]); first | done | rfl | (simp only [List.length_drop, List.length_take]; rfl)) ?_; (with_reducible refine (laws_eqGateway.calls k _ _ t224 _ _ t209 true _ ?side1 ?side2 ?side3 ?side4 A59.out).mono ?_); (case side1 => refine (Kd.R_reads' (e := 3) (base := w.heap.size) (ok := fun k_ => (((True ∧ some k_ ≠ (.slice Ao32 t200.length co32 : Value).ownBlock) ∧ some k_ ≠ (.slice Ao37 t209.length co37 : Value).ownBlock) ∧ some k_ ≠ (.slice Ao43 t214.length co43 : Value).ownBlock)) (n := t224.length) (c := co54) ?_).2.2; exact (pkr ((Kd.R_mono (Kd.R_far (p := ⟨gb228, 0, none⟩) (Kd.R_types HO226.out BK228.out (by decide)) (fun _ hk => by first | exact hk.2 | simp_all) (.slice Ao54 t224.length co54)) (fun _ h_ => by first | exact h_.1 | simp_all))))); (case side2 => exact (Kd.R_reads' HO226.out).2.1); (case side3 => refine (Kd.R_reads' (e := 3) (base := w.heap.size) (ok := fun k_ => (((True ∧ some k_ ≠ (.slice Ao32 t200.length co32 : Value).ownBlock) ∧ some k_ ≠ (.slice Ao43 t214.length co43 : Value).ownBlock) ∧ some k_ ≠ (.slice Ao54 t224.length co54 : Value).ownBlock)) (n := t209.length) (c := co37) ?_).2.2; exact (pkr ((Kd.R_mono (Kd.R_far (p := ⟨gb228, 0, none⟩) (Kd.R_types HO211.out BK228.out (by decide)) (fun _ hk => by first | exact hk.2 | simp_all) (.slice Ao54 t224.length co54)) (fun _ h_ => by first | exact h_.1 | simp_all))))); (case side4 => exact (Kd.R_reads' HO211.out).2.1); rintro e w68 ⟨rfl, hb⟩; refine ⟨_, rfl, ?_⟩; have n0_ := Aside0.mk (Kd.R_below (pkr ((Kd.R_mono (Kd.R_far (p := ⟨gb228, 0, none⟩) (Kd.R_types HO202.out BK228.out (by decide)) (fun _ hk => by first | exact hk.2 | simp_all) (.slice Ao54 t224.length co54)) (fun _ h_ => by first | exact h_.1 | simp_all)))) hb); have n1_ := Aside0.mk (Kd.R_below (pkr ((Kd.R_mono (Kd.R_far (p := ⟨gb228, 0, none⟩) (Kd.R_types HO205.out BK228.out (by decide)) (fun _ hk => by first | exact hk.2 | simp_all) (.slice Ao54 t224.length co54)) (fun _ h_ => by first | exact h_.1 | simp_all)))) hb); have n2_ := Aside0.mk (Kd.R_below (pkr ((Kd.R_mono (Kd.R_far (p := ⟨gb228, 0, none⟩) (Kd.R_types HO208.out BK228.out (by decide)) (fun _ hk => by first | exact hk.2 | simp_all) (.slice Ao54 t224.length co54)) (fun _ h_ => by first | exact h_.1 | simp_all)))) hb); have n3_ := Aside0.mk (Kd.R_below (pkr ((Kd.R_mono (Kd.R_far (p := ⟨gb228, 0, none⟩) (Kd.R_types HO211.out BK228.out (by decide)) (fun _ hk => by first | exact hk.2 | simp_all) (.slice Ao54 t224.length co54)) (fun _ h_ => by first | exact h_.1 | simp_all)))) hb); have n4_ := Aside0.mk (Kd.R_below (pkr ((Kd.R_mono (Kd.R_far (p := ⟨gb228, 0, none⟩) (Kd.R_types HO216.out BK228.out (by decide)) (fun _ hk => by first | exact hk.2 | simp_all) (.slice Ao54 t224.length co54)) (fun _ h_ => by first | exact h_.1 | simp_all)))) hb); have n5_ := Aside0.mk (Kd.R_below (pkr ((Kd.R_mono (Kd.R_far (p := ⟨gb228, 0, none⟩) (Kd.R_types HO220.out BK228.out (by decide)) (fun _ hk => by first | exact hk.2 | simp_all) (.slice Ao54 t224.length co54)) (fun _ h_ => by first | exact h_.1 | simp_all)))) hb); have n6_ := Aside0.mk (Kd.R_below (pkr ((Kd.R_mono (Kd.R_far (p := ⟨gb228, 0, none⟩) (Kd.R_types HO223.out BK228.out (by decide)) (fun _ hk => by first | exact hk.2 | simp_all) (.slice Ao54 t224.length co54)) (fun _ h_ => by first | exact h_.1 | simp_all)))) hb); have n7_ := Aside0.mk (Kd.R_below (pkr ((Kd.R_mono (Kd.R_far (p := ⟨gb228, 0, none⟩) (Kd.R_types HO226.out BK228.out (by decide)) (fun _ hk => by first | exact hk.2 | simp_all) (.slice Ao54 t224.length co54)) (fun _ h_ => by first | exact h_.1 | simp_all)))) hb); have n8_ := Aside0.mk (blk_below (g := gb197) (o := .cells #[.slice A0_0 l0_0.length c0_0] 61 (0, 0)) (by (with_reducible repeat (first | refine blk_drewN ?_ _ | refine blk_drew ?_ | refine blk_alloc ?_ _)); refine blk_far ?_ NB197_228.out _; (with_reducible repeat (first | refine blk_drewN ?_ _ | refine blk_drew ?_ | refine blk_alloc ?_ _)); exact BK197.out) hb); have n9_ := Aside0.mk (blk_below (g := gb213) (o := .cells #[.slice Ao37 t209.length co37] 66 (0, 0)) (by (with_reducible repeat (first | refine blk_drewN ?_ _ | refine blk_drew ?_ | refine blk_alloc ?_ _)); refine blk_far ?_ NB213_228.out _; (with_reducible repeat (first | refine blk_drewN ?_ _ | refine blk_drew ?_ | refine blk_alloc ?_ _)); exact BK213.out) hb); have n10_ := Aside0.mk (blk_below (g := gb217) (o := .cells #[.slice Ao43 t214.length co43] 66 (0, 0)) (by (with_reducible repeat (first | refine blk_drewN ?_ _ | refine blk_drew ?_ | refine blk_alloc ?_ _)); refine blk_far ?_ NB217_228.out _; (with_reducible repeat (first | refine blk_drewN ?_ _ | refine blk_drew ?_ | refine blk_alloc ?_ _)); exact BK217.out) hb); have n11_ := Aside0.mk (blk_below (g := gb228) (o := .cells #[.slice Ao54 t224.length co54] 66 (0, 0)) (by (with_reducible repeat (first | refine blk_drewN ?_ _ | refine blk_drew ?_ | refine blk_alloc ?_ _)); refine blk_put (cs := #[.slice none 0 0]) ?_ 0 _ rfl; (with_reducible repeat (first | refine blk_drewN ?_ _ | refine blk_drew ?_ | refine blk_alloc ?_ _)); exact BK228.out) hb); have n12_ := Aside0.mk (below_step (by repeat (first | (with_reducible first | exact HB.out | apply below_alloc | apply pw_below_drewN | apply below_drew1 | refine below_set ?_ GE197.out | refine below_set ?_ GE213.out | refine below_set ?_ GE217.out | refine below_set ?_ GE228.out) | exact HB.out)) hb); clear HO202; clear HO205; clear HO208; clear HO211; clear HO216; clear HO220; clear HO223; clear HO226; clear BK197; clear BK213; clear BK217; clear BK228; clear HB; have HO202 := n0_; have HO205 := n1_; have HO208 := n2_; have HO211 := n3_; have HO216 := n4_; have HO220 := n5_; have HO223 := n6_; have HO226 := n7_; have BK197 := n8_; have BK213 := n9_; have BK217 := n10_; have BK228 := n11_; have HB := n12_; clear n0_ n1_ n2_ n3_ n4_ n5_ n6_ n7_ n8_ n9_ n10_ n11_ n12_; (try clear hb); (try clear hb2); (try clear hk); (try clear hi)))
      go_meet
      case rel => exact ⟨_, ((t227 != t212)), (by first | rfl | (simp; done) | (simp [*]; done)), H', ⟨by first | omega | exact Nat.le_refl _⟩, ⟨by (with_reducible repeat (first | apply Kd.R_alloc | apply Kd.R_drewN | apply Kd.R_drew)); exact Kd.R_mono HO220.out (fun _ hk => trivial)⟩, ⟨by (with_reducible repeat (first | apply Kd.R_alloc | apply Kd.R_drewN | apply Kd.R_drew)); exact Kd.R_mono HO223.out (fun _ hk => trivial)⟩, ⟨by (with_reducible repeat (first | apply Kd.R_alloc | apply Kd.R_drewN | apply Kd.R_drew)); exact Kd.R_mono HO211.out (fun _ hk => by first | exact ⟨hk.1.2, hk.2⟩ | simp_all)⟩, ⟨by (with_reducible repeat (first | apply Kd.R_alloc | apply Kd.R_drewN | apply Kd.R_drew)); exact Kd.R_mono HO216.out (fun _ hk => by first | exact ⟨hk.1.2, hk.2⟩ | simp_all)⟩, ⟨by (with_reducible repeat (first | apply Kd.R_alloc | apply Kd.R_drewN | apply Kd.R_drew)); exact Kd.R_mono HO226.out (fun _ hk => by first | exact ⟨hk.1.2, hk.2⟩ | simp_all)⟩, ⟨by (with_reducible repeat (first | refine blk_drewN ?_ _ | refine blk_drew ?_ | refine blk_alloc ?_ _)); exact BK197.out⟩, ⟨by (with_reducible repeat (first | refine blk_drewN ?_ _ | refine blk_drew ?_ | refine blk_alloc ?_ _)); exact BK213.out⟩, ⟨by (with_reducible repeat (first | refine blk_drewN ?_ _ | refine blk_drew ?_ | refine blk_alloc ?_ _)); exact BK217.out⟩, ⟨by (with_reducible repeat (first | refine blk_drewN ?_ _ | refine blk_drew ?_ | refine blk_alloc ?_ _)); exact BK228.out⟩, ⟨by repeat (first | (with_reducible first | exact HB.out | apply below_alloc | apply pw_below_drewN | apply below_drew1 | refine below_set ?_ GE197.out | refine below_set ?_ GE213.out | refine below_set ?_ GE217.out | refine below_set ?_ GE228.out) | exact HB.out)⟩⟩
     ·replace c60 := Bool.eq_false_iff.mpr c60
      subst c60
      have H1 : (laws_FnExactReceiveAll.j0 k l1 l2 t212 t218 t221 t227 true l0_0 t209 t214 t224) = some r := by rw [if_neg (show ¬ (false = true) by decide)] at H; exact H
      clear H
      have H := H1
      clear H1
      have H' := Aside0.mk H
      clear H
      have hnb69 := NB228_197.out
      have hnc69 := NB197_228.out
      have hnb70 := NB228_213.out
      have hnc70 := NB213_228.out
      have hnb71 := NB228_217.out
      have hnc71 := NB217_228.out
      have hcz72_0 : w53.cell? ⟨gb228, 0, none⟩ = some (.slice none 0 0) := (blk_cell BK228.out 0).trans rfl
      have hfz72_0 := blk_frozen BK228.out 0
      have hnb73 := NB213_197.out
      have hnc73 := NB197_213.out
      have hnb74 := NB213_217.out
      have hnc74 := NB217_213.out
      have hcz75_0 : w53.cell? ⟨gb213, 0, none⟩ = some (.slice Ao37 t209.length co37) := (blk_cell BK213.out 0).trans rfl
      have hfz75_0 := blk_frozen BK213.out 0
      go_wp2_with (first | ((with_reducible refine gate_callee (f := 51) rfl ?_); refine goesL_ (some 58) rfl rfl Try.func51 (by kernel_rfl) rfl #[.agg #[.slice Ao54 t224.length co54], .agg #[.slice Ao37 t209.length co37]] rfl (by (try simp only [List.map_toArray, List.map_cons, List.map_nil]); first | done | rfl | (simp only [List.length_drop, List.length_take]; rfl)) ?_; (with_reducible refine (laws_eqGateway.calls k _ _ t224 _ _ t209 false _ ?side1 ?side2 ?side3 ?side4 A59.out).mono ?_); (case side1 => refine (Kd.R_reads' (e := 3) (base := w.heap.size) (ok := fun k_ => (((True ∧ some k_ ≠ (.slice Ao32 t200.length co32 : Value).ownBlock) ∧ some k_ ≠ (.slice Ao37 t209.length co37 : Value).ownBlock) ∧ some k_ ≠ (.slice Ao43 t214.length co43 : Value).ownBlock)) (n := t224.length) (c := co54) ?_).2.2; exact (pkr ((Kd.R_mono (Kd.R_far (p := ⟨gb228, 0, none⟩) (Kd.R_types HO226.out BK228.out (by decide)) (fun _ hk => by first | exact hk.2 | simp_all) (.slice Ao54 t224.length co54)) (fun _ h_ => by first | exact h_.1 | simp_all))))); (case side2 => exact (Kd.R_reads' HO226.out).2.1); (case side3 => refine (Kd.R_reads' (e := 3) (base := w.heap.size) (ok := fun k_ => (((True ∧ some k_ ≠ (.slice Ao32 t200.length co32 : Value).ownBlock) ∧ some k_ ≠ (.slice Ao43 t214.length co43 : Value).ownBlock) ∧ some k_ ≠ (.slice Ao54 t224.length co54 : Value).ownBlock)) (n := t209.length) (c := co37) ?_).2.2; exact (pkr ((Kd.R_mono (Kd.R_far (p := ⟨gb228, 0, none⟩) (Kd.R_types HO211.out BK228.out (by decide)) (fun _ hk => by first | exact hk.2 | simp_all) (.slice Ao54 t224.length co54)) (fun _ h_ => by first | exact h_.1 | simp_all))))); (case side4 => exact (Kd.R_reads' HO211.out).2.1); rintro e w76 ⟨rfl, hb⟩; refine ⟨_, rfl, ?_⟩; have n0_ := Aside0.mk (Kd.R_below (pkr ((Kd.R_mono (Kd.R_far (p := ⟨gb228, 0, none⟩) (Kd.R_types HO202.out BK228.out (by decide)) (fun _ hk => by first | exact hk.2 | simp_all) (.slice Ao54 t224.length co54)) (fun _ h_ => by first | exact h_.1 | simp_all)))) hb); have n1_ := Aside0.mk (Kd.R_below (pkr ((Kd.R_mono (Kd.R_far (p := ⟨gb228, 0, none⟩) (Kd.R_types HO205.out BK228.out (by decide)) (fun _ hk => by first | exact hk.2 | simp_all) (.slice Ao54 t224.length co54)) (fun _ h_ => by first | exact h_.1 | simp_all)))) hb); have n2_ := Aside0.mk (Kd.R_below (pkr ((Kd.R_mono (Kd.R_far (p := ⟨gb228, 0, none⟩) (Kd.R_types HO208.out BK228.out (by decide)) (fun _ hk => by first | exact hk.2 | simp_all) (.slice Ao54 t224.length co54)) (fun _ h_ => by first | exact h_.1 | simp_all)))) hb); have n3_ := Aside0.mk (Kd.R_below (pkr ((Kd.R_mono (Kd.R_far (p := ⟨gb228, 0, none⟩) (Kd.R_types HO211.out BK228.out (by decide)) (fun _ hk => by first | exact hk.2 | simp_all) (.slice Ao54 t224.length co54)) (fun _ h_ => by first | exact h_.1 | simp_all)))) hb); have n4_ := Aside0.mk (Kd.R_below (pkr ((Kd.R_mono (Kd.R_far (p := ⟨gb228, 0, none⟩) (Kd.R_types HO216.out BK228.out (by decide)) (fun _ hk => by first | exact hk.2 | simp_all) (.slice Ao54 t224.length co54)) (fun _ h_ => by first | exact h_.1 | simp_all)))) hb); have n5_ := Aside0.mk (Kd.R_below (pkr ((Kd.R_mono (Kd.R_far (p := ⟨gb228, 0, none⟩) (Kd.R_types HO220.out BK228.out (by decide)) (fun _ hk => by first | exact hk.2 | simp_all) (.slice Ao54 t224.length co54)) (fun _ h_ => by first | exact h_.1 | simp_all)))) hb); have n6_ := Aside0.mk (Kd.R_below (pkr ((Kd.R_mono (Kd.R_far (p := ⟨gb228, 0, none⟩) (Kd.R_types HO223.out BK228.out (by decide)) (fun _ hk => by first | exact hk.2 | simp_all) (.slice Ao54 t224.length co54)) (fun _ h_ => by first | exact h_.1 | simp_all)))) hb); have n7_ := Aside0.mk (Kd.R_below (pkr ((Kd.R_mono (Kd.R_far (p := ⟨gb228, 0, none⟩) (Kd.R_types HO226.out BK228.out (by decide)) (fun _ hk => by first | exact hk.2 | simp_all) (.slice Ao54 t224.length co54)) (fun _ h_ => by first | exact h_.1 | simp_all)))) hb); have n8_ := Aside0.mk (blk_below (g := gb197) (o := .cells #[.slice A0_0 l0_0.length c0_0] 61 (0, 0)) (by (with_reducible repeat (first | refine blk_drewN ?_ _ | refine blk_drew ?_ | refine blk_alloc ?_ _)); refine blk_far ?_ NB197_228.out _; (with_reducible repeat (first | refine blk_drewN ?_ _ | refine blk_drew ?_ | refine blk_alloc ?_ _)); exact BK197.out) hb); have n9_ := Aside0.mk (blk_below (g := gb213) (o := .cells #[.slice Ao37 t209.length co37] 66 (0, 0)) (by (with_reducible repeat (first | refine blk_drewN ?_ _ | refine blk_drew ?_ | refine blk_alloc ?_ _)); refine blk_far ?_ NB213_228.out _; (with_reducible repeat (first | refine blk_drewN ?_ _ | refine blk_drew ?_ | refine blk_alloc ?_ _)); exact BK213.out) hb); have n10_ := Aside0.mk (blk_below (g := gb217) (o := .cells #[.slice Ao43 t214.length co43] 66 (0, 0)) (by (with_reducible repeat (first | refine blk_drewN ?_ _ | refine blk_drew ?_ | refine blk_alloc ?_ _)); refine blk_far ?_ NB217_228.out _; (with_reducible repeat (first | refine blk_drewN ?_ _ | refine blk_drew ?_ | refine blk_alloc ?_ _)); exact BK217.out) hb); have n11_ := Aside0.mk (blk_below (g := gb228) (o := .cells #[.slice Ao54 t224.length co54] 66 (0, 0)) (by (with_reducible repeat (first | refine blk_drewN ?_ _ | refine blk_drew ?_ | refine blk_alloc ?_ _)); refine blk_put (cs := #[.slice none 0 0]) ?_ 0 _ rfl; (with_reducible repeat (first | refine blk_drewN ?_ _ | refine blk_drew ?_ | refine blk_alloc ?_ _)); exact BK228.out) hb); have n12_ := Aside0.mk (below_step (by repeat (first | (with_reducible first | exact HB.out | apply below_alloc | apply pw_below_drewN | apply below_drew1 | refine below_set ?_ GE197.out | refine below_set ?_ GE213.out | refine below_set ?_ GE217.out | refine below_set ?_ GE228.out) | exact HB.out)) hb); clear HO202; clear HO205; clear HO208; clear HO211; clear HO216; clear HO220; clear HO223; clear HO226; clear BK197; clear BK213; clear BK217; clear BK228; clear HB; have HO202 := n0_; have HO205 := n1_; have HO208 := n2_; have HO211 := n3_; have HO216 := n4_; have HO220 := n5_; have HO223 := n6_; have HO226 := n7_; have BK197 := n8_; have BK213 := n9_; have BK217 := n10_; have BK228 := n11_; have HB := n12_; clear n0_ n1_ n2_ n3_ n4_ n5_ n6_ n7_ n8_ n9_ n10_ n11_ n12_; (try clear hb); (try clear hb2); (try clear hk); (try clear hi)))
      go_meet
      case rel => exact ⟨_, (true), (by first | rfl | (simp; done) | (simp [*]; done)), H', ⟨by first | omega | exact Nat.le_refl _⟩, ⟨by (with_reducible repeat (first | apply Kd.R_alloc | apply Kd.R_drewN | apply Kd.R_drew)); exact Kd.R_mono HO220.out (fun _ hk => trivial)⟩, ⟨by (with_reducible repeat (first | apply Kd.R_alloc | apply Kd.R_drewN | apply Kd.R_drew)); exact Kd.R_mono HO223.out (fun _ hk => trivial)⟩, ⟨by (with_reducible repeat (first | apply Kd.R_alloc | apply Kd.R_drewN | apply Kd.R_drew)); exact Kd.R_mono HO211.out (fun _ hk => by first | exact ⟨hk.1.2, hk.2⟩ | simp_all)⟩, ⟨by (with_reducible repeat (first | apply Kd.R_alloc | apply Kd.R_drewN | apply Kd.R_drew)); exact Kd.R_mono HO216.out (fun _ hk => by first | exact ⟨hk.1.2, hk.2⟩ | simp_all)⟩, ⟨by (with_reducible repeat (first | apply Kd.R_alloc | apply Kd.R_drewN | apply Kd.R_drew)); exact Kd.R_mono HO226.out (fun _ hk => by first | exact ⟨hk.1.2, hk.2⟩ | simp_all)⟩, ⟨by (with_reducible repeat (first | refine blk_drewN ?_ _ | refine blk_drew ?_ | refine blk_alloc ?_ _)); exact BK197.out⟩, ⟨by (with_reducible repeat (first | refine blk_drewN ?_ _ | refine blk_drew ?_ | refine blk_alloc ?_ _)); exact BK213.out⟩, ⟨by (with_reducible repeat (first | refine blk_drewN ?_ _ | refine blk_drew ?_ | refine blk_alloc ?_ _)); exact BK217.out⟩, ⟨by (with_reducible repeat (first | refine blk_drewN ?_ _ | refine blk_drew ?_ | refine blk_alloc ?_ _)); exact BK228.out⟩, ⟨by repeat (first | (with_reducible first | exact HB.out | apply below_alloc | apply pw_below_drewN | apply below_drew1 | refine below_set ?_ GE197.out | refine below_set ?_ GE213.out | refine below_set ?_ GE217.out | refine below_set ?_ GE228.out) | exact HB.out)⟩⟩
    case rest =>
     clear HC24
     try clear c1
     try clear c2
     try clear p2
     try clear c3
     try clear c4
     try clear c4b0
     try clear c4b1
     try clear c5
     try clear c6
     try clear c7
     try clear c7b0
     try clear c8
     try clear c12
     try clear c12b0
     try clear c38
     try clear c44
     try clear c45
     try clear c46
     try clear c47
     try clear c48
     try clear c49
     try clear c50
     try clear c51
     try clear c55
     try clear c56
     try clear c57
     try clear c60
     try clear c61
     try clear c62
     try clear c63
     try clear c65
     try clear c66
     try clear c69
     try clear c70
     try clear c71
     try clear c73
     try clear c74
     try clear hcz14_0
     try clear hcz26_0
     try clear hcz28_0
     try clear hcz39_0
     try clear hcz40_0
     try clear hcz46_0
     try clear hcz49_0
     try clear hcz58_0
     try clear hcz64_0
     try clear hcz67_0
     try clear hcz72_0
     try clear hcz75_0
     try clear hcz9_0
     try clear hfz14_0
     try clear hfz26_0
     try clear hfz28_0
     try clear hfz39_0
     try clear hfz40_0
     try clear hfz46_0
     try clear hfz49_0
     try clear hfz58_0
     try clear hfz64_0
     try clear hfz67_0
     try clear hfz72_0
     try clear hfz75_0
     try clear hfz9_0
     obtain ⟨kq, x64_23, rfl, HA, HJ23, HO_11, HO_12, HO_214000, HO_218000, HO_229000, BK197, BK213, BK217, BK228, HB⟩ := hcut
     cases kq with
     | zero => exact absurd HA.out (by simp [laws_FnExactReceiveAll.j0])
     | succ kj23 =>
      have H := HA.out
      clear HA
      simp only [laws_FnExactReceiveAll.j0] at H
      by_cases c77 : x64_23 = true
      ·subst c77
       have H1 : (none) = some r := by rw [if_pos rfl] at H; exact H
       clear H
       have H := H1
       clear H1
       exact absurd H (by simp)
      ·replace c77 := Bool.eq_false_iff.mpr c77
       subst c77
       have H1 : ((laws_toGateway.f kj23 l0_0).bind fun t230 => ((laws_eqGateway.f kj23 t214 t230).bind fun t233 => (if t233 = true then ((laws_toPacketS.f kj23 l1).bind fun t234 => ((laws_eqPacketS.f kj23 t218 t234).bind fun t237 => (if t237 = true then ((laws_toBoolS.f kj23 l2).bind fun t238 => ((laws_eqBoolS.f kj23 t221 t238).bind fun t241 => (if t241 = true then ((laws_markGateway.f kj23 t214 1).bind fun bt242 => ((laws_markPacketS.f kj23 t218 bt242.1).bind fun bt244 => ((laws_markBoolS.f kj23 t221 bt244.1).bind fun bt246 => (if bt246.1 < 0 then (laws_FnExactReceiveAll.j1 kj23 l1 l2 t212 true l0_0 t209 t224) else ((laws_eqGateway.f kj23 t224 t209).bind fun t248 => (if t248 = true then (laws_FnExactReceiveAll.j1 kj23 l1 l2 t212 (t227 != t212) l0_0 t209 t224) else (laws_FnExactReceiveAll.j1 kj23 l1 l2 t212 true l0_0 t209 t224))))))) else (none)))) else (none)))) else (none)))) = some r := by rw [if_neg (show ¬ (false = true) by decide)] at H; exact H
       clear H
       have H := H1
       clear H1
       replace H := Option.bind_eq_some_iff.mp H
       obtain ⟨t230, A780, H⟩ := H
       replace H : ((laws_eqGateway.f kj23 t214 t230).bind fun t233 => (if t233 = true then ((laws_toPacketS.f kj23 l1).bind fun t234 => ((laws_eqPacketS.f kj23 t218 t234).bind fun t237 => (if t237 = true then ((laws_toBoolS.f kj23 l2).bind fun t238 => ((laws_eqBoolS.f kj23 t221 t238).bind fun t241 => (if t241 = true then ((laws_markGateway.f kj23 t214 1).bind fun bt242 => ((laws_markPacketS.f kj23 t218 bt242.1).bind fun bt244 => ((laws_markBoolS.f kj23 t221 bt244.1).bind fun bt246 => (if bt246.1 < 0 then (laws_FnExactReceiveAll.j1 kj23 l1 l2 t212 true l0_0 t209 t224) else ((laws_eqGateway.f kj23 t224 t209).bind fun t248 => (if t248 = true then (laws_FnExactReceiveAll.j1 kj23 l1 l2 t212 (t227 != t212) l0_0 t209 t224) else (laws_FnExactReceiveAll.j1 kj23 l1 l2 t212 true l0_0 t209 t224))))))) else (none)))) else (none)))) else (none))) = some r := H
       have A78 := Aside0.mk A780
       clear A780
       replace H := Option.bind_eq_some_iff.mp H
       obtain ⟨t233, A790, H⟩ := H
       replace H : (if t233 = true then ((laws_toPacketS.f kj23 l1).bind fun t234 => ((laws_eqPacketS.f kj23 t218 t234).bind fun t237 => (if t237 = true then ((laws_toBoolS.f kj23 l2).bind fun t238 => ((laws_eqBoolS.f kj23 t221 t238).bind fun t241 => (if t241 = true then ((laws_markGateway.f kj23 t214 1).bind fun bt242 => ((laws_markPacketS.f kj23 t218 bt242.1).bind fun bt244 => ((laws_markBoolS.f kj23 t221 bt244.1).bind fun bt246 => (if bt246.1 < 0 then (laws_FnExactReceiveAll.j1 kj23 l1 l2 t212 true l0_0 t209 t224) else ((laws_eqGateway.f kj23 t224 t209).bind fun t248 => (if t248 = true then (laws_FnExactReceiveAll.j1 kj23 l1 l2 t212 (t227 != t212) l0_0 t209 t224) else (laws_FnExactReceiveAll.j1 kj23 l1 l2 t212 true l0_0 t209 t224))))))) else (none)))) else (none)))) else (none)) = some r := H
       have A79 := Aside0.mk A790
       clear A790
       by_cases c80 : t233 = true
       ·subst c80
        have H1 : ((laws_toPacketS.f kj23 l1).bind fun t234 => ((laws_eqPacketS.f kj23 t218 t234).bind fun t237 => (if t237 = true then ((laws_toBoolS.f kj23 l2).bind fun t238 => ((laws_eqBoolS.f kj23 t221 t238).bind fun t241 => (if t241 = true then ((laws_markGateway.f kj23 t214 1).bind fun bt242 => ((laws_markPacketS.f kj23 t218 bt242.1).bind fun bt244 => ((laws_markBoolS.f kj23 t221 bt244.1).bind fun bt246 => (if bt246.1 < 0 then (laws_FnExactReceiveAll.j1 kj23 l1 l2 t212 true l0_0 t209 t224) else ((laws_eqGateway.f kj23 t224 t209).bind fun t248 => (if t248 = true then (laws_FnExactReceiveAll.j1 kj23 l1 l2 t212 (t227 != t212) l0_0 t209 t224) else (laws_FnExactReceiveAll.j1 kj23 l1 l2 t212 true l0_0 t209 t224))))))) else (none)))) else (none)))) = some r := by rw [if_pos rfl] at H; exact H
        clear H
        have H := H1
        clear H1
        replace H := Option.bind_eq_some_iff.mp H
        obtain ⟨t234, A810, H⟩ := H
        replace H : ((laws_eqPacketS.f kj23 t218 t234).bind fun t237 => (if t237 = true then ((laws_toBoolS.f kj23 l2).bind fun t238 => ((laws_eqBoolS.f kj23 t221 t238).bind fun t241 => (if t241 = true then ((laws_markGateway.f kj23 t214 1).bind fun bt242 => ((laws_markPacketS.f kj23 t218 bt242.1).bind fun bt244 => ((laws_markBoolS.f kj23 t221 bt244.1).bind fun bt246 => (if bt246.1 < 0 then (laws_FnExactReceiveAll.j1 kj23 l1 l2 t212 true l0_0 t209 t224) else ((laws_eqGateway.f kj23 t224 t209).bind fun t248 => (if t248 = true then (laws_FnExactReceiveAll.j1 kj23 l1 l2 t212 (t227 != t212) l0_0 t209 t224) else (laws_FnExactReceiveAll.j1 kj23 l1 l2 t212 true l0_0 t209 t224))))))) else (none)))) else (none))) = some r := H
        have A81 := Aside0.mk A810
        clear A810
        replace H := Option.bind_eq_some_iff.mp H
        obtain ⟨t237, A820, H⟩ := H
        replace H : (if t237 = true then ((laws_toBoolS.f kj23 l2).bind fun t238 => ((laws_eqBoolS.f kj23 t221 t238).bind fun t241 => (if t241 = true then ((laws_markGateway.f kj23 t214 1).bind fun bt242 => ((laws_markPacketS.f kj23 t218 bt242.1).bind fun bt244 => ((laws_markBoolS.f kj23 t221 bt244.1).bind fun bt246 => (if bt246.1 < 0 then (laws_FnExactReceiveAll.j1 kj23 l1 l2 t212 true l0_0 t209 t224) else ((laws_eqGateway.f kj23 t224 t209).bind fun t248 => (if t248 = true then (laws_FnExactReceiveAll.j1 kj23 l1 l2 t212 (t227 != t212) l0_0 t209 t224) else (laws_FnExactReceiveAll.j1 kj23 l1 l2 t212 true l0_0 t209 t224))))))) else (none)))) else (none)) = some r := H
        have A82 := Aside0.mk A820
        clear A820
        by_cases c83 : t237 = true
        ·subst c83
         have H1 : ((laws_toBoolS.f kj23 l2).bind fun t238 => ((laws_eqBoolS.f kj23 t221 t238).bind fun t241 => (if t241 = true then ((laws_markGateway.f kj23 t214 1).bind fun bt242 => ((laws_markPacketS.f kj23 t218 bt242.1).bind fun bt244 => ((laws_markBoolS.f kj23 t221 bt244.1).bind fun bt246 => (if bt246.1 < 0 then (laws_FnExactReceiveAll.j1 kj23 l1 l2 t212 true l0_0 t209 t224) else ((laws_eqGateway.f kj23 t224 t209).bind fun t248 => (if t248 = true then (laws_FnExactReceiveAll.j1 kj23 l1 l2 t212 (t227 != t212) l0_0 t209 t224) else (laws_FnExactReceiveAll.j1 kj23 l1 l2 t212 true l0_0 t209 t224))))))) else (none)))) = some r := by rw [if_pos rfl] at H; exact H
         clear H
         have H := H1
         clear H1
         replace H := Option.bind_eq_some_iff.mp H
         obtain ⟨t238, A840, H⟩ := H
         replace H : ((laws_eqBoolS.f kj23 t221 t238).bind fun t241 => (if t241 = true then ((laws_markGateway.f kj23 t214 1).bind fun bt242 => ((laws_markPacketS.f kj23 t218 bt242.1).bind fun bt244 => ((laws_markBoolS.f kj23 t221 bt244.1).bind fun bt246 => (if bt246.1 < 0 then (laws_FnExactReceiveAll.j1 kj23 l1 l2 t212 true l0_0 t209 t224) else ((laws_eqGateway.f kj23 t224 t209).bind fun t248 => (if t248 = true then (laws_FnExactReceiveAll.j1 kj23 l1 l2 t212 (t227 != t212) l0_0 t209 t224) else (laws_FnExactReceiveAll.j1 kj23 l1 l2 t212 true l0_0 t209 t224))))))) else (none))) = some r := H
         have A84 := Aside0.mk A840
         clear A840
         replace H := Option.bind_eq_some_iff.mp H
         obtain ⟨t241, A850, H⟩ := H
         replace H : (if t241 = true then ((laws_markGateway.f kj23 t214 1).bind fun bt242 => ((laws_markPacketS.f kj23 t218 bt242.1).bind fun bt244 => ((laws_markBoolS.f kj23 t221 bt244.1).bind fun bt246 => (if bt246.1 < 0 then (laws_FnExactReceiveAll.j1 kj23 l1 l2 t212 true l0_0 t209 t224) else ((laws_eqGateway.f kj23 t224 t209).bind fun t248 => (if t248 = true then (laws_FnExactReceiveAll.j1 kj23 l1 l2 t212 (t227 != t212) l0_0 t209 t224) else (laws_FnExactReceiveAll.j1 kj23 l1 l2 t212 true l0_0 t209 t224))))))) else (none)) = some r := H
         have A85 := Aside0.mk A850
         clear A850
         by_cases c86 : t241 = true
         ·subst c86
          have H1 : ((laws_markGateway.f kj23 t214 1).bind fun bt242 => ((laws_markPacketS.f kj23 t218 bt242.1).bind fun bt244 => ((laws_markBoolS.f kj23 t221 bt244.1).bind fun bt246 => (if bt246.1 < 0 then (laws_FnExactReceiveAll.j1 kj23 l1 l2 t212 true l0_0 t209 t224) else ((laws_eqGateway.f kj23 t224 t209).bind fun t248 => (if t248 = true then (laws_FnExactReceiveAll.j1 kj23 l1 l2 t212 (t227 != t212) l0_0 t209 t224) else (laws_FnExactReceiveAll.j1 kj23 l1 l2 t212 true l0_0 t209 t224))))))) = some r := by rw [if_pos rfl] at H; exact H
          clear H
          have H := H1
          clear H1
          replace H := Option.bind_eq_some_iff.mp H
          obtain ⟨⟨t242, t243⟩, A870, H⟩ := H
          replace H : ((laws_markPacketS.f kj23 t218 t242).bind fun bt244 => ((laws_markBoolS.f kj23 t221 bt244.1).bind fun bt246 => (if bt246.1 < 0 then (laws_FnExactReceiveAll.j1 kj23 l1 l2 t212 true l0_0 t209 t224) else ((laws_eqGateway.f kj23 t224 t209).bind fun t248 => (if t248 = true then (laws_FnExactReceiveAll.j1 kj23 l1 l2 t212 (t227 != t212) l0_0 t209 t224) else (laws_FnExactReceiveAll.j1 kj23 l1 l2 t212 true l0_0 t209 t224)))))) = some r := H
          have A87 := Aside0.mk A870
          clear A870
          replace H := Option.bind_eq_some_iff.mp H
          obtain ⟨⟨t244, t245⟩, A880, H⟩ := H
          replace H : ((laws_markBoolS.f kj23 t221 t244).bind fun bt246 => (if bt246.1 < 0 then (laws_FnExactReceiveAll.j1 kj23 l1 l2 t212 true l0_0 t209 t224) else ((laws_eqGateway.f kj23 t224 t209).bind fun t248 => (if t248 = true then (laws_FnExactReceiveAll.j1 kj23 l1 l2 t212 (t227 != t212) l0_0 t209 t224) else (laws_FnExactReceiveAll.j1 kj23 l1 l2 t212 true l0_0 t209 t224))))) = some r := H
          have A88 := Aside0.mk A880
          clear A880
          replace H := Option.bind_eq_some_iff.mp H
          obtain ⟨⟨t246, t247⟩, A890, H⟩ := H
          replace H : (if t246 < 0 then (laws_FnExactReceiveAll.j1 kj23 l1 l2 t212 true l0_0 t209 t224) else ((laws_eqGateway.f kj23 t224 t209).bind fun t248 => (if t248 = true then (laws_FnExactReceiveAll.j1 kj23 l1 l2 t212 (t227 != t212) l0_0 t209 t224) else (laws_FnExactReceiveAll.j1 kj23 l1 l2 t212 true l0_0 t209 t224)))) = some r := H
          have A89 := Aside0.mk A890
          clear A890
          have HC90 := Aside0.mk H
          clear H
          try go_wp2
          have n0_ := Aside0.mk (Kd.R_drew HO_11.out)
          have n1_ := Aside0.mk (Kd.R_drew HO_12.out)
          have n2_ := Aside0.mk (Kd.R_drew HO_214000.out)
          have n3_ := Aside0.mk (Kd.R_drew HO_218000.out)
          have n4_ := Aside0.mk (Kd.R_drew HO_229000.out)
          have n5_ := Aside0.mk (blk_drew BK197.out)
          have n6_ := Aside0.mk (blk_drew BK213.out)
          have n7_ := Aside0.mk (blk_drew BK217.out)
          have n8_ := Aside0.mk (blk_drew BK228.out)
          have n9_ := Aside0.mk (below_drew1 HB.out)
          clear HO_11
          clear HO_12
          clear HO_214000
          clear HO_218000
          clear HO_229000
          clear BK197
          clear BK213
          clear BK217
          clear BK228
          clear HB
          have HO_11 := n0_
          have HO_12 := n1_
          have HO_214000 := n2_
          have HO_218000 := n3_
          have HO_229000 := n4_
          have BK197 := n5_
          have BK213 := n6_
          have BK217 := n7_
          have BK228 := n8_
          have HB := n9_
          clear n0_ n1_ n2_ n3_ n4_ n5_ n6_ n7_ n8_ n9_
          refine start_ (n := 5) (S := fun w' => w'.cell? ⟨gb217, 0, none⟩ = some (.slice Ao43 t214.length co43) ∧ w'.cell? ⟨gb197, 0, none⟩ = some (.slice A0_0 l0_0.length c0_0)) (ds := []) #[false, false, false, false, false] (by kernel_rfl) rfl rfl ⟨(blk_cell BK217.out 0).trans rfl, (blk_cell BK197.out 0).trans rfl⟩ (fun hHeld => ?_)
          generalize wc.drew = w91 at HO_11 HO_12 HO_214000 HO_218000 HO_229000 BK197 BK213 BK217 BK228 HB hHeld ⊢
          refine take_ (i := 0) (N := some 65) (v := ?_) (a' := ?_) #[true, false, false, false, false] rfl rfl (by kernel_rfl) (fun _ _ _ h => h) (Or.inl ⟨by rfl, ?_⟩) hHeld ?_ ?_
          rotate_left
          ·rintro w' ⟨s0, s1⟩
           go_simp
           with_reducible rfl
          rotate_left
          ·simp only [Act.put, List.setIfInBounds_toArray, List.set_cons_zero, List.set_cons_succ, i64_w, i32_w]
           rfl
          refine take_ (i := 1) (N := some 66) (v := ?_) (a' := ?_) #[true, true, false, false, false] rfl rfl (by kernel_rfl) (fun _ _ _ h => h) (Or.inl ⟨by rfl, ?_⟩) hHeld ?_ ?_
          rotate_left
          ·rintro w' ⟨s0, s1⟩
           go_simp
           with_reducible rfl
          rotate_left
          ·simp only [Act.put, List.setIfInBounds_toArray, List.set_cons_zero, List.set_cons_succ, i64_w, i32_w]
           rfl
          refine one_ (i := 2) (N := some 67) #[true, true, true, false, false] rfl rfl (by kernel_rfl) (by decide) (fun K hK => ?_)
          refine goes_ Try.func47 (by kernel_rfl) rfl #[.agg #[.slice A0_0 l0_0.length c0_0]] (by rfl) rfl rfl (by (try simp only [List.map_toArray, List.map_cons, List.map_nil]); first | done | rfl | (simp only [List.length_drop, List.length_take]; rfl)) ?_
          with_reducible refine (laws_toGateway.calls kj23 _ _ l0_0 t230 _ ?side1 ?side2 A78.out).mono ?_
          (case side1 => repeat (first | exact (Kd.C_below HR0_0.out HB.out) | (with_reducible refine Kd.C_alloc ?_ _) | (with_reducible refine Kd.C_drewN ?_ _) | (with_reducible refine Kd.C_drew ?_)))
          (case side2 => exact HC0_0.out)
          rintro e w92 ⟨v231, rfl, ho0, hb⟩
          refine ⟨_, rfl, ?_⟩
          have n0_ := Aside0.mk (Kd.R_below (pkr HO_11.out) hb)
          have n1_ := Aside0.mk (Kd.R_below (pkr HO_12.out) hb)
          have n2_ := Aside0.mk (Kd.R_elder' (pkr HO_214000.out) (Kd.R_base ho0) hb)
          have n3_ := Aside0.mk (Kd.R_elder' (pkr HO_218000.out) (Kd.R_base ho0) hb)
          have n4_ := Aside0.mk (Kd.R_elder' (pkr HO_229000.out) (Kd.R_base ho0) hb)
          have n5_ := Aside0.mk (Kd.R_lower (Kd.R_new' (Kd.R_new' (Kd.R_new' ho0 (Kd.R_lt (pkr HO_214000.out))) (Kd.R_lt (pkr HO_218000.out))) (Kd.R_lt (pkr HO_229000.out))) (below_size (by repeat (first | (with_reducible first | exact HB.out | apply below_alloc | apply pw_below_drewN | apply below_drew1 | refine below_set ?_ GE197.out | refine below_set ?_ GE213.out | refine below_set ?_ GE217.out | refine below_set ?_ GE228.out) | exact HB.out))))
          have n6_ := Aside0.mk (blk_below (g := gb197) (o := .cells #[.slice A0_0 l0_0.length c0_0] 61 (0, 0)) (pkb BK197.out) hb)
          have n7_ := Aside0.mk (blk_below (g := gb213) (o := .cells #[.slice Ao37 t209.length co37] 66 (0, 0)) (pkb BK213.out) hb)
          have n8_ := Aside0.mk (blk_below (g := gb217) (o := .cells #[.slice Ao43 t214.length co43] 66 (0, 0)) (pkb BK217.out) hb)
          have n9_ := Aside0.mk (blk_below (g := gb228) (o := .cells #[.slice Ao54 t224.length co54] 66 (0, 0)) (pkb BK228.out) hb)
          have n10_ := Aside0.mk (below_step (by repeat (first | (with_reducible first | exact HB.out | apply below_alloc | apply pw_below_drewN | apply below_drew1 | refine below_set ?_ GE197.out | refine below_set ?_ GE213.out | refine below_set ?_ GE217.out | refine below_set ?_ GE228.out) | exact HB.out)) hb)
          clear HO_11
          clear HO_12
          clear HO_214000
          clear HO_218000
          clear HO_229000
          clear BK197
          clear BK213
          clear BK217
          clear BK228
          clear HB
          have HO_11 := n0_
          have HO_12 := n1_
          have HO_214000 := n2_
          have HO_218000 := n3_
          have HO_229000 := n4_
          have HO232 := n5_
          have BK197 := n6_
          have BK213 := n7_
          have BK217 := n8_
          have BK228 := n9_
          have HB := n10_
          clear n0_ n1_ n2_ n3_ n4_ n5_ n6_ n7_ n8_ n9_ n10_
          (try clear hb)
          (try clear hb2)
          (try clear hk)
          (try clear hi)
          (try clear ho0)
          obtain ⟨Ao93, co93, eo93⟩ := Kd.R_slice HO232.out
          (first | subst eo93 | (injection eo93 with f1_ f2_ f3_; have f4_ := f1_.symm; have f5_ := f3_.symm; clear f1_ f2_ f3_; subst f4_; subst f5_))
          refine hK.out _ _ ⟨(blk_cell BK217.out 0).trans rfl, (blk_cell BK197.out 0).trans rfl⟩ (fun hHeld => ?_)
          clear hK K
          refine norm_ (a' := ?_) ?_ ?_
          rotate_left
          ·show Act.put _ (some 67) _ = _
           simp only [Act.put, List.setIfInBounds_toArray, List.set_cons_zero, List.set_cons_succ, i64_w, i32_w]
           rfl
          refine one_ (i := 3) (N := some 68) #[true, true, true, true, false] rfl rfl (by kernel_rfl) (by decide) (fun K hK => ?_)
          refine goes_ Try.func51 (by kernel_rfl) rfl #[.agg #[.slice Ao43 t214.length co43], .agg #[.slice Ao93 t230.length co93]] (by rfl) rfl rfl (by (try simp only [List.map_toArray, List.map_cons, List.map_nil]); first | done | rfl | (simp only [List.length_drop, List.length_take]; rfl)) ?_
          with_reducible refine (laws_eqGateway.calls kj23 _ _ t214 _ _ t230 true _ ?side1 ?side2 ?side3 ?side4 A79.out).mono ?_
          (case side1 => repeat (first | exact (Kd.R_reads' HO_218000.out).2.2 | (with_reducible refine Kd.C_alloc ?_ _) | (with_reducible refine Kd.C_drewN ?_ _) | (with_reducible refine Kd.C_drew ?_)))
          (case side2 => exact (Kd.R_reads' HO_218000.out).2.1)
          (case side3 => repeat (first | exact (Kd.R_reads' HO232.out).2.2 | (with_reducible refine Kd.C_alloc ?_ _) | (with_reducible refine Kd.C_drewN ?_ _) | (with_reducible refine Kd.C_drew ?_)))
          (case side4 => exact (Kd.R_reads' HO232.out).2.1)
          rintro e w94 ⟨rfl, hb⟩
          refine ⟨_, rfl, ?_⟩
          have n0_ := Aside0.mk (Kd.R_below (pkr HO_11.out) hb)
          have n1_ := Aside0.mk (Kd.R_below (pkr HO_12.out) hb)
          have n2_ := Aside0.mk (Kd.R_below (pkr HO_214000.out) hb)
          have n3_ := Aside0.mk (Kd.R_below (pkr HO_218000.out) hb)
          have n4_ := Aside0.mk (Kd.R_below (pkr HO_229000.out) hb)
          have n5_ := Aside0.mk (Kd.R_below (pkr HO232.out) hb)
          have n6_ := Aside0.mk (blk_below (g := gb197) (o := .cells #[.slice A0_0 l0_0.length c0_0] 61 (0, 0)) (pkb BK197.out) hb)
          have n7_ := Aside0.mk (blk_below (g := gb213) (o := .cells #[.slice Ao37 t209.length co37] 66 (0, 0)) (pkb BK213.out) hb)
          have n8_ := Aside0.mk (blk_below (g := gb217) (o := .cells #[.slice Ao43 t214.length co43] 66 (0, 0)) (pkb BK217.out) hb)
          have n9_ := Aside0.mk (blk_below (g := gb228) (o := .cells #[.slice Ao54 t224.length co54] 66 (0, 0)) (pkb BK228.out) hb)
          have n10_ := Aside0.mk (below_step (by repeat (first | (with_reducible first | exact HB.out | apply below_alloc | apply pw_below_drewN | apply below_drew1 | refine below_set ?_ GE197.out | refine below_set ?_ GE213.out | refine below_set ?_ GE217.out | refine below_set ?_ GE228.out) | exact HB.out)) hb)
          clear HO_11
          clear HO_12
          clear HO_214000
          clear HO_218000
          clear HO_229000
          clear HO232
          clear BK197
          clear BK213
          clear BK217
          clear BK228
          clear HB
          have HO_11 := n0_
          have HO_12 := n1_
          have HO_214000 := n2_
          have HO_218000 := n3_
          have HO_229000 := n4_
          have HO232 := n5_
          have BK197 := n6_
          have BK213 := n7_
          have BK217 := n8_
          have BK228 := n9_
          have HB := n10_
          clear n0_ n1_ n2_ n3_ n4_ n5_ n6_ n7_ n8_ n9_ n10_
          (try clear hb)
          (try clear hb2)
          (try clear hk)
          (try clear hi)
          refine hK.out _ _ ⟨(blk_cell BK217.out 0).trans rfl, (blk_cell BK197.out 0).trans rfl⟩ (fun hHeld => ?_)
          clear hK K
          refine norm_ (a' := ?_) ?_ ?_
          rotate_left
          ·show Act.put _ (some 68) _ = _
           simp only [Act.put, List.setIfInBounds_toArray, List.set_cons_zero, List.set_cons_succ, i64_w, i32_w]
           rfl
          refine pure_ (i := 4) (N := some 69) (v := ?_) (a' := ?_) #[true, true, true, true, true] rfl rfl (by kernel_rfl) (fun _ _ _ h => h) (Or.inl ⟨by rfl, ?_⟩) ?_ ?_
          rotate_left
          ·intro w'
           go_simp
           with_reducible rfl
          rotate_left
          ·simp only [Act.put, List.setIfInBounds_toArray, List.set_cons_zero, List.set_cons_succ, i64_w, i32_w]
           rfl
          refine done_ (by kernel_rfl) ?_
          go_upto_region 27 with (first | ((with_reducible refine gate_callee (f := 48) rfl ?_); refine goesL_ (some 72) rfl rfl Try.func48 (by kernel_rfl) rfl #[.slice A1 l1.length c1] rfl (by (try simp only [List.map_toArray, List.map_cons, List.map_nil]); first | done | rfl | (simp only [List.length_drop, List.length_take]; rfl)) ?_; (with_reducible refine (laws_toPacketS.calls kj23 _ _ l1 t234 _ ?side1 ?side2 A81.out).mono ?_); (case side1 => repeat (first | exact (Kd.C_below HR1.out HB.out) | (with_reducible refine Kd.C_alloc ?_ _) | (with_reducible refine Kd.C_drewN ?_ _) | (with_reducible refine Kd.C_drew ?_))); (case side2 => exact HC1.out); rintro e w95 ⟨v235, rfl, ho0, hb⟩; refine ⟨_, rfl, ?_⟩; have n0_ := Aside0.mk (Kd.R_elder' (pkr HO_11.out) (Kd.R_base ho0) hb); have n1_ := Aside0.mk (Kd.R_below (pkr HO_12.out) hb); have n2_ := Aside0.mk (Kd.R_below (pkr HO_214000.out) hb); have n3_ := Aside0.mk (Kd.R_below (pkr HO_218000.out) hb); have n4_ := Aside0.mk (Kd.R_below (pkr HO_229000.out) hb); have n5_ := Aside0.mk (Kd.R_below (pkr HO232.out) hb); have n6_ := Aside0.mk (Kd.R_lower (Kd.R_new' ho0 (Kd.R_lt (pkr HO_11.out))) (below_size (by repeat (first | (with_reducible first | exact HB.out | apply below_alloc | apply pw_below_drewN | apply below_drew1 | refine below_set ?_ GE197.out | refine below_set ?_ GE213.out | refine below_set ?_ GE217.out | refine below_set ?_ GE228.out) | exact HB.out)))); have n7_ := Aside0.mk (blk_below (g := gb197) (o := .cells #[.slice A0_0 l0_0.length c0_0] 61 (0, 0)) (pkb BK197.out) hb); have n8_ := Aside0.mk (blk_below (g := gb213) (o := .cells #[.slice Ao37 t209.length co37] 66 (0, 0)) (pkb BK213.out) hb); have n9_ := Aside0.mk (blk_below (g := gb217) (o := .cells #[.slice Ao43 t214.length co43] 66 (0, 0)) (pkb BK217.out) hb); have n10_ := Aside0.mk (blk_below (g := gb228) (o := .cells #[.slice Ao54 t224.length co54] 66 (0, 0)) (pkb BK228.out) hb); have n11_ := Aside0.mk (below_step (by repeat (first | (with_reducible first | exact HB.out | apply below_alloc | apply pw_below_drewN | apply below_drew1 | refine below_set ?_ GE197.out | refine below_set ?_ GE213.out | refine below_set ?_ GE217.out | refine below_set ?_ GE228.out) | exact HB.out)) hb); clear HO_11; clear HO_12; clear HO_214000; clear HO_218000; clear HO_229000; clear HO232; clear BK197; clear BK213; clear BK217; clear BK228; clear HB; have HO_11 := n0_; have HO_12 := n1_; have HO_214000 := n2_; have HO_218000 := n3_; have HO_229000 := n4_; have HO232 := n5_; have HO236 := n6_; have BK197 := n7_; have BK213 := n8_; have BK217 := n9_; have BK228 := n10_; have HB := n11_; clear n0_ n1_ n2_ n3_ n4_ n5_ n6_ n7_ n8_ n9_ n10_ n11_; (try clear hb); (try clear hb2); (try clear hk); (try clear hi); (try clear ho0); obtain ⟨Ao96, co96, eo96⟩ := Kd.R_slice HO236.out; subst eo96) | ((with_reducible refine gate_callee (f := 52) rfl ?_); refine goesL_ (some 73) rfl rfl Try.func52 (by kernel_rfl) rfl #[.slice Ao50 t218.length co50, .slice Ao96 t234.length co96] rfl (by (try simp only [List.map_toArray, List.map_cons, List.map_nil]); first | done | rfl | (simp only [List.length_drop, List.length_take]; rfl)) ?_; (with_reducible refine (laws_eqPacketS.calls kj23 _ _ t218 _ _ t234 true _ ?side1 ?side2 ?side3 ?side4 A82.out).mono ?_); (case side1 => repeat (first | exact (Kd.R_reads' HO_11.out).2.2 | (with_reducible refine Kd.C_alloc ?_ _) | (with_reducible refine Kd.C_drewN ?_ _) | (with_reducible refine Kd.C_drew ?_))); (case side2 => exact (Kd.R_reads' HO_11.out).2.1); (case side3 => repeat (first | exact (Kd.R_reads' HO236.out).2.2 | (with_reducible refine Kd.C_alloc ?_ _) | (with_reducible refine Kd.C_drewN ?_ _) | (with_reducible refine Kd.C_drew ?_))); (case side4 => exact (Kd.R_reads' HO236.out).2.1); rintro e w97 ⟨rfl, hb⟩; refine ⟨_, rfl, ?_⟩; have n0_ := Aside0.mk (Kd.R_below (pkr HO_11.out) hb); have n1_ := Aside0.mk (Kd.R_below (pkr HO_12.out) hb); have n2_ := Aside0.mk (Kd.R_below (pkr HO_214000.out) hb); have n3_ := Aside0.mk (Kd.R_below (pkr HO_218000.out) hb); have n4_ := Aside0.mk (Kd.R_below (pkr HO_229000.out) hb); have n5_ := Aside0.mk (Kd.R_below (pkr HO232.out) hb); have n6_ := Aside0.mk (Kd.R_below (pkr HO236.out) hb); have n7_ := Aside0.mk (blk_below (g := gb197) (o := .cells #[.slice A0_0 l0_0.length c0_0] 61 (0, 0)) (pkb BK197.out) hb); have n8_ := Aside0.mk (blk_below (g := gb213) (o := .cells #[.slice Ao37 t209.length co37] 66 (0, 0)) (pkb BK213.out) hb); have n9_ := Aside0.mk (blk_below (g := gb217) (o := .cells #[.slice Ao43 t214.length co43] 66 (0, 0)) (pkb BK217.out) hb); have n10_ := Aside0.mk (blk_below (g := gb228) (o := .cells #[.slice Ao54 t224.length co54] 66 (0, 0)) (pkb BK228.out) hb); have n11_ := Aside0.mk (below_step (by repeat (first | (with_reducible first | exact HB.out | apply below_alloc | apply pw_below_drewN | apply below_drew1 | refine below_set ?_ GE197.out | refine below_set ?_ GE213.out | refine below_set ?_ GE217.out | refine below_set ?_ GE228.out) | exact HB.out)) hb); clear HO_11; clear HO_12; clear HO_214000; clear HO_218000; clear HO_229000; clear HO232; clear HO236; clear BK197; clear BK213; clear BK217; clear BK228; clear HB; have HO_11 := n0_; have HO_12 := n1_; have HO_214000 := n2_; have HO_218000 := n3_; have HO_229000 := n4_; have HO232 := n5_; have HO236 := n6_; have BK197 := n7_; have BK213 := n8_; have BK217 := n9_; have BK228 := n10_; have HB := n11_; clear n0_ n1_ n2_ n3_ n4_ n5_ n6_ n7_ n8_ n9_ n10_ n11_; (try clear hb); (try clear hb2); (try clear hk); (try clear hi)) | ((with_reducible refine gate_callee (f := 49) rfl ?_); refine goesL_ (some 77) rfl rfl Try.func49 (by kernel_rfl) rfl #[.slice A2 l2.length c2] rfl (by (try simp only [List.map_toArray, List.map_cons, List.map_nil]); first | done | rfl | (simp only [List.length_drop, List.length_take]; rfl)) ?_; (with_reducible refine (laws_toBoolS.calls kj23 _ _ l2 t238 _ ?side1 ?side2 A84.out).mono ?_); (case side1 => repeat (first | exact (Kd.C_below HR2.out HB.out) | (with_reducible refine Kd.C_alloc ?_ _) | (with_reducible refine Kd.C_drewN ?_ _) | (with_reducible refine Kd.C_drew ?_))); (case side2 => exact HC2.out); rintro e w98 ⟨v239, rfl, ho0, hb⟩; refine ⟨_, rfl, ?_⟩; have n0_ := Aside0.mk (Kd.R_below (pkr HO_11.out) hb); have n1_ := Aside0.mk (Kd.R_elder' (pkr HO_12.out) (Kd.R_base ho0) hb); have n2_ := Aside0.mk (Kd.R_below (pkr HO_214000.out) hb); have n3_ := Aside0.mk (Kd.R_below (pkr HO_218000.out) hb); have n4_ := Aside0.mk (Kd.R_below (pkr HO_229000.out) hb); have n5_ := Aside0.mk (Kd.R_below (pkr HO232.out) hb); have n6_ := Aside0.mk (Kd.R_below (pkr HO236.out) hb); have n7_ := Aside0.mk (Kd.R_lower (Kd.R_new' ho0 (Kd.R_lt (pkr HO_12.out))) (below_size (by repeat (first | (with_reducible first | exact HB.out | apply below_alloc | apply pw_below_drewN | apply below_drew1 | refine below_set ?_ GE197.out | refine below_set ?_ GE213.out | refine below_set ?_ GE217.out | refine below_set ?_ GE228.out) | exact HB.out)))); have n8_ := Aside0.mk (blk_below (g := gb197) (o := .cells #[.slice A0_0 l0_0.length c0_0] 61 (0, 0)) (pkb BK197.out) hb); have n9_ := Aside0.mk (blk_below (g := gb213) (o := .cells #[.slice Ao37 t209.length co37] 66 (0, 0)) (pkb BK213.out) hb); have n10_ := Aside0.mk (blk_below (g := gb217) (o := .cells #[.slice Ao43 t214.length co43] 66 (0, 0)) (pkb BK217.out) hb); have n11_ := Aside0.mk (blk_below (g := gb228) (o := .cells #[.slice Ao54 t224.length co54] 66 (0, 0)) (pkb BK228.out) hb); have n12_ := Aside0.mk (below_step (by repeat (first | (with_reducible first | exact HB.out | apply below_alloc | apply pw_below_drewN | apply below_drew1 | refine below_set ?_ GE197.out | refine below_set ?_ GE213.out | refine below_set ?_ GE217.out | refine below_set ?_ GE228.out) | exact HB.out)) hb); clear HO_11; clear HO_12; clear HO_214000; clear HO_218000; clear HO_229000; clear HO232; clear HO236; clear BK197; clear BK213; clear BK217; clear BK228; clear HB; have HO_11 := n0_; have HO_12 := n1_; have HO_214000 := n2_; have HO_218000 := n3_; have HO_229000 := n4_; have HO232 := n5_; have HO236 := n6_; have HO240 := n7_; have BK197 := n8_; have BK213 := n9_; have BK217 := n10_; have BK228 := n11_; have HB := n12_; clear n0_ n1_ n2_ n3_ n4_ n5_ n6_ n7_ n8_ n9_ n10_ n11_ n12_; (try clear hb); (try clear hb2); (try clear hk); (try clear hi); (try clear ho0); obtain ⟨Ao99, co99, eo99⟩ := Kd.R_slice HO240.out; subst eo99) | ((with_reducible refine gate_callee (f := 53) rfl ?_); refine goesL_ (some 78) rfl rfl Try.func53 (by kernel_rfl) rfl #[.slice Ao51 t221.length co51, .slice Ao99 t238.length co99] rfl (by (try simp only [List.map_toArray, List.map_cons, List.map_nil]); first | done | rfl | (simp only [List.length_drop, List.length_take]; rfl)) ?_; (with_reducible refine (laws_eqBoolS.calls kj23 _ _ t221 _ _ t238 true _ ?side1 ?side2 ?side3 ?side4 A85.out).mono ?_); (case side1 => repeat (first | exact (Kd.R_reads' HO_12.out).2.2 | (with_reducible refine Kd.C_alloc ?_ _) | (with_reducible refine Kd.C_drewN ?_ _) | (with_reducible refine Kd.C_drew ?_))); (case side2 => exact (Kd.R_reads' HO_12.out).2.1); (case side3 => repeat (first | exact (Kd.R_reads' HO240.out).2.2 | (with_reducible refine Kd.C_alloc ?_ _) | (with_reducible refine Kd.C_drewN ?_ _) | (with_reducible refine Kd.C_drew ?_))); (case side4 => exact (Kd.R_reads' HO240.out).2.1); rintro e w' ⟨rfl, ⟨nd, rfl⟩⟩; refine ⟨_, rfl, ?_⟩; have hnb100 := NB217_197.out; have hnc100 := NB197_217.out; have hnb101 := NB217_213.out; have hnc101 := NB213_217.out; have hnb102 := NB217_228.out; have hnc102 := NB228_217.out; have hcz103_0 : w98.cell? ⟨gb217, 0, none⟩ = some (.slice Ao43 t214.length co43) := (blk_cell BK217.out 0).trans rfl; have hfz103_0 := blk_frozen BK217.out 0) | ((with_reducible refine gate_callee (f := 54) rfl ?_); refine goesL_ (some 82) rfl rfl Try.func54 (by kernel_rfl) rfl #[.agg #[.slice Ao43 t214.length co43], .int .i64 1] rfl (by (try simp only [List.map_toArray, List.map_cons, List.map_nil]); first | done | rfl | (simp only [List.length_drop, List.length_take]; rfl)) ?_; (with_reducible refine (laws_markGateway.calls kj23 (fun k_ => some k_ = (.slice Ao43 t214.length co43 : Value).ownBlock) (.slice Ao43 t214.length co43) t214 1 t242 t243 w _ ?side1 ?side2 A87.out).mono ?_); (case side1 => repeat (first | (with_reducible first | exact HB.out | apply below_alloc | apply pw_below_drewN | apply below_drew1 | refine below_set ?_ GE197.out | refine below_set ?_ GE213.out | refine below_set ?_ GE217.out | refine below_set ?_ GE228.out) | exact HB.out)); (case side2 => exact Kd.R_tight rfl HO_218000.out); rintro e w104 ⟨rfl, hy0, hb, hkp⟩; refine ⟨_, rfl, ?_⟩; have n0_ := Aside0.mk (Kd.R_mono (ok' := fun k_ => some k_ ≠ (.slice Ao96 t234.length co96 : Value).ownBlock) (Kd.R_keptB ((Kd.R_apart' HO_11.out (Kd.R_typed HO_218000.out) (by decide))) hkp (fun k_ hk_ hs_ => by first | exact (hk_.2) hs_ | (simp only [show _ = _ from hs_, ne_eq, not_true_eq_false, and_false, false_and] at hk_; done) | simp_all)) (fun k_ hk_ => hk_.1.1.2)); have n1_ := Aside0.mk (Kd.R_mono (ok' := fun k_ => some k_ ≠ (.slice Ao99 t238.length co99 : Value).ownBlock) (Kd.R_keptB ((Kd.R_apart' HO_12.out (Kd.R_typed HO_218000.out) (by decide))) hkp (fun k_ hk_ hs_ => by first | exact (hk_.2) hs_ | (simp only [show _ = _ from hs_, ne_eq, not_true_eq_false, and_false, false_and] at hk_; done) | simp_all)) (fun k_ hk_ => hk_.1.1.2)); have n2_ := Aside0.mk (Kd.R_mono (ok' := fun k_ => some k_ ≠ (.slice Ao43 t214.length co43 : Value).ownBlock ∧ some k_ ≠ (.slice Ao54 t224.length co54 : Value).ownBlock ∧ some k_ ≠ (.slice Ao93 t230.length co93 : Value).ownBlock) (Kd.R_keptB (HO_214000.out) hkp (fun k_ hk_ hs_ => by first | exact (hk_.1.1) hs_ | (simp only [show _ = _ from hs_, ne_eq, not_true_eq_false, and_false, false_and] at hk_; done) | simp_all)) (fun k_ hk_ => by first | exact ⟨hk_.1.1.1, hk_.1.1.2, hk_.1.2⟩ | (simp only [hk_, ne_eq, not_false_eq_true, and_self]; done) | simp_all)); have n3_ := Aside0.mk (Kd.R_reok rfl hy0 (fun k_ e_ => HO_218000.out.1 k_ e_)); have n4_ := Aside0.mk (Kd.R_mono (ok' := fun k_ => some k_ ≠ (.slice Ao37 t209.length co37 : Value).ownBlock ∧ some k_ ≠ (.slice Ao43 t214.length co43 : Value).ownBlock ∧ some k_ ≠ (.slice Ao93 t230.length co93 : Value).ownBlock) (Kd.R_keptB (HO_229000.out) hkp (fun k_ hk_ hs_ => by first | exact (hk_.1.2) hs_ | (simp only [show _ = _ from hs_, ne_eq, not_true_eq_false, and_false, false_and] at hk_; done) | simp_all)) (fun k_ hk_ => by first | exact ⟨hk_.1.1.1, hk_.1.1.2, hk_.1.2⟩ | (simp only [hk_, ne_eq, not_false_eq_true, and_self]; done) | simp_all)); have n5_ := Aside0.mk (blk_kept (pkb BK197.out) hkp (fun hs_ => (fun e_ => (Kd.R_ne HO_218000.out BK197.out (by decide)) e_) hs_)); have n6_ := Aside0.mk (blk_kept (pkb BK213.out) hkp (fun hs_ => (fun e_ => (Kd.R_ne HO_218000.out BK213.out (by decide)) e_) hs_)); have n7_ := Aside0.mk (blk_kept (pkb BK217.out) hkp (fun hs_ => (fun e_ => (Kd.R_ne HO_218000.out BK217.out (by decide)) e_) hs_)); have n8_ := Aside0.mk (blk_kept (pkb BK228.out) hkp (fun hs_ => (fun e_ => (Kd.R_ne HO_218000.out BK228.out (by decide)) e_) hs_)); have n9_ := Aside0.mk (Kd.R_mono (ok' := fun k_ => some k_ ≠ (.slice Ao37 t209.length co37 : Value).ownBlock ∧ some k_ ≠ (.slice Ao43 t214.length co43 : Value).ownBlock ∧ some k_ ≠ (.slice Ao54 t224.length co54 : Value).ownBlock) (Kd.R_keptB (HO232.out) hkp (fun k_ hk_ hs_ => by first | exact (hk_.1.2) hs_ | (simp only [show _ = _ from hs_, ne_eq, not_true_eq_false, and_false, false_and] at hk_; done) | simp_all)) (fun k_ hk_ => by first | exact ⟨hk_.1.1.1.2, hk_.1.1.2, hk_.1.2⟩ | (simp only [hk_, ne_eq, not_false_eq_true, and_self]; done) | simp_all)); have n10_ := Aside0.mk (Kd.R_mono (ok' := fun k_ => some k_ ≠ (.slice Ao50 t218.length co50 : Value).ownBlock) (Kd.R_keptB ((Kd.R_apart' HO236.out (Kd.R_typed HO_218000.out) (by decide))) hkp (fun k_ hk_ hs_ => by first | exact (hk_.2) hs_ | (simp only [show _ = _ from hs_, ne_eq, not_true_eq_false, and_false, false_and] at hk_; done) | simp_all)) (fun k_ hk_ => hk_.1.1.2)); have n11_ := Aside0.mk (Kd.R_mono (ok' := fun k_ => some k_ ≠ (.slice Ao51 t221.length co51 : Value).ownBlock) (Kd.R_keptB ((Kd.R_apart' HO240.out (Kd.R_typed HO_218000.out) (by decide))) hkp (fun k_ hk_ hs_ => by first | exact (hk_.2) hs_ | (simp only [show _ = _ from hs_, ne_eq, not_true_eq_false, and_false, false_and] at hk_; done) | simp_all)) (fun k_ hk_ => hk_.1.1.2)); have n12_ := Aside0.mk (hb); clear HO_11; clear HO_12; clear HO_214000; clear HO_218000; clear HO_229000; clear BK197; clear BK213; clear BK217; clear BK228; clear HO232; clear HO236; clear HO240; clear HB; have HO_11 := n0_; have HO_12 := n1_; have HO_214000 := n2_; have HO_218000 := n3_; have HO_229000 := n4_; have BK197 := n5_; have BK213 := n6_; have BK217 := n7_; have BK228 := n8_; have HO232 := n9_; have HO236 := n10_; have HO240 := n11_; have HB := n12_; clear n0_ n1_ n2_ n3_ n4_ n5_ n6_ n7_ n8_ n9_ n10_ n11_ n12_; (try clear hb); (try clear hkp); (try clear hy0)) | ((with_reducible refine gate_callee (f := 55) rfl ?_); refine goesL_ (some 85) rfl rfl Try.func55 (by kernel_rfl) rfl #[.slice Ao50 t218.length co50, .int .i64 t242] rfl (by (try simp only [List.map_toArray, List.map_cons, List.map_nil]); first | done | rfl | (simp only [List.length_drop, List.length_take]; rfl)) ?_; (with_reducible refine (laws_markPacketS.calls kj23 (fun k_ => some k_ = (.slice Ao50 t218.length co50 : Value).ownBlock) (.slice Ao50 t218.length co50) t218 t242 t244 t245 w _ ?side1 ?side2 A88.out).mono ?_); (case side1 => repeat (first | (with_reducible first | exact HB.out | apply below_alloc | apply pw_below_drewN | apply below_drew1 | refine below_set ?_ GE197.out | refine below_set ?_ GE213.out | refine below_set ?_ GE217.out | refine below_set ?_ GE228.out) | exact HB.out)); (case side2 => exact Kd.R_tight rfl HO_11.out); rintro e w105 ⟨rfl, hy0, hb, hkp⟩; refine ⟨_, rfl, ?_⟩; have n0_ := Aside0.mk (Kd.R_reok rfl hy0 (fun k_ e_ => HO_11.out.1 k_ e_)); have n1_ := Aside0.mk (Kd.R_mono (ok' := fun k_ => some k_ ≠ (.slice Ao99 t238.length co99 : Value).ownBlock) (Kd.R_keptB ((Kd.R_apart' HO_12.out (Kd.R_typed HO_11.out) (by decide))) hkp (fun k_ hk_ hs_ => by first | exact (hk_.2) hs_ | (simp only [show _ = _ from hs_, ne_eq, not_true_eq_false, and_false, false_and] at hk_; done) | simp_all)) (fun k_ hk_ => hk_.1.1)); have n2_ := Aside0.mk (Kd.R_mono (ok' := fun k_ => some k_ ≠ (.slice Ao43 t214.length co43 : Value).ownBlock ∧ some k_ ≠ (.slice Ao54 t224.length co54 : Value).ownBlock ∧ some k_ ≠ (.slice Ao93 t230.length co93 : Value).ownBlock) (Kd.R_keptB ((Kd.R_apart' HO_214000.out (Kd.R_typed HO_11.out) (by decide))) hkp (fun k_ hk_ hs_ => by first | exact (hk_.2) hs_ | (simp only [show _ = _ from hs_, ne_eq, not_true_eq_false, and_false, false_and] at hk_; done) | simp_all)) (fun k_ hk_ => by first | exact ⟨hk_.1.1.1, hk_.1.1.2.1, hk_.1.1.2.2⟩ | (simp only [hk_, ne_eq, not_false_eq_true, and_self]; done) | simp_all)); have n3_ := Aside0.mk (Kd.R_mono (ok' := fun k_ => some k_ ≠ (.slice Ao37 t209.length co37 : Value).ownBlock ∧ some k_ ≠ (.slice Ao54 t224.length co54 : Value).ownBlock ∧ some k_ ≠ (.slice Ao93 t230.length co93 : Value).ownBlock) (Kd.R_keptB ((Kd.R_apart' HO_218000.out (Kd.R_typed HO_11.out) (by decide))) hkp (fun k_ hk_ hs_ => by first | exact (hk_.2) hs_ | (simp only [show _ = _ from hs_, ne_eq, not_true_eq_false, and_false, false_and] at hk_; done) | simp_all)) (fun k_ hk_ => by first | exact ⟨hk_.1.1.1.1, hk_.1.1.1.2, hk_.1.1.2⟩ | (simp only [hk_, ne_eq, not_false_eq_true, and_self]; done) | simp_all)); have n4_ := Aside0.mk (Kd.R_mono (ok' := fun k_ => some k_ ≠ (.slice Ao37 t209.length co37 : Value).ownBlock ∧ some k_ ≠ (.slice Ao43 t214.length co43 : Value).ownBlock ∧ some k_ ≠ (.slice Ao93 t230.length co93 : Value).ownBlock) (Kd.R_keptB ((Kd.R_apart' HO_229000.out (Kd.R_typed HO_11.out) (by decide))) hkp (fun k_ hk_ hs_ => by first | exact (hk_.2) hs_ | (simp only [show _ = _ from hs_, ne_eq, not_true_eq_false, and_false, false_and] at hk_; done) | simp_all)) (fun k_ hk_ => by first | exact ⟨hk_.1.1.1, hk_.1.1.2.1, hk_.1.1.2.2⟩ | (simp only [hk_, ne_eq, not_false_eq_true, and_self]; done) | simp_all)); have n5_ := Aside0.mk (blk_kept (pkb BK197.out) hkp (fun hs_ => (fun e_ => (Kd.R_ne HO_11.out BK197.out (by decide)) e_) hs_)); have n6_ := Aside0.mk (blk_kept (pkb BK213.out) hkp (fun hs_ => (fun e_ => (Kd.R_ne HO_11.out BK213.out (by decide)) e_) hs_)); have n7_ := Aside0.mk (blk_kept (pkb BK217.out) hkp (fun hs_ => (fun e_ => (Kd.R_ne HO_11.out BK217.out (by decide)) e_) hs_)); have n8_ := Aside0.mk (blk_kept (pkb BK228.out) hkp (fun hs_ => (fun e_ => (Kd.R_ne HO_11.out BK228.out (by decide)) e_) hs_)); have n9_ := Aside0.mk (Kd.R_mono (ok' := fun k_ => some k_ ≠ (.slice Ao37 t209.length co37 : Value).ownBlock ∧ some k_ ≠ (.slice Ao43 t214.length co43 : Value).ownBlock ∧ some k_ ≠ (.slice Ao54 t224.length co54 : Value).ownBlock) (Kd.R_keptB ((Kd.R_apart' HO232.out (Kd.R_typed HO_11.out) (by decide))) hkp (fun k_ hk_ hs_ => by first | exact (hk_.2) hs_ | (simp only [show _ = _ from hs_, ne_eq, not_true_eq_false, and_false, false_and] at hk_; done) | simp_all)) (fun k_ hk_ => by first | exact ⟨hk_.1.1.1, hk_.1.1.2.1, hk_.1.1.2.2⟩ | (simp only [hk_, ne_eq, not_false_eq_true, and_self]; done) | simp_all)); have n10_ := Aside0.mk (Kd.R_mono (ok' := fun k_ => some k_ ≠ (.slice Ao50 t218.length co50 : Value).ownBlock) (Kd.R_keptB (HO236.out) hkp (fun k_ hk_ hs_ => by first | exact (hk_) hs_ | (simp only [show _ = _ from hs_, ne_eq, not_true_eq_false, and_false, false_and] at hk_; done) | simp_all)) (fun k_ hk_ => hk_.1)); have n11_ := Aside0.mk (Kd.R_mono (ok' := fun k_ => some k_ ≠ (.slice Ao51 t221.length co51 : Value).ownBlock) (Kd.R_keptB ((Kd.R_apart' HO240.out (Kd.R_typed HO_11.out) (by decide))) hkp (fun k_ hk_ hs_ => by first | exact (hk_.2) hs_ | (simp only [show _ = _ from hs_, ne_eq, not_true_eq_false, and_false, false_and] at hk_; done) | simp_all)) (fun k_ hk_ => hk_.1.1)); have n12_ := Aside0.mk (hb); clear HO_11; clear HO_12; clear HO_214000; clear HO_218000; clear HO_229000; clear BK197; clear BK213; clear BK217; clear BK228; clear HO232; clear HO236; clear HO240; clear HB; have HO_11 := n0_; have HO_12 := n1_; have HO_214000 := n2_; have HO_218000 := n3_; have HO_229000 := n4_; have BK197 := n5_; have BK213 := n6_; have BK217 := n7_; have BK228 := n8_; have HO232 := n9_; have HO236 := n10_; have HO240 := n11_; have HB := n12_; clear n0_ n1_ n2_ n3_ n4_ n5_ n6_ n7_ n8_ n9_ n10_ n11_ n12_; (try clear hb); (try clear hkp); (try clear hy0)) | ((with_reducible refine gate_callee (f := 56) rfl ?_); refine goesL_ (some 88) rfl rfl Try.func56 (by kernel_rfl) rfl #[.slice Ao51 t221.length co51, .int .i64 t244] rfl (by (try simp only [List.map_toArray, List.map_cons, List.map_nil]); first | done | rfl | (simp only [List.length_drop, List.length_take]; rfl)) ?_; (with_reducible refine (laws_markBoolS.calls kj23 (fun k_ => some k_ = (.slice Ao51 t221.length co51 : Value).ownBlock) (.slice Ao51 t221.length co51) t221 t244 t246 t247 w _ ?side1 ?side2 A89.out).mono ?_); (case side1 => repeat (first | (with_reducible first | exact HB.out | apply below_alloc | apply pw_below_drewN | apply below_drew1 | refine below_set ?_ GE197.out | refine below_set ?_ GE213.out | refine below_set ?_ GE217.out | refine below_set ?_ GE228.out) | exact HB.out)); (case side2 => exact Kd.R_tight rfl HO_12.out); rintro e w106 ⟨rfl, hy0, hb, hkp⟩; refine ⟨_, rfl, ?_⟩; have n0_ := Aside0.mk (Kd.R_mono (ok' := fun k_ => some k_ ≠ (.slice Ao96 t234.length co96 : Value).ownBlock) (Kd.R_keptB ((Kd.R_apart' HO_11.out (Kd.R_typed HO_12.out) (by decide))) hkp (fun k_ hk_ hs_ => by first | exact (hk_.2) hs_ | (simp only [show _ = _ from hs_, ne_eq, not_true_eq_false, and_false, false_and] at hk_; done) | simp_all)) (fun k_ hk_ => hk_.1.1)); have n1_ := Aside0.mk (Kd.R_reok rfl hy0 (fun k_ e_ => HO_12.out.1 k_ e_)); have n2_ := Aside0.mk (Kd.R_mono (ok' := fun k_ => some k_ ≠ (.slice Ao43 t214.length co43 : Value).ownBlock ∧ some k_ ≠ (.slice Ao54 t224.length co54 : Value).ownBlock ∧ some k_ ≠ (.slice Ao93 t230.length co93 : Value).ownBlock) (Kd.R_keptB ((Kd.R_apart' HO_214000.out (Kd.R_typed HO_12.out) (by decide))) hkp (fun k_ hk_ hs_ => by first | exact (hk_.2) hs_ | (simp only [show _ = _ from hs_, ne_eq, not_true_eq_false, and_false, false_and] at hk_; done) | simp_all)) (fun k_ hk_ => by first | exact ⟨hk_.1.1.1, hk_.1.1.2.1, hk_.1.1.2.2⟩ | (simp only [hk_, ne_eq, not_false_eq_true, and_self]; done) | simp_all)); have n3_ := Aside0.mk (Kd.R_mono (ok' := fun k_ => some k_ ≠ (.slice Ao37 t209.length co37 : Value).ownBlock ∧ some k_ ≠ (.slice Ao54 t224.length co54 : Value).ownBlock ∧ some k_ ≠ (.slice Ao93 t230.length co93 : Value).ownBlock) (Kd.R_keptB ((Kd.R_apart' HO_218000.out (Kd.R_typed HO_12.out) (by decide))) hkp (fun k_ hk_ hs_ => by first | exact (hk_.2) hs_ | (simp only [show _ = _ from hs_, ne_eq, not_true_eq_false, and_false, false_and] at hk_; done) | simp_all)) (fun k_ hk_ => by first | exact ⟨hk_.1.1.1, hk_.1.1.2.1, hk_.1.1.2.2⟩ | (simp only [hk_, ne_eq, not_false_eq_true, and_self]; done) | simp_all)); have n4_ := Aside0.mk (Kd.R_mono (ok' := fun k_ => some k_ ≠ (.slice Ao37 t209.length co37 : Value).ownBlock ∧ some k_ ≠ (.slice Ao43 t214.length co43 : Value).ownBlock ∧ some k_ ≠ (.slice Ao93 t230.length co93 : Value).ownBlock) (Kd.R_keptB ((Kd.R_apart' HO_229000.out (Kd.R_typed HO_12.out) (by decide))) hkp (fun k_ hk_ hs_ => by first | exact (hk_.2) hs_ | (simp only [show _ = _ from hs_, ne_eq, not_true_eq_false, and_false, false_and] at hk_; done) | simp_all)) (fun k_ hk_ => by first | exact ⟨hk_.1.1.1, hk_.1.1.2.1, hk_.1.1.2.2⟩ | (simp only [hk_, ne_eq, not_false_eq_true, and_self]; done) | simp_all)); have n5_ := Aside0.mk (blk_kept (pkb BK197.out) hkp (fun hs_ => (fun e_ => (Kd.R_ne HO_12.out BK197.out (by decide)) e_) hs_)); have n6_ := Aside0.mk (blk_kept (pkb BK213.out) hkp (fun hs_ => (fun e_ => (Kd.R_ne HO_12.out BK213.out (by decide)) e_) hs_)); have n7_ := Aside0.mk (blk_kept (pkb BK217.out) hkp (fun hs_ => (fun e_ => (Kd.R_ne HO_12.out BK217.out (by decide)) e_) hs_)); have n8_ := Aside0.mk (blk_kept (pkb BK228.out) hkp (fun hs_ => (fun e_ => (Kd.R_ne HO_12.out BK228.out (by decide)) e_) hs_)); have n9_ := Aside0.mk (Kd.R_mono (ok' := fun k_ => some k_ ≠ (.slice Ao37 t209.length co37 : Value).ownBlock ∧ some k_ ≠ (.slice Ao43 t214.length co43 : Value).ownBlock ∧ some k_ ≠ (.slice Ao54 t224.length co54 : Value).ownBlock) (Kd.R_keptB ((Kd.R_apart' HO232.out (Kd.R_typed HO_12.out) (by decide))) hkp (fun k_ hk_ hs_ => by first | exact (hk_.2) hs_ | (simp only [show _ = _ from hs_, ne_eq, not_true_eq_false, and_false, false_and] at hk_; done) | simp_all)) (fun k_ hk_ => by first | exact ⟨hk_.1.1.1, hk_.1.1.2.1, hk_.1.1.2.2⟩ | (simp only [hk_, ne_eq, not_false_eq_true, and_self]; done) | simp_all)); have n10_ := Aside0.mk (Kd.R_mono (ok' := fun k_ => some k_ ≠ (.slice Ao50 t218.length co50 : Value).ownBlock) (Kd.R_keptB ((Kd.R_apart' HO236.out (Kd.R_typed HO_12.out) (by decide))) hkp (fun k_ hk_ hs_ => by first | exact (hk_.2) hs_ | (simp only [show _ = _ from hs_, ne_eq, not_true_eq_false, and_false, false_and] at hk_; done) | simp_all)) (fun k_ hk_ => hk_.1.1)); have n11_ := Aside0.mk (Kd.R_mono (ok' := fun k_ => some k_ ≠ (.slice Ao51 t221.length co51 : Value).ownBlock) (Kd.R_keptB (HO240.out) hkp (fun k_ hk_ hs_ => by first | exact (hk_) hs_ | (simp only [show _ = _ from hs_, ne_eq, not_true_eq_false, and_false, false_and] at hk_; done) | simp_all)) (fun k_ hk_ => hk_.1)); have n12_ := Aside0.mk (hb); clear HO_11; clear HO_12; clear HO_214000; clear HO_218000; clear HO_229000; clear BK197; clear BK213; clear BK217; clear BK228; clear HO232; clear HO236; clear HO240; clear HB; have HO_11 := n0_; have HO_12 := n1_; have HO_214000 := n2_; have HO_218000 := n3_; have HO_229000 := n4_; have BK197 := n5_; have BK213 := n6_; have BK217 := n7_; have BK228 := n8_; have HO232 := n9_; have HO236 := n10_; have HO240 := n11_; have HB := n12_; clear n0_ n1_ n2_ n3_ n4_ n5_ n6_ n7_ n8_ n9_ n10_ n11_ n12_; (try clear hb); (try clear hkp); (try clear hy0)))
          (try simp only [Act.put, List.setIfInBounds_toArray, List.set_cons_zero, List.set_cons_succ])
          go_cut [101] (fun v101 wc => ∃ (kq : Nat) (x101_89 : Bool), v101 = .bool x101_89 ∧ Aside0 (laws_FnExactReceiveAll.j1 kq l1 l2 t212 x101_89 l0_0 t209 t224 = some r) ∧ Aside0 (kq ≤ kj23) ∧ Aside0 (Kd.R (Kd.int .i64) 3 wc w.heap.size (fun k_ => some k_ ≠ ((.slice Ao43 t214.length co43) : Value).ownBlock ∧ some k_ ≠ ((.slice Ao54 t224.length co54) : Value).ownBlock) (.slice Ao37 t209.length co37) t209) ∧ Aside0 (Kd.R (Kd.int .i64) 3 wc w.heap.size (fun k_ => some k_ ≠ ((.slice Ao37 t209.length co37) : Value).ownBlock ∧ some k_ ≠ ((.slice Ao54 t224.length co54) : Value).ownBlock) (.slice Ao43 t214.length co43) t243) ∧ Aside0 (Kd.R (Kd.int .i64) 3 wc w.heap.size (fun k_ => some k_ ≠ ((.slice Ao37 t209.length co37) : Value).ownBlock ∧ some k_ ≠ ((.slice Ao43 t214.length co43) : Value).ownBlock) (.slice Ao54 t224.length co54) t224) ∧ Aside0 (wc.heap[gb197]? = some (.cells #[(.slice A0_0 l0_0.length c0_0)] 61 (0, 0))) ∧ Aside0 (wc.heap[gb213]? = some (.cells #[(.slice Ao37 t209.length co37)] 66 (0, 0))) ∧ Aside0 (wc.heap[gb217]? = some (.cells #[(.slice Ao43 t214.length co43)] 66 (0, 0))) ∧ Aside0 (wc.heap[gb228]? = some (.cells #[(.slice Ao54 t224.length co54)] 66 (0, 0))) ∧ Aside0 (Below w.heap.size w wc))
          case first =>
           have H := HC90.out
           clear HC90
           by_cases c107 : t246 < 0
           ·rw [if_pos c107] at H
            have c107b0 : decide (t246 < 0) = true := decide_eq_true c107
            clear c107
            (first | rw [c107b0] | (simp only [i64_w, i32_w]; rw [c107b0]) | skip)
            have H' := Aside0.mk H
            clear H
            go_wp2
            go_meet
            case rel => exact ⟨_, (true), (by first | rfl | (simp; done) | (simp [*]; done)), H', ⟨by have := HJ23.out; first | omega | exact Nat.le_refl _⟩, ⟨by (with_reducible repeat (first | apply Kd.R_alloc | apply Kd.R_drewN | apply Kd.R_drew)); exact Kd.R_mono HO_214000.out (fun _ hk => by first | exact ⟨hk.1, hk.2.1⟩ | simp_all)⟩, ⟨by (with_reducible repeat (first | apply Kd.R_alloc | apply Kd.R_drewN | apply Kd.R_drew)); exact Kd.R_mono HO_218000.out (fun _ hk => by first | exact ⟨hk.1, hk.2.1⟩ | simp_all)⟩, ⟨by (with_reducible repeat (first | apply Kd.R_alloc | apply Kd.R_drewN | apply Kd.R_drew)); exact Kd.R_mono HO_229000.out (fun _ hk => by first | exact ⟨hk.1, hk.2.1⟩ | simp_all)⟩, ⟨by (with_reducible repeat (first | refine blk_drewN ?_ _ | refine blk_drew ?_ | refine blk_alloc ?_ _)); exact BK197.out⟩, ⟨by (with_reducible repeat (first | refine blk_drewN ?_ _ | refine blk_drew ?_ | refine blk_alloc ?_ _)); exact BK213.out⟩, ⟨by (with_reducible repeat (first | refine blk_drewN ?_ _ | refine blk_drew ?_ | refine blk_alloc ?_ _)); exact BK217.out⟩, ⟨by (with_reducible repeat (first | refine blk_drewN ?_ _ | refine blk_drew ?_ | refine blk_alloc ?_ _)); exact BK228.out⟩, ⟨by repeat (first | (with_reducible first | exact HB.out | apply below_alloc | apply pw_below_drewN | apply below_drew1 | refine below_set ?_ GE197.out | refine below_set ?_ GE213.out | refine below_set ?_ GE217.out | refine below_set ?_ GE228.out) | exact HB.out)⟩⟩
           ·rw [if_neg c107] at H
            have c107b0 : decide (t246 < 0) = false := decide_eq_false c107
            clear c107
            (first | rw [c107b0] | (simp only [i64_w, i32_w]; rw [c107b0]) | skip)
            replace H := Option.bind_eq_some_iff.mp H
            obtain ⟨t248, A1080, H⟩ := H
            replace H : (if t248 = true then (laws_FnExactReceiveAll.j1 kj23 l1 l2 t212 (t227 != t212) l0_0 t209 t224) else (laws_FnExactReceiveAll.j1 kj23 l1 l2 t212 true l0_0 t209 t224)) = some r := H
            have A108 := Aside0.mk A1080
            clear A1080
            by_cases c109 : t248 = true
            ·subst c109
             have H1 : (laws_FnExactReceiveAll.j1 kj23 l1 l2 t212 (t227 != t212) l0_0 t209 t224) = some r := by rw [if_pos rfl] at H; exact H
             clear H
             have H := H1
             clear H1
             have H' := Aside0.mk H
             clear H
             have hnb110 := NB228_197.out
             have hnc110 := NB197_228.out
             have hnb111 := NB228_213.out
             have hnc111 := NB213_228.out
             have hnb112 := NB228_217.out
             have hnc112 := NB217_228.out
             have hcz113_0 : w106.cell? ⟨gb228, 0, none⟩ = some (.slice Ao54 t224.length co54) := (blk_cell BK228.out 0).trans rfl
             have hfz113_0 := blk_frozen BK228.out 0
             have hnb114 := NB213_197.out
             have hnc114 := NB197_213.out
             have hnb115 := NB213_217.out
             have hnc115 := NB217_213.out
             have hcz116_0 : w106.cell? ⟨gb213, 0, none⟩ = some (.slice Ao37 t209.length co37) := (blk_cell BK213.out 0).trans rfl
             have hfz116_0 := blk_frozen BK213.out 0
             go_wp2_with (first | (go_at_call 51; (with_reducible refine (laws_eqGateway.calls kj23 _ _ t224 _ _ t209 true _ ?side1 ?side2 ?side3 ?side4 A108.out).mono ?_); (case side1 => repeat (first | exact (Kd.R_reads' HO_229000.out).2.2 | (with_reducible refine Kd.C_alloc ?_ _) | (with_reducible refine Kd.C_drewN ?_ _) | (with_reducible refine Kd.C_drew ?_))); (case side2 => exact (Kd.R_reads' HO_229000.out).2.1); (case side3 => repeat (first | exact (Kd.R_reads' HO_214000.out).2.2 | (with_reducible refine Kd.C_alloc ?_ _) | (with_reducible refine Kd.C_drewN ?_ _) | (with_reducible refine Kd.C_drew ?_))); (case side4 => exact (Kd.R_reads' HO_214000.out).2.1); rintro e w117 ⟨rfl, hb⟩; have n0_ := Aside0.mk (Kd.R_below (pkr HO_11.out) hb); have n1_ := Aside0.mk (Kd.R_below (pkr HO_12.out) hb); have n2_ := Aside0.mk (Kd.R_below (pkr HO_214000.out) hb); have n3_ := Aside0.mk (Kd.R_below (pkr HO_218000.out) hb); have n4_ := Aside0.mk (Kd.R_below (pkr HO_229000.out) hb); have n5_ := Aside0.mk (Kd.R_below (pkr HO232.out) hb); have n6_ := Aside0.mk (Kd.R_below (pkr HO236.out) hb); have n7_ := Aside0.mk (Kd.R_below (pkr HO240.out) hb); have n8_ := Aside0.mk (blk_below (g := gb197) (o := .cells #[.slice A0_0 l0_0.length c0_0] 61 (0, 0)) (pkb BK197.out) hb); have n9_ := Aside0.mk (blk_below (g := gb213) (o := .cells #[.slice Ao37 t209.length co37] 66 (0, 0)) (pkb BK213.out) hb); have n10_ := Aside0.mk (blk_below (g := gb217) (o := .cells #[.slice Ao43 t214.length co43] 66 (0, 0)) (pkb BK217.out) hb); have n11_ := Aside0.mk (blk_below (g := gb228) (o := .cells #[.slice Ao54 t224.length co54] 66 (0, 0)) (pkb BK228.out) hb); have n12_ := Aside0.mk (below_step (by repeat (first | (with_reducible first | exact HB.out | apply below_alloc | apply pw_below_drewN | apply below_drew1 | refine below_set ?_ GE197.out | refine below_set ?_ GE213.out | refine below_set ?_ GE217.out | refine below_set ?_ GE228.out) | exact HB.out)) hb); clear HO_11; clear HO_12; clear HO_214000; clear HO_218000; clear HO_229000; clear HO232; clear HO236; clear HO240; clear BK197; clear BK213; clear BK217; clear BK228; clear HB; have HO_11 := n0_; have HO_12 := n1_; have HO_214000 := n2_; have HO_218000 := n3_; have HO_229000 := n4_; have HO232 := n5_; have HO236 := n6_; have HO240 := n7_; have BK197 := n8_; have BK213 := n9_; have BK217 := n10_; have BK228 := n11_; have HB := n12_; clear n0_ n1_ n2_ n3_ n4_ n5_ n6_ n7_ n8_ n9_ n10_ n11_ n12_; (try clear hb); (try clear hb2); (try clear hk); (try clear hi)))
             go_meet
             case rel => exact ⟨_, ((t227 != t212)), (by first | rfl | (simp; done) | (simp [*]; done)), H', ⟨by have := HJ23.out; first | omega | exact Nat.le_refl _⟩, ⟨by (with_reducible repeat (first | apply Kd.R_alloc | apply Kd.R_drewN | apply Kd.R_drew)); exact Kd.R_mono HO_214000.out (fun _ hk => by first | exact ⟨hk.1, hk.2.1⟩ | simp_all)⟩, ⟨by (with_reducible repeat (first | apply Kd.R_alloc | apply Kd.R_drewN | apply Kd.R_drew)); exact Kd.R_mono HO_218000.out (fun _ hk => by first | exact ⟨hk.1, hk.2.1⟩ | simp_all)⟩, ⟨by (with_reducible repeat (first | apply Kd.R_alloc | apply Kd.R_drewN | apply Kd.R_drew)); exact Kd.R_mono HO_229000.out (fun _ hk => by first | exact ⟨hk.1, hk.2.1⟩ | simp_all)⟩, ⟨by (with_reducible repeat (first | refine blk_drewN ?_ _ | refine blk_drew ?_ | refine blk_alloc ?_ _)); exact BK197.out⟩, ⟨by (with_reducible repeat (first | refine blk_drewN ?_ _ | refine blk_drew ?_ | refine blk_alloc ?_ _)); exact BK213.out⟩, ⟨by (with_reducible repeat (first | refine blk_drewN ?_ _ | refine blk_drew ?_ | refine blk_alloc ?_ _)); exact BK217.out⟩, ⟨by (with_reducible repeat (first | refine blk_drewN ?_ _ | refine blk_drew ?_ | refine blk_alloc ?_ _)); exact BK228.out⟩, ⟨by repeat (first | (with_reducible first | exact HB.out | apply below_alloc | apply pw_below_drewN | apply below_drew1 | refine below_set ?_ GE197.out | refine below_set ?_ GE213.out | refine below_set ?_ GE217.out | refine below_set ?_ GE228.out) | exact HB.out)⟩⟩
            ·replace c109 := Bool.eq_false_iff.mpr c109
             subst c109
             have H1 : (laws_FnExactReceiveAll.j1 kj23 l1 l2 t212 true l0_0 t209 t224) = some r := by rw [if_neg (show ¬ (false = true) by decide)] at H; exact H
             clear H
             have H := H1
             clear H1
             have H' := Aside0.mk H
             clear H
             have hnb118 := NB228_197.out
             have hnc118 := NB197_228.out
             have hnb119 := NB228_213.out
             have hnc119 := NB213_228.out
             have hnb120 := NB228_217.out
             have hnc120 := NB217_228.out
             have hcz121_0 : w106.cell? ⟨gb228, 0, none⟩ = some (.slice Ao54 t224.length co54) := (blk_cell BK228.out 0).trans rfl
             have hfz121_0 := blk_frozen BK228.out 0
             have hnb122 := NB213_197.out
             have hnc122 := NB197_213.out
             have hnb123 := NB213_217.out
             have hnc123 := NB217_213.out
             have hcz124_0 : w106.cell? ⟨gb213, 0, none⟩ = some (.slice Ao37 t209.length co37) := (blk_cell BK213.out 0).trans rfl
             have hfz124_0 := blk_frozen BK213.out 0
             go_wp2_with (first | (go_at_call 51; (with_reducible refine (laws_eqGateway.calls kj23 _ _ t224 _ _ t209 false _ ?side1 ?side2 ?side3 ?side4 A108.out).mono ?_); (case side1 => repeat (first | exact (Kd.R_reads' HO_229000.out).2.2 | (with_reducible refine Kd.C_alloc ?_ _) | (with_reducible refine Kd.C_drewN ?_ _) | (with_reducible refine Kd.C_drew ?_))); (case side2 => exact (Kd.R_reads' HO_229000.out).2.1); (case side3 => repeat (first | exact (Kd.R_reads' HO_214000.out).2.2 | (with_reducible refine Kd.C_alloc ?_ _) | (with_reducible refine Kd.C_drewN ?_ _) | (with_reducible refine Kd.C_drew ?_))); (case side4 => exact (Kd.R_reads' HO_214000.out).2.1); rintro e w125 ⟨rfl, hb⟩; have n0_ := Aside0.mk (Kd.R_below (pkr HO_11.out) hb); have n1_ := Aside0.mk (Kd.R_below (pkr HO_12.out) hb); have n2_ := Aside0.mk (Kd.R_below (pkr HO_214000.out) hb); have n3_ := Aside0.mk (Kd.R_below (pkr HO_218000.out) hb); have n4_ := Aside0.mk (Kd.R_below (pkr HO_229000.out) hb); have n5_ := Aside0.mk (Kd.R_below (pkr HO232.out) hb); have n6_ := Aside0.mk (Kd.R_below (pkr HO236.out) hb); have n7_ := Aside0.mk (Kd.R_below (pkr HO240.out) hb); have n8_ := Aside0.mk (blk_below (g := gb197) (o := .cells #[.slice A0_0 l0_0.length c0_0] 61 (0, 0)) (pkb BK197.out) hb); have n9_ := Aside0.mk (blk_below (g := gb213) (o := .cells #[.slice Ao37 t209.length co37] 66 (0, 0)) (pkb BK213.out) hb); have n10_ := Aside0.mk (blk_below (g := gb217) (o := .cells #[.slice Ao43 t214.length co43] 66 (0, 0)) (pkb BK217.out) hb); have n11_ := Aside0.mk (blk_below (g := gb228) (o := .cells #[.slice Ao54 t224.length co54] 66 (0, 0)) (pkb BK228.out) hb); have n12_ := Aside0.mk (below_step (by repeat (first | (with_reducible first | exact HB.out | apply below_alloc | apply pw_below_drewN | apply below_drew1 | refine below_set ?_ GE197.out | refine below_set ?_ GE213.out | refine below_set ?_ GE217.out | refine below_set ?_ GE228.out) | exact HB.out)) hb); clear HO_11; clear HO_12; clear HO_214000; clear HO_218000; clear HO_229000; clear HO232; clear HO236; clear HO240; clear BK197; clear BK213; clear BK217; clear BK228; clear HB; have HO_11 := n0_; have HO_12 := n1_; have HO_214000 := n2_; have HO_218000 := n3_; have HO_229000 := n4_; have HO232 := n5_; have HO236 := n6_; have HO240 := n7_; have BK197 := n8_; have BK213 := n9_; have BK217 := n10_; have BK228 := n11_; have HB := n12_; clear n0_ n1_ n2_ n3_ n4_ n5_ n6_ n7_ n8_ n9_ n10_ n11_ n12_; (try clear hb); (try clear hb2); (try clear hk); (try clear hi)))
             go_meet
             case rel => exact ⟨_, (true), (by first | rfl | (simp; done) | (simp [*]; done)), H', ⟨by have := HJ23.out; first | omega | exact Nat.le_refl _⟩, ⟨by (with_reducible repeat (first | apply Kd.R_alloc | apply Kd.R_drewN | apply Kd.R_drew)); exact Kd.R_mono HO_214000.out (fun _ hk => by first | exact ⟨hk.1, hk.2.1⟩ | simp_all)⟩, ⟨by (with_reducible repeat (first | apply Kd.R_alloc | apply Kd.R_drewN | apply Kd.R_drew)); exact Kd.R_mono HO_218000.out (fun _ hk => by first | exact ⟨hk.1, hk.2.1⟩ | simp_all)⟩, ⟨by (with_reducible repeat (first | apply Kd.R_alloc | apply Kd.R_drewN | apply Kd.R_drew)); exact Kd.R_mono HO_229000.out (fun _ hk => by first | exact ⟨hk.1, hk.2.1⟩ | simp_all)⟩, ⟨by (with_reducible repeat (first | refine blk_drewN ?_ _ | refine blk_drew ?_ | refine blk_alloc ?_ _)); exact BK197.out⟩, ⟨by (with_reducible repeat (first | refine blk_drewN ?_ _ | refine blk_drew ?_ | refine blk_alloc ?_ _)); exact BK213.out⟩, ⟨by (with_reducible repeat (first | refine blk_drewN ?_ _ | refine blk_drew ?_ | refine blk_alloc ?_ _)); exact BK217.out⟩, ⟨by (with_reducible repeat (first | refine blk_drewN ?_ _ | refine blk_drew ?_ | refine blk_alloc ?_ _)); exact BK228.out⟩, ⟨by repeat (first | (with_reducible first | exact HB.out | apply below_alloc | apply pw_below_drewN | apply below_drew1 | refine below_set ?_ GE197.out | refine below_set ?_ GE213.out | refine below_set ?_ GE217.out | refine below_set ?_ GE228.out) | exact HB.out)⟩⟩
          case rest =>
           clear HC90
           try clear c1
           try clear c2
           try clear p2
           try clear c3
           try clear c4
           try clear c4b0
           try clear c4b1
           try clear c5
           try clear c6
           try clear c7
           try clear c7b0
           try clear c8
           try clear c10
           try clear c11
           try clear c12
           try clear c12b0
           try clear c38
           try clear c44
           try clear c45
           try clear c46
           try clear c47
           try clear c48
           try clear c49
           try clear c50
           try clear c51
           try clear c52
           try clear c53
           try clear c54
           try clear c55
           try clear c56
           try clear c57
           try clear c60
           try clear c61
           try clear c62
           try clear c63
           try clear c65
           try clear c66
           try clear c69
           try clear c70
           try clear c71
           try clear c73
           try clear c74
           try clear c77
           try clear c80
           try clear c83
           try clear c86
           try clear c100
           try clear c101
           try clear c102
           try clear c107
           try clear c107b0
           try clear c109
           try clear c110
           try clear c111
           try clear c112
           try clear c114
           try clear c115
           try clear c118
           try clear c119
           try clear c120
           try clear c122
           try clear c123
           try clear hcz103_0
           try clear hcz113_0
           try clear hcz116_0
           try clear hcz121_0
           try clear hcz124_0
           try clear hcz14_0
           try clear hcz26_0
           try clear hcz28_0
           try clear hcz39_0
           try clear hcz40_0
           try clear hcz46_0
           try clear hcz49_0
           try clear hcz58_0
           try clear hcz64_0
           try clear hcz67_0
           try clear hcz72_0
           try clear hcz75_0
           try clear hcz9_0
           try clear hfz103_0
           try clear hfz113_0
           try clear hfz116_0
           try clear hfz121_0
           try clear hfz124_0
           try clear hfz14_0
           try clear hfz26_0
           try clear hfz28_0
           try clear hfz39_0
           try clear hfz40_0
           try clear hfz46_0
           try clear hfz49_0
           try clear hfz58_0
           try clear hfz64_0
           try clear hfz67_0
           try clear hfz72_0
           try clear hfz75_0
           try clear hfz9_0
           try clear p2
           obtain ⟨kq, x101_89, rfl, HA, HJ89, HO_214000, HO_218000, HO_229000, BK197, BK213, BK217, BK228, HB⟩ := hcut
           have hl218000_89 := (Kd.R_reads' HO_218000.out).1
           rw [hl218000_89] at HO_218000
           (try simp only [hl218000_89])
           (try simp only [hl218000_89] at BK197)
           (try simp only [hl218000_89] at BK213)
           (try simp only [hl218000_89] at BK217)
           (try simp only [hl218000_89] at BK228)
           (try simp only [hl218000_89] at HO_214000)
           (try simp only [hl218000_89] at HO_229000)
           cases kq with
           | zero => exact absurd HA.out (by simp [laws_FnExactReceiveAll.j1])
           | succ kj89 =>
            have H := HA.out
            clear HA
            simp only [laws_FnExactReceiveAll.j1] at H
            by_cases c126 : x101_89 = true
            ·subst c126
             have H1 : (none) = some r := by rw [if_pos rfl] at H; exact H
             clear H
             have H := H1
             clear H1
             exact absurd H (by simp)
            ·replace c126 := Bool.eq_false_iff.mpr c126
             subst c126
             have H1 : ((laws_markGateway.f kj89 t224 1).bind fun bt249 => ((laws_heldGateway.f kj89 bt249.2 1).bind fun t251 => (if t251 < 0 then (none) else (if t251 = bt249.1 then ((laws_toGateway.f kj89 l0_0).bind fun t252 => ((laws_toPacketS.f kj89 l1).bind fun t255 => ((laws_toBoolS.f kj89 l2).bind fun t258 => ((impl_ReceiveAll.f kj89 t252 t255 t258).bind fun bt261 => ((laws_eqGateway.f kj89 bt261.1 t209).bind fun t266 => (if t266 = true then (laws_FnExactReceiveAll.j2 kj89 bt249.1 (bt261.2 != t212) bt249.2) else (laws_FnExactReceiveAll.j2 kj89 bt249.1 true bt249.2))))))) else (none))))) = some r := by rw [if_neg (show ¬ (false = true) by decide)] at H; exact H
             clear H
             have H := H1
             clear H1
             replace H := Option.bind_eq_some_iff.mp H
             obtain ⟨⟨t249, t250⟩, A1270, H⟩ := H
             replace H : ((laws_heldGateway.f kj89 t250 1).bind fun t251 => (if t251 < 0 then (none) else (if t251 = t249 then ((laws_toGateway.f kj89 l0_0).bind fun t252 => ((laws_toPacketS.f kj89 l1).bind fun t255 => ((laws_toBoolS.f kj89 l2).bind fun t258 => ((impl_ReceiveAll.f kj89 t252 t255 t258).bind fun bt261 => ((laws_eqGateway.f kj89 bt261.1 t209).bind fun t266 => (if t266 = true then (laws_FnExactReceiveAll.j2 kj89 t249 (bt261.2 != t212) t250) else (laws_FnExactReceiveAll.j2 kj89 t249 true t250))))))) else (none)))) = some r := H
             have A127 := Aside0.mk A1270
             clear A1270
             replace H := Option.bind_eq_some_iff.mp H
             obtain ⟨t251, A1280, H⟩ := H
             replace H : (if t251 < 0 then (none) else (if t251 = t249 then ((laws_toGateway.f kj89 l0_0).bind fun t252 => ((laws_toPacketS.f kj89 l1).bind fun t255 => ((laws_toBoolS.f kj89 l2).bind fun t258 => ((impl_ReceiveAll.f kj89 t252 t255 t258).bind fun bt261 => ((laws_eqGateway.f kj89 bt261.1 t209).bind fun t266 => (if t266 = true then (laws_FnExactReceiveAll.j2 kj89 t249 (bt261.2 != t212) t250) else (laws_FnExactReceiveAll.j2 kj89 t249 true t250))))))) else (none))) = some r := H
             have A128 := Aside0.mk A1280
             clear A1280
             by_cases c129 : t251 < 0
             ·rw [if_pos c129] at H
              exact absurd H (by simp)
             ·rw [if_neg c129] at H
              have c129b0 : decide (t251 < 0) = false := decide_eq_false c129
              clear c129
              by_cases c130 : t251 = t249
              ·rw [if_pos c130] at H
               have c130b0 : (t251 == t249) = true := beq_iff_eq.mpr c130
               have c130b1 : (t251 != t249) = false := bne_eq_false_iff_eq.mpr c130
               clear c130
               replace H := Option.bind_eq_some_iff.mp H
               obtain ⟨t252, A1310, H⟩ := H
               replace H : ((laws_toPacketS.f kj89 l1).bind fun t255 => ((laws_toBoolS.f kj89 l2).bind fun t258 => ((impl_ReceiveAll.f kj89 t252 t255 t258).bind fun bt261 => ((laws_eqGateway.f kj89 bt261.1 t209).bind fun t266 => (if t266 = true then (laws_FnExactReceiveAll.j2 kj89 t249 (bt261.2 != t212) t250) else (laws_FnExactReceiveAll.j2 kj89 t249 true t250)))))) = some r := H
               have A131 := Aside0.mk A1310
               clear A1310
               replace H := Option.bind_eq_some_iff.mp H
               obtain ⟨t255, A1320, H⟩ := H
               replace H : ((laws_toBoolS.f kj89 l2).bind fun t258 => ((impl_ReceiveAll.f kj89 t252 t255 t258).bind fun bt261 => ((laws_eqGateway.f kj89 bt261.1 t209).bind fun t266 => (if t266 = true then (laws_FnExactReceiveAll.j2 kj89 t249 (bt261.2 != t212) t250) else (laws_FnExactReceiveAll.j2 kj89 t249 true t250))))) = some r := H
               have A132 := Aside0.mk A1320
               clear A1320
               replace H := Option.bind_eq_some_iff.mp H
               obtain ⟨t258, A1330, H⟩ := H
               replace H : ((impl_ReceiveAll.f kj89 t252 t255 t258).bind fun bt261 => ((laws_eqGateway.f kj89 bt261.1 t209).bind fun t266 => (if t266 = true then (laws_FnExactReceiveAll.j2 kj89 t249 (bt261.2 != t212) t250) else (laws_FnExactReceiveAll.j2 kj89 t249 true t250)))) = some r := H
               have A133 := Aside0.mk A1330
               clear A1330
               replace H := Option.bind_eq_some_iff.mp H
               obtain ⟨⟨t261, t264⟩, A1340, H⟩ := H
               replace H : ((laws_eqGateway.f kj89 t261 t209).bind fun t266 => (if t266 = true then (laws_FnExactReceiveAll.j2 kj89 t249 (t264 != t212) t250) else (laws_FnExactReceiveAll.j2 kj89 t249 true t250))) = some r := H
               have A134 := Aside0.mk A1340
               clear A1340
               have HC135 := Aside0.mk H
               clear H
               have hnb136 := NB228_197.out
               have hnc136 := NB197_228.out
               have hnb137 := NB228_213.out
               have hnc137 := NB213_228.out
               have hnb138 := NB228_217.out
               have hnc138 := NB217_228.out
               have hcz139_0 : wc.cell? ⟨gb228, 0, none⟩ = some (.slice Ao54 t224.length co54) := (blk_cell BK228.out 0).trans rfl
               have hfz139_0 := blk_frozen BK228.out 0
               go_upto_region 38 with (first | ((with_reducible refine gate_callee (f := 54) rfl ?_); refine goesL_ (some 104) rfl rfl Try.func54 (by kernel_rfl) rfl #[.agg #[.slice Ao54 t224.length co54], .int .i64 1] rfl (by (try simp only [List.map_toArray, List.map_cons, List.map_nil]); first | done | rfl | (simp only [List.length_drop, List.length_take]; rfl)) ?_; (with_reducible refine (laws_markGateway.calls kj89 (fun k_ => some k_ = (.slice Ao54 t224.length co54 : Value).ownBlock) (.slice Ao54 t224.length co54) t224 1 t249 t250 w _ ?side1 ?side2 A127.out).mono ?_); (case side1 => repeat (first | (with_reducible first | exact HB.out | apply below_alloc | apply pw_below_drewN | apply below_drew1 | refine below_set ?_ GE197.out | refine below_set ?_ GE213.out | refine below_set ?_ GE217.out | refine below_set ?_ GE228.out) | exact HB.out)); (case side2 => exact Kd.R_tight rfl HO_229000.out); rintro e w140 ⟨rfl, hy0, hb, hkp⟩; refine ⟨_, rfl, ?_⟩; have n0_ := Aside0.mk (Kd.R_mono (ok' := fun k_ => some k_ ≠ (.slice Ao43 t243.length co43 : Value).ownBlock ∧ some k_ ≠ (.slice Ao54 t224.length co54 : Value).ownBlock) (Kd.R_keptB (HO_214000.out) hkp (fun k_ hk_ hs_ => by first | exact (hk_.2) hs_ | (simp only [show _ = _ from hs_, ne_eq, not_true_eq_false, and_false, false_and] at hk_; done) | simp_all)) (fun k_ hk_ => by first | exact ⟨hk_.1.1, hk_.1.2⟩ | (simp only [hk_, ne_eq, not_false_eq_true, and_self]; done) | simp_all)); have n1_ := Aside0.mk (Kd.R_mono (ok' := fun k_ => some k_ ≠ (.slice Ao37 t209.length co37 : Value).ownBlock ∧ some k_ ≠ (.slice Ao54 t224.length co54 : Value).ownBlock) (Kd.R_keptB (HO_218000.out) hkp (fun k_ hk_ hs_ => by first | exact (hk_.2) hs_ | (simp only [show _ = _ from hs_, ne_eq, not_true_eq_false, and_false, false_and] at hk_; done) | simp_all)) (fun k_ hk_ => by first | exact ⟨hk_.1.1, hk_.1.2⟩ | (simp only [hk_, ne_eq, not_false_eq_true, and_self]; done) | simp_all)); have n2_ := Aside0.mk (Kd.R_reok rfl hy0 (fun k_ e_ => HO_229000.out.1 k_ e_)); have n3_ := Aside0.mk (blk_kept (pkb BK197.out) hkp (fun hs_ => (fun e_ => (Kd.R_ne HO_229000.out BK197.out (by decide)) e_) hs_)); have n4_ := Aside0.mk (blk_kept (pkb BK213.out) hkp (fun hs_ => (fun e_ => (Kd.R_ne HO_229000.out BK213.out (by decide)) e_) hs_)); have n5_ := Aside0.mk (blk_kept (pkb BK217.out) hkp (fun hs_ => (fun e_ => (Kd.R_ne HO_229000.out BK217.out (by decide)) e_) hs_)); have n6_ := Aside0.mk (blk_kept (pkb BK228.out) hkp (fun hs_ => (fun e_ => (Kd.R_ne HO_229000.out BK228.out (by decide)) e_) hs_)); have n7_ := Aside0.mk (hb); clear HO_214000; clear HO_218000; clear HO_229000; clear BK197; clear BK213; clear BK217; clear BK228; clear HB; have HO_214000 := n0_; have HO_218000 := n1_; have HO_229000 := n2_; have BK197 := n3_; have BK213 := n4_; have BK217 := n5_; have BK228 := n6_; have HB := n7_; clear n0_ n1_ n2_ n3_ n4_ n5_ n6_ n7_; (try clear hb); (try clear hkp); (try clear hy0); have hcz141_0 : w140.cell? ⟨gb228, 0, none⟩ = some (.slice Ao54 t224.length co54) := (blk_cell BK228.out 0).trans rfl; have hfz141_0 := blk_frozen BK228.out 0) | ((with_reducible refine gate_callee (f := 57) rfl ?_); refine goesL_ (some 107) rfl rfl Try.func57 (by kernel_rfl) rfl #[.agg #[.slice Ao54 t250.length co54], .int .i64 1] rfl (by (try simp only [List.map_toArray, List.map_cons, List.map_nil]); first | done | (rw [show t250.length = t224.length from (Kd.R_reads' HO_229000.out).1.symm] <;> rfl) | rfl | (simp only [List.length_drop, List.length_take]; rfl)) ?_; (with_reducible refine (laws_heldGateway.calls kj89 _ _ t250 1 t251 _ ?side1 ?side2 A128.out).mono ?_); (case side1 => repeat (first | exact (Kd.R_reads' HO_229000.out).2.2 | (with_reducible refine Kd.C_alloc ?_ _) | (with_reducible refine Kd.C_drewN ?_ _) | (with_reducible refine Kd.C_drew ?_))); (case side2 => rw [show t250.length = t224.length from (Kd.R_reads' HO_229000.out).1.symm]; exact (Kd.R_reads' HO_229000.out).2.1); rintro e w142 ⟨rfl, hb⟩; refine ⟨_, rfl, ?_⟩; have n0_ := Aside0.mk (Kd.R_below (pkr HO_214000.out) hb); have n1_ := Aside0.mk (Kd.R_below (pkr HO_218000.out) hb); have n2_ := Aside0.mk (Kd.R_below (pkr HO_229000.out) hb); have n3_ := Aside0.mk (blk_below (g := gb197) (o := .cells #[.slice A0_0 l0_0.length c0_0] 61 (0, 0)) (pkb BK197.out) hb); have n4_ := Aside0.mk (blk_below (g := gb213) (o := .cells #[.slice Ao37 t209.length co37] 66 (0, 0)) (pkb BK213.out) hb); have n5_ := Aside0.mk (blk_below (g := gb217) (o := .cells #[.slice Ao43 t243.length co43] 66 (0, 0)) (pkb BK217.out) hb); have n6_ := Aside0.mk (blk_below (g := gb228) (o := .cells #[.slice Ao54 t224.length co54] 66 (0, 0)) (pkb BK228.out) hb); have n7_ := Aside0.mk (below_step (by repeat (first | (with_reducible first | exact HB.out | apply below_alloc | apply pw_below_drewN | apply below_drew1 | refine below_set ?_ GE197.out | refine below_set ?_ GE213.out | refine below_set ?_ GE217.out | refine below_set ?_ GE228.out) | exact HB.out)) hb); clear HO_214000; clear HO_218000; clear HO_229000; clear BK197; clear BK213; clear BK217; clear BK228; clear HB; have HO_214000 := n0_; have HO_218000 := n1_; have HO_229000 := n2_; have BK197 := n3_; have BK213 := n4_; have BK217 := n5_; have BK228 := n6_; have HB := n7_; clear n0_ n1_ n2_ n3_ n4_ n5_ n6_ n7_; (try clear hb); (try clear hb2); (try clear hk); (try clear hi); have hnb143 := NB197_213.out; have hnc143 := NB213_197.out; have hnb144 := NB197_217.out; have hnc144 := NB217_197.out; have hcz145_0 : w142.cell? ⟨gb197, 0, none⟩ = some (.slice A0_0 l0_0.length c0_0) := (blk_cell BK197.out 0).trans rfl; have hfz145_0 := blk_frozen BK197.out 0) | ((with_reducible refine gate_callee (f := 47) rfl ?_); refine goesL_ (some 115) rfl rfl Try.func47 (by kernel_rfl) rfl #[.agg #[.slice A0_0 l0_0.length c0_0]] rfl (by (try simp only [List.map_toArray, List.map_cons, List.map_nil]); first | done | rfl | (simp only [List.length_drop, List.length_take]; rfl)) ?_; (with_reducible refine (laws_toGateway.calls kj89 _ _ l0_0 t252 _ ?side1 ?side2 A131.out).mono ?_); (case side1 => repeat (first | exact (Kd.C_below HR0_0.out HB.out) | (with_reducible refine Kd.C_alloc ?_ _) | (with_reducible refine Kd.C_drewN ?_ _) | (with_reducible refine Kd.C_drew ?_))); (case side2 => exact HC0_0.out); rintro e w146 ⟨v253, rfl, ho0, hb⟩; refine ⟨_, rfl, ?_⟩; have n0_ := Aside0.mk (Kd.R_elder' (pkr HO_214000.out) (Kd.R_base ho0) hb); have n1_ := Aside0.mk (Kd.R_elder' (pkr HO_218000.out) (Kd.R_base ho0) hb); have n2_ := Aside0.mk (Kd.R_elder' (pkr HO_229000.out) (Kd.R_base ho0) hb); have n3_ := Aside0.mk (Kd.R_lower (Kd.R_new' (Kd.R_new' (Kd.R_new' ho0 (Kd.R_lt (pkr HO_214000.out))) (Kd.R_lt (pkr HO_218000.out))) (Kd.R_lt (pkr HO_229000.out))) (below_size (by repeat (first | (with_reducible first | exact HB.out | apply below_alloc | apply pw_below_drewN | apply below_drew1 | refine below_set ?_ GE197.out | refine below_set ?_ GE213.out | refine below_set ?_ GE217.out | refine below_set ?_ GE228.out) | exact HB.out)))); have n4_ := Aside0.mk (blk_below (g := gb197) (o := .cells #[.slice A0_0 l0_0.length c0_0] 61 (0, 0)) (pkb BK197.out) hb); have n5_ := Aside0.mk (blk_below (g := gb213) (o := .cells #[.slice Ao37 t209.length co37] 66 (0, 0)) (pkb BK213.out) hb); have n6_ := Aside0.mk (blk_below (g := gb217) (o := .cells #[.slice Ao43 t243.length co43] 66 (0, 0)) (pkb BK217.out) hb); have n7_ := Aside0.mk (blk_below (g := gb228) (o := .cells #[.slice Ao54 t224.length co54] 66 (0, 0)) (pkb BK228.out) hb); have n8_ := Aside0.mk (below_step (by repeat (first | (with_reducible first | exact HB.out | apply below_alloc | apply pw_below_drewN | apply below_drew1 | refine below_set ?_ GE197.out | refine below_set ?_ GE213.out | refine below_set ?_ GE217.out | refine below_set ?_ GE228.out) | exact HB.out)) hb); clear HO_214000; clear HO_218000; clear HO_229000; clear BK197; clear BK213; clear BK217; clear BK228; clear HB; have HO_214000 := n0_; have HO_218000 := n1_; have HO_229000 := n2_; have HO254 := n3_; have BK197 := n4_; have BK213 := n5_; have BK217 := n6_; have BK228 := n7_; have HB := n8_; clear n0_ n1_ n2_ n3_ n4_ n5_ n6_ n7_ n8_; (try clear hb); (try clear hb2); (try clear hk); (try clear hi); (try clear ho0)) | ((with_reducible refine gate_callee (f := 48) rfl ?_); refine goesL_ (some 117) rfl rfl Try.func48 (by kernel_rfl) rfl #[.slice A1 l1.length c1] rfl (by (try simp only [List.map_toArray, List.map_cons, List.map_nil]); first | done | rfl | (simp only [List.length_drop, List.length_take]; rfl)) ?_; (with_reducible refine (laws_toPacketS.calls kj89 _ _ l1 t255 _ ?side1 ?side2 A132.out).mono ?_); (case side1 => repeat (first | exact (Kd.C_below HR1.out HB.out) | (with_reducible refine Kd.C_alloc ?_ _) | (with_reducible refine Kd.C_drewN ?_ _) | (with_reducible refine Kd.C_drew ?_))); (case side2 => exact HC1.out); rintro e w147 ⟨v256, rfl, ho0, hb⟩; refine ⟨_, rfl, ?_⟩; have n0_ := Aside0.mk (Kd.R_below (pkr HO_214000.out) hb); have n1_ := Aside0.mk (Kd.R_below (pkr HO_218000.out) hb); have n2_ := Aside0.mk (Kd.R_below (pkr HO_229000.out) hb); have n3_ := Aside0.mk (Kd.R_below (pkr HO254.out) hb); have n4_ := Aside0.mk (Kd.R_lower ho0 (below_size (by repeat (first | (with_reducible first | exact HB.out | apply below_alloc | apply pw_below_drewN | apply below_drew1 | refine below_set ?_ GE197.out | refine below_set ?_ GE213.out | refine below_set ?_ GE217.out | refine below_set ?_ GE228.out) | exact HB.out)))); have n5_ := Aside0.mk (blk_below (g := gb197) (o := .cells #[.slice A0_0 l0_0.length c0_0] 61 (0, 0)) (pkb BK197.out) hb); have n6_ := Aside0.mk (blk_below (g := gb213) (o := .cells #[.slice Ao37 t209.length co37] 66 (0, 0)) (pkb BK213.out) hb); have n7_ := Aside0.mk (blk_below (g := gb217) (o := .cells #[.slice Ao43 t243.length co43] 66 (0, 0)) (pkb BK217.out) hb); have n8_ := Aside0.mk (blk_below (g := gb228) (o := .cells #[.slice Ao54 t224.length co54] 66 (0, 0)) (pkb BK228.out) hb); have n9_ := Aside0.mk (below_step (by repeat (first | (with_reducible first | exact HB.out | apply below_alloc | apply pw_below_drewN | apply below_drew1 | refine below_set ?_ GE197.out | refine below_set ?_ GE213.out | refine below_set ?_ GE217.out | refine below_set ?_ GE228.out) | exact HB.out)) hb); clear HO_214000; clear HO_218000; clear HO_229000; clear HO254; clear BK197; clear BK213; clear BK217; clear BK228; clear HB; have HO_214000 := n0_; have HO_218000 := n1_; have HO_229000 := n2_; have HO254 := n3_; have HO257 := n4_; have BK197 := n5_; have BK213 := n6_; have BK217 := n7_; have BK228 := n8_; have HB := n9_; clear n0_ n1_ n2_ n3_ n4_ n5_ n6_ n7_ n8_ n9_; (try clear hb); (try clear hb2); (try clear hk); (try clear hi); (try clear ho0)) | ((with_reducible refine gate_callee (f := 49) rfl ?_); refine goesL_ (some 119) rfl rfl Try.func49 (by kernel_rfl) rfl #[.slice A2 l2.length c2] rfl (by (try simp only [List.map_toArray, List.map_cons, List.map_nil]); first | done | rfl | (simp only [List.length_drop, List.length_take]; rfl)) ?_; (with_reducible refine (laws_toBoolS.calls kj89 _ _ l2 t258 _ ?side1 ?side2 A133.out).mono ?_); (case side1 => repeat (first | exact (Kd.C_below HR2.out HB.out) | (with_reducible refine Kd.C_alloc ?_ _) | (with_reducible refine Kd.C_drewN ?_ _) | (with_reducible refine Kd.C_drew ?_))); (case side2 => exact HC2.out); rintro e w148 ⟨v259, rfl, ho0, hb⟩; refine ⟨_, rfl, ?_⟩; have n0_ := Aside0.mk (Kd.R_below (pkr HO_214000.out) hb); have n1_ := Aside0.mk (Kd.R_below (pkr HO_218000.out) hb); have n2_ := Aside0.mk (Kd.R_below (pkr HO_229000.out) hb); have n3_ := Aside0.mk (Kd.R_below (pkr HO254.out) hb); have n4_ := Aside0.mk (Kd.R_below (pkr HO257.out) hb); have n5_ := Aside0.mk (Kd.R_lower ho0 (below_size (by repeat (first | (with_reducible first | exact HB.out | apply below_alloc | apply pw_below_drewN | apply below_drew1 | refine below_set ?_ GE197.out | refine below_set ?_ GE213.out | refine below_set ?_ GE217.out | refine below_set ?_ GE228.out) | exact HB.out)))); have n6_ := Aside0.mk (blk_below (g := gb197) (o := .cells #[.slice A0_0 l0_0.length c0_0] 61 (0, 0)) (pkb BK197.out) hb); have n7_ := Aside0.mk (blk_below (g := gb213) (o := .cells #[.slice Ao37 t209.length co37] 66 (0, 0)) (pkb BK213.out) hb); have n8_ := Aside0.mk (blk_below (g := gb217) (o := .cells #[.slice Ao43 t243.length co43] 66 (0, 0)) (pkb BK217.out) hb); have n9_ := Aside0.mk (blk_below (g := gb228) (o := .cells #[.slice Ao54 t224.length co54] 66 (0, 0)) (pkb BK228.out) hb); have n10_ := Aside0.mk (below_step (by repeat (first | (with_reducible first | exact HB.out | apply below_alloc | apply pw_below_drewN | apply below_drew1 | refine below_set ?_ GE197.out | refine below_set ?_ GE213.out | refine below_set ?_ GE217.out | refine below_set ?_ GE228.out) | exact HB.out)) hb); clear HO_214000; clear HO_218000; clear HO_229000; clear HO254; clear HO257; clear BK197; clear BK213; clear BK217; clear BK228; clear HB; have HO_214000 := n0_; have HO_218000 := n1_; have HO_229000 := n2_; have HO254 := n3_; have HO257 := n4_; have HO260 := n5_; have BK197 := n6_; have BK213 := n7_; have BK217 := n8_; have BK228 := n9_; have HB := n10_; clear n0_ n1_ n2_ n3_ n4_ n5_ n6_ n7_ n8_ n9_ n10_; (try clear hb); (try clear hb2); (try clear hk); (try clear hi); (try clear ho0); obtain ⟨Ao149, co149, eo149⟩ := Kd.R_slice HO254.out; subst eo149; obtain ⟨Ao150, co150, eo150⟩ := Kd.R_slice HO257.out; subst eo150; obtain ⟨Ao151, co151, eo151⟩ := Kd.R_slice HO260.out; subst eo151) | ((with_reducible refine gate_callee (f := 50) rfl ?_); refine goesL_ (some 120) rfl rfl Try.func50 (by kernel_rfl) rfl #[.agg #[.slice Ao149 t252.length co149], .slice Ao150 t255.length co150, .slice Ao151 t258.length co151] rfl (by (try simp only [List.map_toArray, List.map_cons, List.map_nil]); first | done | rfl | (simp only [List.length_drop, List.length_take]; rfl)) ?_; (with_reducible refine (impl_ReceiveAll.calls kj89 _ _ t252 _ _ t255 _ _ t258 t261 t264 _ ?side1 ?side2 ?side3 ?side4 ?side5 ?side6 A134.out).mono ?_); (case side1 => repeat (first | exact (Kd.R_reads' HO254.out).2.2 | (with_reducible refine Kd.C_alloc ?_ _) | (with_reducible refine Kd.C_drewN ?_ _) | (with_reducible refine Kd.C_drew ?_))); (case side2 => exact (Kd.R_reads' HO254.out).2.1); (case side3 => repeat (first | exact (Kd.R_reads' HO257.out).2.2 | (with_reducible refine Kd.C_alloc ?_ _) | (with_reducible refine Kd.C_drewN ?_ _) | (with_reducible refine Kd.C_drew ?_))); (case side4 => exact (Kd.R_reads' HO257.out).2.1); (case side5 => repeat (first | exact (Kd.R_reads' HO260.out).2.2 | (with_reducible refine Kd.C_alloc ?_ _) | (with_reducible refine Kd.C_drewN ?_ _) | (with_reducible refine Kd.C_drew ?_))); (case side6 => exact (Kd.R_reads' HO260.out).2.1); rintro e w152 ⟨v262, rfl, ho0, hb⟩; refine ⟨_, rfl, ?_⟩; have n0_ := Aside0.mk (Kd.R_elder' (pkr HO_214000.out) (Kd.R_base ho0) hb); have n1_ := Aside0.mk (Kd.R_elder' (pkr HO_218000.out) (Kd.R_base ho0) hb); have n2_ := Aside0.mk (Kd.R_elder' (pkr HO_229000.out) (Kd.R_base ho0) hb); have n3_ := Aside0.mk (Kd.R_elder' (pkr HO254.out) (Kd.R_base ho0) hb); have n4_ := Aside0.mk (Kd.R_below (pkr HO257.out) hb); have n5_ := Aside0.mk (Kd.R_below (pkr HO260.out) hb); have n6_ := Aside0.mk (Kd.R_lower (Kd.R_new' (Kd.R_new' (Kd.R_new' (Kd.R_new' ho0 (Kd.R_lt (pkr HO_214000.out))) (Kd.R_lt (pkr HO_218000.out))) (Kd.R_lt (pkr HO_229000.out))) (Kd.R_lt (pkr HO254.out))) (below_size (by repeat (first | (with_reducible first | exact HB.out | apply below_alloc | apply pw_below_drewN | apply below_drew1 | refine below_set ?_ GE197.out | refine below_set ?_ GE213.out | refine below_set ?_ GE217.out | refine below_set ?_ GE228.out) | exact HB.out)))); have n7_ := Aside0.mk (blk_below (g := gb197) (o := .cells #[.slice A0_0 l0_0.length c0_0] 61 (0, 0)) (pkb BK197.out) hb); have n8_ := Aside0.mk (blk_below (g := gb213) (o := .cells #[.slice Ao37 t209.length co37] 66 (0, 0)) (pkb BK213.out) hb); have n9_ := Aside0.mk (blk_below (g := gb217) (o := .cells #[.slice Ao43 t243.length co43] 66 (0, 0)) (pkb BK217.out) hb); have n10_ := Aside0.mk (blk_below (g := gb228) (o := .cells #[.slice Ao54 t224.length co54] 66 (0, 0)) (pkb BK228.out) hb); have n11_ := Aside0.mk (below_step (by repeat (first | (with_reducible first | exact HB.out | apply below_alloc | apply pw_below_drewN | apply below_drew1 | refine below_set ?_ GE197.out | refine below_set ?_ GE213.out | refine below_set ?_ GE217.out | refine below_set ?_ GE228.out) | exact HB.out)) hb); clear HO_214000; clear HO_218000; clear HO_229000; clear HO254; clear HO257; clear HO260; clear BK197; clear BK213; clear BK217; clear BK228; clear HB; have HO_214000 := n0_; have HO_218000 := n1_; have HO_229000 := n2_; have HO254 := n3_; have HO257 := n4_; have HO260 := n5_; have HO263 := n6_; have BK197 := n7_; have BK213 := n8_; have BK217 := n9_; have BK228 := n10_; have HB := n11_; clear n0_ n1_ n2_ n3_ n4_ n5_ n6_ n7_ n8_ n9_ n10_ n11_; (try clear hb); (try clear hb2); (try clear hk); (try clear hi); (try clear ho0)) | ((with_reducible refine gate_dst (N := 18) rfl ?_); refine box_event ?hg (N := 18) ?hd (cs := #[.slice none 0 0]) (t := 66) ?hr ?_; (case hd => rfl); (case hg => rfl); (case hr => first | (go_simp; done) | (go_simp; rfl)); intro gb265 hg w153 hbox hb; have n0_ := Aside0.mk (Kd.R_below (pkr HO_214000.out) hb); have n1_ := Aside0.mk (Kd.R_below (pkr HO_218000.out) hb); have n2_ := Aside0.mk (Kd.R_below (pkr HO_229000.out) hb); have n3_ := Aside0.mk (Kd.R_below (pkr HO254.out) hb); have n4_ := Aside0.mk (Kd.R_below (pkr HO257.out) hb); have n5_ := Aside0.mk (Kd.R_below (pkr HO260.out) hb); have n6_ := Aside0.mk (Kd.R_below (pkr HO263.out) hb); have n7_ := Aside0.mk (blk_below (g := gb197) (o := .cells #[.slice A0_0 l0_0.length c0_0] 61 (0, 0)) (pkb BK197.out) hb); have n8_ := Aside0.mk (blk_below (g := gb213) (o := .cells #[.slice Ao37 t209.length co37] 66 (0, 0)) (pkb BK213.out) hb); have n9_ := Aside0.mk (blk_below (g := gb217) (o := .cells #[.slice Ao43 t243.length co43] 66 (0, 0)) (pkb BK217.out) hb); have n10_ := Aside0.mk (blk_below (g := gb228) (o := .cells #[.slice Ao54 t224.length co54] 66 (0, 0)) (pkb BK228.out) hb); have n11_ := Aside0.mk (below_step (by repeat (first | (with_reducible first | exact HB.out | apply below_alloc | apply pw_below_drewN | apply below_drew1 | refine below_set ?_ GE197.out | refine below_set ?_ GE213.out | refine below_set ?_ GE217.out | refine below_set ?_ GE228.out) | exact HB.out)) hb); have n12_ := Aside0.mk (hbox); have n13_ := Aside0.mk ((by rw [hg]; exact (below_size (by repeat (first | (with_reducible first | exact HB.out | apply below_alloc | apply pw_below_drewN | apply below_drew1 | refine below_set ?_ GE197.out | refine below_set ?_ GE213.out | refine below_set ?_ GE217.out | refine below_set ?_ GE228.out) | exact HB.out))) : w.heap.size ≤ gb265)); have n14_ := Aside0.mk ((by rw [hg]; exact (below_size (by repeat (first | (with_reducible first | exact HB.out | apply below_alloc | apply pw_below_drewN | apply below_drew1 | refine below_set ?_ GE197.out | refine below_set ?_ GE213.out | refine below_set ?_ GE217.out | refine below_set ?_ GE228.out) | exact HB.out))) : w.heap.size ≤ gb265)); have n15_ := Aside0.mk ((by rw [hg]; exact Nat.ne_of_lt (blk_lt (g := gb197) (o := .cells #[.slice A0_0 l0_0.length c0_0] 61 (0, 0)) (pkb BK197.out)) : gb197 ≠ gb265)); have n16_ := Aside0.mk ((by rw [hg]; exact Nat.ne_of_gt (blk_lt (g := gb197) (o := .cells #[.slice A0_0 l0_0.length c0_0] 61 (0, 0)) (pkb BK197.out)) : gb265 ≠ gb197)); have n17_ := Aside0.mk ((by rw [hg]; exact Nat.ne_of_lt (blk_lt (g := gb213) (o := .cells #[.slice Ao37 t209.length co37] 66 (0, 0)) (pkb BK213.out)) : gb213 ≠ gb265)); have n18_ := Aside0.mk ((by rw [hg]; exact Nat.ne_of_gt (blk_lt (g := gb213) (o := .cells #[.slice Ao37 t209.length co37] 66 (0, 0)) (pkb BK213.out)) : gb265 ≠ gb213)); have n19_ := Aside0.mk ((by rw [hg]; exact Nat.ne_of_lt (blk_lt (g := gb217) (o := .cells #[.slice Ao43 t243.length co43] 66 (0, 0)) (pkb BK217.out)) : gb217 ≠ gb265)); have n20_ := Aside0.mk ((by rw [hg]; exact Nat.ne_of_gt (blk_lt (g := gb217) (o := .cells #[.slice Ao43 t243.length co43] 66 (0, 0)) (pkb BK217.out)) : gb265 ≠ gb217)); have n21_ := Aside0.mk ((by rw [hg]; exact Nat.ne_of_lt (blk_lt (g := gb228) (o := .cells #[.slice Ao54 t224.length co54] 66 (0, 0)) (pkb BK228.out)) : gb228 ≠ gb265)); have n22_ := Aside0.mk ((by rw [hg]; exact Nat.ne_of_gt (blk_lt (g := gb228) (o := .cells #[.slice Ao54 t224.length co54] 66 (0, 0)) (pkb BK228.out)) : gb265 ≠ gb228)); clear HO_214000; clear HO_218000; clear HO_229000; clear HO254; clear HO257; clear HO260; clear HO263; clear BK197; clear BK213; clear BK217; clear BK228; clear HB; have HO_214000 := n0_; have HO_218000 := n1_; have HO_229000 := n2_; have HO254 := n3_; have HO257 := n4_; have HO260 := n5_; have HO263 := n6_; have BK197 := n7_; have BK213 := n8_; have BK217 := n9_; have BK228 := n10_; have HB := n11_; have BK265 := n12_; have GW265 := n13_; have GE265 := n14_; have NB197_265 := n15_; have NB265_197 := n16_; have NB213_265 := n17_; have NB265_213 := n18_; have NB217_265 := n19_; have NB265_217 := n20_; have NB228_265 := n21_; have NB265_228 := n22_; clear n0_ n1_ n2_ n3_ n4_ n5_ n6_ n7_ n8_ n9_ n10_ n11_ n12_ n13_ n14_ n15_ n16_ n17_ n18_ n19_ n20_ n21_ n22_; clear hb hbox hg; obtain ⟨Ao154, co154, eo154⟩ := Kd.R_slice HO263.out; subst eo154; have hnb155 := NB265_197.out; have hnc155 := NB197_265.out; have hnb156 := NB265_213.out; have hnc156 := NB213_265.out; have hnb157 := NB265_217.out; have hnc157 := NB217_265.out; have hnb158 := NB265_228.out; have hnc158 := NB228_265.out; have hcz159_0 : w153.cell? ⟨gb265, 0, none⟩ = some (.slice none 0 0) := (blk_cell BK265.out 0).trans rfl; have hfz159_0 := blk_frozen BK265.out 0))
               (try simp only [Act.put, List.setIfInBounds_toArray, List.set_cons_zero, List.set_cons_succ])
               go_cut [131] (fun v131 wc => ∃ (kq : Nat) (x131_134 : Bool), v131 = .bool x131_134 ∧ Aside0 (laws_FnExactReceiveAll.j2 kq t249 x131_134 t250 = some r) ∧ Aside0 (kq ≤ kj89) ∧ Aside0 (Kd.R (Kd.int .i64) 3 wc w.heap.size (fun k_ => some k_ ≠ ((.slice Ao43 t243.length co43) : Value).ownBlock ∧ some k_ ≠ ((.slice Ao54 t224.length co54) : Value).ownBlock ∧ some k_ ≠ ((.slice Ao154 t261.length co154) : Value).ownBlock) (.slice Ao37 t209.length co37) t209) ∧ Aside0 (Kd.R (Kd.int .i64) 3 wc w.heap.size (fun k_ => some k_ ≠ ((.slice Ao37 t209.length co37) : Value).ownBlock ∧ some k_ ≠ ((.slice Ao54 t224.length co54) : Value).ownBlock ∧ some k_ ≠ ((.slice Ao154 t261.length co154) : Value).ownBlock) (.slice Ao43 t243.length co43) t243) ∧ Aside0 (Kd.R (Kd.int .i64) 3 wc w.heap.size (fun k_ => some k_ ≠ ((.slice Ao37 t209.length co37) : Value).ownBlock ∧ some k_ ≠ ((.slice Ao43 t243.length co43) : Value).ownBlock ∧ some k_ ≠ ((.slice Ao154 t261.length co154) : Value).ownBlock) (.slice Ao54 t224.length co54) t250) ∧ Aside0 (Kd.R (Kd.int .i64) 3 wc w.heap.size (fun k_ => some k_ ≠ ((.slice Ao37 t209.length co37) : Value).ownBlock ∧ some k_ ≠ ((.slice Ao43 t243.length co43) : Value).ownBlock ∧ some k_ ≠ ((.slice Ao54 t224.length co54) : Value).ownBlock) (.slice Ao154 t261.length co154) t261) ∧ Aside0 (wc.heap[gb197]? = some (.cells #[(.slice A0_0 l0_0.length c0_0)] 61 (0, 0))) ∧ Aside0 (wc.heap[gb213]? = some (.cells #[(.slice Ao37 t209.length co37)] 66 (0, 0))) ∧ Aside0 (wc.heap[gb217]? = some (.cells #[(.slice Ao43 t243.length co43)] 66 (0, 0))) ∧ Aside0 (wc.heap[gb228]? = some (.cells #[(.slice Ao54 t224.length co54)] 66 (0, 0))) ∧ Aside0 (wc.heap[gb265]? = some (.cells #[(.slice Ao154 t261.length co154)] 66 (0, 0))) ∧ Aside0 (Below w.heap.size w wc))
               case first =>
                have H := HC135.out
                clear HC135
                replace H := Option.bind_eq_some_iff.mp H
                obtain ⟨t266, A1600, H⟩ := H
                replace H : (if t266 = true then (laws_FnExactReceiveAll.j2 kj89 t249 (t264 != t212) t250) else (laws_FnExactReceiveAll.j2 kj89 t249 true t250)) = some r := H
                have A160 := Aside0.mk A1600
                clear A1600
                by_cases c161 : t266 = true
                ·subst c161
                 have H1 : (laws_FnExactReceiveAll.j2 kj89 t249 (t264 != t212) t250) = some r := by rw [if_pos rfl] at H; exact H
                 clear H
                 have H := H1
                 clear H1
                 have H' := Aside0.mk H
                 clear H
                 have hnb162 := NB265_197.out
                 have hnc162 := NB197_265.out
                 have hnb163 := NB265_213.out
                 have hnc163 := NB213_265.out
                 have hnb164 := NB265_217.out
                 have hnc164 := NB217_265.out
                 have hnb165 := NB265_228.out
                 have hnc165 := NB228_265.out
                 have hcz166_0 : w153.cell? ⟨gb265, 0, none⟩ = some (.slice none 0 0) := (blk_cell BK265.out 0).trans rfl
                 have hfz166_0 := blk_frozen BK265.out 0
                 have hnb167 := NB213_197.out
                 have hnc167 := NB197_213.out
                 have hnb168 := NB213_217.out
                 have hnc168 := NB217_213.out
                 have hnb169 := NB213_228.out
                 have hnc169 := NB228_213.out
                 have hcz170_0 : w153.cell? ⟨gb213, 0, none⟩ = some (.slice Ao37 t209.length co37) := (blk_cell BK213.out 0).trans rfl
                 have hfz170_0 := blk_frozen BK213.out 0
                 go_wp2_with (first | ((with_reducible refine gate_callee (f := 51) rfl ?_); refine goesL_ (some 125) rfl rfl Try.func51 (by kernel_rfl) rfl #[.agg #[.slice Ao154 t261.length co154], .agg #[.slice Ao37 t209.length co37]] rfl (by (try simp only [List.map_toArray, List.map_cons, List.map_nil]); first | done | rfl | (simp only [List.length_drop, List.length_take]; rfl)) ?_; (with_reducible refine (laws_eqGateway.calls kj89 _ _ t261 _ _ t209 true _ ?side1 ?side2 ?side3 ?side4 A160.out).mono ?_); (case side1 => refine (Kd.R_reads' (e := 3) (base := w.heap.size) (ok := fun k_ => ((((True ∧ some k_ ≠ (.slice Ao37 t209.length co37 : Value).ownBlock) ∧ some k_ ≠ (.slice Ao43 t243.length co43 : Value).ownBlock) ∧ some k_ ≠ (.slice Ao54 t224.length co54 : Value).ownBlock) ∧ some k_ ≠ (.slice Ao149 t252.length co149 : Value).ownBlock)) (n := t261.length) (c := co154) ?_).2.2; exact (pkr ((Kd.R_mono (Kd.R_far (p := ⟨gb265, 0, none⟩) (Kd.R_types HO263.out BK265.out (by decide)) (fun _ hk => by first | exact hk.2 | simp_all) (.slice Ao154 t261.length co154)) (fun _ h_ => by first | exact h_.1 | simp_all))))); (case side2 => exact (Kd.R_reads' HO263.out).2.1); (case side3 => refine (Kd.R_reads' (e := 3) (base := w.heap.size) (ok := fun k_ => (((some k_ ≠ (.slice Ao43 t243.length co43 : Value).ownBlock ∧ some k_ ≠ (.slice Ao54 t224.length co54 : Value).ownBlock) ∧ some k_ ≠ (.slice Ao149 t252.length co149 : Value).ownBlock) ∧ some k_ ≠ (.slice Ao154 t261.length co154 : Value).ownBlock)) (n := t209.length) (c := co37) ?_).2.2; exact (pkr ((Kd.R_mono (Kd.R_far (p := ⟨gb265, 0, none⟩) (Kd.R_types HO_214000.out BK265.out (by decide)) (fun _ hk => by first | exact hk.2 | simp_all) (.slice Ao154 t261.length co154)) (fun _ h_ => by first | exact h_.1 | simp_all))))); (case side4 => exact (Kd.R_reads' HO_214000.out).2.1); rintro e w171 ⟨rfl, hb⟩; refine ⟨_, rfl, ?_⟩; have n0_ := Aside0.mk (Kd.R_below (pkr ((Kd.R_mono (Kd.R_far (p := ⟨gb265, 0, none⟩) (Kd.R_types HO_214000.out BK265.out (by decide)) (fun _ hk => by first | exact hk.2 | simp_all) (.slice Ao154 t261.length co154)) (fun _ h_ => by first | exact h_.1 | simp_all)))) hb); have n1_ := Aside0.mk (Kd.R_below (pkr ((Kd.R_mono (Kd.R_far (p := ⟨gb265, 0, none⟩) (Kd.R_types HO_218000.out BK265.out (by decide)) (fun _ hk => by first | exact hk.2 | simp_all) (.slice Ao154 t261.length co154)) (fun _ h_ => by first | exact h_.1 | simp_all)))) hb); have n2_ := Aside0.mk (Kd.R_below (pkr ((Kd.R_mono (Kd.R_far (p := ⟨gb265, 0, none⟩) (Kd.R_types HO_229000.out BK265.out (by decide)) (fun _ hk => by first | exact hk.2 | simp_all) (.slice Ao154 t261.length co154)) (fun _ h_ => by first | exact h_.1 | simp_all)))) hb); have n3_ := Aside0.mk (Kd.R_below (pkr ((Kd.R_mono (Kd.R_far (p := ⟨gb265, 0, none⟩) (Kd.R_types HO254.out BK265.out (by decide)) (fun _ hk => by first | exact hk.2 | simp_all) (.slice Ao154 t261.length co154)) (fun _ h_ => by first | exact h_.1 | simp_all)))) hb); have n4_ := Aside0.mk (Kd.R_below (pkr ((Kd.R_mono (Kd.R_far (p := ⟨gb265, 0, none⟩) (Kd.R_types HO257.out BK265.out (by decide)) (fun _ hk => by first | exact hk.2 | simp_all) (.slice Ao154 t261.length co154)) (fun _ h_ => by first | exact h_.1 | simp_all)))) hb); have n5_ := Aside0.mk (Kd.R_below (pkr ((Kd.R_mono (Kd.R_far (p := ⟨gb265, 0, none⟩) (Kd.R_types HO260.out BK265.out (by decide)) (fun _ hk => by first | exact hk.2 | simp_all) (.slice Ao154 t261.length co154)) (fun _ h_ => by first | exact h_.1 | simp_all)))) hb); have n6_ := Aside0.mk (Kd.R_below (pkr ((Kd.R_mono (Kd.R_far (p := ⟨gb265, 0, none⟩) (Kd.R_types HO263.out BK265.out (by decide)) (fun _ hk => by first | exact hk.2 | simp_all) (.slice Ao154 t261.length co154)) (fun _ h_ => by first | exact h_.1 | simp_all)))) hb); have n7_ := Aside0.mk (blk_below (g := gb197) (o := .cells #[.slice A0_0 l0_0.length c0_0] 61 (0, 0)) (by (with_reducible repeat (first | refine blk_drewN ?_ _ | refine blk_drew ?_ | refine blk_alloc ?_ _)); refine blk_far ?_ NB197_265.out _; (with_reducible repeat (first | refine blk_drewN ?_ _ | refine blk_drew ?_ | refine blk_alloc ?_ _)); exact BK197.out) hb); have n8_ := Aside0.mk (blk_below (g := gb213) (o := .cells #[.slice Ao37 t209.length co37] 66 (0, 0)) (by (with_reducible repeat (first | refine blk_drewN ?_ _ | refine blk_drew ?_ | refine blk_alloc ?_ _)); refine blk_far ?_ NB213_265.out _; (with_reducible repeat (first | refine blk_drewN ?_ _ | refine blk_drew ?_ | refine blk_alloc ?_ _)); exact BK213.out) hb); have n9_ := Aside0.mk (blk_below (g := gb217) (o := .cells #[.slice Ao43 t243.length co43] 66 (0, 0)) (by (with_reducible repeat (first | refine blk_drewN ?_ _ | refine blk_drew ?_ | refine blk_alloc ?_ _)); refine blk_far ?_ NB217_265.out _; (with_reducible repeat (first | refine blk_drewN ?_ _ | refine blk_drew ?_ | refine blk_alloc ?_ _)); exact BK217.out) hb); have n10_ := Aside0.mk (blk_below (g := gb228) (o := .cells #[.slice Ao54 t224.length co54] 66 (0, 0)) (by (with_reducible repeat (first | refine blk_drewN ?_ _ | refine blk_drew ?_ | refine blk_alloc ?_ _)); refine blk_far ?_ NB228_265.out _; (with_reducible repeat (first | refine blk_drewN ?_ _ | refine blk_drew ?_ | refine blk_alloc ?_ _)); exact BK228.out) hb); have n11_ := Aside0.mk (blk_below (g := gb265) (o := .cells #[.slice Ao154 t261.length co154] 66 (0, 0)) (by (with_reducible repeat (first | refine blk_drewN ?_ _ | refine blk_drew ?_ | refine blk_alloc ?_ _)); refine blk_put (cs := #[.slice none 0 0]) ?_ 0 _ rfl; (with_reducible repeat (first | refine blk_drewN ?_ _ | refine blk_drew ?_ | refine blk_alloc ?_ _)); exact BK265.out) hb); have n12_ := Aside0.mk (below_step (by repeat (first | (with_reducible first | exact HB.out | apply below_alloc | apply pw_below_drewN | apply below_drew1 | refine below_set ?_ GE197.out | refine below_set ?_ GE213.out | refine below_set ?_ GE217.out | refine below_set ?_ GE228.out | refine below_set ?_ GE265.out) | exact HB.out)) hb); clear HO_214000; clear HO_218000; clear HO_229000; clear HO254; clear HO257; clear HO260; clear HO263; clear BK197; clear BK213; clear BK217; clear BK228; clear BK265; clear HB; have HO_214000 := n0_; have HO_218000 := n1_; have HO_229000 := n2_; have HO254 := n3_; have HO257 := n4_; have HO260 := n5_; have HO263 := n6_; have BK197 := n7_; have BK213 := n8_; have BK217 := n9_; have BK228 := n10_; have BK265 := n11_; have HB := n12_; clear n0_ n1_ n2_ n3_ n4_ n5_ n6_ n7_ n8_ n9_ n10_ n11_ n12_; (try clear hb); (try clear hb2); (try clear hk); (try clear hi)))
                 go_meet
                 case rel => exact ⟨_, ((t264 != t212)), (by first | rfl | (simp; done) | (simp [*]; done)), H', ⟨by have := HJ23.out; have := HJ89.out; first | omega | exact Nat.le_refl _⟩, ⟨by (try simp only [hl218000_89]); (with_reducible repeat (first | apply Kd.R_alloc | apply Kd.R_drewN | apply Kd.R_drew)); exact Kd.R_mono HO_214000.out (fun _ hk => ⟨hk.1.1.1, ⟨hk.1.1.2, hk.2⟩⟩)⟩, ⟨by (try simp only [hl218000_89]); (with_reducible repeat (first | apply Kd.R_alloc | apply Kd.R_drewN | apply Kd.R_drew)); exact Kd.R_mono HO_218000.out (fun _ hk => ⟨hk.1.1.1, ⟨hk.1.1.2, hk.2⟩⟩)⟩, ⟨by (try simp only [hl218000_89]); (with_reducible repeat (first | apply Kd.R_alloc | apply Kd.R_drewN | apply Kd.R_drew)); exact Kd.R_mono HO_229000.out (fun _ hk => ⟨hk.1.1.1, ⟨hk.1.1.2, hk.2⟩⟩)⟩, ⟨by (try simp only [hl218000_89]); (with_reducible repeat (first | apply Kd.R_alloc | apply Kd.R_drewN | apply Kd.R_drew)); exact Kd.R_mono HO263.out (fun _ hk => ⟨hk.1.1.1.2, ⟨hk.1.1.2, hk.1.2⟩⟩)⟩, ⟨by (try simp only [hl218000_89]); (with_reducible repeat (first | refine blk_drewN ?_ _ | refine blk_drew ?_ | refine blk_alloc ?_ _)); exact BK197.out⟩, ⟨by (try simp only [hl218000_89]); (with_reducible repeat (first | refine blk_drewN ?_ _ | refine blk_drew ?_ | refine blk_alloc ?_ _)); exact BK213.out⟩, ⟨by (try simp only [hl218000_89]); (with_reducible repeat (first | refine blk_drewN ?_ _ | refine blk_drew ?_ | refine blk_alloc ?_ _)); exact BK217.out⟩, ⟨by (try simp only [hl218000_89]); (with_reducible repeat (first | refine blk_drewN ?_ _ | refine blk_drew ?_ | refine blk_alloc ?_ _)); exact BK228.out⟩, ⟨by (try simp only [hl218000_89]); (with_reducible repeat (first | refine blk_drewN ?_ _ | refine blk_drew ?_ | refine blk_alloc ?_ _)); exact BK265.out⟩, ⟨by repeat (first | (with_reducible first | exact HB.out | apply below_alloc | apply pw_below_drewN | apply below_drew1 | refine below_set ?_ GE197.out | refine below_set ?_ GE213.out | refine below_set ?_ GE217.out | refine below_set ?_ GE228.out | refine below_set ?_ GE265.out) | exact HB.out)⟩⟩
                ·replace c161 := Bool.eq_false_iff.mpr c161
                 subst c161
                 have H1 : (laws_FnExactReceiveAll.j2 kj89 t249 true t250) = some r := by rw [if_neg (show ¬ (false = true) by decide)] at H; exact H
                 clear H
                 have H := H1
                 clear H1
                 have H' := Aside0.mk H
                 clear H
                 have hnb172 := NB265_197.out
                 have hnc172 := NB197_265.out
                 have hnb173 := NB265_213.out
                 have hnc173 := NB213_265.out
                 have hnb174 := NB265_217.out
                 have hnc174 := NB217_265.out
                 have hnb175 := NB265_228.out
                 have hnc175 := NB228_265.out
                 have hcz176_0 : w153.cell? ⟨gb265, 0, none⟩ = some (.slice none 0 0) := (blk_cell BK265.out 0).trans rfl
                 have hfz176_0 := blk_frozen BK265.out 0
                 have hnb177 := NB213_197.out
                 have hnc177 := NB197_213.out
                 have hnb178 := NB213_217.out
                 have hnc178 := NB217_213.out
                 have hnb179 := NB213_228.out
                 have hnc179 := NB228_213.out
                 have hcz180_0 : w153.cell? ⟨gb213, 0, none⟩ = some (.slice Ao37 t209.length co37) := (blk_cell BK213.out 0).trans rfl
                 have hfz180_0 := blk_frozen BK213.out 0
                 go_wp2_with (first | ((with_reducible refine gate_callee (f := 51) rfl ?_); refine goesL_ (some 125) rfl rfl Try.func51 (by kernel_rfl) rfl #[.agg #[.slice Ao154 t261.length co154], .agg #[.slice Ao37 t209.length co37]] rfl (by (try simp only [List.map_toArray, List.map_cons, List.map_nil]); first | done | rfl | (simp only [List.length_drop, List.length_take]; rfl)) ?_; (with_reducible refine (laws_eqGateway.calls kj89 _ _ t261 _ _ t209 false _ ?side1 ?side2 ?side3 ?side4 A160.out).mono ?_); (case side1 => refine (Kd.R_reads' (e := 3) (base := w.heap.size) (ok := fun k_ => ((((True ∧ some k_ ≠ (.slice Ao37 t209.length co37 : Value).ownBlock) ∧ some k_ ≠ (.slice Ao43 t243.length co43 : Value).ownBlock) ∧ some k_ ≠ (.slice Ao54 t224.length co54 : Value).ownBlock) ∧ some k_ ≠ (.slice Ao149 t252.length co149 : Value).ownBlock)) (n := t261.length) (c := co154) ?_).2.2; exact (pkr ((Kd.R_mono (Kd.R_far (p := ⟨gb265, 0, none⟩) (Kd.R_types HO263.out BK265.out (by decide)) (fun _ hk => by first | exact hk.2 | simp_all) (.slice Ao154 t261.length co154)) (fun _ h_ => by first | exact h_.1 | simp_all))))); (case side2 => exact (Kd.R_reads' HO263.out).2.1); (case side3 => refine (Kd.R_reads' (e := 3) (base := w.heap.size) (ok := fun k_ => (((some k_ ≠ (.slice Ao43 t243.length co43 : Value).ownBlock ∧ some k_ ≠ (.slice Ao54 t224.length co54 : Value).ownBlock) ∧ some k_ ≠ (.slice Ao149 t252.length co149 : Value).ownBlock) ∧ some k_ ≠ (.slice Ao154 t261.length co154 : Value).ownBlock)) (n := t209.length) (c := co37) ?_).2.2; exact (pkr ((Kd.R_mono (Kd.R_far (p := ⟨gb265, 0, none⟩) (Kd.R_types HO_214000.out BK265.out (by decide)) (fun _ hk => by first | exact hk.2 | simp_all) (.slice Ao154 t261.length co154)) (fun _ h_ => by first | exact h_.1 | simp_all))))); (case side4 => exact (Kd.R_reads' HO_214000.out).2.1); rintro e w181 ⟨rfl, hb⟩; refine ⟨_, rfl, ?_⟩; have n0_ := Aside0.mk (Kd.R_below (pkr ((Kd.R_mono (Kd.R_far (p := ⟨gb265, 0, none⟩) (Kd.R_types HO_214000.out BK265.out (by decide)) (fun _ hk => by first | exact hk.2 | simp_all) (.slice Ao154 t261.length co154)) (fun _ h_ => by first | exact h_.1 | simp_all)))) hb); have n1_ := Aside0.mk (Kd.R_below (pkr ((Kd.R_mono (Kd.R_far (p := ⟨gb265, 0, none⟩) (Kd.R_types HO_218000.out BK265.out (by decide)) (fun _ hk => by first | exact hk.2 | simp_all) (.slice Ao154 t261.length co154)) (fun _ h_ => by first | exact h_.1 | simp_all)))) hb); have n2_ := Aside0.mk (Kd.R_below (pkr ((Kd.R_mono (Kd.R_far (p := ⟨gb265, 0, none⟩) (Kd.R_types HO_229000.out BK265.out (by decide)) (fun _ hk => by first | exact hk.2 | simp_all) (.slice Ao154 t261.length co154)) (fun _ h_ => by first | exact h_.1 | simp_all)))) hb); have n3_ := Aside0.mk (Kd.R_below (pkr ((Kd.R_mono (Kd.R_far (p := ⟨gb265, 0, none⟩) (Kd.R_types HO254.out BK265.out (by decide)) (fun _ hk => by first | exact hk.2 | simp_all) (.slice Ao154 t261.length co154)) (fun _ h_ => by first | exact h_.1 | simp_all)))) hb); have n4_ := Aside0.mk (Kd.R_below (pkr ((Kd.R_mono (Kd.R_far (p := ⟨gb265, 0, none⟩) (Kd.R_types HO257.out BK265.out (by decide)) (fun _ hk => by first | exact hk.2 | simp_all) (.slice Ao154 t261.length co154)) (fun _ h_ => by first | exact h_.1 | simp_all)))) hb); have n5_ := Aside0.mk (Kd.R_below (pkr ((Kd.R_mono (Kd.R_far (p := ⟨gb265, 0, none⟩) (Kd.R_types HO260.out BK265.out (by decide)) (fun _ hk => by first | exact hk.2 | simp_all) (.slice Ao154 t261.length co154)) (fun _ h_ => by first | exact h_.1 | simp_all)))) hb); have n6_ := Aside0.mk (Kd.R_below (pkr ((Kd.R_mono (Kd.R_far (p := ⟨gb265, 0, none⟩) (Kd.R_types HO263.out BK265.out (by decide)) (fun _ hk => by first | exact hk.2 | simp_all) (.slice Ao154 t261.length co154)) (fun _ h_ => by first | exact h_.1 | simp_all)))) hb); have n7_ := Aside0.mk (blk_below (g := gb197) (o := .cells #[.slice A0_0 l0_0.length c0_0] 61 (0, 0)) (by (with_reducible repeat (first | refine blk_drewN ?_ _ | refine blk_drew ?_ | refine blk_alloc ?_ _)); refine blk_far ?_ NB197_265.out _; (with_reducible repeat (first | refine blk_drewN ?_ _ | refine blk_drew ?_ | refine blk_alloc ?_ _)); exact BK197.out) hb); have n8_ := Aside0.mk (blk_below (g := gb213) (o := .cells #[.slice Ao37 t209.length co37] 66 (0, 0)) (by (with_reducible repeat (first | refine blk_drewN ?_ _ | refine blk_drew ?_ | refine blk_alloc ?_ _)); refine blk_far ?_ NB213_265.out _; (with_reducible repeat (first | refine blk_drewN ?_ _ | refine blk_drew ?_ | refine blk_alloc ?_ _)); exact BK213.out) hb); have n9_ := Aside0.mk (blk_below (g := gb217) (o := .cells #[.slice Ao43 t243.length co43] 66 (0, 0)) (by (with_reducible repeat (first | refine blk_drewN ?_ _ | refine blk_drew ?_ | refine blk_alloc ?_ _)); refine blk_far ?_ NB217_265.out _; (with_reducible repeat (first | refine blk_drewN ?_ _ | refine blk_drew ?_ | refine blk_alloc ?_ _)); exact BK217.out) hb); have n10_ := Aside0.mk (blk_below (g := gb228) (o := .cells #[.slice Ao54 t224.length co54] 66 (0, 0)) (by (with_reducible repeat (first | refine blk_drewN ?_ _ | refine blk_drew ?_ | refine blk_alloc ?_ _)); refine blk_far ?_ NB228_265.out _; (with_reducible repeat (first | refine blk_drewN ?_ _ | refine blk_drew ?_ | refine blk_alloc ?_ _)); exact BK228.out) hb); have n11_ := Aside0.mk (blk_below (g := gb265) (o := .cells #[.slice Ao154 t261.length co154] 66 (0, 0)) (by (with_reducible repeat (first | refine blk_drewN ?_ _ | refine blk_drew ?_ | refine blk_alloc ?_ _)); refine blk_put (cs := #[.slice none 0 0]) ?_ 0 _ rfl; (with_reducible repeat (first | refine blk_drewN ?_ _ | refine blk_drew ?_ | refine blk_alloc ?_ _)); exact BK265.out) hb); have n12_ := Aside0.mk (below_step (by repeat (first | (with_reducible first | exact HB.out | apply below_alloc | apply pw_below_drewN | apply below_drew1 | refine below_set ?_ GE197.out | refine below_set ?_ GE213.out | refine below_set ?_ GE217.out | refine below_set ?_ GE228.out | refine below_set ?_ GE265.out) | exact HB.out)) hb); clear HO_214000; clear HO_218000; clear HO_229000; clear HO254; clear HO257; clear HO260; clear HO263; clear BK197; clear BK213; clear BK217; clear BK228; clear BK265; clear HB; have HO_214000 := n0_; have HO_218000 := n1_; have HO_229000 := n2_; have HO254 := n3_; have HO257 := n4_; have HO260 := n5_; have HO263 := n6_; have BK197 := n7_; have BK213 := n8_; have BK217 := n9_; have BK228 := n10_; have BK265 := n11_; have HB := n12_; clear n0_ n1_ n2_ n3_ n4_ n5_ n6_ n7_ n8_ n9_ n10_ n11_ n12_; (try clear hb); (try clear hb2); (try clear hk); (try clear hi)))
                 go_meet
                 case rel => exact ⟨_, (true), (by first | rfl | (simp; done) | (simp [*]; done)), H', ⟨by have := HJ23.out; have := HJ89.out; first | omega | exact Nat.le_refl _⟩, ⟨by (try simp only [hl218000_89]); (with_reducible repeat (first | apply Kd.R_alloc | apply Kd.R_drewN | apply Kd.R_drew)); exact Kd.R_mono HO_214000.out (fun _ hk => ⟨hk.1.1.1, ⟨hk.1.1.2, hk.2⟩⟩)⟩, ⟨by (try simp only [hl218000_89]); (with_reducible repeat (first | apply Kd.R_alloc | apply Kd.R_drewN | apply Kd.R_drew)); exact Kd.R_mono HO_218000.out (fun _ hk => ⟨hk.1.1.1, ⟨hk.1.1.2, hk.2⟩⟩)⟩, ⟨by (try simp only [hl218000_89]); (with_reducible repeat (first | apply Kd.R_alloc | apply Kd.R_drewN | apply Kd.R_drew)); exact Kd.R_mono HO_229000.out (fun _ hk => ⟨hk.1.1.1, ⟨hk.1.1.2, hk.2⟩⟩)⟩, ⟨by (try simp only [hl218000_89]); (with_reducible repeat (first | apply Kd.R_alloc | apply Kd.R_drewN | apply Kd.R_drew)); exact Kd.R_mono HO263.out (fun _ hk => ⟨hk.1.1.1.2, ⟨hk.1.1.2, hk.1.2⟩⟩)⟩, ⟨by (try simp only [hl218000_89]); (with_reducible repeat (first | refine blk_drewN ?_ _ | refine blk_drew ?_ | refine blk_alloc ?_ _)); exact BK197.out⟩, ⟨by (try simp only [hl218000_89]); (with_reducible repeat (first | refine blk_drewN ?_ _ | refine blk_drew ?_ | refine blk_alloc ?_ _)); exact BK213.out⟩, ⟨by (try simp only [hl218000_89]); (with_reducible repeat (first | refine blk_drewN ?_ _ | refine blk_drew ?_ | refine blk_alloc ?_ _)); exact BK217.out⟩, ⟨by (try simp only [hl218000_89]); (with_reducible repeat (first | refine blk_drewN ?_ _ | refine blk_drew ?_ | refine blk_alloc ?_ _)); exact BK228.out⟩, ⟨by (try simp only [hl218000_89]); (with_reducible repeat (first | refine blk_drewN ?_ _ | refine blk_drew ?_ | refine blk_alloc ?_ _)); exact BK265.out⟩, ⟨by repeat (first | (with_reducible first | exact HB.out | apply below_alloc | apply pw_below_drewN | apply below_drew1 | refine below_set ?_ GE197.out | refine below_set ?_ GE213.out | refine below_set ?_ GE217.out | refine below_set ?_ GE228.out | refine below_set ?_ GE265.out) | exact HB.out)⟩⟩
               case rest =>
                clear HC135
                try clear c1
                try clear c2
                try clear p2
                try clear c3
                try clear c4
                try clear c4b0
                try clear c4b1
                try clear c5
                try clear c6
                try clear c7
                try clear c7b0
                try clear c8
                try clear c10
                try clear c11
                try clear c12
                try clear c12b0
                try clear c13
                try clear c14
                try clear c15
                try clear c16
                try clear c17
                try clear c38
                try clear c44
                try clear c45
                try clear c46
                try clear c47
                try clear c48
                try clear c49
                try clear c50
                try clear c51
                try clear c52
                try clear c53
                try clear c54
                try clear c55
                try clear c56
                try clear c57
                try clear c60
                try clear c61
                try clear c62
                try clear c63
                try clear c65
                try clear c66
                try clear c69
                try clear c70
                try clear c71
                try clear c73
                try clear c74
                try clear c77
                try clear c80
                try clear c83
                try clear c86
                try clear c100
                try clear c101
                try clear c102
                try clear c107
                try clear c107b0
                try clear c109
                try clear c110
                try clear c111
                try clear c112
                try clear c114
                try clear c115
                try clear c118
                try clear c119
                try clear c120
                try clear c122
                try clear c123
                try clear c126
                try clear c129
                try clear c129b0
                try clear c130
                try clear c130b0
                try clear c130b1
                try clear c136
                try clear c137
                try clear c138
                try clear c143
                try clear c144
                try clear c155
                try clear c156
                try clear c157
                try clear c158
                try clear c161
                try clear c162
                try clear c163
                try clear c164
                try clear c165
                try clear c167
                try clear c168
                try clear c169
                try clear c172
                try clear c173
                try clear c174
                try clear c175
                try clear c177
                try clear c178
                try clear c179
                try clear hcz103_0
                try clear hcz113_0
                try clear hcz116_0
                try clear hcz121_0
                try clear hcz124_0
                try clear hcz139_0
                try clear hcz141_0
                try clear hcz145_0
                try clear hcz14_0
                try clear hcz159_0
                try clear hcz166_0
                try clear hcz170_0
                try clear hcz176_0
                try clear hcz180_0
                try clear hcz26_0
                try clear hcz28_0
                try clear hcz39_0
                try clear hcz40_0
                try clear hcz46_0
                try clear hcz49_0
                try clear hcz58_0
                try clear hcz64_0
                try clear hcz67_0
                try clear hcz72_0
                try clear hcz75_0
                try clear hcz9_0
                try clear hfz103_0
                try clear hfz113_0
                try clear hfz116_0
                try clear hfz121_0
                try clear hfz124_0
                try clear hfz139_0
                try clear hfz141_0
                try clear hfz145_0
                try clear hfz14_0
                try clear hfz159_0
                try clear hfz166_0
                try clear hfz170_0
                try clear hfz176_0
                try clear hfz180_0
                try clear hfz26_0
                try clear hfz28_0
                try clear hfz39_0
                try clear hfz40_0
                try clear hfz46_0
                try clear hfz49_0
                try clear hfz58_0
                try clear hfz64_0
                try clear hfz67_0
                try clear hfz72_0
                try clear hfz75_0
                try clear hfz9_0
                try clear p2
                obtain ⟨kq, x131_134, rfl, HA, HJ134, HO_214000, HO_218000, HO_229000, HO_266000, BK197, BK213, BK217, BK228, BK265, HB⟩ := hcut
                have hl229000_134 := (Kd.R_reads' HO_229000.out).1
                rw [hl229000_134] at HO_229000
                (try simp only [hl229000_134])
                (try simp only [hl229000_134] at BK197)
                (try simp only [hl229000_134] at BK213)
                (try simp only [hl229000_134] at BK217)
                (try simp only [hl229000_134] at BK228)
                (try simp only [hl229000_134] at BK265)
                (try simp only [hl229000_134] at HO_214000)
                (try simp only [hl229000_134] at HO_218000)
                (try simp only [hl229000_134] at HO_266000)
                cases kq with
                | zero => exact absurd HA.out (by simp [laws_FnExactReceiveAll.j2])
                | succ kj134 =>
                 have H := HA.out
                 clear HA
                 simp only [laws_FnExactReceiveAll.j2] at H
                 by_cases c182 : x131_134 = true
                 ·subst c182
                  have H1 : (none) = some r := by rw [if_pos rfl] at H; exact H
                  clear H
                  have H := H1
                  clear H1
                  exact absurd H (by simp)
                 ·replace c182 := Bool.eq_false_iff.mpr c182
                  subst c182
                  have H1 : ((laws_heldGateway.f kj134 t250 1).bind fun t267 => (if t267 < 0 then (none) else (if t267 = t249 then (some true) else (none)))) = some r := by rw [if_neg (show ¬ (false = true) by decide)] at H; exact H
                  clear H
                  have H := H1
                  clear H1
                  replace H := Option.bind_eq_some_iff.mp H
                  obtain ⟨t267, A1830, H⟩ := H
                  replace H : (if t267 < 0 then (none) else (if t267 = t249 then (some true) else (none))) = some r := H
                  have A183 := Aside0.mk A1830
                  clear A1830
                  by_cases c184 : t267 < 0
                  ·rw [if_pos c184] at H
                   exact absurd H (by simp)
                  ·rw [if_neg c184] at H
                   have c184b0 : decide (t267 < 0) = false := decide_eq_false c184
                   clear c184
                   by_cases c185 : t267 = t249
                   ·rw [if_pos c185] at H
                    have c185b0 : (t267 == t249) = true := beq_iff_eq.mpr c185
                    have c185b1 : (t267 != t249) = false := bne_eq_false_iff_eq.mpr c185
                    clear c185
                    obtain rfl := Option.some.inj H
                    have hnb186 := NB228_197.out
                    have hnc186 := NB197_228.out
                    have hnb187 := NB228_213.out
                    have hnc187 := NB213_228.out
                    have hnb188 := NB228_217.out
                    have hnc188 := NB217_228.out
                    have hnb189 := NB228_265.out
                    have hnc189 := NB265_228.out
                    have hcz190_0 : wc.cell? ⟨gb228, 0, none⟩ = some (.slice Ao54 t250.length co54) := (blk_cell BK228.out 0).trans rfl
                    have hfz190_0 := blk_frozen BK228.out 0
                    go_wp2_with (first | ((with_reducible refine gate_callee (f := 57) rfl ?_); refine goesL_ (some 134) rfl rfl Try.func57 (by kernel_rfl) rfl #[.agg #[.slice Ao54 t250.length co54], .int .i64 1] rfl (by (try simp only [List.map_toArray, List.map_cons, List.map_nil]); first | done | rfl | (simp only [List.length_drop, List.length_take]; rfl)) ?_; (with_reducible refine (laws_heldGateway.calls kj134 _ _ t250 1 t267 _ ?side1 ?side2 A183.out).mono ?_); (case side1 => repeat (first | exact (Kd.R_reads' HO_229000.out).2.2 | (with_reducible refine Kd.C_alloc ?_ _) | (with_reducible refine Kd.C_drewN ?_ _) | (with_reducible refine Kd.C_drew ?_))); (case side2 => exact (Kd.R_reads' HO_229000.out).2.1); rintro e w191 ⟨rfl, hb⟩; refine ⟨_, rfl, ?_⟩; have n0_ := Aside0.mk (Kd.R_below (pkr HO_214000.out) hb); have n1_ := Aside0.mk (Kd.R_below (pkr HO_218000.out) hb); have n2_ := Aside0.mk (Kd.R_below (pkr HO_229000.out) hb); have n3_ := Aside0.mk (Kd.R_below (pkr HO_266000.out) hb); have n4_ := Aside0.mk (blk_below (g := gb197) (o := .cells #[.slice A0_0 l0_0.length c0_0] 61 (0, 0)) (pkb BK197.out) hb); have n5_ := Aside0.mk (blk_below (g := gb213) (o := .cells #[.slice Ao37 t209.length co37] 66 (0, 0)) (pkb BK213.out) hb); have n6_ := Aside0.mk (blk_below (g := gb217) (o := .cells #[.slice Ao43 t243.length co43] 66 (0, 0)) (pkb BK217.out) hb); have n7_ := Aside0.mk (blk_below (g := gb228) (o := .cells #[.slice Ao54 t250.length co54] 66 (0, 0)) (pkb BK228.out) hb); have n8_ := Aside0.mk (blk_below (g := gb265) (o := .cells #[.slice Ao154 t261.length co154] 66 (0, 0)) (pkb BK265.out) hb); have n9_ := Aside0.mk (below_step (by repeat (first | (with_reducible first | exact HB.out | apply below_alloc | apply pw_below_drewN | apply below_drew1 | refine below_set ?_ GE197.out | refine below_set ?_ GE213.out | refine below_set ?_ GE217.out | refine below_set ?_ GE228.out | refine below_set ?_ GE265.out) | exact HB.out)) hb); clear HO_214000; clear HO_218000; clear HO_229000; clear HO_266000; clear BK197; clear BK213; clear BK217; clear BK228; clear BK265; clear HB; have HO_214000 := n0_; have HO_218000 := n1_; have HO_229000 := n2_; have HO_266000 := n3_; have BK197 := n4_; have BK213 := n5_; have BK217 := n6_; have BK228 := n7_; have BK265 := n8_; have HB := n9_; clear n0_ n1_ n2_ n3_ n4_ n5_ n6_ n7_ n8_ n9_; (try clear hb); (try clear hb2); (try clear hk); (try clear hi)))
                    go_ret
                    exact ⟨by first | rfl | (simp [errW_none, errW_some] <;> rfl) | (simp [*, errW_none, errW_some] <;> rfl), by repeat (first | (with_reducible first | exact HB.out | apply below_alloc | apply pw_below_drewN | apply below_drew1 | refine below_set ?_ GE197.out | refine below_set ?_ GE213.out | refine below_set ?_ GE217.out | refine below_set ?_ GE228.out | refine below_set ?_ GE265.out) | exact HB.out)⟩
                   ·rw [if_neg c185] at H
                    exact absurd H (by simp)
              ·rw [if_neg c130] at H
               exact absurd H (by simp)
         ·replace c86 := Bool.eq_false_iff.mpr c86
          subst c86
          have H1 : (none) = some r := by rw [if_neg (show ¬ (false = true) by decide)] at H; exact H
          clear H
          have H := H1
          clear H1
          exact absurd H (by simp)
        ·replace c83 := Bool.eq_false_iff.mpr c83
         subst c83
         have H1 : (none) = some r := by rw [if_neg (show ¬ (false = true) by decide)] at H; exact H
         clear H
         have H := H1
         clear H1
         exact absurd H (by simp)
       ·replace c80 := Bool.eq_false_iff.mpr c80
        subst c80
        have H1 : (none) = some r := by rw [if_neg (show ¬ (false = true) by decide)] at H; exact H
        clear H
        have H := H1
        clear H1
        exact absurd H (by simp)

end Go.Proofs.Ytkjlpledjnidfaa.PFnExactReceiveAll
