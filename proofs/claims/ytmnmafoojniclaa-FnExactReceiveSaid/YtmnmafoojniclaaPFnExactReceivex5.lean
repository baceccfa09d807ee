-- written by xprint.py for this seat
import Derived.Test.YtmnmafoojniclaaPFnExactReceivex0
import Derived.Test.YtmnmafoojniclaaPFnExactReceivex1
import Derived.Test.YtmnmafoojniclaaPFnExactReceivex2
import Derived.Test.YtmnmafoojniclaaPFnExactReceivex3
import Derived.Test.YtmnmafoojniclaaPFnExactReceivex4
namespace Go.Proofs.Ytmnmafoojniclaa.PFnExactReceive
open Go.RowKit Go.Proofs.YtmnmafoojniclaaW.PrintWords Go.Proofs.YtmnmafoojniclaaW.PrintLast Go.Proofs.YtmnmafoojniclaaW.PrintMore
attribute [local go_sem] max2_int min2_int max_two min_two max_three min_three max_four min_four   -- for this text's walks alone
set_option linter.unusedVariables false
set_option linter.unusedSimpArgs false

/-! ### laws_FnExactReceive: function 8 -/
mutual
def laws_FnExactReceive.j0 : Nat → Int → Int → Bool → List Int → Int → Int → List Int → List Int → List Int → Option (Bool)
 | 0, _, _, _, _, _, _, _, _, _ => none
 | k + 1, x7, x10, x46, x163000, x164000, x164001, x175000, x179000, x186000 => if x46 = true then (none) else ((laws_toGateway.f k x163000).bind fun t187 => ((laws_eqGateway.f k x179000 t187).bind fun t190 => (if t190 = true then ((laws_markGateway.f k x179000 1).bind fun bt191 => (if bt191.1 < 0 then (laws_FnExactReceive.j1 k x7 true x163000 x164000 x164001 x175000 x186000) else ((laws_eqGateway.f k x186000 x175000).bind fun t193 => (if t193 = true then (laws_FnExactReceive.j1 k x7 (x10 != x7) x163000 x164000 x164001 x175000 x186000) else (laws_FnExactReceive.j1 k x7 true x163000 x164000 x164001 x175000 x186000))))) else (none))))
def laws_FnExactReceive.j1 : Nat → Int → Bool → List Int → Int → Int → List Int → List Int → Option (Bool)
 | 0, _, _, _, _, _, _, _ => none
 | k + 1, x7, x67, x163000, x164000, x164001, x175000, x186000 => if x67 = true then (none) else ((laws_markGateway.f k x186000 1).bind fun bt194 => ((laws_heldGateway.f k bt194.2 1).bind fun t196 => (if t196 < 0 then (none) else (if t196 = bt194.1 then ((laws_toGateway.f k x163000).bind fun t197 => ((laws_toPacket.f x164000 x164001).bind fun bt200 => ((impl_Receive.f t197 bt200.1 bt200.2).bind fun bt202 => ((laws_eqGateway.f k bt202.1 x175000).bind fun t207 => (if t207 = true then (if bt202.2 = x7 then ((laws_heldGateway.f k bt194.2 1).bind fun t208 => (if t208 < 0 then (none) else (if t208 = bt194.1 then (some true) else (none)))) else (none)) else (none)))))) else (none)))))
end
def laws_FnExactReceive.f (k : Nat) (l0_0 : List Int) (a1_0 : Int) (a1_1 : Int) : Option (Bool) := (laws_szGateway.f l0_0 1048576).bind fun t164 => (if t164 < 0 then (some true) else ((laws_toGateway.f k l0_0).bind fun t165 => ((laws_toPacket.f a1_0 a1_1).bind fun bt168 => ((spec_Receive.f t165 bt168.1 bt168.2).bind fun bt170 => ((laws_toGateway.f k l0_0).bind fun t175 => ((laws_toPacket.f a1_0 a1_1).bind fun bt179 => ((impl_Receive.f t175 bt179.1 bt179.2).bind fun bt181 => ((laws_eqGateway.f k bt181.1 bt170.1).bind fun t186 => (if t186 = true then (laws_FnExactReceive.j0 k bt170.2 bt181.2 (bt181.2 != bt170.2) l0_0 a1_0 a1_1 bt170.1 t175 bt181.1) else (laws_FnExactReceive.j0 k bt170.2 bt181.2 true l0_0 a1_0 a1_1 bt170.1 t175 bt181.1))))))))))
theorem laws_FnExactReceive.mono_l : ∀ k, (∀ y0 y1 y2 y3 y4 y5 y6 y7 y8, LeO (laws_FnExactReceive.j0 k y0 y1 y2 y3 y4 y5 y6 y7 y8) (laws_FnExactReceive.j0 (k + 1) y0 y1 y2 y3 y4 y5 y6 y7 y8)) ∧ (∀ y0 y1 y2 y3 y4 y5 y6, LeO (laws_FnExactReceive.j1 k y0 y1 y2 y3 y4 y5 y6) (laws_FnExactReceive.j1 (k + 1) y0 y1 y2 y3 y4 y5 y6))
 | 0 => ⟨fun _ _ _ _ _ _ _ _ _ r h => by simp [laws_FnExactReceive.j0] at h, fun _ _ _ _ _ _ _ r h => by simp [laws_FnExactReceive.j1] at h⟩
 | k + 1 => by
  obtain ⟨ih0, ih1⟩ := laws_FnExactReceive.mono_l k
  refine ⟨?_, ?_⟩
  ·intro y0 y1 y2 y3 y4 y5 y6 y7 y8
   unfold laws_FnExactReceive.j0
   repeat' first
   | (with_reducible exact ih0 _ _ _ _ _ _ _ _ _)
   | (with_reducible exact ih1 _ _ _ _ _ _ _)
   | (with_reducible exact laws_eqGateway.mono _ _ _)
   | (with_reducible exact laws_heldGateway.mono _ _ _)
   | (with_reducible exact laws_markGateway.mono _ _ _)
   | (with_reducible exact laws_toGateway.mono _ _)
   | (with_reducible exact LeO.refl _)
   | (with_reducible exact LeO.none _)
   | (with_reducible refine LeO.ite ?_ ?_)
   | (with_reducible refine LeO.bind ?_ (fun _ => ?_))
   | exact ih0 _ _ _ _ _ _ _ _ _
   | exact ih1 _ _ _ _ _ _ _
   | exact laws_eqGateway.mono _ _ _
   | exact laws_heldGateway.mono _ _ _
   | exact laws_markGateway.mono _ _ _
   | exact laws_toGateway.mono _ _
   | exact LeO.none _
   | refine LeO.ite ?_ ?_
   | refine LeO.bind ?_ (fun _ => ?_)
  ·intro y0 y1 y2 y3 y4 y5 y6
   unfold laws_FnExactReceive.j1
   repeat' first
   | (with_reducible exact ih0 _ _ _ _ _ _ _ _ _)
   | (with_reducible exact ih1 _ _ _ _ _ _ _)
   | (with_reducible exact laws_eqGateway.mono _ _ _)
   | (with_reducible exact laws_heldGateway.mono _ _ _)
   | (with_reducible exact laws_markGateway.mono _ _ _)
   | (with_reducible exact laws_toGateway.mono _ _)
   | (with_reducible exact LeO.refl _)
   | (with_reducible exact LeO.none _)
   | (with_reducible refine LeO.ite ?_ ?_)
   | (with_reducible refine LeO.bind ?_ (fun _ => ?_))
   | exact ih0 _ _ _ _ _ _ _ _ _
   | exact ih1 _ _ _ _ _ _ _
   | exact laws_eqGateway.mono _ _ _
   | exact laws_heldGateway.mono _ _ _
   | exact laws_markGateway.mono _ _ _
   | exact laws_toGateway.mono _ _
   | exact LeO.none _
   | refine LeO.ite ?_ ?_
   | refine LeO.bind ?_ (fun _ => ?_)
theorem laws_FnExactReceive.mono : ∀ a0 a1 a2 k, LeO (laws_FnExactReceive.f k a0 a1 a2) (laws_FnExactReceive.f (k + 1) a0 a1 a2) := by
 intro a0 a1 a2 k
 obtain ⟨ih0, ih1⟩ := laws_FnExactReceive.mono_l k
 unfold laws_FnExactReceive.f
 repeat' first
   | (with_reducible exact ih0 _ _ _ _ _ _ _ _ _)
   | (with_reducible exact ih1 _ _ _ _ _ _ _)
   | (with_reducible exact laws_eqGateway.mono _ _ _)
   | (with_reducible exact laws_heldGateway.mono _ _ _)
   | (with_reducible exact laws_markGateway.mono _ _ _)
   | (with_reducible exact laws_toGateway.mono _ _)
   | (with_reducible exact LeO.refl _)
   | (with_reducible exact LeO.none _)
   | (with_reducible refine LeO.ite ?_ ?_)
   | (with_reducible refine LeO.bind ?_ (fun _ => ?_))
   | exact ih0 _ _ _ _ _ _ _ _ _
   | exact ih1 _ _ _ _ _ _ _
   | exact laws_eqGateway.mono _ _ _
   | exact laws_heldGateway.mono _ _ _
   | exact laws_markGateway.mono _ _ _
   | exact laws_toGateway.mono _ _
   | exact LeO.none _
   | refine LeO.ite ?_ ?_
   | refine LeO.bind ?_ (fun _ => ?_)
def laws_FnExactReceive.T5 : Bool × List (List Nat × List Nat) := (true, [([], []), ([0], [0]), ([], []), ([2, 1], [2]), ([1, 3, 3], [1, 3]), ([4], [4]), ([5], [5]), ([5], [5]), ([], []), ([8, 6, 4, 0, 1, 2, 3, 4, 5, 6, 8], [6, 8]), ([7, 9, 0, 1, 2, 3, 4, 5, 6, 7, 8, 9], [7])])
def laws_FnExactReceive.B5 : List Nat := [0, 1, 0, 7, 15, 31, 63, 63, 0, 383, 1023]
theorem laws_FnExactReceive.tab5 : rtab .any (opsOf Try.f8 5) = laws_FnExactReceive.T5 := by kernel_rfl
theorem laws_FnExactReceive.bits5 : waitsOk laws_FnExactReceive.T5.2 laws_FnExactReceive.B5 = true := by kernel_rfl
def laws_FnExactReceive.T7 : Bool × List (List Nat × List Nat) := (true, [([], []), ([], []), ([1], [1]), ([0, 2, 2], [0, 2]), ([3], [3]), ([4], [4]), ([4], [4]), ([], []), ([7, 5, 3, 0, 1, 2, 3, 4, 5, 7], [5, 7]), ([6, 8, 0, 1, 2, 3, 4, 5, 6, 7, 8], [6])])
def laws_FnExactReceive.B7 : List Nat := [0, 0, 2, 7, 15, 31, 31, 0, 191, 511]
theorem laws_FnExactReceive.tab7 : rtab .any (opsOf Try.f8 7) = laws_FnExactReceive.T7 := by kernel_rfl
theorem laws_FnExactReceive.bits7 : waitsOk laws_FnExactReceive.T7.2 laws_FnExactReceive.B7 = true := by kernel_rfl
def laws_FnExactReceive.T24 : Bool × List (List Nat × List Nat) := (true, [([], []), ([0], [0]), ([], []), ([2, 1], [2]), ([1, 3, 3], [1, 3]), ([4], [4]), ([5], [5]), ([5], [5]), ([], []), ([8, 6, 4, 0, 1, 2, 3, 4, 5, 6, 8], [6, 8]), ([7, 9, 0, 1, 2, 3, 4, 5, 6, 7, 8, 9], [7])])
def laws_FnExactReceive.B24 : List Nat := [0, 1, 0, 7, 15, 31, 63, 63, 0, 383, 1023]
theorem laws_FnExactReceive.tab24 : rtab .any (opsOf Try.f8 24) = laws_FnExactReceive.T24 := by kernel_rfl
theorem laws_FnExactReceive.bits24 : waitsOk laws_FnExactReceive.T24.2 laws_FnExactReceive.B24 = true := by kernel_rfl
set_option maxHeartbeats 8000000 in
set_option maxRecDepth 100000 in
theorem laws_FnExactReceive.calls (k : Nat) (A0_0 : Option Addr) (c0_0 : Nat) (l0_0 : List Int) (a1_0 : Int) (a1_1 : Int) (r : Bool) (w : World) (hr0_0 : Kd.C (Kd.int .i64) w A0_0 l0_0.length l0_0) (hc0_0 : l0_0.length ≤ c0_0) (h : laws_FnExactReceive.f k l0_0 a1_0 a1_1 = some r) :
  Calls Try.prog 8 #[.agg #[.slice A0_0 l0_0.length c0_0], .agg #[.int .i64 a1_0, .int .i64 a1_1]] w fun e w' => e = .returned (.bool r) ∧ Below w.heap.size w w' := by
 have hu51 := Try.underlying51
 have hu66 := Try.underlying66
 have hu56 := Try.underlying56
 have HR0_0 := Aside0.mk hr0_0
 have HC0_0 := Aside0.mk hc0_0
 clear hr0_0 hc0_0
 have HB := Aside0.mk (Below.refl w.heap.size w)
 have H : ((laws_szGateway.f l0_0 1048576).bind fun t164 => (if t164 < 0 then (some true) else ((laws_toGateway.f k l0_0).bind fun t165 => ((laws_toPacket.f a1_0 a1_1).bind fun bt168 => ((spec_Receive.f t165 bt168.1 bt168.2).bind fun bt170 => ((laws_toGateway.f k l0_0).bind fun t175 => ((laws_toPacket.f a1_0 a1_1).bind fun bt179 => ((impl_Receive.f t175 bt179.1 bt179.2).bind fun bt181 => ((laws_eqGateway.f k bt181.1 bt170.1).bind fun t186 => (if t186 = true then (laws_FnExactReceive.j0 k bt170.2 bt181.2 (bt181.2 != bt170.2) l0_0 a1_0 a1_1 bt170.1 t175 bt181.1) else (laws_FnExactReceive.j0 k bt170.2 bt181.2 true l0_0 a1_0 a1_1 bt170.1 t175 bt181.1))))))))))) = some r := h
 clear h
 replace H := Option.bind_eq_some_iff.mp H
 obtain ⟨t164, A30, H⟩ := H
 replace H : (if t164 < 0 then (some true) else ((laws_toGateway.f k l0_0).bind fun t165 => ((laws_toPacket.f a1_0 a1_1).bind fun bt168 => ((spec_Receive.f t165 bt168.1 bt168.2).bind fun bt170 => ((laws_toGateway.f k l0_0).bind fun t175 => ((laws_toPacket.f a1_0 a1_1).bind fun bt179 => ((impl_Receive.f t175 bt179.1 bt179.2).bind fun bt181 => ((laws_eqGateway.f k bt181.1 bt170.1).bind fun t186 => (if t186 = true then (laws_FnExactReceive.j0 k bt170.2 bt181.2 (bt181.2 != bt170.2) l0_0 a1_0 a1_1 bt170.1 t175 bt181.1) else (laws_FnExactReceive.j0 k bt170.2 bt181.2 true l0_0 a1_0 a1_1 bt170.1 t175 bt181.1)))))))))) = some r := H
 have A3 := Aside0.mk A30
 clear A30
 by_cases c4 : t164 < 0
 ·rw [if_pos c4] at H
  have c4b0 : decide (t164 < 0) = true := decide_eq_true c4
  clear c4
  obtain rfl := Option.some.inj H
  go_enter Try.func8, Try.ntmps8
  go_wp2_with (first | ((with_reducible refine gate_dst (N := 2) rfl ?_); refine box_event ?hg (N := 2) ?hd (cs := #[.slice A0_0 l0_0.length c0_0]) (t := 51) ?hr ?_; (case hd => rfl); (case hg => rfl); (case hr => first | (go_simp; done) | (go_simp; rfl)); intro gb162 hg w5 hbox hb; have n0_ := Aside0.mk (below_step (by repeat (first | (with_reducible first | exact HB.out | apply below_alloc | apply pw_below_drewN | apply below_drew1) | exact HB.out)) hb); have n1_ := Aside0.mk (hbox); have n2_ := Aside0.mk ((by rw [hg]; exact (below_size (by repeat (first | (with_reducible first | exact HB.out | apply below_alloc | apply pw_below_drewN | apply below_drew1) | exact HB.out))) : w.heap.size ≤ gb162)); have n3_ := Aside0.mk ((by rw [hg]; exact (below_size (by repeat (first | (with_reducible first | exact HB.out | apply below_alloc | apply pw_below_drewN | apply below_drew1) | exact HB.out))) : w.heap.size ≤ gb162)); clear HB; have HB := n0_; have BK162 := n1_; have GW162 := n2_; have GE162 := n3_; clear n0_ n1_ n2_ n3_; clear hb hbox hg) | ((with_reducible refine gate_dst (N := 3) rfl ?_); refine box_event ?hg (N := 3) ?hd (cs := #[.int .i64 a1_0, .int .i64 a1_1]) (t := 66) ?hr ?_; (case hd => rfl); (case hg => rfl); (case hr => first | (go_simp; done) | (go_simp; rfl)); intro gb163 hg w6 hbox hb; have n0_ := Aside0.mk (blk_below (g := gb162) (o := .cells #[.slice A0_0 l0_0.length c0_0] 51 (0, 0)) (pkb BK162.out) hb); have n1_ := Aside0.mk (below_step (by repeat (first | (with_reducible first | exact HB.out | apply below_alloc | apply pw_below_drewN | apply below_drew1 | refine below_set ?_ GE162.out) | exact HB.out)) hb); have n2_ := Aside0.mk (hbox); have n3_ := Aside0.mk ((by rw [hg]; exact (below_size (by repeat (first | (with_reducible first | exact HB.out | apply below_alloc | apply pw_below_drewN | apply below_drew1 | refine below_set ?_ GE162.out) | exact HB.out))) : w.heap.size ≤ gb163)); have n4_ := Aside0.mk ((by rw [hg]; exact (below_size (by repeat (first | (with_reducible first | exact HB.out | apply below_alloc | apply pw_below_drewN | apply below_drew1 | refine below_set ?_ GE162.out) | exact HB.out))) : w.heap.size ≤ gb163)); have n5_ := Aside0.mk ((by rw [hg]; exact Nat.ne_of_lt (blk_lt (g := gb162) (o := .cells #[.slice A0_0 l0_0.length c0_0] 51 (0, 0)) (pkb BK162.out)) : gb162 ≠ gb163)); have n6_ := Aside0.mk ((by rw [hg]; exact Nat.ne_of_gt (blk_lt (g := gb162) (o := .cells #[.slice A0_0 l0_0.length c0_0] 51 (0, 0)) (pkb BK162.out)) : gb163 ≠ gb162)); clear BK162; clear HB; have BK162 := n0_; have HB := n1_; have BK163 := n2_; have GW163 := n3_; have GE163 := n4_; have NB162_163 := n5_; have NB163_162 := n6_; clear n0_ n1_ n2_ n3_ n4_ n5_ n6_; clear hb hbox hg; have hnb7 := NB162_163.out; have hnc7 := NB163_162.out; have hcz8_0 : w6.cell? ⟨gb162, 0, none⟩ = some (.slice A0_0 l0_0.length c0_0) := (blk_cell BK162.out 0).trans rfl; have hfz8_0 := blk_frozen BK162.out 0) | ((with_reducible refine gate_callee (f := 41) rfl ?_); refine goesL_ (some 18) rfl rfl Try.func41 (by kernel_rfl) rfl #[.agg #[.slice A0_0 l0_0.length c0_0], .int .i64 1048576] rfl (by (try simp only [List.map_toArray, List.map_cons, List.map_nil]); first | done | rfl | (simp only [List.length_drop, List.length_take]; rfl)) ?_; (with_reducible refine (laws_szGateway.calls _ _ l0_0 1048576 t164 _ ?side1 ?side2 A3.out).mono ?_); (case side1 => repeat (first | exact (Kd.C_below HR0_0.out HB.out) | (with_reducible refine Kd.C_alloc ?_ _) | (with_reducible refine Kd.C_drewN ?_ _) | (with_reducible refine Kd.C_drew ?_))); (case side2 => exact HC0_0.out); rintro e w9 ⟨rfl, hb⟩; refine ⟨_, rfl, ?_⟩; have n0_ := Aside0.mk (blk_below (g := gb162) (o := .cells #[.slice A0_0 l0_0.length c0_0] 51 (0, 0)) (pkb BK162.out) hb); have n1_ := Aside0.mk (blk_below (g := gb163) (o := .cells #[.int .i64 a1_0, .int .i64 a1_1] 66 (0, 0)) (pkb BK163.out) hb); have n2_ := Aside0.mk (below_step (by repeat (first | (with_reducible first | exact HB.out | apply below_alloc | apply pw_below_drewN | apply below_drew1 | refine below_set ?_ GE162.out | refine below_set ?_ GE163.out) | exact HB.out)) hb); clear BK162; clear BK163; clear HB; have BK162 := n0_; have BK163 := n1_; have HB := n2_; clear n0_ n1_ n2_; (try clear hb); (try clear hb2); (try clear hk); (try clear hi)))
  go_ret
  exact ⟨by first | rfl | (simp [errW_none, errW_some] <;> rfl) | (simp [*, errW_none, errW_some] <;> rfl), by repeat (first | (with_reducible first | exact HB.out | apply below_alloc | apply pw_below_drewN | apply below_drew1 | refine below_set ?_ GE162.out | refine below_set ?_ GE163.out) | exact HB.out)⟩
 ·rw [if_neg c4] at H
  have c4b0 : decide (t164 < 0) = false := decide_eq_false c4
  clear c4
  replace H := Option.bind_eq_some_iff.mp H
  obtain ⟨t165, A100, H⟩ := H
  replace H : ((laws_toPacket.f a1_0 a1_1).bind fun bt168 => ((spec_Receive.f t165 bt168.1 bt168.2).bind fun bt170 => ((laws_toGateway.f k l0_0).bind fun t175 => ((laws_toPacket.f a1_0 a1_1).bind fun bt179 => ((impl_Receive.f t175 bt179.1 bt179.2).bind fun bt181 => ((laws_eqGateway.f k bt181.1 bt170.1).bind fun t186 => (if t186 = true then (laws_FnExactReceive.j0 k bt170.2 bt181.2 (bt181.2 != bt170.2) l0_0 a1_0 a1_1 bt170.1 t175 bt181.1) else (laws_FnExactReceive.j0 k bt170.2 bt181.2 true l0_0 a1_0 a1_1 bt170.1 t175 bt181.1)))))))) = some r := H
  have A10 := Aside0.mk A100
  clear A100
  replace H := Option.bind_eq_some_iff.mp H
  obtain ⟨⟨t168, t169⟩, A110, H⟩ := H
  replace H : ((spec_Receive.f t165 t168 t169).bind fun bt170 => ((laws_toGateway.f k l0_0).bind fun t175 => ((laws_toPacket.f a1_0 a1_1).bind fun bt179 => ((impl_Receive.f t175 bt179.1 bt179.2).bind fun bt181 => ((laws_eqGateway.f k bt181.1 bt170.1).bind fun t186 => (if t186 = true then (laws_FnExactReceive.j0 k bt170.2 bt181.2 (bt181.2 != bt170.2) l0_0 a1_0 a1_1 bt170.1 t175 bt181.1) else (laws_FnExactReceive.j0 k bt170.2 bt181.2 true l0_0 a1_0 a1_1 bt170.1 t175 bt181.1))))))) = some r := H
  have A11 := Aside0.mk A110
  clear A110
  replace H := Option.bind_eq_some_iff.mp H
  obtain ⟨⟨t170, t173⟩, A120, H⟩ := H
  replace H : ((laws_toGateway.f k l0_0).bind fun t175 => ((laws_toPacket.f a1_0 a1_1).bind fun bt179 => ((impl_Receive.f t175 bt179.1 bt179.2).bind fun bt181 => ((laws_eqGateway.f k bt181.1 t170).bind fun t186 => (if t186 = true then (laws_FnExactReceive.j0 k t173 bt181.2 (bt181.2 != t173) l0_0 a1_0 a1_1 t170 t175 bt181.1) else (laws_FnExactReceive.j0 k t173 bt181.2 true l0_0 a1_0 a1_1 t170 t175 bt181.1)))))) = some r := H
  have A12 := Aside0.mk A120
  clear A120
  replace H := Option.bind_eq_some_iff.mp H
  obtain ⟨t175, A130, H⟩ := H
  replace H : ((laws_toPacket.f a1_0 a1_1).bind fun bt179 => ((impl_Receive.f t175 bt179.1 bt179.2).bind fun bt181 => ((laws_eqGateway.f k bt181.1 t170).bind fun t186 => (if t186 = true then (laws_FnExactReceive.j0 k t173 bt181.2 (bt181.2 != t173) l0_0 a1_0 a1_1 t170 t175 bt181.1) else (laws_FnExactReceive.j0 k t173 bt181.2 true l0_0 a1_0 a1_1 t170 t175 bt181.1))))) = some r := H
  have A13 := Aside0.mk A130
  clear A130
  replace H := Option.bind_eq_some_iff.mp H
  obtain ⟨⟨t179, t180⟩, A140, H⟩ := H
  replace H : ((impl_Receive.f t175 t179 t180).bind fun bt181 => ((laws_eqGateway.f k bt181.1 t170).bind fun t186 => (if t186 = true then (laws_FnExactReceive.j0 k t173 bt181.2 (bt181.2 != t173) l0_0 a1_0 a1_1 t170 t175 bt181.1) else (laws_FnExactReceive.j0 k t173 bt181.2 true l0_0 a1_0 a1_1 t170 t175 bt181.1)))) = some r := H
  have A14 := Aside0.mk A140
  clear A140
  replace H := Option.bind_eq_some_iff.mp H
  obtain ⟨⟨t181, t184⟩, A150, H⟩ := H
  replace H : ((laws_eqGateway.f k t181 t170).bind fun t186 => (if t186 = true then (laws_FnExactReceive.j0 k t173 t184 (t184 != t173) l0_0 a1_0 a1_1 t170 t175 t181) else (laws_FnExactReceive.j0 k t173 t184 true l0_0 a1_0 a1_1 t170 t175 t181))) = some r := H
  have A15 := Aside0.mk A150
  clear A150
  have HC16 := Aside0.mk H
  clear H
  go_enter Try.func8, Try.ntmps8
  try go_wp2_with (first | ((with_reducible refine gate_dst (N := 2) rfl ?_); refine box_event ?hg (N := 2) ?hd (cs := #[.slice A0_0 l0_0.length c0_0]) (t := 51) ?hr ?_; (case hd => rfl); (case hg => rfl); (case hr => first | (go_simp; done) | (go_simp; rfl)); intro gb162 hg w17 hbox hb; have n0_ := Aside0.mk (below_step (by repeat (first | (with_reducible first | exact HB.out | apply below_alloc | apply pw_below_drewN | apply below_drew1) | exact HB.out)) hb); have n1_ := Aside0.mk (hbox); have n2_ := Aside0.mk ((by rw [hg]; exact (below_size (by repeat (first | (with_reducible first | exact HB.out | apply below_alloc | apply pw_below_drewN | apply below_drew1) | exact HB.out))) : w.heap.size ≤ gb162)); have n3_ := Aside0.mk ((by rw [hg]; exact (below_size (by repeat (first | (with_reducible first | exact HB.out | apply below_alloc | apply pw_below_drewN | apply below_drew1) | exact HB.out))) : w.heap.size ≤ gb162)); clear HB; have HB := n0_; have BK162 := n1_; have GW162 := n2_; have GE162 := n3_; clear n0_ n1_ n2_ n3_; clear hb hbox hg) | ((with_reducible refine gate_dst (N := 3) rfl ?_); refine box_event ?hg (N := 3) ?hd (cs := #[.int .i64 a1_0, .int .i64 a1_1]) (t := 66) ?hr ?_; (case hd => rfl); (case hg => rfl); (case hr => first | (go_simp; done) | (go_simp; rfl)); intro gb163 hg w18 hbox hb; have n0_ := Aside0.mk (blk_below (g := gb162) (o := .cells #[.slice A0_0 l0_0.length c0_0] 51 (0, 0)) (pkb BK162.out) hb); have n1_ := Aside0.mk (below_step (by repeat (first | (with_reducible first | exact HB.out | apply below_alloc | apply pw_below_drewN | apply below_drew1 | refine below_set ?_ GE162.out) | exact HB.out)) hb); have n2_ := Aside0.mk (hbox); have n3_ := Aside0.mk ((by rw [hg]; exact (below_size (by repeat (first | (with_reducible first | exact HB.out | apply below_alloc | apply pw_below_drewN | apply below_drew1 | refine below_set ?_ GE162.out) | exact HB.out))) : w.heap.size ≤ gb163)); have n4_ := Aside0.mk ((by rw [hg]; exact (below_size (by repeat (first | (with_reducible first | exact HB.out | apply below_alloc | apply pw_below_drewN | apply below_drew1 | refine below_set ?_ GE162.out) | exact HB.out))) : w.heap.size ≤ gb163)); have n5_ := Aside0.mk ((by rw [hg]; exact Nat.ne_of_lt (blk_lt (g := gb162) (o := .cells #[.slice A0_0 l0_0.length c0_0] 51 (0, 0)) (pkb BK162.out)) : gb162 ≠ gb163)); have n6_ := Aside0.mk ((by rw [hg]; exact Nat.ne_of_gt (blk_lt (g := gb162) (o := .cells #[.slice A0_0 l0_0.length c0_0] 51 (0, 0)) (pkb BK162.out)) : gb163 ≠ gb162)); clear BK162; clear HB; have BK162 := n0_; have HB := n1_; have BK163 := n2_; have GW163 := n3_; have GE163 := n4_; have NB162_163 := n5_; have NB163_162 := n6_; clear n0_ n1_ n2_ n3_ n4_ n5_ n6_; clear hb hbox hg; have hnb19 := NB162_163.out; have hnc19 := NB163_162.out; have hcz20_0 : w18.cell? ⟨gb162, 0, none⟩ = some (.slice A0_0 l0_0.length c0_0) := (blk_cell BK162.out 0).trans rfl; have hfz20_0 := blk_frozen BK162.out 0) | ((with_reducible refine gate_callee (f := 41) rfl ?_); refine goesL_ (some 18) rfl rfl Try.func41 (by kernel_rfl) rfl #[.agg #[.slice A0_0 l0_0.length c0_0], .int .i64 1048576] rfl (by (try simp only [List.map_toArray, List.map_cons, List.map_nil]); first | done | rfl | (simp only [List.length_drop, List.length_take]; rfl)) ?_; (with_reducible refine (laws_szGateway.calls _ _ l0_0 1048576 t164 _ ?side1 ?side2 A3.out).mono ?_); (case side1 => repeat (first | exact (Kd.C_below HR0_0.out HB.out) | (with_reducible refine Kd.C_alloc ?_ _) | (with_reducible refine Kd.C_drewN ?_ _) | (with_reducible refine Kd.C_drew ?_))); (case side2 => exact HC0_0.out); rintro e w21 ⟨rfl, hb⟩; refine ⟨_, rfl, ?_⟩; have n0_ := Aside0.mk (blk_below (g := gb162) (o := .cells #[.slice A0_0 l0_0.length c0_0] 51 (0, 0)) (pkb BK162.out) hb); have n1_ := Aside0.mk (blk_below (g := gb163) (o := .cells #[.int .i64 a1_0, .int .i64 a1_1] 66 (0, 0)) (pkb BK163.out) hb); have n2_ := Aside0.mk (below_step (by repeat (first | (with_reducible first | exact HB.out | apply below_alloc | apply pw_below_drewN | apply below_drew1 | refine below_set ?_ GE162.out | refine below_set ?_ GE163.out) | exact HB.out)) hb); clear BK162; clear BK163; clear HB; have BK162 := n0_; have BK163 := n1_; have HB := n2_; clear n0_ n1_ n2_; (try clear hb); (try clear hb2); (try clear hk); (try clear hi)))
  have n0_ := Aside0.mk (blk_drew BK162.out)
  have n1_ := Aside0.mk (blk_drew BK163.out)
  have n2_ := Aside0.mk (below_drew1 HB.out)
  clear BK162
  clear BK163
  clear HB
  have BK162 := n0_
  have BK163 := n1_
  have HB := n2_
  clear n0_ n1_ n2_
  refine start_ (n := 11) (S := fun w' => w'.cell? ⟨gb162, 0, none⟩ = some (.slice A0_0 l0_0.length c0_0) ∧ w'.cell? ⟨gb163, 0, none⟩ = some (.int .i64 a1_0) ∧ w'.cell? ⟨gb163, 1, none⟩ = some (.int .i64 a1_1)) (ds := []) #[false, false, false, false, false, false, false, false, false, false, false] (by kernel_rfl) rfl rfl ⟨(blk_cell BK162.out 0).trans rfl, (blk_cell BK163.out 0).trans rfl, (blk_cell BK163.out 1).trans rfl⟩ (fun hHeld => ?_); refine with_tabW laws_FnExactReceive.tab5 laws_FnExactReceive.bits5 (fun HT_ HW_ => ?_)
  generalize w21.drew = w22 at BK162 BK163 HB hHeld ⊢
  refine take_ (i := 0) (N := some 22) (v := ?_) (a' := ?_) #[true, false, false, false, false, false, false, false, false, false, false] rfl rfl (take_ofW HT_.out HW_.out (by kernel_rfl)) (fun _ _ _ h => h) (Or.inl ⟨by rfl, ?_⟩) hHeld ?_ ?_
  rotate_left
  ·rintro w' ⟨s0, s1, s2⟩
   go_simp
   with_reducible rfl
  rotate_left
  ·simp only [Act.put, List.setIfInBounds_toArray, List.set_cons_zero, List.set_cons_succ, i64_w, i32_w]
   rfl
  refine take_ (i := 2) (N := some 24) (v := ?_) (a' := ?_) #[true, false, true, false, false, false, false, false, false, false, false] rfl rfl (take_ofW HT_.out HW_.out (by kernel_rfl)) (fun _ _ _ h => h) (Or.inl ⟨by rfl, ?_⟩) hHeld ?_ ?_
  rotate_left
  ·rintro w' ⟨s0, s1, s2⟩
   go_simp
   with_reducible rfl
  rotate_left
  ·simp only [Act.put, List.setIfInBounds_toArray, List.set_cons_zero, List.set_cons_succ, i64_w, i32_w]
   rfl
  refine join_ (σ := Value × Value × Nat) 2 #[true, true, true, true, true, true, true, true, true, false, false] (fun s_ => [(23, .agg #[s_.1]), (25, .agg #[.int .i64 t168, .int .i64 t169]), (26, .tuple #[.agg #[s_.2.1], .int .i64 t173]), (6, .pointer (some ⟨s_.2.2, 0, none⟩)), (21, .tuple #[.agg #[s_.2.1], .int .i64 t173]), (27, .agg #[s_.2.1]), (28, .int .i64 t173)]) (fun s_ w' => (w'.cell? ⟨gb162, 0, none⟩ = some (.slice A0_0 l0_0.length c0_0) ∧ w'.cell? ⟨gb163, 0, none⟩ = some (.int .i64 a1_0) ∧ w'.cell? ⟨gb163, 1, none⟩ = some (.int .i64 a1_1)) ∧ (Kd.R (Kd.int .i64) 3 w' w.heap.size (fun k_ => some k_ ≠ (s_.2.1 : Value).ownBlock) s_.1 t165) ∧ (Kd.R (Kd.int .i64) 3 w' w.heap.size (fun k_ => some k_ ≠ (s_.1 : Value).ownBlock) s_.2.1 t170) ∧ (w'.heap[gb162]? = some (.cells #[.slice A0_0 l0_0.length c0_0] 51 (0, 0))) ∧ (w'.heap[gb163]? = some (.cells #[.int .i64 a1_0, .int .i64 a1_1] 66 (0, 0))) ∧ (w'.heap[s_.2.2]? = some (.cells #[.slice none 0 0] 56 (0, 0))) ∧ (w.heap.size ≤ s_.2.2) ∧ (w.heap.size ≤ s_.2.2) ∧ (gb162 ≠ s_.2.2) ∧ (s_.2.2 ≠ gb162) ∧ (gb163 ≠ s_.2.2) ∧ (s_.2.2 ≠ gb163) ∧ (Below w.heap.size w w')) ?_ ?_
  rotate_left
  ·intro hCont
   refine two_ (i := 1) (j := 8) (Ni := some 23) (Nj := some 6) #[true, true, true, false, false, false, false, false, false, false, false] #[true, false, true, false, false, false, false, false, true, false, false] rfl rfl rfl rfl (two_of HT_.out (by kernel_rfl)) (by decide) (by decide) (fun K hK => ?_) (fun K hK => ?_)
   ·skip
    refine goes_ Try.func43 (by kernel_rfl) rfl #[.agg #[.slice A0_0 l0_0.length c0_0]] (by rfl) rfl rfl (by (try simp only [List.map_toArray, List.map_cons, List.map_nil]); first | done | rfl | (simp only [List.length_drop, List.length_take]; rfl)) ?_
    with_reducible refine (laws_toGateway.calls k _ _ l0_0 t165 _ ?side1 ?side2 A10.out).mono ?_
    (case side1 => repeat (first | exact (Kd.C_below HR0_0.out HB.out) | (with_reducible refine Kd.C_alloc ?_ _) | (with_reducible refine Kd.C_drewN ?_ _) | (with_reducible refine Kd.C_drew ?_)))
    (case side2 => exact HC0_0.out)
    rintro e w23 ⟨v166, rfl, ho0, hb⟩
    refine ⟨_, rfl, ?_⟩
    have n0_ := Aside0.mk (Kd.R_lower ho0 (below_size (by repeat (first | (with_reducible first | exact HB.out | apply below_alloc | apply pw_below_drewN | apply below_drew1 | refine below_set ?_ GE162.out | refine below_set ?_ GE163.out) | exact HB.out))))
    have n1_ := Aside0.mk (blk_below (g := gb162) (o := .cells #[.slice A0_0 l0_0.length c0_0] 51 (0, 0)) (pkb BK162.out) hb)
    have n2_ := Aside0.mk (blk_below (g := gb163) (o := .cells #[.int .i64 a1_0, .int .i64 a1_1] 66 (0, 0)) (pkb BK163.out) hb)
    have n3_ := Aside0.mk (below_step (by repeat (first | (with_reducible first | exact HB.out | apply below_alloc | apply pw_below_drewN | apply below_drew1 | refine below_set ?_ GE162.out | refine below_set ?_ GE163.out) | exact HB.out)) hb)
    clear BK162
    clear BK163
    clear HB
    have HO167 := n0_
    have BK162 := n1_
    have BK163 := n2_
    have HB := n3_
    clear n0_ n1_ n2_ n3_
    (try clear hb)
    (try clear hb2)
    (try clear hk)
    (try clear hi)
    (try clear ho0)
    refine hK.out _ _ ⟨(blk_cell BK162.out 0).trans rfl, (blk_cell BK163.out 0).trans rfl, (blk_cell BK163.out 1).trans rfl⟩ (fun hHeld => ?_)
    clear hK K
    refine norm_ (a' := ?_) ?_ ?_
    rotate_left
    ·show Act.put _ (some 23) _ = _
     simp only [Act.put, List.setIfInBounds_toArray, List.set_cons_zero, List.set_cons_succ, i64_w, i32_w]
     rfl
    refine two_ (i := 3) (j := 8) (Ni := some 25) (Nj := some 6) #[true, true, true, true, false, false, false, false, false, false, false] #[true, true, true, false, false, false, false, false, true, false, false] rfl rfl rfl rfl (two_of HT_.out (by kernel_rfl)) (by decide) (by decide) (fun K hK => ?_) (fun K hK => ?_)
    ·skip
     refine goes_ Try.func44 (by kernel_rfl) rfl #[.agg #[.int .i64 a1_0, .int .i64 a1_1]] (by rfl) rfl rfl (by (try simp only [List.map_toArray, List.map_cons, List.map_nil]); first | done | rfl | (simp only [List.length_drop, List.length_take]; rfl)) ?_
     with_reducible refine (laws_toPacket.calls a1_0 a1_1 t168 t169 _ A11.out).mono ?_
     rintro e w24 ⟨rfl, hb⟩
     refine ⟨_, rfl, ?_⟩
     have n0_ := Aside0.mk (Kd.R_below (pkr HO167.out) hb)
     have n1_ := Aside0.mk (blk_below (g := gb162) (o := .cells #[.slice A0_0 l0_0.length c0_0] 51 (0, 0)) (pkb BK162.out) hb)
     have n2_ := Aside0.mk (blk_below (g := gb163) (o := .cells #[.int .i64 a1_0, .int .i64 a1_1] 66 (0, 0)) (pkb BK163.out) hb)
     have n3_ := Aside0.mk (below_step (by repeat (first | (with_reducible first | exact HB.out | apply below_alloc | apply pw_below_drewN | apply below_drew1 | refine below_set ?_ GE162.out | refine below_set ?_ GE163.out) | exact HB.out)) hb)
     clear HO167
     clear BK162
     clear BK163
     clear HB
     have HO167 := n0_
     have BK162 := n1_
     have BK163 := n2_
     have HB := n3_
     clear n0_ n1_ n2_ n3_
     (try clear hb)
     (try clear hb2)
     (try clear hk)
     (try clear hi)
     obtain ⟨Ao25, co25, eo25⟩ := Kd.R_slice HO167.out
     (first | subst eo25 | (injection eo25 with f1_ f2_ f3_; have f4_ := f1_.symm; have f5_ := f3_.symm; clear f1_ f2_ f3_; subst f4_; subst f5_))
     refine hK.out _ _ ⟨(blk_cell BK162.out 0).trans rfl, (blk_cell BK163.out 0).trans rfl, (blk_cell BK163.out 1).trans rfl⟩ (fun hHeld => ?_)
     clear hK K
     refine norm_ (a' := ?_) ?_ ?_
     rotate_left
     ·show Act.put _ (some 25) _ = _
      simp only [Act.put, List.setIfInBounds_toArray, List.set_cons_zero, List.set_cons_succ, i64_w, i32_w]
      rfl
     refine two_ (i := 4) (j := 8) (Ni := some 26) (Nj := some 6) #[true, true, true, true, true, false, false, false, false, false, false] #[true, true, true, true, false, false, false, false, true, false, false] rfl rfl rfl rfl (two_of HT_.out (by kernel_rfl)) (by decide) (by decide) (fun K hK => ?_) (fun K hK => ?_)
     ·skip
      refine goes_ Try.func42 (by kernel_rfl) rfl #[.agg #[.slice Ao25 t165.length co25], .agg #[.int .i64 t168, .int .i64 t169]] (by rfl) rfl rfl (by (try simp only [List.map_toArray, List.map_cons, List.map_nil]); first | done | rfl | (simp only [List.length_drop, List.length_take]; rfl)) ?_
      with_reducible refine (spec_Receive.calls _ _ t165 t168 t169 t170 t173 _ ?side1 ?side2 A12.out).mono ?_
      (case side1 => repeat (first | exact (Kd.R_reads' HO167.out).2.2 | (with_reducible refine Kd.C_alloc ?_ _) | (with_reducible refine Kd.C_drewN ?_ _) | (with_reducible refine Kd.C_drew ?_)))
      (case side2 => exact (Kd.R_reads' HO167.out).2.1)
      rintro e w26 ⟨v171, rfl, ho0, hb⟩
      refine ⟨_, rfl, ?_⟩
      have n0_ := Aside0.mk (Kd.R_elder' (pkr HO167.out) (Kd.R_base ho0) hb)
      have n1_ := Aside0.mk (Kd.R_lower (Kd.R_new' ho0 (Kd.R_lt (pkr HO167.out))) (below_size (by repeat (first | (with_reducible first | exact HB.out | apply below_alloc | apply pw_below_drewN | apply below_drew1 | refine below_set ?_ GE162.out | refine below_set ?_ GE163.out) | exact HB.out))))
      have n2_ := Aside0.mk (blk_below (g := gb162) (o := .cells #[.slice A0_0 l0_0.length c0_0] 51 (0, 0)) (pkb BK162.out) hb)
      have n3_ := Aside0.mk (blk_below (g := gb163) (o := .cells #[.int .i64 a1_0, .int .i64 a1_1] 66 (0, 0)) (pkb BK163.out) hb)
      have n4_ := Aside0.mk (below_step (by repeat (first | (with_reducible first | exact HB.out | apply below_alloc | apply pw_below_drewN | apply below_drew1 | refine below_set ?_ GE162.out | refine below_set ?_ GE163.out) | exact HB.out)) hb)
      clear HO167
      clear BK162
      clear BK163
      clear HB
      have HO167 := n0_
      have HO172 := n1_
      have BK162 := n2_
      have BK163 := n3_
      have HB := n4_
      clear n0_ n1_ n2_ n3_ n4_
      (try clear hb)
      (try clear hb2)
      (try clear hk)
      (try clear hi)
      (try clear ho0)
      refine hK.out _ _ ⟨(blk_cell BK162.out 0).trans rfl, (blk_cell BK163.out 0).trans rfl, (blk_cell BK163.out 1).trans rfl⟩ (fun hHeld => ?_)
      clear hK K
      refine norm_ (a' := ?_) ?_ ?_
      rotate_left
      ·show Act.put _ (some 26) _ = _
       simp only [Act.put, List.setIfInBounds_toArray, List.set_cons_zero, List.set_cons_succ, i64_w, i32_w]
       rfl
      refine pure_ (i := 5) (N := some 21) (v := ?_) (a' := ?_) #[true, true, true, true, true, true, false, false, false, false, false] rfl rfl (any_of HT_.out (by kernel_rfl)) (fun _ _ _ h => h) (Or.inl ⟨by rfl, ?_⟩) ?_ ?_
      rotate_left
      ·intro w'
       go_simp
       with_reducible rfl
      rotate_left
      ·simp only [Act.put, List.setIfInBounds_toArray, List.set_cons_zero, List.set_cons_succ, i64_w, i32_w]
       rfl
      refine pure_ (i := 6) (N := some 27) (v := ?_) (a' := ?_) #[true, true, true, true, true, true, true, false, false, false, false] rfl rfl (any_of HT_.out (by kernel_rfl)) (fun _ _ _ h => h) (Or.inl ⟨by rfl, ?_⟩) ?_ ?_
      rotate_left
      ·intro w'
       go_simp
       with_reducible rfl
      rotate_left
      ·simp only [Act.put, List.setIfInBounds_toArray, List.set_cons_zero, List.set_cons_succ, i64_w, i32_w]
       rfl
      refine pure_ (i := 7) (N := some 28) (v := ?_) (a' := ?_) #[true, true, true, true, true, true, true, true, false, false, false] rfl rfl (any_of HT_.out (by kernel_rfl)) (fun _ _ _ h => h) (Or.inl ⟨by rfl, ?_⟩) ?_ ?_
      rotate_left
      ·intro w'
       go_simp
       with_reducible rfl
      rotate_left
      ·simp only [Act.put, List.setIfInBounds_toArray, List.set_cons_zero, List.set_cons_succ, i64_w, i32_w]
       rfl
      refine one_ (i := 8) (N := some 6) #[true, true, true, true, true, true, true, true, true, false, false] rfl rfl (one_of HT_.out (by kernel_rfl)) (by decide) (fun K hK => ?_)
      refine box_step ?hg (N := 6) ?hd (cs := #[.slice none 0 0]) (t := 56) ?hr ?_; (case hd => rfl); (case hg => rfl); (case hr => first | (go_simp; done) | (go_simp; rfl))
      intro gb174 hg w27 hbox hb
      have n0_ := Aside0.mk (Kd.R_below (pkr HO167.out) hb)
      have n1_ := Aside0.mk (Kd.R_below (pkr HO172.out) hb)
      have n2_ := Aside0.mk (blk_below (g := gb162) (o := .cells #[.slice A0_0 l0_0.length c0_0] 51 (0, 0)) (pkb BK162.out) hb)
      have n3_ := Aside0.mk (blk_below (g := gb163) (o := .cells #[.int .i64 a1_0, .int .i64 a1_1] 66 (0, 0)) (pkb BK163.out) hb)
      have n4_ := Aside0.mk (below_step (by repeat (first | (with_reducible first | exact HB.out | apply below_alloc | apply pw_below_drewN | apply below_drew1 | refine below_set ?_ GE162.out | refine below_set ?_ GE163.out) | exact HB.out)) hb)
      have n5_ := Aside0.mk (hbox)
      have n6_ := Aside0.mk ((by rw [hg]; exact (below_size (by repeat (first | (with_reducible first | exact HB.out | apply below_alloc | apply pw_below_drewN | apply below_drew1 | refine below_set ?_ GE162.out | refine below_set ?_ GE163.out) | exact HB.out))) : w.heap.size ≤ gb174))
      have n7_ := Aside0.mk ((by rw [hg]; exact (below_size (by repeat (first | (with_reducible first | exact HB.out | apply below_alloc | apply pw_below_drewN | apply below_drew1 | refine below_set ?_ GE162.out | refine below_set ?_ GE163.out) | exact HB.out))) : w.heap.size ≤ gb174))
      have n8_ := Aside0.mk ((by rw [hg]; exact Nat.ne_of_lt (blk_lt (g := gb162) (o := .cells #[.slice A0_0 l0_0.length c0_0] 51 (0, 0)) (pkb BK162.out)) : gb162 ≠ gb174))
      have n9_ := Aside0.mk ((by rw [hg]; exact Nat.ne_of_gt (blk_lt (g := gb162) (o := .cells #[.slice A0_0 l0_0.length c0_0] 51 (0, 0)) (pkb BK162.out)) : gb174 ≠ gb162))
      have n10_ := Aside0.mk ((by rw [hg]; exact Nat.ne_of_lt (blk_lt (g := gb163) (o := .cells #[.int .i64 a1_0, .int .i64 a1_1] 66 (0, 0)) (pkb BK163.out)) : gb163 ≠ gb174))
      have n11_ := Aside0.mk ((by rw [hg]; exact Nat.ne_of_gt (blk_lt (g := gb163) (o := .cells #[.int .i64 a1_0, .int .i64 a1_1] 66 (0, 0)) (pkb BK163.out)) : gb174 ≠ gb163))
      clear HO167
      clear HO172
      clear BK162
      clear BK163
      clear HB
      have HO167 := n0_
      have HO172 := n1_
      have BK162 := n2_
      have BK163 := n3_
      have HB := n4_
      have BK174 := n5_
      have GW174 := n6_
      have GE174 := n7_
      have NB162_174 := n8_
      have NB174_162 := n9_
      have NB163_174 := n10_
      have NB174_163 := n11_
      clear n0_ n1_ n2_ n3_ n4_ n5_ n6_ n7_ n8_ n9_ n10_ n11_
      clear hb hbox hg
      refine hK.out _ _ ⟨(blk_cell BK162.out 0).trans rfl, (blk_cell BK163.out 0).trans rfl, (blk_cell BK163.out 1).trans rfl⟩ (fun hHeld => ?_)
      clear hK K
      refine norm_ (a' := ?_) ?_ ?_
      rotate_left
      ·show Act.put _ (some 6) _ = _
       simp only [Act.put, List.setIfInBounds_toArray, List.set_cons_zero, List.set_cons_succ, i64_w, i32_w]
       rfl
      exact norm_ (by simp only [putAll, Act.put, List.setIfInBounds_toArray, List.set_cons_zero, List.set_cons_succ]) (hCont (.slice Ao25 t165.length co25, v171, gb174) _ ⟨hHeld, (pkr (Kd.R_mono HO167.out (fun _ hk => by first | exact hk.2 | simp_all))), (pkr (Kd.R_mono HO172.out (fun _ hk => by first | exact hk.2 | simp_all))), (pkb BK162.out), (pkb BK163.out), (pkb BK174.out), GW174.out, GE174.out, NB162_174.out, NB174_162.out, NB163_174.out, NB174_163.out, (by repeat (first | (with_reducible first | exact HB.out | apply below_alloc | apply pw_below_drewN | apply below_drew1 | refine below_set ?_ GE162.out | refine below_set ?_ GE163.out | refine below_set ?_ GE174.out) | exact HB.out))⟩)
     ·skip
      refine box_step ?hg (N := 6) ?hd (cs := #[.slice none 0 0]) (t := 56) ?hr ?_; (case hd => rfl); (case hg => rfl); (case hr => first | (go_simp; done) | (go_simp; rfl))
      intro gb174 hg w25 hbox hb
      have n0_ := Aside0.mk (Kd.R_below (pkr HO167.out) hb)
      have n1_ := Aside0.mk (blk_below (g := gb162) (o := .cells #[.slice A0_0 l0_0.length c0_0] 51 (0, 0)) (pkb BK162.out) hb)
      have n2_ := Aside0.mk (blk_below (g := gb163) (o := .cells #[.int .i64 a1_0, .int .i64 a1_1] 66 (0, 0)) (pkb BK163.out) hb)
      have n3_ := Aside0.mk (below_step (by repeat (first | (with_reducible first | exact HB.out | apply below_alloc | apply pw_below_drewN | apply below_drew1 | refine below_set ?_ GE162.out | refine below_set ?_ GE163.out) | exact HB.out)) hb)
      have n4_ := Aside0.mk (hbox)
      have n5_ := Aside0.mk ((by rw [hg]; exact (below_size (by repeat (first | (with_reducible first | exact HB.out | apply below_alloc | apply pw_below_drewN | apply below_drew1 | refine below_set ?_ GE162.out | refine below_set ?_ GE163.out) | exact HB.out))) : w.heap.size ≤ gb174))
      have n6_ := Aside0.mk ((by rw [hg]; exact (below_size (by repeat (first | (with_reducible first | exact HB.out | apply below_alloc | apply pw_below_drewN | apply below_drew1 | refine below_set ?_ GE162.out | refine below_set ?_ GE163.out) | exact HB.out))) : w.heap.size ≤ gb174))
      have n7_ := Aside0.mk ((by rw [hg]; exact Nat.ne_of_lt (blk_lt (g := gb162) (o := .cells #[.slice A0_0 l0_0.length c0_0] 51 (0, 0)) (pkb BK162.out)) : gb162 ≠ gb174))
      have n8_ := Aside0.mk ((by rw [hg]; exact Nat.ne_of_gt (blk_lt (g := gb162) (o := .cells #[.slice A0_0 l0_0.length c0_0] 51 (0, 0)) (pkb BK162.out)) : gb174 ≠ gb162))
      have n9_ := Aside0.mk ((by rw [hg]; exact Nat.ne_of_lt (blk_lt (g := gb163) (o := .cells #[.int .i64 a1_0, .int .i64 a1_1] 66 (0, 0)) (pkb BK163.out)) : gb163 ≠ gb174))
      have n10_ := Aside0.mk ((by rw [hg]; exact Nat.ne_of_gt (blk_lt (g := gb163) (o := .cells #[.int .i64 a1_0, .int .i64 a1_1] 66 (0, 0)) (pkb BK163.out)) : gb174 ≠ gb163))
      clear HO167
      clear BK162
      clear BK163
      clear HB
      have HO167 := n0_
      have BK162 := n1_
      have BK163 := n2_
      have HB := n3_
      have BK174 := n4_
      have GW174 := n5_
      have GE174 := n6_
      have NB162_174 := n7_
      have NB174_162 := n8_
      have NB163_174 := n9_
      have NB174_163 := n10_
      clear n0_ n1_ n2_ n3_ n4_ n5_ n6_ n7_ n8_ n9_ n10_
      clear hb hbox hg
      obtain ⟨Ao26, co26, eo26⟩ := Kd.R_slice HO167.out
      (first | subst eo26 | (injection eo26 with f1_ f2_ f3_; have f4_ := f1_.symm; have f5_ := f3_.symm; clear f1_ f2_ f3_; subst f4_; subst f5_))
      refine hK.out _ _ ⟨(blk_cell BK162.out 0).trans rfl, (blk_cell BK163.out 0).trans rfl, (blk_cell BK163.out 1).trans rfl⟩ (fun hHeld => ?_)
      clear hK K
      refine norm_ (a' := ?_) ?_ ?_
      rotate_left
      ·show Act.put _ (some 6) _ = _
       simp only [Act.put, List.setIfInBounds_toArray, List.set_cons_zero, List.set_cons_succ, i64_w, i32_w]
       rfl
      refine one_ (i := 4) (N := some 26) #[true, true, true, true, true, false, false, false, true, false, false] rfl rfl (one_of HT_.out (by kernel_rfl)) (by decide) (fun K hK => ?_)
      refine goes_ Try.func42 (by kernel_rfl) rfl #[.agg #[.slice Ao26 t165.length co26], .agg #[.int .i64 t168, .int .i64 t169]] (by rfl) rfl rfl (by (try simp only [List.map_toArray, List.map_cons, List.map_nil]); first | done | rfl | (simp only [List.length_drop, List.length_take]; rfl)) ?_
      with_reducible refine (spec_Receive.calls _ _ t165 t168 t169 t170 t173 _ ?side1 ?side2 A12.out).mono ?_
      (case side1 => repeat (first | exact (Kd.R_reads' HO167.out).2.2 | (with_reducible refine Kd.C_alloc ?_ _) | (with_reducible refine Kd.C_drewN ?_ _) | (with_reducible refine Kd.C_drew ?_)))
      (case side2 => exact (Kd.R_reads' HO167.out).2.1)
      rintro e w27 ⟨v171, rfl, ho0, hb⟩
      refine ⟨_, rfl, ?_⟩
      have n0_ := Aside0.mk (Kd.R_elder' (pkr HO167.out) (Kd.R_base ho0) hb)
      have n1_ := Aside0.mk (Kd.R_lower (Kd.R_new' ho0 (Kd.R_lt (pkr HO167.out))) (below_size (by repeat (first | (with_reducible first | exact HB.out | apply below_alloc | apply pw_below_drewN | apply below_drew1 | refine below_set ?_ GE162.out | refine below_set ?_ GE163.out | refine below_set ?_ GE174.out) | exact HB.out))))
      have n2_ := Aside0.mk (blk_below (g := gb162) (o := .cells #[.slice A0_0 l0_0.length c0_0] 51 (0, 0)) (pkb BK162.out) hb)
      have n3_ := Aside0.mk (blk_below (g := gb163) (o := .cells #[.int .i64 a1_0, .int .i64 a1_1] 66 (0, 0)) (pkb BK163.out) hb)
      have n4_ := Aside0.mk (blk_below (g := gb174) (o := .cells #[.slice none 0 0] 56 (0, 0)) (pkb BK174.out) hb)
      have n5_ := Aside0.mk (below_step (by repeat (first | (with_reducible first | exact HB.out | apply below_alloc | apply pw_below_drewN | apply below_drew1 | refine below_set ?_ GE162.out | refine below_set ?_ GE163.out | refine below_set ?_ GE174.out) | exact HB.out)) hb)
      clear HO167
      clear BK162
      clear BK163
      clear BK174
      clear HB
      have HO167 := n0_
      have HO172 := n1_
      have BK162 := n2_
      have BK163 := n3_
      have BK174 := n4_
      have HB := n5_
      clear n0_ n1_ n2_ n3_ n4_ n5_
      (try clear hb)
      (try clear hb2)
      (try clear hk)
      (try clear hi)
      (try clear ho0)
      refine hK.out _ _ ⟨(blk_cell BK162.out 0).trans rfl, (blk_cell BK163.out 0).trans rfl, (blk_cell BK163.out 1).trans rfl⟩ (fun hHeld => ?_)
      clear hK K
      refine norm_ (a' := ?_) ?_ ?_
      rotate_left
      ·show Act.put _ (some 26) _ = _
       simp only [Act.put, List.setIfInBounds_toArray, List.set_cons_zero, List.set_cons_succ, i64_w, i32_w]
       rfl
      refine pure_ (i := 5) (N := some 21) (v := ?_) (a' := ?_) #[true, true, true, true, true, true, false, false, true, false, false] rfl rfl (any_of HT_.out (by kernel_rfl)) (fun _ _ _ h => h) (Or.inl ⟨by rfl, ?_⟩) ?_ ?_
      rotate_left
      ·intro w'
       go_simp
       with_reducible rfl
      rotate_left
      ·simp only [Act.put, List.setIfInBounds_toArray, List.set_cons_zero, List.set_cons_succ, i64_w, i32_w]
       rfl
      refine pure_ (i := 6) (N := some 27) (v := ?_) (a' := ?_) #[true, true, true, true, true, true, true, false, true, false, false] rfl rfl (any_of HT_.out (by kernel_rfl)) (fun _ _ _ h => h) (Or.inl ⟨by rfl, ?_⟩) ?_ ?_
      rotate_left
      ·intro w'
       go_simp
       with_reducible rfl
      rotate_left
      ·simp only [Act.put, List.setIfInBounds_toArray, List.set_cons_zero, List.set_cons_succ, i64_w, i32_w]
       rfl
      refine pure_ (i := 7) (N := some 28) (v := ?_) (a' := ?_) #[true, true, true, true, true, true, true, true, true, false, false] rfl rfl (any_of HT_.out (by kernel_rfl)) (fun _ _ _ h => h) (Or.inl ⟨by rfl, ?_⟩) ?_ ?_
      rotate_left
      ·intro w'
       go_simp
       with_reducible rfl
      rotate_left
      ·simp only [Act.put, List.setIfInBounds_toArray, List.set_cons_zero, List.set_cons_succ, i64_w, i32_w]
       rfl
      exact norm_ (by simp only [putAll, Act.put, List.setIfInBounds_toArray, List.set_cons_zero, List.set_cons_succ]) (hCont (.slice Ao26 t165.length co26, v171, gb174) _ ⟨hHeld, (pkr (Kd.R_mono HO167.out (fun _ hk => by first | exact hk.2 | simp_all))), (pkr (Kd.R_mono HO172.out (fun _ hk => by first | exact hk.2 | simp_all))), (pkb BK162.out), (pkb BK163.out), (pkb BK174.out), GW174.out, GE174.out, NB162_174.out, NB174_162.out, NB163_174.out, NB174_163.out, (by repeat (first | (with_reducible first | exact HB.out | apply below_alloc | apply pw_below_drewN | apply below_drew1 | refine below_set ?_ GE162.out | refine below_set ?_ GE163.out | refine below_set ?_ GE174.out) | exact HB.out))⟩)
    ·skip
     refine box_step ?hg (N := 6) ?hd (cs := #[.slice none 0 0]) (t := 56) ?hr ?_; (case hd => rfl); (case hg => rfl); (case hr => first | (go_simp; done) | (go_simp; rfl))
     intro gb174 hg w24 hbox hb
     have n0_ := Aside0.mk (Kd.R_below (pkr HO167.out) hb)
     have n1_ := Aside0.mk (blk_below (g := gb162) (o := .cells #[.slice A0_0 l0_0.length c0_0] 51 (0, 0)) (pkb BK162.out) hb)
     have n2_ := Aside0.mk (blk_below (g := gb163) (o := .cells #[.int .i64 a1_0, .int .i64 a1_1] 66 (0, 0)) (pkb BK163.out) hb)
     have n3_ := Aside0.mk (below_step (by repeat (first | (with_reducible first | exact HB.out | apply below_alloc | apply pw_below_drewN | apply below_drew1 | refine below_set ?_ GE162.out | refine below_set ?_ GE163.out) | exact HB.out)) hb)
     have n4_ := Aside0.mk (hbox)
     have n5_ := Aside0.mk ((by rw [hg]; exact (below_size (by repeat (first | (with_reducible first | exact HB.out | apply below_alloc | apply pw_below_drewN | apply below_drew1 | refine below_set ?_ GE162.out | refine below_set ?_ GE163.out) | exact HB.out))) : w.heap.size ≤ gb174))
     have n6_ := Aside0.mk ((by rw [hg]; exact (below_size (by repeat (first | (with_reducible first | exact HB.out | apply below_alloc | apply pw_below_drewN | apply below_drew1 | refine below_set ?_ GE162.out | refine below_set ?_ GE163.out) | exact HB.out))) : w.heap.size ≤ gb174))
     have n7_ := Aside0.mk ((by rw [hg]; exact Nat.ne_of_lt (blk_lt (g := gb162) (o := .cells #[.slice A0_0 l0_0.length c0_0] 51 (0, 0)) (pkb BK162.out)) : gb162 ≠ gb174))
     have n8_ := Aside0.mk ((by rw [hg]; exact Nat.ne_of_gt (blk_lt (g := gb162) (o := .cells #[.slice A0_0 l0_0.length c0_0] 51 (0, 0)) (pkb BK162.out)) : gb174 ≠ gb162))
     have n9_ := Aside0.mk ((by rw [hg]; exact Nat.ne_of_lt (blk_lt (g := gb163) (o := .cells #[.int .i64 a1_0, .int .i64 a1_1] 66 (0, 0)) (pkb BK163.out)) : gb163 ≠ gb174))
     have n10_ := Aside0.mk ((by rw [hg]; exact Nat.ne_of_gt (blk_lt (g := gb163) (o := .cells #[.int .i64 a1_0, .int .i64 a1_1] 66 (0, 0)) (pkb BK163.out)) : gb174 ≠ gb163))
     clear HO167
     clear BK162
     clear BK163
     clear HB
     have HO167 := n0_
     have BK162 := n1_
     have BK163 := n2_
     have HB := n3_
     have BK174 := n4_
     have GW174 := n5_
     have GE174 := n6_
     have NB162_174 := n7_
     have NB174_162 := n8_
     have NB163_174 := n9_
     have NB174_163 := n10_
     clear n0_ n1_ n2_ n3_ n4_ n5_ n6_ n7_ n8_ n9_ n10_
     clear hb hbox hg
     refine hK.out _ _ ⟨(blk_cell BK162.out 0).trans rfl, (blk_cell BK163.out 0).trans rfl, (blk_cell BK163.out 1).trans rfl⟩ (fun hHeld => ?_)
     clear hK K
     refine norm_ (a' := ?_) ?_ ?_
     rotate_left
     ·show Act.put _ (some 6) _ = _
      simp only [Act.put, List.setIfInBounds_toArray, List.set_cons_zero, List.set_cons_succ, i64_w, i32_w]
      rfl
     refine one_ (i := 3) (N := some 25) #[true, true, true, true, false, false, false, false, true, false, false] rfl rfl (one_of HT_.out (by kernel_rfl)) (by decide) (fun K hK => ?_)
     refine goes_ Try.func44 (by kernel_rfl) rfl #[.agg #[.int .i64 a1_0, .int .i64 a1_1]] (by rfl) rfl rfl (by (try simp only [List.map_toArray, List.map_cons, List.map_nil]); first | done | rfl | (simp only [List.length_drop, List.length_take]; rfl)) ?_
     with_reducible refine (laws_toPacket.calls a1_0 a1_1 t168 t169 _ A11.out).mono ?_
     rintro e w25 ⟨rfl, hb⟩
     refine ⟨_, rfl, ?_⟩
     have n0_ := Aside0.mk (Kd.R_below (pkr HO167.out) hb)
     have n1_ := Aside0.mk (blk_below (g := gb162) (o := .cells #[.slice A0_0 l0_0.length c0_0] 51 (0, 0)) (pkb BK162.out) hb)
     have n2_ := Aside0.mk (blk_below (g := gb163) (o := .cells #[.int .i64 a1_0, .int .i64 a1_1] 66 (0, 0)) (pkb BK163.out) hb)
     have n3_ := Aside0.mk (blk_below (g := gb174) (o := .cells #[.slice none 0 0] 56 (0, 0)) (pkb BK174.out) hb)
     have n4_ := Aside0.mk (below_step (by repeat (first | (with_reducible first | exact HB.out | apply below_alloc | apply pw_below_drewN | apply below_drew1 | refine below_set ?_ GE162.out | refine below_set ?_ GE163.out | refine below_set ?_ GE174.out) | exact HB.out)) hb)
     clear HO167
     clear BK162
     clear BK163
     clear BK174
     clear HB
     have HO167 := n0_
     have BK162 := n1_
     have BK163 := n2_
     have BK174 := n3_
     have HB := n4_
     clear n0_ n1_ n2_ n3_ n4_
     (try clear hb)
     (try clear hb2)
     (try clear hk)
     (try clear hi)
     obtain ⟨Ao26, co26, eo26⟩ := Kd.R_slice HO167.out
     (first | subst eo26 | (injection eo26 with f1_ f2_ f3_; have f4_ := f1_.symm; have f5_ := f3_.symm; clear f1_ f2_ f3_; subst f4_; subst f5_))
     refine hK.out _ _ ⟨(blk_cell BK162.out 0).trans rfl, (blk_cell BK163.out 0).trans rfl, (blk_cell BK163.out 1).trans rfl⟩ (fun hHeld => ?_)
     clear hK K
     refine norm_ (a' := ?_) ?_ ?_
     rotate_left
     ·show Act.put _ (some 25) _ = _
      simp only [Act.put, List.setIfInBounds_toArray, List.set_cons_zero, List.set_cons_succ, i64_w, i32_w]
      rfl
     refine one_ (i := 4) (N := some 26) #[true, true, true, true, true, false, false, false, true, false, false] rfl rfl (one_of HT_.out (by kernel_rfl)) (by decide) (fun K hK => ?_)
     refine goes_ Try.func42 (by kernel_rfl) rfl #[.agg #[.slice Ao26 t165.length co26], .agg #[.int .i64 t168, .int .i64 t169]] (by rfl) rfl rfl (by (try simp only [List.map_toArray, List.map_cons, List.map_nil]); first | done | rfl | (simp only [List.length_drop, List.length_take]; rfl)) ?_
     with_reducible refine (spec_Receive.calls _ _ t165 t168 t169 t170 t173 _ ?side1 ?side2 A12.out).mono ?_
     (case side1 => repeat (first | exact (Kd.R_reads' HO167.out).2.2 | (with_reducible refine Kd.C_alloc ?_ _) | (with_reducible refine Kd.C_drewN ?_ _) | (with_reducible refine Kd.C_drew ?_)))
     (case side2 => exact (Kd.R_reads' HO167.out).2.1)
     rintro e w27 ⟨v171, rfl, ho0, hb⟩
     refine ⟨_, rfl, ?_⟩
     have n0_ := Aside0.mk (Kd.R_elder' (pkr HO167.out) (Kd.R_base ho0) hb)
     have n1_ := Aside0.mk (Kd.R_lower (Kd.R_new' ho0 (Kd.R_lt (pkr HO167.out))) (below_size (by repeat (first | (with_reducible first | exact HB.out | apply below_alloc | apply pw_below_drewN | apply below_drew1 | refine below_set ?_ GE162.out | refine below_set ?_ GE163.out | refine below_set ?_ GE174.out) | exact HB.out))))
     have n2_ := Aside0.mk (blk_below (g := gb162) (o := .cells #[.slice A0_0 l0_0.length c0_0] 51 (0, 0)) (pkb BK162.out) hb)
     have n3_ := Aside0.mk (blk_below (g := gb163) (o := .cells #[.int .i64 a1_0, .int .i64 a1_1] 66 (0, 0)) (pkb BK163.out) hb)
     have n4_ := Aside0.mk (blk_below (g := gb174) (o := .cells #[.slice none 0 0] 56 (0, 0)) (pkb BK174.out) hb)
     have n5_ := Aside0.mk (below_step (by repeat (first | (with_reducible first | exact HB.out | apply below_alloc | apply pw_below_drewN | apply below_drew1 | refine below_set ?_ GE162.out | refine below_set ?_ GE163.out | refine below_set ?_ GE174.out) | exact HB.out)) hb)
     clear HO167
     clear BK162
     clear BK163
     clear BK174
     clear HB
     have HO167 := n0_
     have HO172 := n1_
     have BK162 := n2_
     have BK163 := n3_
     have BK174 := n4_
     have HB := n5_
     clear n0_ n1_ n2_ n3_ n4_ n5_
     (try clear hb)
     (try clear hb2)
     (try clear hk)
     (try clear hi)
     (try clear ho0)
     refine hK.out _ _ ⟨(blk_cell BK162.out 0).trans rfl, (blk_cell BK163.out 0).trans rfl, (blk_cell BK163.out 1).trans rfl⟩ (fun hHeld => ?_)
     clear hK K
     refine norm_ (a' := ?_) ?_ ?_
     rotate_left
     ·show Act.put _ (some 26) _ = _
      simp only [Act.put, List.setIfInBounds_toArray, List.set_cons_zero, List.set_cons_succ, i64_w, i32_w]
      rfl
     refine pure_ (i := 5) (N := some 21) (v := ?_) (a' := ?_) #[true, true, true, true, true, true, false, false, true, false, false] rfl rfl (any_of HT_.out (by kernel_rfl)) (fun _ _ _ h => h) (Or.inl ⟨by rfl, ?_⟩) ?_ ?_
     rotate_left
     ·intro w'
      go_simp
      with_reducible rfl
     rotate_left
     ·simp only [Act.put, List.setIfInBounds_toArray, List.set_cons_zero, List.set_cons_succ, i64_w, i32_w]
      rfl
     refine pure_ (i := 6) (N := some 27) (v := ?_) (a' := ?_) #[true, true, true, true, true, true, true, false, true, false, false] rfl rfl (any_of HT_.out (by kernel_rfl)) (fun _ _ _ h => h) (Or.inl ⟨by rfl, ?_⟩) ?_ ?_
     rotate_left
     ·intro w'
      go_simp
      with_reducible rfl
     rotate_left
     ·simp only [Act.put, List.setIfInBounds_toArray, List.set_cons_zero, List.set_cons_succ, i64_w, i32_w]
      rfl
     refine pure_ (i := 7) (N := some 28) (v := ?_) (a' := ?_) #[true, true, true, true, true, true, true, true, true, false, false] rfl rfl (any_of HT_.out (by kernel_rfl)) (fun _ _ _ h => h) (Or.inl ⟨by rfl, ?_⟩) ?_ ?_
     rotate_left
     ·intro w'
      go_simp
      with_reducible rfl
     rotate_left
     ·simp only [Act.put, List.setIfInBounds_toArray, List.set_cons_zero, List.set_cons_succ, i64_w, i32_w]
      rfl
     exact norm_ (by simp only [putAll, Act.put, List.setIfInBounds_toArray, List.set_cons_zero, List.set_cons_succ]) (hCont (.slice Ao26 t165.length co26, v171, gb174) _ ⟨hHeld, (pkr (Kd.R_mono HO167.out (fun _ hk => by first | exact hk.2 | simp_all))), (pkr (Kd.R_mono HO172.out (fun _ hk => by first | exact hk.2 | simp_all))), (pkb BK162.out), (pkb BK163.out), (pkb BK174.out), GW174.out, GE174.out, NB162_174.out, NB174_162.out, NB163_174.out, NB174_163.out, (by repeat (first | (with_reducible first | exact HB.out | apply below_alloc | apply pw_below_drewN | apply below_drew1 | refine below_set ?_ GE162.out | refine below_set ?_ GE163.out | refine below_set ?_ GE174.out) | exact HB.out))⟩)
   ·skip
    refine box_step ?hg (N := 6) ?hd (cs := #[.slice none 0 0]) (t := 56) ?hr ?_; (case hd => rfl); (case hg => rfl); (case hr => first | (go_simp; done) | (go_simp; rfl))
    intro gb174 hg w23 hbox hb
    have n0_ := Aside0.mk (blk_below (g := gb162) (o := .cells #[.slice A0_0 l0_0.length c0_0] 51 (0, 0)) (pkb BK162.out) hb)
    have n1_ := Aside0.mk (blk_below (g := gb163) (o := .cells #[.int .i64 a1_0, .int .i64 a1_1] 66 (0, 0)) (pkb BK163.out) hb)
    have n2_ := Aside0.mk (below_step (by repeat (first | (with_reducible first | exact HB.out | apply below_alloc | apply pw_below_drewN | apply below_drew1 | refine below_set ?_ GE162.out | refine below_set ?_ GE163.out) | exact HB.out)) hb)
    have n3_ := Aside0.mk (hbox)
    have n4_ := Aside0.mk ((by rw [hg]; exact (below_size (by repeat (first | (with_reducible first | exact HB.out | apply below_alloc | apply pw_below_drewN | apply below_drew1 | refine below_set ?_ GE162.out | refine below_set ?_ GE163.out) | exact HB.out))) : w.heap.size ≤ gb174))
    have n5_ := Aside0.mk ((by rw [hg]; exact (below_size (by repeat (first | (with_reducible first | exact HB.out | apply below_alloc | apply pw_below_drewN | apply below_drew1 | refine below_set ?_ GE162.out | refine below_set ?_ GE163.out) | exact HB.out))) : w.heap.size ≤ gb174))
    have n6_ := Aside0.mk ((by rw [hg]; exact Nat.ne_of_lt (blk_lt (g := gb162) (o := .cells #[.slice A0_0 l0_0.length c0_0] 51 (0, 0)) (pkb BK162.out)) : gb162 ≠ gb174))
    have n7_ := Aside0.mk ((by rw [hg]; exact Nat.ne_of_gt (blk_lt (g := gb162) (o := .cells #[.slice A0_0 l0_0.length c0_0] 51 (0, 0)) (pkb BK162.out)) : gb174 ≠ gb162))
    have n8_ := Aside0.mk ((by rw [hg]; exact Nat.ne_of_lt (blk_lt (g := gb163) (o := .cells #[.int .i64 a1_0, .int .i64 a1_1] 66 (0, 0)) (pkb BK163.out)) : gb163 ≠ gb174))
    have n9_ := Aside0.mk ((by rw [hg]; exact Nat.ne_of_gt (blk_lt (g := gb163) (o := .cells #[.int .i64 a1_0, .int .i64 a1_1] 66 (0, 0)) (pkb BK163.out)) : gb174 ≠ gb163))
    clear BK162
    clear BK163
    clear HB
    have BK162 := n0_
    have BK163 := n1_
    have HB := n2_
    have BK174 := n3_
    have GW174 := n4_
    have GE174 := n5_
    have NB162_174 := n6_
    have NB174_162 := n7_
    have NB163_174 := n8_
    have NB174_163 := n9_
    clear n0_ n1_ n2_ n3_ n4_ n5_ n6_ n7_ n8_ n9_
    clear hb hbox hg
    refine hK.out _ _ ⟨(blk_cell BK162.out 0).trans rfl, (blk_cell BK163.out 0).trans rfl, (blk_cell BK163.out 1).trans rfl⟩ (fun hHeld => ?_)
    clear hK K
    refine norm_ (a' := ?_) ?_ ?_
    rotate_left
    ·show Act.put _ (some 6) _ = _
     simp only [Act.put, List.setIfInBounds_toArray, List.set_cons_zero, List.set_cons_succ, i64_w, i32_w]
     rfl
    refine one_ (i := 1) (N := some 23) #[true, true, true, false, false, false, false, false, true, false, false] rfl rfl (one_of HT_.out (by kernel_rfl)) (by decide) (fun K hK => ?_)
    refine goes_ Try.func43 (by kernel_rfl) rfl #[.agg #[.slice A0_0 l0_0.length c0_0]] (by rfl) rfl rfl (by (try simp only [List.map_toArray, List.map_cons, List.map_nil]); first | done | rfl | (simp only [List.length_drop, List.length_take]; rfl)) ?_
    with_reducible refine (laws_toGateway.calls k _ _ l0_0 t165 _ ?side1 ?side2 A10.out).mono ?_
    (case side1 => repeat (first | exact (Kd.C_below HR0_0.out HB.out) | (with_reducible refine Kd.C_alloc ?_ _) | (with_reducible refine Kd.C_drewN ?_ _) | (with_reducible refine Kd.C_drew ?_)))
    (case side2 => exact HC0_0.out)
    rintro e w24 ⟨v166, rfl, ho0, hb⟩
    refine ⟨_, rfl, ?_⟩
    have n0_ := Aside0.mk (Kd.R_lower ho0 (below_size (by repeat (first | (with_reducible first | exact HB.out | apply below_alloc | apply pw_below_drewN | apply below_drew1 | refine below_set ?_ GE162.out | refine below_set ?_ GE163.out | refine below_set ?_ GE174.out) | exact HB.out))))
    have n1_ := Aside0.mk (blk_below (g := gb162) (o := .cells #[.slice A0_0 l0_0.length c0_0] 51 (0, 0)) (pkb BK162.out) hb)
    have n2_ := Aside0.mk (blk_below (g := gb163) (o := .cells #[.int .i64 a1_0, .int .i64 a1_1] 66 (0, 0)) (pkb BK163.out) hb)
    have n3_ := Aside0.mk (blk_below (g := gb174) (o := .cells #[.slice none 0 0] 56 (0, 0)) (pkb BK174.out) hb)
    have n4_ := Aside0.mk (below_step (by repeat (first | (with_reducible first | exact HB.out | apply below_alloc | apply pw_below_drewN | apply below_drew1 | refine below_set ?_ GE162.out | refine below_set ?_ GE163.out | refine below_set ?_ GE174.out) | exact HB.out)) hb)
    clear BK162
    clear BK163
    clear BK174
    clear HB
    have HO167 := n0_
    have BK162 := n1_
    have BK163 := n2_
    have BK174 := n3_
    have HB := n4_
    clear n0_ n1_ n2_ n3_ n4_
    (try clear hb)
    (try clear hb2)
    (try clear hk)
    (try clear hi)
    (try clear ho0)
    refine hK.out _ _ ⟨(blk_cell BK162.out 0).trans rfl, (blk_cell BK163.out 0).trans rfl, (blk_cell BK163.out 1).trans rfl⟩ (fun hHeld => ?_)
    clear hK K
    refine norm_ (a' := ?_) ?_ ?_
    rotate_left
    ·show Act.put _ (some 23) _ = _
     simp only [Act.put, List.setIfInBounds_toArray, List.set_cons_zero, List.set_cons_succ, i64_w, i32_w]
     rfl
    refine one_ (i := 3) (N := some 25) #[true, true, true, true, false, false, false, false, true, false, false] rfl rfl (one_of HT_.out (by kernel_rfl)) (by decide) (fun K hK => ?_)
    refine goes_ Try.func44 (by kernel_rfl) rfl #[.agg #[.int .i64 a1_0, .int .i64 a1_1]] (by rfl) rfl rfl (by (try simp only [List.map_toArray, List.map_cons, List.map_nil]); first | done | rfl | (simp only [List.length_drop, List.length_take]; rfl)) ?_
    with_reducible refine (laws_toPacket.calls a1_0 a1_1 t168 t169 _ A11.out).mono ?_
    rintro e w25 ⟨rfl, hb⟩
    refine ⟨_, rfl, ?_⟩
    have n0_ := Aside0.mk (Kd.R_below (pkr HO167.out) hb)
    have n1_ := Aside0.mk (blk_below (g := gb162) (o := .cells #[.slice A0_0 l0_0.length c0_0] 51 (0, 0)) (pkb BK162.out) hb)
    have n2_ := Aside0.mk (blk_below (g := gb163) (o := .cells #[.int .i64 a1_0, .int .i64 a1_1] 66 (0, 0)) (pkb BK163.out) hb)
    have n3_ := Aside0.mk (blk_below (g := gb174) (o := .cells #[.slice none 0 0] 56 (0, 0)) (pkb BK174.out) hb)
    have n4_ := Aside0.mk (below_step (by repeat (first | (with_reducible first | exact HB.out | apply below_alloc | apply pw_below_drewN | apply below_drew1 | refine below_set ?_ GE162.out | refine below_set ?_ GE163.out | refine below_set ?_ GE174.out) | exact HB.out)) hb)
    clear HO167
    clear BK162
    clear BK163
    clear BK174
    clear HB
    have HO167 := n0_
    have BK162 := n1_
    have BK163 := n2_
    have BK174 := n3_
    have HB := n4_
    clear n0_ n1_ n2_ n3_ n4_
    (try clear hb)
    (try clear hb2)
    (try clear hk)
    (try clear hi)
    obtain ⟨Ao26, co26, eo26⟩ := Kd.R_slice HO167.out
    (first | subst eo26 | (injection eo26 with f1_ f2_ f3_; have f4_ := f1_.symm; have f5_ := f3_.symm; clear f1_ f2_ f3_; subst f4_; subst f5_))
    refine hK.out _ _ ⟨(blk_cell BK162.out 0).trans rfl, (blk_cell BK163.out 0).trans rfl, (blk_cell BK163.out 1).trans rfl⟩ (fun hHeld => ?_)
    clear hK K
    refine norm_ (a' := ?_) ?_ ?_
    rotate_left
    ·show Act.put _ (some 25) _ = _
     simp only [Act.put, List.setIfInBounds_toArray, List.set_cons_zero, List.set_cons_succ, i64_w, i32_w]
     rfl
    refine one_ (i := 4) (N := some 26) #[true, true, true, true, true, false, false, false, true, false, false] rfl rfl (one_of HT_.out (by kernel_rfl)) (by decide) (fun K hK => ?_)
    refine goes_ Try.func42 (by kernel_rfl) rfl #[.agg #[.slice Ao26 t165.length co26], .agg #[.int .i64 t168, .int .i64 t169]] (by rfl) rfl rfl (by (try simp only [List.map_toArray, List.map_cons, List.map_nil]); first | done | rfl | (simp only [List.length_drop, List.length_take]; rfl)) ?_
    with_reducible refine (spec_Receive.calls _ _ t165 t168 t169 t170 t173 _ ?side1 ?side2 A12.out).mono ?_
    (case side1 => repeat (first | exact (Kd.R_reads' HO167.out).2.2 | (with_reducible refine Kd.C_alloc ?_ _) | (with_reducible refine Kd.C_drewN ?_ _) | (with_reducible refine Kd.C_drew ?_)))
    (case side2 => exact (Kd.R_reads' HO167.out).2.1)
    rintro e w27 ⟨v171, rfl, ho0, hb⟩
    refine ⟨_, rfl, ?_⟩
    have n0_ := Aside0.mk (Kd.R_elder' (pkr HO167.out) (Kd.R_base ho0) hb)
    have n1_ := Aside0.mk (Kd.R_lower (Kd.R_new' ho0 (Kd.R_lt (pkr HO167.out))) (below_size (by repeat (first | (with_reducible first | exact HB.out | apply below_alloc | apply pw_below_drewN | apply below_drew1 | refine below_set ?_ GE162.out | refine below_set ?_ GE163.out | refine below_set ?_ GE174.out) | exact HB.out))))
    have n2_ := Aside0.mk (blk_below (g := gb162) (o := .cells #[.slice A0_0 l0_0.length c0_0] 51 (0, 0)) (pkb BK162.out) hb)
    have n3_ := Aside0.mk (blk_below (g := gb163) (o := .cells #[.int .i64 a1_0, .int .i64 a1_1] 66 (0, 0)) (pkb BK163.out) hb)
    have n4_ := Aside0.mk (blk_below (g := gb174) (o := .cells #[.slice none 0 0] 56 (0, 0)) (pkb BK174.out) hb)
    have n5_ := Aside0.mk (below_step (by repeat (first | (with_reducible first | exact HB.out | apply below_alloc | apply pw_below_drewN | apply below_drew1 | refine below_set ?_ GE162.out | refine below_set ?_ GE163.out | refine below_set ?_ GE174.out) | exact HB.out)) hb)
    clear HO167
    clear BK162
    clear BK163
    clear BK174
    clear HB
    have HO167 := n0_
    have HO172 := n1_
    have BK162 := n2_
    have BK163 := n3_
    have BK174 := n4_
    have HB := n5_
    clear n0_ n1_ n2_ n3_ n4_ n5_
    (try clear hb)
    (try clear hb2)
    (try clear hk)
    (try clear hi)
    (try clear ho0)
    refine hK.out _ _ ⟨(blk_cell BK162.out 0).trans rfl, (blk_cell BK163.out 0).trans rfl, (blk_cell BK163.out 1).trans rfl⟩ (fun hHeld => ?_)
    clear hK K
    refine norm_ (a' := ?_) ?_ ?_
    rotate_left
    ·show Act.put _ (some 26) _ = _
     simp only [Act.put, List.setIfInBounds_toArray, List.set_cons_zero, List.set_cons_succ, i64_w, i32_w]
     rfl
    refine pure_ (i := 5) (N := some 21) (v := ?_) (a' := ?_) #[true, true, true, true, true, true, false, false, true, false, false] rfl rfl (any_of HT_.out (by kernel_rfl)) (fun _ _ _ h => h) (Or.inl ⟨by rfl, ?_⟩) ?_ ?_
    rotate_left
    ·intro w'
     go_simp
     with_reducible rfl
    rotate_left
    ·simp only [Act.put, List.setIfInBounds_toArray, List.set_cons_zero, List.set_cons_succ, i64_w, i32_w]
     rfl
    refine pure_ (i := 6) (N := some 27) (v := ?_) (a' := ?_) #[true, true, true, true, true, true, true, false, true, false, false] rfl rfl (any_of HT_.out (by kernel_rfl)) (fun _ _ _ h => h) (Or.inl ⟨by rfl, ?_⟩) ?_ ?_
    rotate_left
    ·intro w'
     go_simp
     with_reducible rfl
    rotate_left
    ·simp only [Act.put, List.setIfInBounds_toArray, List.set_cons_zero, List.set_cons_succ, i64_w, i32_w]
     rfl
    refine pure_ (i := 7) (N := some 28) (v := ?_) (a' := ?_) #[true, true, true, true, true, true, true, true, true, false, false] rfl rfl (any_of HT_.out (by kernel_rfl)) (fun _ _ _ h => h) (Or.inl ⟨by rfl, ?_⟩) ?_ ?_
    rotate_left
    ·intro w'
     go_simp
     with_reducible rfl
    rotate_left
    ·simp only [Act.put, List.setIfInBounds_toArray, List.set_cons_zero, List.set_cons_succ, i64_w, i32_w]
     rfl
    exact norm_ (by simp only [putAll, Act.put, List.setIfInBounds_toArray, List.set_cons_zero, List.set_cons_succ]) (hCont (.slice Ao26 t165.length co26, v171, gb174) _ ⟨hHeld, (pkr (Kd.R_mono HO167.out (fun _ hk => by first | exact hk.2 | simp_all))), (pkr (Kd.R_mono HO172.out (fun _ hk => by first | exact hk.2 | simp_all))), (pkb BK162.out), (pkb BK163.out), (pkb BK174.out), GW174.out, GE174.out, NB162_174.out, NB174_162.out, NB163_174.out, NB174_163.out, (by repeat (first | (with_reducible first | exact HB.out | apply below_alloc | apply pw_below_drewN | apply below_drew1 | refine below_set ?_ GE162.out | refine below_set ?_ GE163.out | refine below_set ?_ GE174.out) | exact HB.out))⟩)
  rintro ⟨v166, v171, gb174⟩ w28 ⟨hS_, h0_, h1_, h2_, h3_, h4_, h5_, h6_, h7_, h8_, h9_, h10_, h11_⟩
  have n0_ : Aside0 (Kd.R (Kd.int .i64) 3 w28 w.heap.size (fun k_ => some k_ ≠ (v171 : Value).ownBlock) v166 t165) := ⟨h0_⟩
  have n1_ : Aside0 (Kd.R (Kd.int .i64) 3 w28 w.heap.size (fun k_ => some k_ ≠ (v166 : Value).ownBlock) v171 t170) := ⟨h1_⟩
  have n2_ : Aside0 (w28.heap[gb162]? = some (.cells #[.slice A0_0 l0_0.length c0_0] 51 (0, 0))) := ⟨h2_⟩
  have n3_ : Aside0 (w28.heap[gb163]? = some (.cells #[.int .i64 a1_0, .int .i64 a1_1] 66 (0, 0))) := ⟨h3_⟩
  have n4_ : Aside0 (w28.heap[gb174]? = some (.cells #[.slice none 0 0] 56 (0, 0))) := ⟨h4_⟩
  have n5_ : Aside0 (w.heap.size ≤ gb174) := ⟨h5_⟩
  have n6_ : Aside0 (w.heap.size ≤ gb174) := ⟨h6_⟩
  have n7_ : Aside0 (gb162 ≠ gb174) := ⟨h7_⟩
  have n8_ : Aside0 (gb174 ≠ gb162) := ⟨h8_⟩
  have n9_ : Aside0 (gb163 ≠ gb174) := ⟨h9_⟩
  have n10_ : Aside0 (gb174 ≠ gb163) := ⟨h10_⟩
  have n11_ : Aside0 (Below w.heap.size w w28) := ⟨h11_⟩
  clear BK162
  clear BK163
  clear HB
  clear h0_ h1_ h2_ h3_ h4_ h5_ h6_ h7_ h8_ h9_ h10_ h11_
  have HO167 := n0_
  have HO172 := n1_
  have BK162 := n2_
  have BK163 := n3_
  have BK174 := n4_
  have GW174 := n5_
  have GE174 := n6_
  have NB162_174 := n7_
  have NB174_162 := n8_
  have NB163_174 := n9_
  have NB174_163 := n10_
  have HB := n11_
  clear n0_ n1_ n2_ n3_ n4_ n5_ n6_ n7_ n8_ n9_ n10_ n11_
  have hHeld : w28.cell? ⟨gb162, 0, none⟩ = some (.slice A0_0 l0_0.length c0_0) ∧ w28.cell? ⟨gb163, 0, none⟩ = some (.int .i64 a1_0) ∧ w28.cell? ⟨gb163, 1, none⟩ = some (.int .i64 a1_1) := hS_
  obtain ⟨Ao29, co29, eo29⟩ := Kd.R_slice HO172.out
  (first | subst eo29 | (injection eo29 with f1_ f2_ f3_; have f4_ := f1_.symm; have f5_ := f3_.symm; clear f1_ f2_ f3_; subst f4_; subst f5_))
  refine norm_ (a' := ?_) ?_ ?_
  rotate_left
  ·simp only [putAll, Act.put, List.setIfInBounds_toArray, List.set_cons_zero, List.set_cons_succ]
   rfl
  refine one_ (i := 9) (N := none) #[true, true, true, true, true, true, true, true, true, true, false] rfl rfl (one_of HT_.out (by kernel_rfl)) (by decide) (fun K hK => ?_)
  have hs30 : w28.cell? ⟨gb174, 0, none⟩ = some (.slice none 0 0) := (blk_cell BK174.out 0).trans rfl
  have hfs30 := blk_frozen BK174.out 0
  have hns30_0 := NB162_174.out
  have hns30_1 := NB163_174.out
  have hms30_0 := NB174_162.out
  have hms30_1 := NB174_163.out
  refine skip_ (w1 := ?_) (by rfl) rfl ?_ ?_
  rotate_left
  ·go_simp
   rfl
  refine hK.out _ _ ⟨((cell_far (p := ⟨gb174, _, none⟩) NB162_174.out _).trans (hHeld.1)), ((cell_far (p := ⟨gb174, _, none⟩) NB163_174.out _).trans (hHeld.2.1)), ((cell_far (p := ⟨gb174, _, none⟩) NB163_174.out _).trans (hHeld.2.2))⟩ (fun hHeld => ?_)
  clear hK K
  refine pure_ (i := 10) (N := some 7) (v := ?_) (a' := ?_) #[true, true, true, true, true, true, true, true, true, true, true] rfl rfl (any_of HT_.out (by kernel_rfl)) (fun _ _ _ h => h) (Or.inl ⟨by rfl, ?_⟩) ?_ ?_
  rotate_left
  ·intro w'
   go_simp
   with_reducible rfl
  rotate_left
  ·simp only [Act.put, List.setIfInBounds_toArray, List.set_cons_zero, List.set_cons_succ, i64_w, i32_w]
   rfl
  refine done_ (done_of HT_.out (by kernel_rfl)) ?_
  have hnb31 := NB162_174.out
  have hnc31 := NB174_162.out
  have hcz32_0 : w28.cell? ⟨gb162, 0, none⟩ = some (.slice A0_0 l0_0.length c0_0) := (blk_cell BK162.out 0).trans rfl
  have hfz32_0 := blk_frozen BK162.out 0
  try go_wp2_with (first | ((with_reducible refine gate_callee (f := 43) rfl ?_); refine goesL_ (some 30) rfl rfl Try.func43 (by kernel_rfl) rfl #[.agg #[.slice A0_0 l0_0.length c0_0]] rfl (by (try simp only [List.map_toArray, List.map_cons, List.map_nil]); first | done | rfl | (simp only [List.length_drop, List.length_take]; rfl)) ?_; (with_reducible refine (laws_toGateway.calls k _ _ l0_0 t175 _ ?side1 ?side2 A13.out).mono ?_); (case side1 => exact Kd.C_below HR0_0.out (by repeat (first | (with_reducible first | exact HB.out | apply below_alloc | apply pw_below_drewN | apply below_drew1 | refine below_set ?_ GE162.out | refine below_set ?_ GE163.out | refine below_set ?_ GE174.out) | exact HB.out))); (case side2 => exact HC0_0.out); rintro e w33 ⟨v176, rfl, ho0, hb⟩; refine ⟨_, rfl, ?_⟩; have n0_ := Aside0.mk (Kd.R_elder' (pkr ((Kd.R_mono (Kd.R_far (p := ⟨gb174, 0, none⟩) (Kd.R_types HO167.out BK174.out (by decide)) (fun _ hk => by first | exact hk.2 | simp_all) (.slice Ao29 t170.length co29)) (fun _ h_ => by first | exact h_.1 | simp_all)))) (Kd.R_base ho0) hb); have n1_ := Aside0.mk (Kd.R_elder' (pkr ((Kd.R_mono (Kd.R_far (p := ⟨gb174, 0, none⟩) (Kd.R_types HO172.out BK174.out (by decide)) (fun _ hk => by first | exact hk.2 | simp_all) (.slice Ao29 t170.length co29)) (fun _ h_ => by first | exact h_.1 | simp_all)))) (Kd.R_base ho0) hb); have n2_ := Aside0.mk (Kd.R_lower (Kd.R_new' (Kd.R_new' ho0 (Kd.R_lt (pkr ((Kd.R_mono (Kd.R_far (p := ⟨gb174, 0, none⟩) (Kd.R_types HO167.out BK174.out (by decide)) (fun _ hk => by first | exact hk.2 | simp_all) (.slice Ao29 t170.length co29)) (fun _ h_ => by first | exact h_.1 | simp_all)))))) (Kd.R_lt (pkr ((Kd.R_mono (Kd.R_far (p := ⟨gb174, 0, none⟩) (Kd.R_types HO172.out BK174.out (by decide)) (fun _ hk => by first | exact hk.2 | simp_all) (.slice Ao29 t170.length co29)) (fun _ h_ => by first | exact h_.1 | simp_all)))))) (below_size (by repeat (first | (with_reducible first | exact HB.out | apply below_alloc | apply pw_below_drewN | apply below_drew1 | refine below_set ?_ GE162.out | refine below_set ?_ GE163.out | refine below_set ?_ GE174.out) | exact HB.out)))); have n3_ := Aside0.mk (blk_below (g := gb162) (o := .cells #[.slice A0_0 l0_0.length c0_0] 51 (0, 0)) (by (with_reducible repeat (first | refine blk_drewN ?_ _ | refine blk_drew ?_ | refine blk_alloc ?_ _)); refine blk_far ?_ NB162_174.out _; (with_reducible repeat (first | refine blk_drewN ?_ _ | refine blk_drew ?_ | refine blk_alloc ?_ _)); exact BK162.out) hb); have n4_ := Aside0.mk (blk_below (g := gb163) (o := .cells #[.int .i64 a1_0, .int .i64 a1_1] 66 (0, 0)) (by (with_reducible repeat (first | refine blk_drewN ?_ _ | refine blk_drew ?_ | refine blk_alloc ?_ _)); refine blk_far ?_ NB163_174.out _; (with_reducible repeat (first | refine blk_drewN ?_ _ | refine blk_drew ?_ | refine blk_alloc ?_ _)); exact BK163.out) hb); have n5_ := Aside0.mk (blk_below (g := gb174) (o := .cells #[.slice Ao29 t170.length co29] 56 (0, 0)) (by (with_reducible repeat (first | refine blk_drewN ?_ _ | refine blk_drew ?_ | refine blk_alloc ?_ _)); refine blk_put (cs := #[.slice none 0 0]) ?_ 0 _ rfl; (with_reducible repeat (first | refine blk_drewN ?_ _ | refine blk_drew ?_ | refine blk_alloc ?_ _)); exact BK174.out) hb); have n6_ := Aside0.mk (below_step (by repeat (first | (with_reducible first | exact HB.out | apply below_alloc | apply pw_below_drewN | apply below_drew1 | refine below_set ?_ GE162.out | refine below_set ?_ GE163.out | refine below_set ?_ GE174.out) | exact HB.out)) hb); clear HO167; clear HO172; clear BK162; clear BK163; clear BK174; clear HB; have HO167 := n0_; have HO172 := n1_; have HO177 := n2_; have BK162 := n3_; have BK163 := n4_; have BK174 := n5_; have HB := n6_; clear n0_ n1_ n2_ n3_ n4_ n5_ n6_; (try clear hb); (try clear hb2); (try clear hk); (try clear hi); (try clear ho0)) | ((with_reducible refine gate_dst (N := 8) rfl ?_); refine box_event ?hg (N := 8) ?hd (cs := #[.slice none 0 0]) (t := 56) ?hr ?_; (case hd => rfl); (case hg => rfl); (case hr => first | (go_simp; done) | (go_simp; rfl)); intro gb178 hg w34 hbox hb; have n0_ := Aside0.mk (Kd.R_below (pkr HO167.out) hb); have n1_ := Aside0.mk (Kd.R_below (pkr HO172.out) hb); have n2_ := Aside0.mk (Kd.R_below (pkr HO177.out) hb); have n3_ := Aside0.mk (blk_below (g := gb162) (o := .cells #[.slice A0_0 l0_0.length c0_0] 51 (0, 0)) (pkb BK162.out) hb); have n4_ := Aside0.mk (blk_below (g := gb163) (o := .cells #[.int .i64 a1_0, .int .i64 a1_1] 66 (0, 0)) (pkb BK163.out) hb); have n5_ := Aside0.mk (blk_below (g := gb174) (o := .cells #[.slice Ao29 t170.length co29] 56 (0, 0)) (pkb BK174.out) hb); have n6_ := Aside0.mk (below_step (by repeat (first | (with_reducible first | exact HB.out | apply below_alloc | apply pw_below_drewN | apply below_drew1 | refine below_set ?_ GE162.out | refine below_set ?_ GE163.out | refine below_set ?_ GE174.out) | exact HB.out)) hb); have n7_ := Aside0.mk (hbox); have n8_ := Aside0.mk ((by rw [hg]; exact (below_size (by repeat (first | (with_reducible first | exact HB.out | apply below_alloc | apply pw_below_drewN | apply below_drew1 | refine below_set ?_ GE162.out | refine below_set ?_ GE163.out | refine below_set ?_ GE174.out) | exact HB.out))) : w.heap.size ≤ gb178)); have n9_ := Aside0.mk ((by rw [hg]; exact (below_size (by repeat (first | (with_reducible first | exact HB.out | apply below_alloc | apply pw_below_drewN | apply below_drew1 | refine below_set ?_ GE162.out | refine below_set ?_ GE163.out | refine below_set ?_ GE174.out) | exact HB.out))) : w.heap.size ≤ gb178)); have n10_ := Aside0.mk ((by rw [hg]; exact Nat.ne_of_lt (blk_lt (g := gb162) (o := .cells #[.slice A0_0 l0_0.length c0_0] 51 (0, 0)) (pkb BK162.out)) : gb162 ≠ gb178)); have n11_ := Aside0.mk ((by rw [hg]; exact Nat.ne_of_gt (blk_lt (g := gb162) (o := .cells #[.slice A0_0 l0_0.length c0_0] 51 (0, 0)) (pkb BK162.out)) : gb178 ≠ gb162)); have n12_ := Aside0.mk ((by rw [hg]; exact Nat.ne_of_lt (blk_lt (g := gb163) (o := .cells #[.int .i64 a1_0, .int .i64 a1_1] 66 (0, 0)) (pkb BK163.out)) : gb163 ≠ gb178)); have n13_ := Aside0.mk ((by rw [hg]; exact Nat.ne_of_gt (blk_lt (g := gb163) (o := .cells #[.int .i64 a1_0, .int .i64 a1_1] 66 (0, 0)) (pkb BK163.out)) : gb178 ≠ gb163)); have n14_ := Aside0.mk ((by rw [hg]; exact Nat.ne_of_lt (blk_lt (g := gb174) (o := .cells #[.slice Ao29 t170.length co29] 56 (0, 0)) (pkb BK174.out)) : gb174 ≠ gb178)); have n15_ := Aside0.mk ((by rw [hg]; exact Nat.ne_of_gt (blk_lt (g := gb174) (o := .cells #[.slice Ao29 t170.length co29] 56 (0, 0)) (pkb BK174.out)) : gb178 ≠ gb174)); clear HO167; clear HO172; clear HO177; clear BK162; clear BK163; clear BK174; clear HB; have HO167 := n0_; have HO172 := n1_; have HO177 := n2_; have BK162 := n3_; have BK163 := n4_; have BK174 := n5_; have HB := n6_; have BK178 := n7_; have GW178 := n8_; have GE178 := n9_; have NB162_178 := n10_; have NB178_162 := n11_; have NB163_178 := n12_; have NB178_163 := n13_; have NB174_178 := n14_; have NB178_174 := n15_; clear n0_ n1_ n2_ n3_ n4_ n5_ n6_ n7_ n8_ n9_ n10_ n11_ n12_ n13_ n14_ n15_; clear hb hbox hg; obtain ⟨Ao35, co35, eo35⟩ := Kd.R_slice HO177.out; subst eo35; have hnb36 := NB178_162.out; have hnc36 := NB162_178.out; have hnb37 := NB178_163.out; have hnc37 := NB163_178.out; have hnb38 := NB178_174.out; have hnc38 := NB174_178.out; have hcz39_0 : w34.cell? ⟨gb178, 0, none⟩ = some (.slice none 0 0) := (blk_cell BK178.out 0).trans rfl; have hfz39_0 := blk_frozen BK178.out 0))
  have n0_ : Aside0 (Kd.R (Kd.int .i64) 3 (w34.setCell ⟨gb178, 0, none⟩ (.slice Ao35 t175.length co35)) w.heap.size (fun k_ => some k_ ≠ (.slice Ao29 t170.length co29 : Value).ownBlock ∧ some k_ ≠ (.slice Ao35 t175.length co35 : Value).ownBlock) v166 t165) := ⟨by (with_reducible repeat (first | apply Kd.R_alloc | apply Kd.R_drewN | apply Kd.R_drew)); exact Kd.R_mono (Kd.R_far (p := ⟨gb178, 0, none⟩) (Kd.R_types HO167.out BK178.out (by decide)) (fun _ hk => by first | exact hk.2 | simp_all) (.slice Ao35 t175.length co35)) (fun _ hk => by first | exact ⟨hk.1.1, hk.1.2⟩ | simp_all)⟩
  have n1_ : Aside0 (Kd.R (Kd.int .i64) 3 (w34.setCell ⟨gb178, 0, none⟩ (.slice Ao35 t175.length co35)) w.heap.size (fun k_ => some k_ ≠ (v166 : Value).ownBlock ∧ some k_ ≠ (.slice Ao35 t175.length co35 : Value).ownBlock) (.slice Ao29 t170.length co29) t170) := ⟨by (with_reducible repeat (first | apply Kd.R_alloc | apply Kd.R_drewN | apply Kd.R_drew)); exact Kd.R_mono (Kd.R_far (p := ⟨gb178, 0, none⟩) (Kd.R_types HO172.out BK178.out (by decide)) (fun _ hk => by first | exact hk.2 | simp_all) (.slice Ao35 t175.length co35)) (fun _ hk => by first | exact ⟨hk.1.1, hk.1.2⟩ | simp_all)⟩
  have n2_ : Aside0 (Kd.R (Kd.int .i64) 3 (w34.setCell ⟨gb178, 0, none⟩ (.slice Ao35 t175.length co35)) w.heap.size (fun k_ => some k_ ≠ (v166 : Value).ownBlock ∧ some k_ ≠ (.slice Ao29 t170.length co29 : Value).ownBlock) (.slice Ao35 t175.length co35) t175) := ⟨by (with_reducible repeat (first | apply Kd.R_alloc | apply Kd.R_drewN | apply Kd.R_drew)); exact Kd.R_mono (Kd.R_far (p := ⟨gb178, 0, none⟩) (Kd.R_types HO177.out BK178.out (by decide)) (fun _ hk => by first | exact hk.2 | simp_all) (.slice Ao35 t175.length co35)) (fun _ hk => by first | exact ⟨hk.1.1.2, hk.1.2⟩ | simp_all)⟩
  have n3_ : Aside0 ((w34.setCell ⟨gb178, 0, none⟩ (.slice Ao35 t175.length co35)).heap[gb162]? = some (.cells #[.slice A0_0 l0_0.length c0_0] 51 (0, 0))) := ⟨by (with_reducible repeat (first | refine blk_drewN ?_ _ | refine blk_drew ?_ | refine blk_alloc ?_ _)); refine blk_far ?_ NB162_178.out _; (with_reducible repeat (first | refine blk_drewN ?_ _ | refine blk_drew ?_ | refine blk_alloc ?_ _)); exact BK162.out⟩
  have n4_ : Aside0 ((w34.setCell ⟨gb178, 0, none⟩ (.slice Ao35 t175.length co35)).heap[gb163]? = some (.cells #[.int .i64 a1_0, .int .i64 a1_1] 66 (0, 0))) := ⟨by (with_reducible repeat (first | refine blk_drewN ?_ _ | refine blk_drew ?_ | refine blk_alloc ?_ _)); refine blk_far ?_ NB163_178.out _; (with_reducible repeat (first | refine blk_drewN ?_ _ | refine blk_drew ?_ | refine blk_alloc ?_ _)); exact BK163.out⟩
  have n5_ : Aside0 ((w34.setCell ⟨gb178, 0, none⟩ (.slice Ao35 t175.length co35)).heap[gb174]? = some (.cells #[.slice Ao29 t170.length co29] 56 (0, 0))) := ⟨by (with_reducible repeat (first | refine blk_drewN ?_ _ | refine blk_drew ?_ | refine blk_alloc ?_ _)); refine blk_far ?_ NB174_178.out _; (with_reducible repeat (first | refine blk_drewN ?_ _ | refine blk_drew ?_ | refine blk_alloc ?_ _)); exact BK174.out⟩
  have n6_ : Aside0 ((w34.setCell ⟨gb178, 0, none⟩ (.slice Ao35 t175.length co35)).heap[gb178]? = some (.cells #[.slice Ao35 t175.length co35] 56 (0, 0))) := ⟨by (with_reducible repeat (first | refine blk_drewN ?_ _ | refine blk_drew ?_ | refine blk_alloc ?_ _)); refine blk_put (cs := #[.slice none 0 0]) ?_ 0 _ rfl; (with_reducible repeat (first | refine blk_drewN ?_ _ | refine blk_drew ?_ | refine blk_alloc ?_ _)); exact BK178.out⟩
  have n7_ : Aside0 (Below w.heap.size w (w34.setCell ⟨gb178, 0, none⟩ (.slice Ao35 t175.length co35))) := ⟨by repeat (first | (with_reducible first | exact HB.out | apply below_alloc | apply pw_below_drewN | apply below_drew1 | refine below_set ?_ GE162.out | refine below_set ?_ GE163.out | refine below_set ?_ GE174.out | refine below_set ?_ GE178.out) | exact HB.out)⟩
  (try clear HO167)
  (try clear HO172)
  (try clear HO177)
  (try clear BK162)
  (try clear BK163)
  (try clear BK174)
  (try clear BK178)
  (try clear HB)
  generalize (w34.setCell ⟨gb178, 0, none⟩ (.slice Ao35 t175.length co35)) = w40 at n0_ n1_ n2_ n3_ n4_ n5_ n6_ n7_ ⊢
  have HO167 := n0_
  have HO172 := n1_
  have HO177 := n2_
  have BK162 := n3_
  have BK163 := n4_
  have BK174 := n5_
  have BK178 := n6_
  have HB := n7_
  clear n0_ n1_ n2_ n3_ n4_ n5_ n6_ n7_
  have n0_ := Aside0.mk (Kd.R_drew HO167.out)
  have n1_ := Aside0.mk (Kd.R_drew HO172.out)
  have n2_ := Aside0.mk (Kd.R_drew HO177.out)
  have n3_ := Aside0.mk (blk_drew BK162.out)
  have n4_ := Aside0.mk (blk_drew BK163.out)
  have n5_ := Aside0.mk (blk_drew BK174.out)
  have n6_ := Aside0.mk (blk_drew BK178.out)
  have n7_ := Aside0.mk (below_drew1 HB.out)
  clear HO167
  clear HO172
  clear HO177
  clear BK162
  clear BK163
  clear BK174
  clear BK178
  clear HB
  have HO167 := n0_
  have HO172 := n1_
  have HO177 := n2_
  have BK162 := n3_
  have BK163 := n4_
  have BK174 := n5_
  have BK178 := n6_
  have HB := n7_
  clear n0_ n1_ n2_ n3_ n4_ n5_ n6_ n7_
  refine start_ (n := 10) (S := fun w' => w'.cell? ⟨gb178, 0, none⟩ = some (.slice Ao35 t175.length co35) ∧ w'.cell? ⟨gb163, 0, none⟩ = some (.int .i64 a1_0) ∧ w'.cell? ⟨gb163, 1, none⟩ = some (.int .i64 a1_1)) (ds := []) #[false, false, false, false, false, false, false, false, false, false] (by kernel_rfl) rfl rfl ⟨(blk_cell BK178.out 0).trans rfl, (blk_cell BK163.out 0).trans rfl, (blk_cell BK163.out 1).trans rfl⟩ (fun hHeld => ?_); refine with_tabW laws_FnExactReceive.tab7 laws_FnExactReceive.bits7 (fun HT_ HW_ => ?_)
  generalize w40.drew = w41 at HO167 HO172 HO177 BK162 BK163 BK174 BK178 HB hHeld ⊢
  refine take_ (i := 0) (N := some 32) (v := ?_) (a' := ?_) #[true, false, false, false, false, false, false, false, false, false] rfl rfl (take_ofW HT_.out HW_.out (by kernel_rfl)) (fun _ _ _ h => h) (Or.inl ⟨by rfl, ?_⟩) hHeld ?_ ?_
  rotate_left
  ·rintro w' ⟨s0, s1, s2⟩
   go_simp
   with_reducible rfl
  rotate_left
  ·simp only [Act.put, List.setIfInBounds_toArray, List.set_cons_zero, List.set_cons_succ, i64_w, i32_w]
   rfl
  refine take_ (i := 1) (N := some 33) (v := ?_) (a' := ?_) #[true, true, false, false, false, false, false, false, false, false] rfl rfl (take_ofW HT_.out HW_.out (by kernel_rfl)) (fun _ _ _ h => h) (Or.inl ⟨by rfl, ?_⟩) hHeld ?_ ?_
  rotate_left
  ·rintro w' ⟨s0, s1, s2⟩
   go_simp
   with_reducible rfl
  rotate_left
  ·simp only [Act.put, List.setIfInBounds_toArray, List.set_cons_zero, List.set_cons_succ, i64_w, i32_w]
   rfl
  refine join_ (σ := Value × Nat) 2 #[true, true, true, true, true, true, true, true, false, false] (fun s_ => [(34, .agg #[.int .i64 t179, .int .i64 t180]), (35, .tuple #[.agg #[s_.1], .int .i64 t184]), (9, .pointer (some ⟨s_.2, 0, none⟩)), (31, .tuple #[.agg #[s_.1], .int .i64 t184]), (36, .agg #[s_.1]), (37, .int .i64 t184)]) (fun s_ w' => (w'.cell? ⟨gb178, 0, none⟩ = some (.slice Ao35 t175.length co35) ∧ w'.cell? ⟨gb163, 0, none⟩ = some (.int .i64 a1_0) ∧ w'.cell? ⟨gb163, 1, none⟩ = some (.int .i64 a1_1)) ∧ (Kd.R (Kd.int .i64) 3 w' w.heap.size (fun k_ => some k_ ≠ (.slice Ao29 t170.length co29 : Value).ownBlock ∧ some k_ ≠ (.slice Ao35 t175.length co35 : Value).ownBlock ∧ some k_ ≠ (s_.1 : Value).ownBlock) v166 t165) ∧ (Kd.R (Kd.int .i64) 3 w' w.heap.size (fun k_ => some k_ ≠ (v166 : Value).ownBlock ∧ some k_ ≠ (.slice Ao35 t175.length co35 : Value).ownBlock ∧ some k_ ≠ (s_.1 : Value).ownBlock) (.slice Ao29 t170.length co29) t170) ∧ (Kd.R (Kd.int .i64) 3 w' w.heap.size (fun k_ => some k_ ≠ (v166 : Value).ownBlock ∧ some k_ ≠ (.slice Ao29 t170.length co29 : Value).ownBlock ∧ some k_ ≠ (s_.1 : Value).ownBlock) (.slice Ao35 t175.length co35) t175) ∧ (Kd.R (Kd.int .i64) 3 w' w.heap.size (fun k_ => some k_ ≠ (v166 : Value).ownBlock ∧ some k_ ≠ (.slice Ao29 t170.length co29 : Value).ownBlock ∧ some k_ ≠ (.slice Ao35 t175.length co35 : Value).ownBlock) s_.1 t181) ∧ (w'.heap[gb162]? = some (.cells #[.slice A0_0 l0_0.length c0_0] 51 (0, 0))) ∧ (w'.heap[gb163]? = some (.cells #[.int .i64 a1_0, .int .i64 a1_1] 66 (0, 0))) ∧ (w'.heap[gb174]? = some (.cells #[.slice Ao29 t170.length co29] 56 (0, 0))) ∧ (w'.heap[gb178]? = some (.cells #[.slice Ao35 t175.length co35] 56 (0, 0))) ∧ (w'.heap[s_.2]? = some (.cells #[.slice none 0 0] 56 (0, 0))) ∧ (w.heap.size ≤ s_.2) ∧ (w.heap.size ≤ s_.2) ∧ (gb162 ≠ s_.2) ∧ (s_.2 ≠ gb162) ∧ (gb163 ≠ s_.2) ∧ (s_.2 ≠ gb163) ∧ (gb174 ≠ s_.2) ∧ (s_.2 ≠ gb174) ∧ (gb178 ≠ s_.2) ∧ (s_.2 ≠ gb178) ∧ (Below w.heap.size w w')) ?_ ?_
  rotate_left
  ·intro hCont
   refine two_ (i := 2) (j := 7) (Ni := some 34) (Nj := some 9) #[true, true, true, false, false, false, false, false, false, false] #[true, true, false, false, false, false, false, true, false, false] rfl rfl rfl rfl (two_of HT_.out (by kernel_rfl)) (by decide) (by decide) (fun K hK => ?_) (fun K hK => ?_)
   ·skip
    refine goes_ Try.func44 (by kernel_rfl) rfl #[.agg #[.int .i64 a1_0, .int .i64 a1_1]] (by rfl) rfl rfl (by (try simp only [List.map_toArray, List.map_cons, List.map_nil]); first | done | rfl | (simp only [List.length_drop, List.length_take]; rfl)) ?_
    with_reducible refine (laws_toPacket.calls a1_0 a1_1 t179 t180 _ A14.out).mono ?_
    rintro e w42 ⟨rfl, hb⟩
    refine ⟨_, rfl, ?_⟩
    have n0_ := Aside0.mk (Kd.R_below (pkr HO167.out) hb)
    have n1_ := Aside0.mk (Kd.R_below (pkr HO172.out) hb)
    have n2_ := Aside0.mk (Kd.R_below (pkr HO177.out) hb)
    have n3_ := Aside0.mk (blk_below (g := gb162) (o := .cells #[.slice A0_0 l0_0.length c0_0] 51 (0, 0)) (pkb BK162.out) hb)
    have n4_ := Aside0.mk (blk_below (g := gb163) (o := .cells #[.int .i64 a1_0, .int .i64 a1_1] 66 (0, 0)) (pkb BK163.out) hb)
    have n5_ := Aside0.mk (blk_below (g := gb174) (o := .cells #[.slice Ao29 t170.length co29] 56 (0, 0)) (pkb BK174.out) hb)
    have n6_ := Aside0.mk (blk_below (g := gb178) (o := .cells #[.slice Ao35 t175.length co35] 56 (0, 0)) (pkb BK178.out) hb)
    have n7_ := Aside0.mk (below_step (by repeat (first | (with_reducible first | exact HB.out | apply below_alloc | apply pw_below_drewN | apply below_drew1 | refine below_set ?_ GE162.out | refine below_set ?_ GE163.out | refine below_set ?_ GE174.out | refine below_set ?_ GE178.out) | exact HB.out)) hb)
    clear HO167
    clear HO172
    clear HO177
    clear BK162
    clear BK163
    clear BK174
    clear BK178
    clear HB
    have HO167 := n0_
    have HO172 := n1_
    have HO177 := n2_
    have BK162 := n3_
    have BK163 := n4_
    have BK174 := n5_
    have BK178 := n6_
    have HB := n7_
    clear n0_ n1_ n2_ n3_ n4_ n5_ n6_ n7_
    (try clear hb)
    (try clear hb2)
    (try clear hk)
    (try clear hi)
    refine hK.out _ _ ⟨(blk_cell BK178.out 0).trans rfl, (blk_cell BK163.out 0).trans rfl, (blk_cell BK163.out 1).trans rfl⟩ (fun hHeld => ?_)
    clear hK K
    refine norm_ (a' := ?_) ?_ ?_
    rotate_left
    ·show Act.put _ (some 34) _ = _
     simp only [Act.put, List.setIfInBounds_toArray, List.set_cons_zero, List.set_cons_succ, i64_w, i32_w]
     rfl
    refine two_ (i := 3) (j := 7) (Ni := some 35) (Nj := some 9) #[true, true, true, true, false, false, false, false, false, false] #[true, true, true, false, false, false, false, true, false, false] rfl rfl rfl rfl (two_of HT_.out (by kernel_rfl)) (by decide) (by decide) (fun K hK => ?_) (fun K hK => ?_)
    ·skip
     refine goes_ Try.func45 (by kernel_rfl) rfl #[.agg #[.slice Ao35 t175.length co35], .agg #[.int .i64 t179, .int .i64 t180]] (by rfl) rfl rfl (by (try simp only [List.map_toArray, List.map_cons, List.map_nil]); first | done | rfl | (simp only [List.length_drop, List.length_take]; rfl)) ?_
     with_reducible refine (impl_Receive.calls _ _ t175 t179 t180 t181 t184 _ ?side1 ?side2 A15.out).mono ?_
     (case side1 => repeat (first | exact (Kd.R_reads' HO177.out).2.2 | (with_reducible refine Kd.C_alloc ?_ _) | (with_reducible refine Kd.C_drewN ?_ _) | (with_reducible refine Kd.C_drew ?_)))
     (case side2 => exact (Kd.R_reads' HO177.out).2.1)
     rintro e w43 ⟨v182, rfl, ho0, hb⟩
     refine ⟨_, rfl, ?_⟩
     have n0_ := Aside0.mk (Kd.R_elder' (pkr HO167.out) (Kd.R_base ho0) hb)
     have n1_ := Aside0.mk (Kd.R_elder' (pkr HO172.out) (Kd.R_base ho0) hb)
     have n2_ := Aside0.mk (Kd.R_elder' (pkr HO177.out) (Kd.R_base ho0) hb)
     have n3_ := Aside0.mk (Kd.R_lower (Kd.R_new' (Kd.R_new' (Kd.R_new' ho0 (Kd.R_lt (pkr HO167.out))) (Kd.R_lt (pkr HO172.out))) (Kd.R_lt (pkr HO177.out))) (below_size (by repeat (first | (with_reducible first | exact HB.out | apply below_alloc | apply pw_below_drewN | apply below_drew1 | refine below_set ?_ GE162.out | refine below_set ?_ GE163.out | refine below_set ?_ GE174.out | refine below_set ?_ GE178.out) | exact HB.out))))
     have n4_ := Aside0.mk (blk_below (g := gb162) (o := .cells #[.slice A0_0 l0_0.length c0_0] 51 (0, 0)) (pkb BK162.out) hb)
     have n5_ := Aside0.mk (blk_below (g := gb163) (o := .cells #[.int .i64 a1_0, .int .i64 a1_1] 66 (0, 0)) (pkb BK163.out) hb)
     have n6_ := Aside0.mk (blk_below (g := gb174) (o := .cells #[.slice Ao29 t170.length co29] 56 (0, 0)) (pkb BK174.out) hb)
     have n7_ := Aside0.mk (blk_below (g := gb178) (o := .cells #[.slice Ao35 t175.length co35] 56 (0, 0)) (pkb BK178.out) hb)
     have n8_ := Aside0.mk (below_step (by repeat (first | (with_reducible first | exact HB.out | apply below_alloc | apply pw_below_drewN | apply below_drew1 | refine below_set ?_ GE162.out | refine below_set ?_ GE163.out | refine below_set ?_ GE174.out | refine below_set ?_ GE178.out) | exact HB.out)) hb)
     clear HO167
     clear HO172
     clear HO177
     clear BK162
     clear BK163
     clear BK174
     clear BK178
     clear HB
     have HO167 := n0_
     have HO172 := n1_
     have HO177 := n2_
     have HO183 := n3_
     have BK162 := n4_
     have BK163 := n5_
     have BK174 := n6_
     have BK178 := n7_
     have HB := n8_
     clear n0_ n1_ n2_ n3_ n4_ n5_ n6_ n7_ n8_
     (try clear hb)
     (try clear hb2)
     (try clear hk)
     (try clear hi)
     (try clear ho0)
     refine hK.out _ _ ⟨(blk_cell BK178.out 0).trans rfl, (blk_cell BK163.out 0).trans rfl, (blk_cell BK163.out 1).trans rfl⟩ (fun hHeld => ?_)
     clear hK K
     refine norm_ (a' := ?_) ?_ ?_
     rotate_left
     ·show Act.put _ (some 35) _ = _
      simp only [Act.put, List.setIfInBounds_toArray, List.set_cons_zero, List.set_cons_succ, i64_w, i32_w]
      rfl
     refine pure_ (i := 4) (N := some 31) (v := ?_) (a' := ?_) #[true, true, true, true, true, false, false, false, false, false] rfl rfl (any_of HT_.out (by kernel_rfl)) (fun _ _ _ h => h) (Or.inl ⟨by rfl, ?_⟩) ?_ ?_
     rotate_left
     ·intro w'
      go_simp
      with_reducible rfl
     rotate_left
     ·simp only [Act.put, List.setIfInBounds_toArray, List.set_cons_zero, List.set_cons_succ, i64_w, i32_w]
      rfl
     refine pure_ (i := 5) (N := some 36) (v := ?_) (a' := ?_) #[true, true, true, true, true, true, false, false, false, false] rfl rfl (any_of HT_.out (by kernel_rfl)) (fun _ _ _ h => h) (Or.inl ⟨by rfl, ?_⟩) ?_ ?_
     rotate_left
     ·intro w'
      go_simp
      with_reducible rfl
     rotate_left
     ·simp only [Act.put, List.setIfInBounds_toArray, List.set_cons_zero, List.set_cons_succ, i64_w, i32_w]
      rfl
     refine pure_ (i := 6) (N := some 37) (v := ?_) (a' := ?_) #[true, true, true, true, true, true, true, false, false, false] rfl rfl (any_of HT_.out (by kernel_rfl)) (fun _ _ _ h => h) (Or.inl ⟨by rfl, ?_⟩) ?_ ?_
     rotate_left
     ·intro w'
      go_simp
      with_reducible rfl
     rotate_left
     ·simp only [Act.put, List.setIfInBounds_toArray, List.set_cons_zero, List.set_cons_succ, i64_w, i32_w]
      rfl
     refine one_ (i := 7) (N := some 9) #[true, true, true, true, true, true, true, true, false, false] rfl rfl (one_of HT_.out (by kernel_rfl)) (by decide) (fun K hK => ?_)
     refine box_step ?hg (N := 9) ?hd (cs := #[.slice none 0 0]) (t := 56) ?hr ?_; (case hd => rfl); (case hg => rfl); (case hr => first | (go_simp; done) | (go_simp; rfl))
     intro gb185 hg w44 hbox hb
     have n0_ := Aside0.mk (Kd.R_below (pkr HO167.out) hb)
     have n1_ := Aside0.mk (Kd.R_below (pkr HO172.out) hb)
     have n2_ := Aside0.mk (Kd.R_below (pkr HO177.out) hb)
     have n3_ := Aside0.mk (Kd.R_below (pkr HO183.out) hb)
     have n4_ := Aside0.mk (blk_below (g := gb162) (o := .cells #[.slice A0_0 l0_0.length c0_0] 51 (0, 0)) (pkb BK162.out) hb)
     have n5_ := Aside0.mk (blk_below (g := gb163) (o := .cells #[.int .i64 a1_0, .int .i64 a1_1] 66 (0, 0)) (pkb BK163.out) hb)
     have n6_ := Aside0.mk (blk_below (g := gb174) (o := .cells #[.slice Ao29 t170.length co29] 56 (0, 0)) (pkb BK174.out) hb)
     have n7_ := Aside0.mk (blk_below (g := gb178) (o := .cells #[.slice Ao35 t175.length co35] 56 (0, 0)) (pkb BK178.out) hb)
     have n8_ := Aside0.mk (below_step (by repeat (first | (with_reducible first | exact HB.out | apply below_alloc | apply pw_below_drewN | apply below_drew1 | refine below_set ?_ GE162.out | refine below_set ?_ GE163.out | refine below_set ?_ GE174.out | refine below_set ?_ GE178.out) | exact HB.out)) hb)
     have n9_ := Aside0.mk (hbox)
     have n10_ := Aside0.mk ((by rw [hg]; exact (below_size (by repeat (first | (with_reducible first | exact HB.out | apply below_alloc | apply pw_below_drewN | apply below_drew1 | refine below_set ?_ GE162.out | refine below_set ?_ GE163.out | refine below_set ?_ GE174.out | refine below_set ?_ GE178.out) | exact HB.out))) : w.heap.size ≤ gb185))
     have n11_ := Aside0.mk ((by rw [hg]; exact (below_size (by repeat (first | (with_reducible first | exact HB.out | apply below_alloc | apply pw_below_drewN | apply below_drew1 | refine below_set ?_ GE162.out | refine below_set ?_ GE163.out | refine below_set ?_ GE174.out | refine below_set ?_ GE178.out) | exact HB.out))) : w.heap.size ≤ gb185))
     have n12_ := Aside0.mk ((by rw [hg]; exact Nat.ne_of_lt (blk_lt (g := gb162) (o := .cells #[.slice A0_0 l0_0.length c0_0] 51 (0, 0)) (pkb BK162.out)) : gb162 ≠ gb185))
     have n13_ := Aside0.mk ((by rw [hg]; exact Nat.ne_of_gt (blk_lt (g := gb162) (o := .cells #[.slice A0_0 l0_0.length c0_0] 51 (0, 0)) (pkb BK162.out)) : gb185 ≠ gb162))
     have n14_ := Aside0.mk ((by rw [hg]; exact Nat.ne_of_lt (blk_lt (g := gb163) (o := .cells #[.int .i64 a1_0, .int .i64 a1_1] 66 (0, 0)) (pkb BK163.out)) : gb163 ≠ gb185))
     have n15_ := Aside0.mk ((by rw [hg]; exact Nat.ne_of_gt (blk_lt (g := gb163) (o := .cells #[.int .i64 a1_0, .int .i64 a1_1] 66 (0, 0)) (pkb BK163.out)) : gb185 ≠ gb163))
     have n16_ := Aside0.mk ((by rw [hg]; exact Nat.ne_of_lt (blk_lt (g := gb174) (o := .cells #[.slice Ao29 t170.length co29] 56 (0, 0)) (pkb BK174.out)) : gb174 ≠ gb185))
     have n17_ := Aside0.mk ((by rw [hg]; exact Nat.ne_of_gt (blk_lt (g := gb174) (o := .cells #[.slice Ao29 t170.length co29] 56 (0, 0)) (pkb BK174.out)) : gb185 ≠ gb174))
     have n18_ := Aside0.mk ((by rw [hg]; exact Nat.ne_of_lt (blk_lt (g := gb178) (o := .cells #[.slice Ao35 t175.length co35] 56 (0, 0)) (pkb BK178.out)) : gb178 ≠ gb185))
     have n19_ := Aside0.mk ((by rw [hg]; exact Nat.ne_of_gt (blk_lt (g := gb178) (o := .cells #[.slice Ao35 t175.length co35] 56 (0, 0)) (pkb BK178.out)) : gb185 ≠ gb178))
     clear HO167
     clear HO172
     clear HO177
     clear HO183
     clear BK162
     clear BK163
     clear BK174
     clear BK178
     clear HB
     have HO167 := n0_
     have HO172 := n1_
     have HO177 := n2_
     have HO183 := n3_
     have BK162 := n4_
     have BK163 := n5_
     have BK174 := n6_
     have BK178 := n7_
     have HB := n8_
     have BK185 := n9_
     have GW185 := n10_
     have GE185 := n11_
     have NB162_185 := n12_
     have NB185_162 := n13_
     have NB163_185 := n14_
     have NB185_163 := n15_
     have NB174_185 := n16_
     have NB185_174 := n17_
     have NB178_185 := n18_
     have NB185_178 := n19_
     clear n0_ n1_ n2_ n3_ n4_ n5_ n6_ n7_ n8_ n9_ n10_ n11_ n12_ n13_ n14_ n15_ n16_ n17_ n18_ n19_
     clear hb hbox hg
     refine hK.out _ _ ⟨(blk_cell BK178.out 0).trans rfl, (blk_cell BK163.out 0).trans rfl, (blk_cell BK163.out 1).trans rfl⟩ (fun hHeld => ?_)
     clear hK K
     refine norm_ (a' := ?_) ?_ ?_
     rotate_left
     ·show Act.put _ (some 9) _ = _
      simp only [Act.put, List.setIfInBounds_toArray, List.set_cons_zero, List.set_cons_succ, i64_w, i32_w]
      rfl
     exact norm_ (by simp only [putAll, Act.put, List.setIfInBounds_toArray, List.set_cons_zero, List.set_cons_succ]) (hCont (v182, gb185) _ ⟨hHeld, (pkr (Kd.R_mono HO167.out (fun _ hk => ⟨hk.1.1, ⟨hk.1.2, hk.2⟩⟩))), (pkr (Kd.R_mono HO172.out (fun _ hk => ⟨hk.1.1, ⟨hk.1.2, hk.2⟩⟩))), (pkr (Kd.R_mono HO177.out (fun _ hk => ⟨hk.1.1, ⟨hk.1.2, hk.2⟩⟩))), (pkr (Kd.R_mono HO183.out (fun _ hk => ⟨hk.1.1.2, ⟨hk.1.2, hk.2⟩⟩))), (pkb BK162.out), (pkb BK163.out), (pkb BK174.out), (pkb BK178.out), (pkb BK185.out), GW185.out, GE185.out, NB162_185.out, NB185_162.out, NB163_185.out, NB185_163.out, NB174_185.out, NB185_174.out, NB178_185.out, NB185_178.out, (by repeat (first | (with_reducible first | exact HB.out | apply below_alloc | apply pw_below_drewN | apply below_drew1 | refine below_set ?_ GE162.out | refine below_set ?_ GE163.out | refine below_set ?_ GE174.out | refine below_set ?_ GE178.out | refine below_set ?_ GE185.out) | exact HB.out))⟩)
    ·skip
     refine box_step ?hg (N := 9) ?hd (cs := #[.slice none 0 0]) (t := 56) ?hr ?_; (case hd => rfl); (case hg => rfl); (case hr => first | (go_simp; done) | (go_simp; rfl))
     intro gb185 hg w43 hbox hb
     have n0_ := Aside0.mk (Kd.R_below (pkr HO167.out) hb)
     have n1_ := Aside0.mk (Kd.R_below (pkr HO172.out) hb)
     have n2_ := Aside0.mk (Kd.R_below (pkr HO177.out) hb)
     have n3_ := Aside0.mk (blk_below (g := gb162) (o := .cells #[.slice A0_0 l0_0.length c0_0] 51 (0, 0)) (pkb BK162.out) hb)
     have n4_ := Aside0.mk (blk_below (g := gb163) (o := .cells #[.int .i64 a1_0, .int .i64 a1_1] 66 (0, 0)) (pkb BK163.out) hb)
     have n5_ := Aside0.mk (blk_below (g := gb174) (o := .cells #[.slice Ao29 t170.length co29] 56 (0, 0)) (pkb BK174.out) hb)
     have n6_ := Aside0.mk (blk_below (g := gb178) (o := .cells #[.slice Ao35 t175.length co35] 56 (0, 0)) (pkb BK178.out) hb)
     have n7_ := Aside0.mk (below_step (by repeat (first | (with_reducible first | exact HB.out | apply below_alloc | apply pw_below_drewN | apply below_drew1 | refine below_set ?_ GE162.out | refine below_set ?_ GE163.out | refine below_set ?_ GE174.out | refine below_set ?_ GE178.out) | exact HB.out)) hb)
     have n8_ := Aside0.mk (hbox)
     have n9_ := Aside0.mk ((by rw [hg]; exact (below_size (by repeat (first | (with_reducible first | exact HB.out | apply below_alloc | apply pw_below_drewN | apply below_drew1 | refine below_set ?_ GE162.out | refine below_set ?_ GE163.out | refine below_set ?_ GE174.out | refine below_set ?_ GE178.out) | exact HB.out))) : w.heap.size ≤ gb185))
     have n10_ := Aside0.mk ((by rw [hg]; exact (below_size (by repeat (first | (with_reducible first | exact HB.out | apply below_alloc | apply pw_below_drewN | apply below_drew1 | refine below_set ?_ GE162.out | refine below_set ?_ GE163.out | refine below_set ?_ GE174.out | refine below_set ?_ GE178.out) | exact HB.out))) : w.heap.size ≤ gb185))
     have n11_ := Aside0.mk ((by rw [hg]; exact Nat.ne_of_lt (blk_lt (g := gb162) (o := .cells #[.slice A0_0 l0_0.length c0_0] 51 (0, 0)) (pkb BK162.out)) : gb162 ≠ gb185))
     have n12_ := Aside0.mk ((by rw [hg]; exact Nat.ne_of_gt (blk_lt (g := gb162) (o := .cells #[.slice A0_0 l0_0.length c0_0] 51 (0, 0)) (pkb BK162.out)) : gb185 ≠ gb162))
     have n13_ := Aside0.mk ((by rw [hg]; exact Nat.ne_of_lt (blk_lt (g := gb163) (o := .cells #[.int .i64 a1_0, .int .i64 a1_1] 66 (0, 0)) (pkb BK163.out)) : gb163 ≠ gb185))
     have n14_ := Aside0.mk ((by rw [hg]; exact Nat.ne_of_gt (blk_lt (g := gb163) (o := .cells #[.int .i64 a1_0, .int .i64 a1_1] 66 (0, 0)) (pkb BK163.out)) : gb185 ≠ gb163))
     have n15_ := Aside0.mk ((by rw [hg]; exact Nat.ne_of_lt (blk_lt (g := gb174) (o := .cells #[.slice Ao29 t170.length co29] 56 (0, 0)) (pkb BK174.out)) : gb174 ≠ gb185))
     have n16_ := Aside0.mk ((by rw [hg]; exact Nat.ne_of_gt (blk_lt (g := gb174) (o := .cells #[.slice Ao29 t170.length co29] 56 (0, 0)) (pkb BK174.out)) : gb185 ≠ gb174))
     have n17_ := Aside0.mk ((by rw [hg]; exact Nat.ne_of_lt (blk_lt (g := gb178) (o := .cells #[.slice Ao35 t175.length co35] 56 (0, 0)) (pkb BK178.out)) : gb178 ≠ gb185))
     have n18_ := Aside0.mk ((by rw [hg]; exact Nat.ne_of_gt (blk_lt (g := gb178) (o := .cells #[.slice Ao35 t175.length co35] 56 (0, 0)) (pkb BK178.out)) : gb185 ≠ gb178))
     clear HO167
     clear HO172
     clear HO177
     clear BK162
     clear BK163
     clear BK174
     clear BK178
     clear HB
     have HO167 := n0_
     have HO172 := n1_
     have HO177 := n2_
     have BK162 := n3_
     have BK163 := n4_
     have BK174 := n5_
     have BK178 := n6_
     have HB := n7_
     have BK185 := n8_
     have GW185 := n9_
     have GE185 := n10_
     have NB162_185 := n11_
     have NB185_162 := n12_
     have NB163_185 := n13_
     have NB185_163 := n14_
     have NB174_185 := n15_
     have NB185_174 := n16_
     have NB178_185 := n17_
     have NB185_178 := n18_
     clear n0_ n1_ n2_ n3_ n4_ n5_ n6_ n7_ n8_ n9_ n10_ n11_ n12_ n13_ n14_ n15_ n16_ n17_ n18_
     clear hb hbox hg
     refine hK.out _ _ ⟨(blk_cell BK178.out 0).trans rfl, (blk_cell BK163.out 0).trans rfl, (blk_cell BK163.out 1).trans rfl⟩ (fun hHeld => ?_)
     clear hK K
     refine norm_ (a' := ?_) ?_ ?_
     rotate_left
     ·show Act.put _ (some 9) _ = _
      simp only [Act.put, List.setIfInBounds_toArray, List.set_cons_zero, List.set_cons_succ, i64_w, i32_w]
      rfl
     refine one_ (i := 3) (N := some 35) #[true, true, true, true, false, false, false, true, false, false] rfl rfl (one_of HT_.out (by kernel_rfl)) (by decide) (fun K hK => ?_)
     refine goes_ Try.func45 (by kernel_rfl) rfl #[.agg #[.slice Ao35 t175.length co35], .agg #[.int .i64 t179, .int .i64 t180]] (by rfl) rfl rfl (by (try simp only [List.map_toArray, List.map_cons, List.map_nil]); first | done | rfl | (simp only [List.length_drop, List.length_take]; rfl)) ?_
     with_reducible refine (impl_Receive.calls _ _ t175 t179 t180 t181 t184 _ ?side1 ?side2 A15.out).mono ?_
     (case side1 => repeat (first | exact (Kd.R_reads' HO177.out).2.2 | (with_reducible refine Kd.C_alloc ?_ _) | (with_reducible refine Kd.C_drewN ?_ _) | (with_reducible refine Kd.C_drew ?_)))
     (case side2 => exact (Kd.R_reads' HO177.out).2.1)
     rintro e w44 ⟨v182, rfl, ho0, hb⟩
     refine ⟨_, rfl, ?_⟩
     have n0_ := Aside0.mk (Kd.R_elder' (pkr HO167.out) (Kd.R_base ho0) hb)
     have n1_ := Aside0.mk (Kd.R_elder' (pkr HO172.out) (Kd.R_base ho0) hb)
     have n2_ := Aside0.mk (Kd.R_elder' (pkr HO177.out) (Kd.R_base ho0) hb)
     have n3_ := Aside0.mk (Kd.R_lower (Kd.R_new' (Kd.R_new' (Kd.R_new' ho0 (Kd.R_lt (pkr HO167.out))) (Kd.R_lt (pkr HO172.out))) (Kd.R_lt (pkr HO177.out))) (below_size (by repeat (first | (with_reducible first | exact HB.out | apply below_alloc | apply pw_below_drewN | apply below_drew1 | refine below_set ?_ GE162.out | refine below_set ?_ GE163.out | refine below_set ?_ GE174.out | refine below_set ?_ GE178.out | refine below_set ?_ GE185.out) | exact HB.out))))
     have n4_ := Aside0.mk (blk_below (g := gb162) (o := .cells #[.slice A0_0 l0_0.length c0_0] 51 (0, 0)) (pkb BK162.out) hb)
     have n5_ := Aside0.mk (blk_below (g := gb163) (o := .cells #[.int .i64 a1_0, .int .i64 a1_1] 66 (0, 0)) (pkb BK163.out) hb)
     have n6_ := Aside0.mk (blk_below (g := gb174) (o := .cells #[.slice Ao29 t170.length co29] 56 (0, 0)) (pkb BK174.out) hb)
     have n7_ := Aside0.mk (blk_below (g := gb178) (o := .cells #[.slice Ao35 t175.length co35] 56 (0, 0)) (pkb BK178.out) hb)
     have n8_ := Aside0.mk (blk_below (g := gb185) (o := .cells #[.slice none 0 0] 56 (0, 0)) (pkb BK185.out) hb)
     have n9_ := Aside0.mk (below_step (by repeat (first | (with_reducible first | exact HB.out | apply below_alloc | apply pw_below_drewN | apply below_drew1 | refine below_set ?_ GE162.out | refine below_set ?_ GE163.out | refine below_set ?_ GE174.out | refine below_set ?_ GE178.out | refine below_set ?_ GE185.out) | exact HB.out)) hb)
     clear HO167
     clear HO172
     clear HO177
     clear BK162
     clear BK163
     clear BK174
     clear BK178
     clear BK185
     clear HB
     have HO167 := n0_
     have HO172 := n1_
     have HO177 := n2_
     have HO183 := n3_
     have BK162 := n4_
     have BK163 := n5_
     have BK174 := n6_
     have BK178 := n7_
     have BK185 := n8_
     have HB := n9_
     clear n0_ n1_ n2_ n3_ n4_ n5_ n6_ n7_ n8_ n9_
     (try clear hb)
     (try clear hb2)
     (try clear hk)
     (try clear hi)
     (try clear ho0)
     refine hK.out _ _ ⟨(blk_cell BK178.out 0).trans rfl, (blk_cell BK163.out 0).trans rfl, (blk_cell BK163.out 1).trans rfl⟩ (fun hHeld => ?_)
     clear hK K
     refine norm_ (a' := ?_) ?_ ?_
     rotate_left
     ·show Act.put _ (some 35) _ = _
      simp only [Act.put, List.setIfInBounds_toArray, List.set_cons_zero, List.set_cons_succ, i64_w, i32_w]
      rfl
     refine pure_ (i := 4) (N := some 31) (v := ?_) (a' := ?_) #[true, true, true, true, true, false, false, true, false, false] rfl rfl (any_of HT_.out (by kernel_rfl)) (fun _ _ _ h => h) (Or.inl ⟨by rfl, ?_⟩) ?_ ?_
     rotate_left
     ·intro w'
      go_simp
      with_reducible rfl
     rotate_left
     ·simp only [Act.put, List.setIfInBounds_toArray, List.set_cons_zero, List.set_cons_succ, i64_w, i32_w]
      rfl
     refine pure_ (i := 5) (N := some 36) (v := ?_) (a' := ?_) #[true, true, true, true, true, true, false, true, false, false] rfl rfl (any_of HT_.out (by kernel_rfl)) (fun _ _ _ h => h) (Or.inl ⟨by rfl, ?_⟩) ?_ ?_
     rotate_left
     ·intro w'
      go_simp
      with_reducible rfl
     rotate_left
     ·simp only [Act.put, List.setIfInBounds_toArray, List.set_cons_zero, List.set_cons_succ, i64_w, i32_w]
      rfl
     refine pure_ (i := 6) (N := some 37) (v := ?_) (a' := ?_) #[true, true, true, true, true, true, true, true, false, false] rfl rfl (any_of HT_.out (by kernel_rfl)) (fun _ _ _ h => h) (Or.inl ⟨by rfl, ?_⟩) ?_ ?_
     rotate_left
     ·intro w'
      go_simp
      with_reducible rfl
     rotate_left
     ·simp only [Act.put, List.setIfInBounds_toArray, List.set_cons_zero, List.set_cons_succ, i64_w, i32_w]
      rfl
     exact norm_ (by simp only [putAll, Act.put, List.setIfInBounds_toArray, List.set_cons_zero, List.set_cons_succ]) (hCont (v182, gb185) _ ⟨hHeld, (pkr (Kd.R_mono HO167.out (fun _ hk => ⟨hk.1.1, ⟨hk.1.2, hk.2⟩⟩))), (pkr (Kd.R_mono HO172.out (fun _ hk => ⟨hk.1.1, ⟨hk.1.2, hk.2⟩⟩))), (pkr (Kd.R_mono HO177.out (fun _ hk => ⟨hk.1.1, ⟨hk.1.2, hk.2⟩⟩))), (pkr (Kd.R_mono HO183.out (fun _ hk => ⟨hk.1.1.2, ⟨hk.1.2, hk.2⟩⟩))), (pkb BK162.out), (pkb BK163.out), (pkb BK174.out), (pkb BK178.out), (pkb BK185.out), GW185.out, GE185.out, NB162_185.out, NB185_162.out, NB163_185.out, NB185_163.out, NB174_185.out, NB185_174.out, NB178_185.out, NB185_178.out, (by repeat (first | (with_reducible first | exact HB.out | apply below_alloc | apply pw_below_drewN | apply below_drew1 | refine below_set ?_ GE162.out | refine below_set ?_ GE163.out | refine below_set ?_ GE174.out | refine below_set ?_ GE178.out | refine below_set ?_ GE185.out) | exact HB.out))⟩)
   ·skip
    refine box_step ?hg (N := 9) ?hd (cs := #[.slice none 0 0]) (t := 56) ?hr ?_; (case hd => rfl); (case hg => rfl); (case hr => first | (go_simp; done) | (go_simp; rfl))
    intro gb185 hg w42 hbox hb
    have n0_ := Aside0.mk (Kd.R_below (pkr HO167.out) hb)
    have n1_ := Aside0.mk (Kd.R_below (pkr HO172.out) hb)
    have n2_ := Aside0.mk (Kd.R_below (pkr HO177.out) hb)
    have n3_ := Aside0.mk (blk_below (g := gb162) (o := .cells #[.slice A0_0 l0_0.length c0_0] 51 (0, 0)) (pkb BK162.out) hb)
    have n4_ := Aside0.mk (blk_below (g := gb163) (o := .cells #[.int .i64 a1_0, .int .i64 a1_1] 66 (0, 0)) (pkb BK163.out) hb)
    have n5_ := Aside0.mk (blk_below (g := gb174) (o := .cells #[.slice Ao29 t170.length co29] 56 (0, 0)) (pkb BK174.out) hb)
    have n6_ := Aside0.mk (blk_below (g := gb178) (o := .cells #[.slice Ao35 t175.length co35] 56 (0, 0)) (pkb BK178.out) hb)
    have n7_ := Aside0.mk (below_step (by repeat (first | (with_reducible first | exact HB.out | apply below_alloc | apply pw_below_drewN | apply below_drew1 | refine below_set ?_ GE162.out | refine below_set ?_ GE163.out | refine below_set ?_ GE174.out | refine below_set ?_ GE178.out) | exact HB.out)) hb)
    have n8_ := Aside0.mk (hbox)
    have n9_ := Aside0.mk ((by rw [hg]; exact (below_size (by repeat (first | (with_reducible first | exact HB.out | apply below_alloc | apply pw_below_drewN | apply below_drew1 | refine below_set ?_ GE162.out | refine below_set ?_ GE163.out | refine below_set ?_ GE174.out | refine below_set ?_ GE178.out) | exact HB.out))) : w.heap.size ≤ gb185))
    have n10_ := Aside0.mk ((by rw [hg]; exact (below_size (by repeat (first | (with_reducible first | exact HB.out | apply below_alloc | apply pw_below_drewN | apply below_drew1 | refine below_set ?_ GE162.out | refine below_set ?_ GE163.out | refine below_set ?_ GE174.out | refine below_set ?_ GE178.out) | exact HB.out))) : w.heap.size ≤ gb185))
    have n11_ := Aside0.mk ((by rw [hg]; exact Nat.ne_of_lt (blk_lt (g := gb162) (o := .cells #[.slice A0_0 l0_0.length c0_0] 51 (0, 0)) (pkb BK162.out)) : gb162 ≠ gb185))
    have n12_ := Aside0.mk ((by rw [hg]; exact Nat.ne_of_gt (blk_lt (g := gb162) (o := .cells #[.slice A0_0 l0_0.length c0_0] 51 (0, 0)) (pkb BK162.out)) : gb185 ≠ gb162))
    have n13_ := Aside0.mk ((by rw [hg]; exact Nat.ne_of_lt (blk_lt (g := gb163) (o := .cells #[.int .i64 a1_0, .int .i64 a1_1] 66 (0, 0)) (pkb BK163.out)) : gb163 ≠ gb185))
    have n14_ := Aside0.mk ((by rw [hg]; exact Nat.ne_of_gt (blk_lt (g := gb163) (o := .cells #[.int .i64 a1_0, .int .i64 a1_1] 66 (0, 0)) (pkb BK163.out)) : gb185 ≠ gb163))
    have n15_ := Aside0.mk ((by rw [hg]; exact Nat.ne_of_lt (blk_lt (g := gb174) (o := .cells #[.slice Ao29 t170.length co29] 56 (0, 0)) (pkb BK174.out)) : gb174 ≠ gb185))
    have n16_ := Aside0.mk ((by rw [hg]; exact Nat.ne_of_gt (blk_lt (g := gb174) (o := .cells #[.slice Ao29 t170.length co29] 56 (0, 0)) (pkb BK174.out)) : gb185 ≠ gb174))
    have n17_ := Aside0.mk ((by rw [hg]; exact Nat.ne_of_lt (blk_lt (g := gb178) (o := .cells #[.slice Ao35 t175.length co35] 56 (0, 0)) (pkb BK178.out)) : gb178 ≠ gb185))
    have n18_ := Aside0.mk ((by rw [hg]; exact Nat.ne_of_gt (blk_lt (g := gb178) (o := .cells #[.slice Ao35 t175.length co35] 56 (0, 0)) (pkb BK178.out)) : gb185 ≠ gb178))
    clear HO167
    clear HO172
    clear HO177
    clear BK162
    clear BK163
    clear BK174
    clear BK178
    clear HB
    have HO167 := n0_
    have HO172 := n1_
    have HO177 := n2_
    have BK162 := n3_
    have BK163 := n4_
    have BK174 := n5_
    have BK178 := n6_
    have HB := n7_
    have BK185 := n8_
    have GW185 := n9_
    have GE185 := n10_
    have NB162_185 := n11_
    have NB185_162 := n12_
    have NB163_185 := n13_
    have NB185_163 := n14_
    have NB174_185 := n15_
    have NB185_174 := n16_
    have NB178_185 := n17_
    have NB185_178 := n18_
    clear n0_ n1_ n2_ n3_ n4_ n5_ n6_ n7_ n8_ n9_ n10_ n11_ n12_ n13_ n14_ n15_ n16_ n17_ n18_
    clear hb hbox hg
    refine hK.out _ _ ⟨(blk_cell BK178.out 0).trans rfl, (blk_cell BK163.out 0).trans rfl, (blk_cell BK163.out 1).trans rfl⟩ (fun hHeld => ?_)
    clear hK K
    refine norm_ (a' := ?_) ?_ ?_
    rotate_left
    ·show Act.put _ (some 9) _ = _
     simp only [Act.put, List.setIfInBounds_toArray, List.set_cons_zero, List.set_cons_succ, i64_w, i32_w]
     rfl
    refine one_ (i := 2) (N := some 34) #[true, true, true, false, false, false, false, true, false, false] rfl rfl (one_of HT_.out (by kernel_rfl)) (by decide) (fun K hK => ?_)
    refine goes_ Try.func44 (by kernel_rfl) rfl #[.agg #[.int .i64 a1_0, .int .i64 a1_1]] (by rfl) rfl rfl (by (try simp only [List.map_toArray, List.map_cons, List.map_nil]); first | done | rfl | (simp only [List.length_drop, List.length_take]; rfl)) ?_
    with_reducible refine (laws_toPacket.calls a1_0 a1_1 t179 t180 _ A14.out).mono ?_
    rintro e w43 ⟨rfl, hb⟩
    refine ⟨_, rfl, ?_⟩
    have n0_ := Aside0.mk (Kd.R_below (pkr HO167.out) hb)
    have n1_ := Aside0.mk (Kd.R_below (pkr HO172.out) hb)
    have n2_ := Aside0.mk (Kd.R_below (pkr HO177.out) hb)
    have n3_ := Aside0.mk (blk_below (g := gb162) (o := .cells #[.slice A0_0 l0_0.length c0_0] 51 (0, 0)) (pkb BK162.out) hb)
    have n4_ := Aside0.mk (blk_below (g := gb163) (o := .cells #[.int .i64 a1_0, .int .i64 a1_1] 66 (0, 0)) (pkb BK163.out) hb)
    have n5_ := Aside0.mk (blk_below (g := gb174) (o := .cells #[.slice Ao29 t170.length co29] 56 (0, 0)) (pkb BK174.out) hb)
    have n6_ := Aside0.mk (blk_below (g := gb178) (o := .cells #[.slice Ao35 t175.length co35] 56 (0, 0)) (pkb BK178.out) hb)
    have n7_ := Aside0.mk (blk_below (g := gb185) (o := .cells #[.slice none 0 0] 56 (0, 0)) (pkb BK185.out) hb)
    have n8_ := Aside0.mk (below_step (by repeat (first | (with_reducible first | exact HB.out | apply below_alloc | apply pw_below_drewN | apply below_drew1 | refine below_set ?_ GE162.out | refine below_set ?_ GE163.out | refine below_set ?_ GE174.out | refine below_set ?_ GE178.out | refine below_set ?_ GE185.out) | exact HB.out)) hb)
    clear HO167
    clear HO172
    clear HO177
    clear BK162
    clear BK163
    clear BK174
    clear BK178
    clear BK185
    clear HB
    have HO167 := n0_
    have HO172 := n1_
    have HO177 := n2_
    have BK162 := n3_
    have BK163 := n4_
    have BK174 := n5_
    have BK178 := n6_
    have BK185 := n7_
    have HB := n8_
    clear n0_ n1_ n2_ n3_ n4_ n5_ n6_ n7_ n8_
    (try clear hb)
    (try clear hb2)
    (try clear hk)
    (try clear hi)
    refine hK.out _ _ ⟨(blk_cell BK178.out 0).trans rfl, (blk_cell BK163.out 0).trans rfl, (blk_cell BK163.out 1).trans rfl⟩ (fun hHeld => ?_)
    clear hK K
    refine norm_ (a' := ?_) ?_ ?_
    rotate_left
    ·show Act.put _ (some 34) _ = _
     simp only [Act.put, List.setIfInBounds_toArray, List.set_cons_zero, List.set_cons_succ, i64_w, i32_w]
     rfl
    refine one_ (i := 3) (N := some 35) #[true, true, true, true, false, false, false, true, false, false] rfl rfl (one_of HT_.out (by kernel_rfl)) (by decide) (fun K hK => ?_)
    refine goes_ Try.func45 (by kernel_rfl) rfl #[.agg #[.slice Ao35 t175.length co35], .agg #[.int .i64 t179, .int .i64 t180]] (by rfl) rfl rfl (by (try simp only [List.map_toArray, List.map_cons, List.map_nil]); first | done | rfl | (simp only [List.length_drop, List.length_take]; rfl)) ?_
    with_reducible refine (impl_Receive.calls _ _ t175 t179 t180 t181 t184 _ ?side1 ?side2 A15.out).mono ?_
    (case side1 => repeat (first | exact (Kd.R_reads' HO177.out).2.2 | (with_reducible refine Kd.C_alloc ?_ _) | (with_reducible refine Kd.C_drewN ?_ _) | (with_reducible refine Kd.C_drew ?_)))
    (case side2 => exact (Kd.R_reads' HO177.out).2.1)
    rintro e w44 ⟨v182, rfl, ho0, hb⟩
    refine ⟨_, rfl, ?_⟩
    have n0_ := Aside0.mk (Kd.R_elder' (pkr HO167.out) (Kd.R_base ho0) hb)
    have n1_ := Aside0.mk (Kd.R_elder' (pkr HO172.out) (Kd.R_base ho0) hb)
    have n2_ := Aside0.mk (Kd.R_elder' (pkr HO177.out) (Kd.R_base ho0) hb)
    have n3_ := Aside0.mk (Kd.R_lower (Kd.R_new' (Kd.R_new' (Kd.R_new' ho0 (Kd.R_lt (pkr HO167.out))) (Kd.R_lt (pkr HO172.out))) (Kd.R_lt (pkr HO177.out))) (below_size (by repeat (first | (with_reducible first | exact HB.out | apply below_alloc | apply pw_below_drewN | apply below_drew1 | refine below_set ?_ GE162.out | refine below_set ?_ GE163.out | refine below_set ?_ GE174.out | refine below_set ?_ GE178.out | refine below_set ?_ GE185.out) | exact HB.out))))
    have n4_ := Aside0.mk (blk_below (g := gb162) (o := .cells #[.slice A0_0 l0_0.length c0_0] 51 (0, 0)) (pkb BK162.out) hb)
    have n5_ := Aside0.mk (blk_below (g := gb163) (o := .cells #[.int .i64 a1_0, .int .i64 a1_1] 66 (0, 0)) (pkb BK163.out) hb)
    have n6_ := Aside0.mk (blk_below (g := gb174) (o := .cells #[.slice Ao29 t170.length co29] 56 (0, 0)) (pkb BK174.out) hb)
    have n7_ := Aside0.mk (blk_below (g := gb178) (o := .cells #[.slice Ao35 t175.length co35] 56 (0, 0)) (pkb BK178.out) hb)
    have n8_ := Aside0.mk (blk_below (g := gb185) (o := .cells #[.slice none 0 0] 56 (0, 0)) (pkb BK185.out) hb)
    have n9_ := Aside0.mk (below_step (by repeat (first | (with_reducible first | exact HB.out | apply below_alloc | apply pw_below_drewN | apply below_drew1 | refine below_set ?_ GE162.out | refine below_set ?_ GE163.out | refine below_set ?_ GE174.out | refine below_set ?_ GE178.out | refine below_set ?_ GE185.out) | exact HB.out)) hb)
    clear HO167
    clear HO172
    clear HO177
    clear BK162
    clear BK163
    clear BK174
    clear BK178
    clear BK185
    clear HB
    have HO167 := n0_
    have HO172 := n1_
    have HO177 := n2_
    have HO183 := n3_
    have BK162 := n4_
    have BK163 := n5_
    have BK174 := n6_
    have BK178 := n7_
    have BK185 := n8_
    have HB := n9_
    clear n0_ n1_ n2_ n3_ n4_ n5_ n6_ n7_ n8_ n9_
    (try clear hb)
    (try clear hb2)
    (try clear hk)
    (try clear hi)
    (try clear ho0)
    refine hK.out _ _ ⟨(blk_cell BK178.out 0).trans rfl, (blk_cell BK163.out 0).trans rfl, (blk_cell BK163.out 1).trans rfl⟩ (fun hHeld => ?_)
    clear hK K
    refine norm_ (a' := ?_) ?_ ?_
    rotate_left
    ·show Act.put _ (some 35) _ = _
     simp only [Act.put, List.setIfInBounds_toArray, List.set_cons_zero, List.set_cons_succ, i64_w, i32_w]
     rfl
    refine pure_ (i := 4) (N := some 31) (v := ?_) (a' := ?_) #[true, true, true, true, true, false, false, true, false, false] rfl rfl (any_of HT_.out (by kernel_rfl)) (fun _ _ _ h => h) (Or.inl ⟨by rfl, ?_⟩) ?_ ?_
    rotate_left
    ·intro w'
     go_simp
     with_reducible rfl
    rotate_left
    ·simp only [Act.put, List.setIfInBounds_toArray, List.set_cons_zero, List.set_cons_succ, i64_w, i32_w]
     rfl
    refine pure_ (i := 5) (N := some 36) (v := ?_) (a' := ?_) #[true, true, true, true, true, true, false, true, false, false] rfl rfl (any_of HT_.out (by kernel_rfl)) (fun _ _ _ h => h) (Or.inl ⟨by rfl, ?_⟩) ?_ ?_
    rotate_left
    ·intro w'
     go_simp
     with_reducible rfl
    rotate_left
    ·simp only [Act.put, List.setIfInBounds_toArray, List.set_cons_zero, List.set_cons_succ, i64_w, i32_w]
     rfl
    refine pure_ (i := 6) (N := some 37) (v := ?_) (a' := ?_) #[true, true, true, true, true, true, true, true, false, false] rfl rfl (any_of HT_.out (by kernel_rfl)) (fun _ _ _ h => h) (Or.inl ⟨by rfl, ?_⟩) ?_ ?_
    rotate_left
    ·intro w'
     go_simp
     with_reducible rfl
    rotate_left
    ·simp only [Act.put, List.setIfInBounds_toArray, List.set_cons_zero, List.set_cons_succ, i64_w, i32_w]
     rfl
    exact norm_ (by simp only [putAll, Act.put, List.setIfInBounds_toArray, List.set_cons_zero, List.set_cons_succ]) (hCont (v182, gb185) _ ⟨hHeld, (pkr (Kd.R_mono HO167.out (fun _ hk => ⟨hk.1.1, ⟨hk.1.2, hk.2⟩⟩))), (pkr (Kd.R_mono HO172.out (fun _ hk => ⟨hk.1.1, ⟨hk.1.2, hk.2⟩⟩))), (pkr (Kd.R_mono HO177.out (fun _ hk => ⟨hk.1.1, ⟨hk.1.2, hk.2⟩⟩))), (pkr (Kd.R_mono HO183.out (fun _ hk => ⟨hk.1.1.2, ⟨hk.1.2, hk.2⟩⟩))), (pkb BK162.out), (pkb BK163.out), (pkb BK174.out), (pkb BK178.out), (pkb BK185.out), GW185.out, GE185.out, NB162_185.out, NB185_162.out, NB163_185.out, NB185_163.out, NB174_185.out, NB185_174.out, NB178_185.out, NB185_178.out, (by repeat (first | (with_reducible first | exact HB.out | apply below_alloc | apply pw_below_drewN | apply below_drew1 | refine below_set ?_ GE162.out | refine below_set ?_ GE163.out | refine below_set ?_ GE174.out | refine below_set ?_ GE178.out | refine below_set ?_ GE185.out) | exact HB.out))⟩)
  rintro ⟨v182, gb185⟩ w45 ⟨hS_, h0_, h1_, h2_, h3_, h4_, h5_, h6_, h7_, h8_, h9_, h10_, h11_, h12_, h13_, h14_, h15_, h16_, h17_, h18_, h19_⟩
  have n0_ : Aside0 (Kd.R (Kd.int .i64) 3 w45 w.heap.size (fun k_ => some k_ ≠ (.slice Ao29 t170.length co29 : Value).ownBlock ∧ some k_ ≠ (.slice Ao35 t175.length co35 : Value).ownBlock ∧ some k_ ≠ (v182 : Value).ownBlock) v166 t165) := ⟨h0_⟩
  have n1_ : Aside0 (Kd.R (Kd.int .i64) 3 w45 w.heap.size (fun k_ => some k_ ≠ (v166 : Value).ownBlock ∧ some k_ ≠ (.slice Ao35 t175.length co35 : Value).ownBlock ∧ some k_ ≠ (v182 : Value).ownBlock) (.slice Ao29 t170.length co29) t170) := ⟨h1_⟩
  have n2_ : Aside0 (Kd.R (Kd.int .i64) 3 w45 w.heap.size (fun k_ => some k_ ≠ (v166 : Value).ownBlock ∧ some k_ ≠ (.slice Ao29 t170.length co29 : Value).ownBlock ∧ some k_ ≠ (v182 : Value).ownBlock) (.slice Ao35 t175.length co35) t175) := ⟨h2_⟩
  have n3_ : Aside0 (Kd.R (Kd.int .i64) 3 w45 w.heap.size (fun k_ => some k_ ≠ (v166 : Value).ownBlock ∧ some k_ ≠ (.slice Ao29 t170.length co29 : Value).ownBlock ∧ some k_ ≠ (.slice Ao35 t175.length co35 : Value).ownBlock) v182 t181) := ⟨h3_⟩
  have n4_ : Aside0 (w45.heap[gb162]? = some (.cells #[.slice A0_0 l0_0.length c0_0] 51 (0, 0))) := ⟨h4_⟩
  have n5_ : Aside0 (w45.heap[gb163]? = some (.cells #[.int .i64 a1_0, .int .i64 a1_1] 66 (0, 0))) := ⟨h5_⟩
  have n6_ : Aside0 (w45.heap[gb174]? = some (.cells #[.slice Ao29 t170.length co29] 56 (0, 0))) := ⟨h6_⟩
  have n7_ : Aside0 (w45.heap[gb178]? = some (.cells #[.slice Ao35 t175.length co35] 56 (0, 0))) := ⟨h7_⟩
  have n8_ : Aside0 (w45.heap[gb185]? = some (.cells #[.slice none 0 0] 56 (0, 0))) := ⟨h8_⟩
  have n9_ : Aside0 (w.heap.size ≤ gb185) := ⟨h9_⟩
  have n10_ : Aside0 (w.heap.size ≤ gb185) := ⟨h10_⟩
  have n11_ : Aside0 (gb162 ≠ gb185) := ⟨h11_⟩
  have n12_ : Aside0 (gb185 ≠ gb162) := ⟨h12_⟩
  have n13_ : Aside0 (gb163 ≠ gb185) := ⟨h13_⟩
  have n14_ : Aside0 (gb185 ≠ gb163) := ⟨h14_⟩
  have n15_ : Aside0 (gb174 ≠ gb185) := ⟨h15_⟩
  have n16_ : Aside0 (gb185 ≠ gb174) := ⟨h16_⟩
  have n17_ : Aside0 (gb178 ≠ gb185) := ⟨h17_⟩
  have n18_ : Aside0 (gb185 ≠ gb178) := ⟨h18_⟩
  have n19_ : Aside0 (Below w.heap.size w w45) := ⟨h19_⟩
  clear HO167
  clear HO172
  clear HO177
  clear BK162
  clear BK163
  clear BK174
  clear BK178
  clear HB
  clear h0_ h1_ h2_ h3_ h4_ h5_ h6_ h7_ h8_ h9_ h10_ h11_ h12_ h13_ h14_ h15_ h16_ h17_ h18_ h19_
  have HO167 := n0_
  have HO172 := n1_
  have HO177 := n2_
  have HO183 := n3_
  have BK162 := n4_
  have BK163 := n5_
  have BK174 := n6_
  have BK178 := n7_
  have BK185 := n8_
  have GW185 := n9_
  have GE185 := n10_
  have NB162_185 := n11_
  have NB185_162 := n12_
  have NB163_185 := n13_
  have NB185_163 := n14_
  have NB174_185 := n15_
  have NB185_174 := n16_
  have NB178_185 := n17_
  have NB185_178 := n18_
  have HB := n19_
  clear n0_ n1_ n2_ n3_ n4_ n5_ n6_ n7_ n8_ n9_ n10_ n11_ n12_ n13_ n14_ n15_ n16_ n17_ n18_ n19_
  have hHeld : w45.cell? ⟨gb178, 0, none⟩ = some (.slice Ao35 t175.length co35) ∧ w45.cell? ⟨gb163, 0, none⟩ = some (.int .i64 a1_0) ∧ w45.cell? ⟨gb163, 1, none⟩ = some (.int .i64 a1_1) := hS_
  obtain ⟨Ao46, co46, eo46⟩ := Kd.R_slice HO183.out
  (first | subst eo46 | (injection eo46 with f1_ f2_ f3_; have f4_ := f1_.symm; have f5_ := f3_.symm; clear f1_ f2_ f3_; subst f4_; subst f5_))
  refine norm_ (a' := ?_) ?_ ?_
  rotate_left
  ·simp only [putAll, Act.put, List.setIfInBounds_toArray, List.set_cons_zero, List.set_cons_succ]
   rfl
  refine one_ (i := 8) (N := none) #[true, true, true, true, true, true, true, true, true, false] rfl rfl (one_of HT_.out (by kernel_rfl)) (by decide) (fun K hK => ?_)
  have hs47 : w45.cell? ⟨gb185, 0, none⟩ = some (.slice none 0 0) := (blk_cell BK185.out 0).trans rfl
  have hfs47 := blk_frozen BK185.out 0
  have hns47_0 := NB162_185.out
  have hns47_1 := NB163_185.out
  have hns47_2 := NB174_185.out
  have hns47_3 := NB178_185.out
  have hms47_0 := NB185_162.out
  have hms47_1 := NB185_163.out
  have hms47_2 := NB185_174.out
  have hms47_3 := NB185_178.out
  refine skip_ (w1 := ?_) (by rfl) rfl ?_ ?_
  rotate_left
  ·go_simp
   rfl
  refine hK.out _ _ ⟨((cell_far (p := ⟨gb185, _, none⟩) NB178_185.out _).trans (hHeld.1)), ((cell_far (p := ⟨gb185, _, none⟩) NB163_185.out _).trans (hHeld.2.1)), ((cell_far (p := ⟨gb185, _, none⟩) NB163_185.out _).trans (hHeld.2.2))⟩ (fun hHeld => ?_)
  clear hK K
  refine pure_ (i := 9) (N := some 10) (v := ?_) (a' := ?_) #[true, true, true, true, true, true, true, true, true, true] rfl rfl (any_of HT_.out (by kernel_rfl)) (fun _ _ _ h => h) (Or.inl ⟨by rfl, ?_⟩) ?_ ?_
  rotate_left
  ·intro w'
   go_simp
   with_reducible rfl
  rotate_left
  ·simp only [Act.put, List.setIfInBounds_toArray, List.set_cons_zero, List.set_cons_succ, i64_w, i32_w]
   rfl
  refine done_ (done_of HT_.out (by kernel_rfl)) ?_
  go_upto_region 8 with (fail)
  go_cut [46] (fun v46 wc => ∃ (kq : Nat) (x46_15 : Bool), v46 = .bool x46_15 ∧ Aside0 (laws_FnExactReceive.j0 kq t173 t184 x46_15 l0_0 a1_0 a1_1 t170 t175 t181 = some r) ∧ Aside0 (kq ≤ k) ∧ Aside0 (Kd.R (Kd.int .i64) 3 wc w.heap.size (fun k_ => some k_ ≠ ((.slice Ao35 t175.length co35) : Value).ownBlock ∧ some k_ ≠ ((.slice Ao46 t181.length co46) : Value).ownBlock) (.slice Ao29 t170.length co29) t170) ∧ Aside0 (Kd.R (Kd.int .i64) 3 wc w.heap.size (fun k_ => some k_ ≠ ((.slice Ao29 t170.length co29) : Value).ownBlock ∧ some k_ ≠ ((.slice Ao46 t181.length co46) : Value).ownBlock) (.slice Ao35 t175.length co35) t175) ∧ Aside0 (Kd.R (Kd.int .i64) 3 wc w.heap.size (fun k_ => some k_ ≠ ((.slice Ao29 t170.length co29) : Value).ownBlock ∧ some k_ ≠ ((.slice Ao35 t175.length co35) : Value).ownBlock) (.slice Ao46 t181.length co46) t181) ∧ Aside0 (wc.heap[gb162]? = some (.cells #[(.slice A0_0 l0_0.length c0_0)] 51 (0, 0))) ∧ Aside0 (wc.heap[gb163]? = some (.cells #[.int .i64 a1_0, .int .i64 a1_1] 66 (0, 0))) ∧ Aside0 (wc.heap[gb174]? = some (.cells #[(.slice Ao29 t170.length co29)] 56 (0, 0))) ∧ Aside0 (wc.heap[gb178]? = some (.cells #[(.slice Ao35 t175.length co35)] 56 (0, 0))) ∧ Aside0 (wc.heap[gb185]? = some (.cells #[(.slice Ao46 t181.length co46)] 56 (0, 0))) ∧ Aside0 (Below w.heap.size w wc))
  case first =>
   have H := HC16.out
   clear HC16
   replace H := Option.bind_eq_some_iff.mp H
   obtain ⟨t186, A480, H⟩ := H
   replace H : (if t186 = true then (laws_FnExactReceive.j0 k t173 t184 (t184 != t173) l0_0 a1_0 a1_1 t170 t175 t181) else (laws_FnExactReceive.j0 k t173 t184 true l0_0 a1_0 a1_1 t170 t175 t181)) = some r := H
   have A48 := Aside0.mk A480
   clear A480
   by_cases c49 : t186 = true
   ·subst c49
    have H1 : (laws_FnExactReceive.j0 k t173 t184 (t184 != t173) l0_0 a1_0 a1_1 t170 t175 t181) = some r := by rw [if_pos rfl] at H; exact H
    clear H
    have H := H1
    clear H1
    have H' := Aside0.mk H
    clear H
    have hnb50 := NB185_162.out
    have hnc50 := NB162_185.out
    have hnb51 := NB185_163.out
    have hnc51 := NB163_185.out
    have hnb52 := NB185_174.out
    have hnc52 := NB174_185.out
    have hnb53 := NB185_178.out
    have hnc53 := NB178_185.out
    have hcz54_0 : w45.cell? ⟨gb185, 0, none⟩ = some (.slice none 0 0) := (blk_cell BK185.out 0).trans rfl
    have hfz54_0 := blk_frozen BK185.out 0
    have hnb55 := NB174_162.out
    have hnc55 := NB162_174.out
    have hnb56 := NB174_163.out
    have hnc56 := NB163_174.out
    have hnb57 := NB174_178.out
    have hnc57 := NB178_174.out
    have hcz58_0 : w45.cell? ⟨gb174, 0, none⟩ = some (.slice Ao29 t170.length co29) := (blk_cell BK174.out 0).trans rfl
    have hfz58_0 := blk_frozen BK174.out 0
    go_wp2_with (first | ((with_reducible refine gate_callee (f := 46) rfl ?_); refine goesL_ (some 40) rfl rfl Try.func46 (by kernel_rfl) rfl #[.agg #[.slice Ao46 t181.length co46], .agg #[.slice Ao29 t170.length co29]] rfl (by (try simp only [List.map_toArray, List.map_cons, List.map_nil]); first | done | rfl | (simp only [List.length_drop, List.length_take]; rfl)) ?_; (with_reducible refine (laws_eqGateway.calls k _ _ t181 _ _ t170 true _ ?side1 ?side2 ?side3 ?side4 A48.out).mono ?_); (case side1 => refine (Kd.R_reads' (e := 3) (base := w.heap.size) (ok := fun k_ => (some k_ ≠ (v166 : Value).ownBlock ∧ (some k_ ≠ (.slice Ao29 t170.length co29 : Value).ownBlock ∧ some k_ ≠ (.slice Ao35 t175.length co35 : Value).ownBlock))) (n := t181.length) (c := co46) ?_).2.2; exact (pkr ((Kd.R_mono (Kd.R_far (p := ⟨gb185, 0, none⟩) (Kd.R_types HO183.out BK185.out (by decide)) (fun _ hk => by first | exact hk.2 | simp_all) (.slice Ao46 t181.length co46)) (fun _ h_ => by first | exact h_.1 | simp_all))))); (case side2 => exact (Kd.R_reads' HO183.out).2.1); (case side3 => refine (Kd.R_reads' (e := 3) (base := w.heap.size) (ok := fun k_ => (some k_ ≠ (v166 : Value).ownBlock ∧ (some k_ ≠ (.slice Ao35 t175.length co35 : Value).ownBlock ∧ some k_ ≠ (.slice Ao46 t181.length co46 : Value).ownBlock))) (n := t170.length) (c := co29) ?_).2.2; exact (pkr ((Kd.R_mono (Kd.R_far (p := ⟨gb185, 0, none⟩) (Kd.R_types HO172.out BK185.out (by decide)) (fun _ hk => by first | exact hk.2 | simp_all) (.slice Ao46 t181.length co46)) (fun _ h_ => by first | exact h_.1 | simp_all))))); (case side4 => exact (Kd.R_reads' HO172.out).2.1); rintro e w59 ⟨rfl, hb⟩; refine ⟨_, rfl, ?_⟩; have n0_ := Aside0.mk (Kd.R_below (pkr ((Kd.R_mono (Kd.R_far (p := ⟨gb185, 0, none⟩) (Kd.R_types HO167.out BK185.out (by decide)) (fun _ hk => by first | exact hk.2 | simp_all) (.slice Ao46 t181.length co46)) (fun _ h_ => by first | exact h_.1 | simp_all)))) hb); have n1_ := Aside0.mk (Kd.R_below (pkr ((Kd.R_mono (Kd.R_far (p := ⟨gb185, 0, none⟩) (Kd.R_types HO172.out BK185.out (by decide)) (fun _ hk => by first | exact hk.2 | simp_all) (.slice Ao46 t181.length co46)) (fun _ h_ => by first | exact h_.1 | simp_all)))) hb); have n2_ := Aside0.mk (Kd.R_below (pkr ((Kd.R_mono (Kd.R_far (p := ⟨gb185, 0, none⟩) (Kd.R_types HO177.out BK185.out (by decide)) (fun _ hk => by first | exact hk.2 | simp_all) (.slice Ao46 t181.length co46)) (fun _ h_ => by first | exact h_.1 | simp_all)))) hb); have n3_ := Aside0.mk (Kd.R_below (pkr ((Kd.R_mono (Kd.R_far (p := ⟨gb185, 0, none⟩) (Kd.R_types HO183.out BK185.out (by decide)) (fun _ hk => by first | exact hk.2 | simp_all) (.slice Ao46 t181.length co46)) (fun _ h_ => by first | exact h_.1 | simp_all)))) hb); have n4_ := Aside0.mk (blk_below (g := gb162) (o := .cells #[.slice A0_0 l0_0.length c0_0] 51 (0, 0)) (by (with_reducible repeat (first | refine blk_drewN ?_ _ | refine blk_drew ?_ | refine blk_alloc ?_ _)); refine blk_far ?_ NB162_185.out _; (with_reducible repeat (first | refine blk_drewN ?_ _ | refine blk_drew ?_ | refine blk_alloc ?_ _)); exact BK162.out) hb); have n5_ := Aside0.mk (blk_below (g := gb163) (o := .cells #[.int .i64 a1_0, .int .i64 a1_1] 66 (0, 0)) (by (with_reducible repeat (first | refine blk_drewN ?_ _ | refine blk_drew ?_ | refine blk_alloc ?_ _)); refine blk_far ?_ NB163_185.out _; (with_reducible repeat (first | refine blk_drewN ?_ _ | refine blk_drew ?_ | refine blk_alloc ?_ _)); exact BK163.out) hb); have n6_ := Aside0.mk (blk_below (g := gb174) (o := .cells #[.slice Ao29 t170.length co29] 56 (0, 0)) (by (with_reducible repeat (first | refine blk_drewN ?_ _ | refine blk_drew ?_ | refine blk_alloc ?_ _)); refine blk_far ?_ NB174_185.out _; (with_reducible repeat (first | refine blk_drewN ?_ _ | refine blk_drew ?_ | refine blk_alloc ?_ _)); exact BK174.out) hb); have n7_ := Aside0.mk (blk_below (g := gb178) (o := .cells #[.slice Ao35 t175.length co35] 56 (0, 0)) (by (with_reducible repeat (first | refine blk_drewN ?_ _ | refine blk_drew ?_ | refine blk_alloc ?_ _)); refine blk_far ?_ NB178_185.out _; (with_reducible repeat (first | refine blk_drewN ?_ _ | refine blk_drew ?_ | refine blk_alloc ?_ _)); exact BK178.out) hb); have n8_ := Aside0.mk (blk_below (g := gb185) (o := .cells #[.slice Ao46 t181.length co46] 56 (0, 0)) (by (with_reducible repeat (first | refine blk_drewN ?_ _ | refine blk_drew ?_ | refine blk_alloc ?_ _)); refine blk_put (cs := #[.slice none 0 0]) ?_ 0 _ rfl; (with_reducible repeat (first | refine blk_drewN ?_ _ | refine blk_drew ?_ | refine blk_alloc ?_ _)); exact BK185.out) hb); have n9_ := Aside0.mk (below_step (by repeat (first | (with_reducible first | exact HB.out | apply below_alloc | apply pw_below_drewN | apply below_drew1 | refine below_set ?_ GE162.out | refine below_set ?_ GE163.out | refine below_set ?_ GE174.out | refine below_set ?_ GE178.out | refine below_set ?_ GE185.out) | exact HB.out)) hb); clear HO167; clear HO172; clear HO177; clear HO183; clear BK162; clear BK163; clear BK174; clear BK178; clear BK185; clear HB; have HO167 := n0_; have HO172 := n1_; have HO177 := n2_; have HO183 := n3_; have BK162 := n4_; have BK163 := n5_; have BK174 := n6_; have BK178 := n7_; have BK185 := n8_; have HB := n9_; clear n0_ n1_ n2_ n3_ n4_ n5_ n6_ n7_ n8_ n9_; (try clear hb); (try clear hb2); (try clear hk); (try clear hi)))
    go_meet
    case rel => exact ⟨_, ((t184 != t173)), (by first | rfl | (simp; done) | (simp [*]; done)), H', ⟨by first | omega | exact Nat.le_refl _⟩, ⟨by (with_reducible repeat (first | apply Kd.R_alloc | apply Kd.R_drewN | apply Kd.R_drew)); exact Kd.R_mono HO172.out (fun _ hk => by first | exact ⟨hk.2.1, hk.2.2⟩ | simp_all)⟩, ⟨by (with_reducible repeat (first | apply Kd.R_alloc | apply Kd.R_drewN | apply Kd.R_drew)); exact Kd.R_mono HO177.out (fun _ hk => by first | exact ⟨hk.2.1, hk.2.2⟩ | simp_all)⟩, ⟨by (with_reducible repeat (first | apply Kd.R_alloc | apply Kd.R_drewN | apply Kd.R_drew)); exact Kd.R_mono HO183.out (fun _ hk => by first | exact ⟨hk.2.1, hk.2.2⟩ | simp_all)⟩, ⟨by (with_reducible repeat (first | refine blk_drewN ?_ _ | refine blk_drew ?_ | refine blk_alloc ?_ _)); exact BK162.out⟩, ⟨by (with_reducible repeat (first | refine blk_drewN ?_ _ | refine blk_drew ?_ | refine blk_alloc ?_ _)); exact BK163.out⟩, ⟨by (with_reducible repeat (first | refine blk_drewN ?_ _ | refine blk_drew ?_ | refine blk_alloc ?_ _)); exact BK174.out⟩, ⟨by (with_reducible repeat (first | refine blk_drewN ?_ _ | refine blk_drew ?_ | refine blk_alloc ?_ _)); exact BK178.out⟩, ⟨by (with_reducible repeat (first | refine blk_drewN ?_ _ | refine blk_drew ?_ | refine blk_alloc ?_ _)); exact BK185.out⟩, ⟨by repeat (first | (with_reducible first | exact HB.out | apply below_alloc | apply pw_below_drewN | apply below_drew1 | refine below_set ?_ GE162.out | refine below_set ?_ GE163.out | refine below_set ?_ GE174.out | refine below_set ?_ GE178.out | refine below_set ?_ GE185.out) | exact HB.out)⟩⟩
   ·replace c49 := Bool.eq_false_iff.mpr c49
    subst c49
    have H1 : (laws_FnExactReceive.j0 k t173 t184 true l0_0 a1_0 a1_1 t170 t175 t181) = some r := by rw [if_neg (show ¬ (false = true) by decide)] at H; exact H
    clear H
    have H := H1
    clear H1
    have H' := Aside0.mk H
    clear H
    have hnb60 := NB185_162.out
    have hnc60 := NB162_185.out
    have hnb61 := NB185_163.out
    have hnc61 := NB163_185.out
    have hnb62 := NB185_174.out
    have hnc62 := NB174_185.out
    have hnb63 := NB185_178.out
    have hnc63 := NB178_185.out
    have hcz64_0 : w45.cell? ⟨gb185, 0, none⟩ = some (.slice none 0 0) := (blk_cell BK185.out 0).trans rfl
    have hfz64_0 := blk_frozen BK185.out 0
    have hnb65 := NB174_162.out
    have hnc65 := NB162_174.out
    have hnb66 := NB174_163.out
    have hnc66 := NB163_174.out
    have hnb67 := NB174_178.out
    have hnc67 := NB178_174.out
    have hcz68_0 : w45.cell? ⟨gb174, 0, none⟩ = some (.slice Ao29 t170.length co29) := (blk_cell BK174.out 0).trans rfl
    have hfz68_0 := blk_frozen BK174.out 0
    go_wp2_with (first | ((with_reducible refine gate_callee (f := 46) rfl ?_); refine goesL_ (some 40) rfl rfl Try.func46 (by kernel_rfl) rfl #[.agg #[.slice Ao46 t181.length co46], .agg #[.slice Ao29 t170.length co29]] rfl (by (try simp only [List.map_toArray, List.map_cons, List.map_nil]); first | done | rfl | (simp only [List.length_drop, List.length_take]; rfl)) ?_; (with_reducible refine (laws_eqGateway.calls k _ _ t181 _ _ t170 false _ ?side1 ?side2 ?side3 ?side4 A48.out).mono ?_); (case side1 => refine (Kd.R_reads' (e := 3) (base := w.heap.size) (ok := fun k_ => (some k_ ≠ (v166 : Value).ownBlock ∧ (some k_ ≠ (.slice Ao29 t170.length co29 : Value).ownBlock ∧ some k_ ≠ (.slice Ao35 t175.length co35 : Value).ownBlock))) (n := t181.length) (c := co46) ?_).2.2; exact (pkr ((Kd.R_mono (Kd.R_far (p := ⟨gb185, 0, none⟩) (Kd.R_types HO183.out BK185.out (by decide)) (fun _ hk => by first | exact hk.2 | simp_all) (.slice Ao46 t181.length co46)) (fun _ h_ => by first | exact h_.1 | simp_all))))); (case side2 => exact (Kd.R_reads' HO183.out).2.1); (case side3 => refine (Kd.R_reads' (e := 3) (base := w.heap.size) (ok := fun k_ => (some k_ ≠ (v166 : Value).ownBlock ∧ (some k_ ≠ (.slice Ao35 t175.length co35 : Value).ownBlock ∧ some k_ ≠ (.slice Ao46 t181.length co46 : Value).ownBlock))) (n := t170.length) (c := co29) ?_).2.2; exact (pkr ((Kd.R_mono (Kd.R_far (p := ⟨gb185, 0, none⟩) (Kd.R_types HO172.out BK185.out (by decide)) (fun _ hk => by first | exact hk.2 | simp_all) (.slice Ao46 t181.length co46)) (fun _ h_ => by first | exact h_.1 | simp_all))))); (case side4 => exact (Kd.R_reads' HO172.out).2.1); rintro e w69 ⟨rfl, hb⟩; refine ⟨_, rfl, ?_⟩; have n0_ := Aside0.mk (Kd.R_below (pkr ((Kd.R_mono (Kd.R_far (p := ⟨gb185, 0, none⟩) (Kd.R_types HO167.out BK185.out (by decide)) (fun _ hk => by first | exact hk.2 | simp_all) (.slice Ao46 t181.length co46)) (fun _ h_ => by first | exact h_.1 | simp_all)))) hb); have n1_ := Aside0.mk (Kd.R_below (pkr ((Kd.R_mono (Kd.R_far (p := ⟨gb185, 0, none⟩) (Kd.R_types HO172.out BK185.out (by decide)) (fun _ hk => by first | exact hk.2 | simp_all) (.slice Ao46 t181.length co46)) (fun _ h_ => by first | exact h_.1 | simp_all)))) hb); have n2_ := Aside0.mk (Kd.R_below (pkr ((Kd.R_mono (Kd.R_far (p := ⟨gb185, 0, none⟩) (Kd.R_types HO177.out BK185.out (by decide)) (fun _ hk => by first | exact hk.2 | simp_all) (.slice Ao46 t181.length co46)) (fun _ h_ => by first | exact h_.1 | simp_all)))) hb); have n3_ := Aside0.mk (Kd.R_below (pkr ((Kd.R_mono (Kd.R_far (p := ⟨gb185, 0, none⟩) (Kd.R_types HO183.out BK185.out (by decide)) (fun _ hk => by first | exact hk.2 | simp_all) (.slice Ao46 t181.length co46)) (fun _ h_ => by first | exact h_.1 | simp_all)))) hb); have n4_ := Aside0.mk (blk_below (g := gb162) (o := .cells #[.slice A0_0 l0_0.length c0_0] 51 (0, 0)) (by (with_reducible repeat (first | refine blk_drewN ?_ _ | refine blk_drew ?_ | refine blk_alloc ?_ _)); refine blk_far ?_ NB162_185.out _; (with_reducible repeat (first | refine blk_drewN ?_ _ | refine blk_drew ?_ | refine blk_alloc ?_ _)); exact BK162.out) hb); have n5_ := Aside0.mk (blk_below (g := gb163) (o := .cells #[.int .i64 a1_0, .int .i64 a1_1] 66 (0, 0)) (by (with_reducible repeat (first | refine blk_drewN ?_ _ | refine blk_drew ?_ | refine blk_alloc ?_ _)); refine blk_far ?_ NB163_185.out _; (with_reducible repeat (first | refine blk_drewN ?_ _ | refine blk_drew ?_ | refine blk_alloc ?_ _)); exact BK163.out) hb); have n6_ := Aside0.mk (blk_below (g := gb174) (o := .cells #[.slice Ao29 t170.length co29] 56 (0, 0)) (by (with_reducible repeat (first | refine blk_drewN ?_ _ | refine blk_drew ?_ | refine blk_alloc ?_ _)); refine blk_far ?_ NB174_185.out _; (with_reducible repeat (first | refine blk_drewN ?_ _ | refine blk_drew ?_ | refine blk_alloc ?_ _)); exact BK174.out) hb); have n7_ := Aside0.mk (blk_below (g := gb178) (o := .cells #[.slice Ao35 t175.length co35] 56 (0, 0)) (by (with_reducible repeat (first | refine blk_drewN ?_ _ | refine blk_drew ?_ | refine blk_alloc ?_ _)); refine blk_far ?_ NB178_185.out _; (with_reducible repeat (first | refine blk_drewN ?_ _ | refine blk_drew ?_ | refine blk_alloc ?_ _)); exact BK178.out) hb); have n8_ := Aside0.mk (blk_below (g := gb185) (o := .cells #[.slice Ao46 t181.length co46] 56 (0, 0)) (by (with_reducible repeat (first | refine blk_drewN ?_ _ | refine blk_drew ?_ | refine blk_alloc ?_ _)); refine blk_put (cs := #[.slice none 0 0]) ?_ 0 _ rfl; (with_reducible repeat (first | refine blk_drewN ?_ _ | refine blk_drew ?_ | refine blk_alloc ?_ _)); exact BK185.out) hb); have n9_ := Aside0.mk (below_step (by repeat (first | (with_reducible first | exact HB.out | apply below_alloc | apply pw_below_drewN | apply below_drew1 | refine below_set ?_ GE162.out | refine below_set ?_ GE163.out | refine below_set ?_ GE174.out | refine below_set ?_ GE178.out | refine below_set ?_ GE185.out) | exact HB.out)) hb); clear HO167; clear HO172; clear HO177; clear HO183; clear BK162; clear BK163; clear BK174; clear BK178; clear BK185; clear HB; have HO167 := n0_; have HO172 := n1_; have HO177 := n2_; have HO183 := n3_; have BK162 := n4_; have BK163 := n5_; have BK174 := n6_; have BK178 := n7_; have BK185 := n8_; have HB := n9_; clear n0_ n1_ n2_ n3_ n4_ n5_ n6_ n7_ n8_ n9_; (try clear hb); (try clear hb2); (try clear hk); (try clear hi)))
    go_meet
    case rel => exact ⟨_, (true), (by first | rfl | (simp; done) | (simp [*]; done)), H', ⟨by first | omega | exact Nat.le_refl _⟩, ⟨by (with_reducible repeat (first | apply Kd.R_alloc | apply Kd.R_drewN | apply Kd.R_drew)); exact Kd.R_mono HO172.out (fun _ hk => by first | exact ⟨hk.2.1, hk.2.2⟩ | simp_all)⟩, ⟨by (with_reducible repeat (first | apply Kd.R_alloc | apply Kd.R_drewN | apply Kd.R_drew)); exact Kd.R_mono HO177.out (fun _ hk => by first | exact ⟨hk.2.1, hk.2.2⟩ | simp_all)⟩, ⟨by (with_reducible repeat (first | apply Kd.R_alloc | apply Kd.R_drewN | apply Kd.R_drew)); exact Kd.R_mono HO183.out (fun _ hk => by first | exact ⟨hk.2.1, hk.2.2⟩ | simp_all)⟩, ⟨by (with_reducible repeat (first | refine blk_drewN ?_ _ | refine blk_drew ?_ | refine blk_alloc ?_ _)); exact BK162.out⟩, ⟨by (with_reducible repeat (first | refine blk_drewN ?_ _ | refine blk_drew ?_ | refine blk_alloc ?_ _)); exact BK163.out⟩, ⟨by (with_reducible repeat (first | refine blk_drewN ?_ _ | refine blk_drew ?_ | refine blk_alloc ?_ _)); exact BK174.out⟩, ⟨by (with_reducible repeat (first | refine blk_drewN ?_ _ | refine blk_drew ?_ | refine blk_alloc ?_ _)); exact BK178.out⟩, ⟨by (with_reducible repeat (first | refine blk_drewN ?_ _ | refine blk_drew ?_ | refine blk_alloc ?_ _)); exact BK185.out⟩, ⟨by repeat (first | (with_reducible first | exact HB.out | apply below_alloc | apply pw_below_drewN | apply below_drew1 | refine below_set ?_ GE162.out | refine below_set ?_ GE163.out | refine below_set ?_ GE174.out | refine below_set ?_ GE178.out | refine below_set ?_ GE185.out) | exact HB.out)⟩⟩
  case rest =>
   clear HC16
   try clear p2
   try clear c4
   try clear c5
   try clear c6
   try clear c44
   try clear c45
   try clear c46
   try clear c49
   try clear c50
   try clear c51
   try clear c52
   try clear c53
   try clear c55
   try clear c56
   try clear c57
   try clear c60
   try clear c61
   try clear c62
   try clear c63
   try clear c65
   try clear c66
   try clear c67
   try clear hcz54_0
   try clear hcz58_0
   try clear hcz64_0
   try clear hcz68_0
   try clear hfz54_0
   try clear hfz58_0
   try clear hfz64_0
   try clear hfz68_0
   obtain ⟨kq, x46_15, rfl, HA, HJ15, HO_175000, HO_179000, HO_186000, BK162, BK163, BK174, BK178, BK185, HB⟩ := hcut
   cases kq with
   | zero => exact absurd HA.out (by simp [laws_FnExactReceive.j0])
   | succ kj15 =>
    have H := HA.out
    clear HA
    simp only [laws_FnExactReceive.j0] at H
    by_cases c70 : x46_15 = true
    ·subst c70
     have H1 : (none) = some r := by rw [if_pos rfl] at H; exact H
     clear H
     have H := H1
     clear H1
     exact absurd H (by simp)
    ·replace c70 := Bool.eq_false_iff.mpr c70
     subst c70
     have H1 : ((laws_toGateway.f kj15 l0_0).bind fun t187 => ((laws_eqGateway.f kj15 t175 t187).bind fun t190 => (if t190 = true then ((laws_markGateway.f kj15 t175 1).bind fun bt191 => (if bt191.1 < 0 then (laws_FnExactReceive.j1 kj15 t173 true l0_0 a1_0 a1_1 t170 t181) else ((laws_eqGateway.f kj15 t181 t170).bind fun t193 => (if t193 = true then (laws_FnExactReceive.j1 kj15 t173 (t184 != t173) l0_0 a1_0 a1_1 t170 t181) else (laws_FnExactReceive.j1 kj15 t173 true l0_0 a1_0 a1_1 t170 t181))))) else (none)))) = some r := by rw [if_neg (show ¬ (false = true) by decide)] at H; exact H
     clear H
     have H := H1
     clear H1
     replace H := Option.bind_eq_some_iff.mp H
     obtain ⟨t187, A710, H⟩ := H
     replace H : ((laws_eqGateway.f kj15 t175 t187).bind fun t190 => (if t190 = true then ((laws_markGateway.f kj15 t175 1).bind fun bt191 => (if bt191.1 < 0 then (laws_FnExactReceive.j1 kj15 t173 true l0_0 a1_0 a1_1 t170 t181) else ((laws_eqGateway.f kj15 t181 t170).bind fun t193 => (if t193 = true then (laws_FnExactReceive.j1 kj15 t173 (t184 != t173) l0_0 a1_0 a1_1 t170 t181) else (laws_FnExactReceive.j1 kj15 t173 true l0_0 a1_0 a1_1 t170 t181))))) else (none))) = some r := H
     have A71 := Aside0.mk A710
     clear A710
     replace H := Option.bind_eq_some_iff.mp H
     obtain ⟨t190, A720, H⟩ := H
     replace H : (if t190 = true then ((laws_markGateway.f kj15 t175 1).bind fun bt191 => (if bt191.1 < 0 then (laws_FnExactReceive.j1 kj15 t173 true l0_0 a1_0 a1_1 t170 t181) else ((laws_eqGateway.f kj15 t181 t170).bind fun t193 => (if t193 = true then (laws_FnExactReceive.j1 kj15 t173 (t184 != t173) l0_0 a1_0 a1_1 t170 t181) else (laws_FnExactReceive.j1 kj15 t173 true l0_0 a1_0 a1_1 t170 t181))))) else (none)) = some r := H
     have A72 := Aside0.mk A720
     clear A720
     by_cases c73 : t190 = true
     ·subst c73
      have H1 : ((laws_markGateway.f kj15 t175 1).bind fun bt191 => (if bt191.1 < 0 then (laws_FnExactReceive.j1 kj15 t173 true l0_0 a1_0 a1_1 t170 t181) else ((laws_eqGateway.f kj15 t181 t170).bind fun t193 => (if t193 = true then (laws_FnExactReceive.j1 kj15 t173 (t184 != t173) l0_0 a1_0 a1_1 t170 t181) else (laws_FnExactReceive.j1 kj15 t173 true l0_0 a1_0 a1_1 t170 t181))))) = some r := by rw [if_pos rfl] at H; exact H
      clear H
      have H := H1
      clear H1
      replace H := Option.bind_eq_some_iff.mp H
      obtain ⟨⟨t191, t192⟩, A740, H⟩ := H
      replace H : (if t191 < 0 then (laws_FnExactReceive.j1 kj15 t173 true l0_0 a1_0 a1_1 t170 t181) else ((laws_eqGateway.f kj15 t181 t170).bind fun t193 => (if t193 = true then (laws_FnExactReceive.j1 kj15 t173 (t184 != t173) l0_0 a1_0 a1_1 t170 t181) else (laws_FnExactReceive.j1 kj15 t173 true l0_0 a1_0 a1_1 t170 t181)))) = some r := H
      have A74 := Aside0.mk A740
      clear A740
      have HC75 := Aside0.mk H
      clear H
      try go_wp2
      have n0_ := Aside0.mk (Kd.R_drew HO_175000.out)
      have n1_ := Aside0.mk (Kd.R_drew HO_179000.out)
      have n2_ := Aside0.mk (Kd.R_drew HO_186000.out)
      have n3_ := Aside0.mk (blk_drew BK162.out)
      have n4_ := Aside0.mk (blk_drew BK163.out)
      have n5_ := Aside0.mk (blk_drew BK174.out)
      have n6_ := Aside0.mk (blk_drew BK178.out)
      have n7_ := Aside0.mk (blk_drew BK185.out)
      have n8_ := Aside0.mk (below_drew1 HB.out)
      clear HO_175000
      clear HO_179000
      clear HO_186000
      clear BK162
      clear BK163
      clear BK174
      clear BK178
      clear BK185
      clear HB
      have HO_175000 := n0_
      have HO_179000 := n1_
      have HO_186000 := n2_
      have BK162 := n3_
      have BK163 := n4_
      have BK174 := n5_
      have BK178 := n6_
      have BK185 := n7_
      have HB := n8_
      clear n0_ n1_ n2_ n3_ n4_ n5_ n6_ n7_ n8_
      refine start_ (n := 5) (S := fun w' => w'.cell? ⟨gb178, 0, none⟩ = some (.slice Ao35 t175.length co35) ∧ w'.cell? ⟨gb162, 0, none⟩ = some (.slice A0_0 l0_0.length c0_0)) (ds := []) #[false, false, false, false, false] (by kernel_rfl) rfl rfl ⟨(blk_cell BK178.out 0).trans rfl, (blk_cell BK162.out 0).trans rfl⟩ (fun hHeld => ?_)
      generalize wc.drew = w76 at HO_175000 HO_179000 HO_186000 BK162 BK163 BK174 BK178 BK185 HB hHeld ⊢
      refine take_ (i := 0) (N := some 47) (v := ?_) (a' := ?_) #[true, false, false, false, false] rfl rfl (by kernel_rfl) (fun _ _ _ h => h) (Or.inl ⟨by rfl, ?_⟩) hHeld ?_ ?_
      rotate_left
      ·rintro w' ⟨s0, s1⟩
       go_simp
       with_reducible rfl
      rotate_left
      ·simp only [Act.put, List.setIfInBounds_toArray, List.set_cons_zero, List.set_cons_succ, i64_w, i32_w]
       rfl
      refine take_ (i := 1) (N := some 48) (v := ?_) (a' := ?_) #[true, true, false, false, false] rfl rfl (by kernel_rfl) (fun _ _ _ h => h) (Or.inl ⟨by rfl, ?_⟩) hHeld ?_ ?_
      rotate_left
      ·rintro w' ⟨s0, s1⟩
       go_simp
       with_reducible rfl
      rotate_left
      ·simp only [Act.put, List.setIfInBounds_toArray, List.set_cons_zero, List.set_cons_succ, i64_w, i32_w]
       rfl
      refine one_ (i := 2) (N := some 49) #[true, true, true, false, false] rfl rfl (by kernel_rfl) (by decide) (fun K hK => ?_)
      refine goes_ Try.func43 (by kernel_rfl) rfl #[.agg #[.slice A0_0 l0_0.length c0_0]] (by rfl) rfl rfl (by (try simp only [List.map_toArray, List.map_cons, List.map_nil]); first | done | rfl | (simp only [List.length_drop, List.length_take]; rfl)) ?_
      with_reducible refine (laws_toGateway.calls kj15 _ _ l0_0 t187 _ ?side1 ?side2 A71.out).mono ?_
      (case side1 => repeat (first | exact (Kd.C_below HR0_0.out HB.out) | (with_reducible refine Kd.C_alloc ?_ _) | (with_reducible refine Kd.C_drewN ?_ _) | (with_reducible refine Kd.C_drew ?_)))
      (case side2 => exact HC0_0.out)
      rintro e w77 ⟨v188, rfl, ho0, hb⟩
      refine ⟨_, rfl, ?_⟩
      have n0_ := Aside0.mk (Kd.R_elder' (pkr HO_175000.out) (Kd.R_base ho0) hb)
      have n1_ := Aside0.mk (Kd.R_elder' (pkr HO_179000.out) (Kd.R_base ho0) hb)
      have n2_ := Aside0.mk (Kd.R_elder' (pkr HO_186000.out) (Kd.R_base ho0) hb)
      have n3_ := Aside0.mk (Kd.R_lower (Kd.R_new' (Kd.R_new' (Kd.R_new' ho0 (Kd.R_lt (pkr HO_175000.out))) (Kd.R_lt (pkr HO_179000.out))) (Kd.R_lt (pkr HO_186000.out))) (below_size (by repeat (first | (with_reducible first | exact HB.out | apply below_alloc | apply pw_below_drewN | apply below_drew1 | refine below_set ?_ GE162.out | refine below_set ?_ GE163.out | refine below_set ?_ GE174.out | refine below_set ?_ GE178.out | refine below_set ?_ GE185.out) | exact HB.out))))
      have n4_ := Aside0.mk (blk_below (g := gb162) (o := .cells #[.slice A0_0 l0_0.length c0_0] 51 (0, 0)) (pkb BK162.out) hb)
      have n5_ := Aside0.mk (blk_below (g := gb163) (o := .cells #[.int .i64 a1_0, .int .i64 a1_1] 66 (0, 0)) (pkb BK163.out) hb)
      have n6_ := Aside0.mk (blk_below (g := gb174) (o := .cells #[.slice Ao29 t170.length co29] 56 (0, 0)) (pkb BK174.out) hb)
      have n7_ := Aside0.mk (blk_below (g := gb178) (o := .cells #[.slice Ao35 t175.length co35] 56 (0, 0)) (pkb BK178.out) hb)
      have n8_ := Aside0.mk (blk_below (g := gb185) (o := .cells #[.slice Ao46 t181.length co46] 56 (0, 0)) (pkb BK185.out) hb)
      have n9_ := Aside0.mk (below_step (by repeat (first | (with_reducible first | exact HB.out | apply below_alloc | apply pw_below_drewN | apply below_drew1 | refine below_set ?_ GE162.out | refine below_set ?_ GE163.out | refine below_set ?_ GE174.out | refine below_set ?_ GE178.out | refine below_set ?_ GE185.out) | exact HB.out)) hb)
      clear HO_175000
      clear HO_179000
      clear HO_186000
      clear BK162
      clear BK163
      clear BK174
      clear BK178
      clear BK185
      clear HB
      have HO_175000 := n0_
      have HO_179000 := n1_
      have HO_186000 := n2_
      have HO189 := n3_
      have BK162 := n4_
      have BK163 := n5_
      have BK174 := n6_
      have BK178 := n7_
      have BK185 := n8_
      have HB := n9_
      clear n0_ n1_ n2_ n3_ n4_ n5_ n6_ n7_ n8_ n9_
      (try clear hb)
      (try clear hb2)
      (try clear hk)
      (try clear hi)
      (try clear ho0)
      obtain ⟨Ao78, co78, eo78⟩ := Kd.R_slice HO189.out
      (first | subst eo78 | (injection eo78 with f1_ f2_ f3_; have f4_ := f1_.symm; have f5_ := f3_.symm; clear f1_ f2_ f3_; subst f4_; subst f5_))
      refine hK.out _ _ ⟨(blk_cell BK178.out 0).trans rfl, (blk_cell BK162.out 0).trans rfl⟩ (fun hHeld => ?_)
      clear hK K
      refine norm_ (a' := ?_) ?_ ?_
      rotate_left
      ·show Act.put _ (some 49) _ = _
       simp only [Act.put, List.setIfInBounds_toArray, List.set_cons_zero, List.set_cons_succ, i64_w, i32_w]
       rfl
      refine one_ (i := 3) (N := some 50) #[true, true, true, true, false] rfl rfl (by kernel_rfl) (by decide) (fun K hK => ?_)
      refine goes_ Try.func46 (by kernel_rfl) rfl #[.agg #[.slice Ao35 t175.length co35], .agg #[.slice Ao78 t187.length co78]] (by rfl) rfl rfl (by (try simp only [List.map_toArray, List.map_cons, List.map_nil]); first | done | rfl | (simp only [List.length_drop, List.length_take]; rfl)) ?_
      with_reducible refine (laws_eqGateway.calls kj15 _ _ t175 _ _ t187 true _ ?side1 ?side2 ?side3 ?side4 A72.out).mono ?_
      (case side1 => repeat (first | exact (Kd.R_reads' HO_179000.out).2.2 | (with_reducible refine Kd.C_alloc ?_ _) | (with_reducible refine Kd.C_drewN ?_ _) | (with_reducible refine Kd.C_drew ?_)))
      (case side2 => exact (Kd.R_reads' HO_179000.out).2.1)
      (case side3 => repeat (first | exact (Kd.R_reads' HO189.out).2.2 | (with_reducible refine Kd.C_alloc ?_ _) | (with_reducible refine Kd.C_drewN ?_ _) | (with_reducible refine Kd.C_drew ?_)))
      (case side4 => exact (Kd.R_reads' HO189.out).2.1)
      rintro e w79 ⟨rfl, hb⟩
      refine ⟨_, rfl, ?_⟩
      have n0_ := Aside0.mk (Kd.R_below (pkr HO_175000.out) hb)
      have n1_ := Aside0.mk (Kd.R_below (pkr HO_179000.out) hb)
      have n2_ := Aside0.mk (Kd.R_below (pkr HO_186000.out) hb)
      have n3_ := Aside0.mk (Kd.R_below (pkr HO189.out) hb)
      have n4_ := Aside0.mk (blk_below (g := gb162) (o := .cells #[.slice A0_0 l0_0.length c0_0] 51 (0, 0)) (pkb BK162.out) hb)
      have n5_ := Aside0.mk (blk_below (g := gb163) (o := .cells #[.int .i64 a1_0, .int .i64 a1_1] 66 (0, 0)) (pkb BK163.out) hb)
      have n6_ := Aside0.mk (blk_below (g := gb174) (o := .cells #[.slice Ao29 t170.length co29] 56 (0, 0)) (pkb BK174.out) hb)
      have n7_ := Aside0.mk (blk_below (g := gb178) (o := .cells #[.slice Ao35 t175.length co35] 56 (0, 0)) (pkb BK178.out) hb)
      have n8_ := Aside0.mk (blk_below (g := gb185) (o := .cells #[.slice Ao46 t181.length co46] 56 (0, 0)) (pkb BK185.out) hb)
      have n9_ := Aside0.mk (below_step (by repeat (first | (with_reducible first | exact HB.out | apply below_alloc | apply pw_below_drewN | apply below_drew1 | refine below_set ?_ GE162.out | refine below_set ?_ GE163.out | refine below_set ?_ GE174.out | refine below_set ?_ GE178.out | refine below_set ?_ GE185.out) | exact HB.out)) hb)
      clear HO_175000
      clear HO_179000
      clear HO_186000
      clear HO189
      clear BK162
      clear BK163
      clear BK174
      clear BK178
      clear BK185
      clear HB
      have HO_175000 := n0_
      have HO_179000 := n1_
      have HO_186000 := n2_
      have HO189 := n3_
      have BK162 := n4_
      have BK163 := n5_
      have BK174 := n6_
      have BK178 := n7_
      have BK185 := n8_
      have HB := n9_
      clear n0_ n1_ n2_ n3_ n4_ n5_ n6_ n7_ n8_ n9_
      (try clear hb)
      (try clear hb2)
      (try clear hk)
      (try clear hi)
      refine hK.out _ _ ⟨(blk_cell BK178.out 0).trans rfl, (blk_cell BK162.out 0).trans rfl⟩ (fun hHeld => ?_)
      clear hK K
      refine norm_ (a' := ?_) ?_ ?_
      rotate_left
      ·show Act.put _ (some 50) _ = _
       simp only [Act.put, List.setIfInBounds_toArray, List.set_cons_zero, List.set_cons_succ, i64_w, i32_w]
       rfl
      refine pure_ (i := 4) (N := some 51) (v := ?_) (a' := ?_) #[true, true, true, true, true] rfl rfl (by kernel_rfl) (fun _ _ _ h => h) (Or.inl ⟨by rfl, ?_⟩) ?_ ?_
      rotate_left
      ·intro w'
       go_simp
       with_reducible rfl
      rotate_left
      ·simp only [Act.put, List.setIfInBounds_toArray, List.set_cons_zero, List.set_cons_succ, i64_w, i32_w]
       rfl
      refine done_ (by kernel_rfl) ?_
      have hnb80 := NB178_162.out
      have hnc80 := NB162_178.out
      have hnb81 := NB178_163.out
      have hnc81 := NB163_178.out
      have hnb82 := NB178_174.out
      have hnc82 := NB174_178.out
      have hnb83 := NB178_185.out
      have hnc83 := NB185_178.out
      have hcz84_0 : w79.cell? ⟨gb178, 0, none⟩ = some (.slice Ao35 t175.length co35) := (blk_cell BK178.out 0).trans rfl
      have hfz84_0 := blk_frozen BK178.out 0
      go_upto_region 14 with (first | ((with_reducible refine gate_callee (f := 47) rfl ?_); refine goesL_ (some 54) rfl rfl Try.func47 (by kernel_rfl) rfl #[.agg #[.slice Ao35 t175.length co35], .int .i64 1] rfl (by (try simp only [List.map_toArray, List.map_cons, List.map_nil]); first | done | rfl | (simp only [List.length_drop, List.length_take]; rfl)) ?_; (with_reducible refine (laws_markGateway.calls kj15 (fun k_ => some k_ = (.slice Ao35 t175.length co35 : Value).ownBlock) (.slice Ao35 t175.length co35) t175 1 t191 t192 w _ ?side1 ?side2 A74.out).mono ?_); (case side1 => repeat (first | (with_reducible first | exact HB.out | apply below_alloc | apply pw_below_drewN | apply below_drew1 | refine below_set ?_ GE162.out | refine below_set ?_ GE163.out | refine below_set ?_ GE174.out | refine below_set ?_ GE178.out | refine below_set ?_ GE185.out) | exact HB.out)); (case side2 => exact Kd.R_tight rfl HO_179000.out); rintro e w85 ⟨rfl, hy0, hb, hkp⟩; refine ⟨_, rfl, ?_⟩; have n0_ := Aside0.mk (Kd.R_mono (ok' := fun k_ => some k_ ≠ (.slice Ao35 t175.length co35 : Value).ownBlock ∧ some k_ ≠ (.slice Ao46 t181.length co46 : Value).ownBlock ∧ some k_ ≠ (.slice Ao78 t187.length co78 : Value).ownBlock) (Kd.R_keptB (HO_175000.out) hkp (fun k_ hk_ hs_ => by first | exact (hk_.1.1) hs_ | (simp only [show _ = _ from hs_, ne_eq, not_true_eq_false, and_false, false_and] at hk_; done) | simp_all)) (fun k_ hk_ => by first | exact ⟨hk_.1.1.1, hk_.1.1.2, hk_.1.2⟩ | (simp only [hk_, ne_eq, not_false_eq_true, and_self]; done) | simp_all)); have n1_ := Aside0.mk (Kd.R_reok rfl hy0 (fun k_ e_ => HO_179000.out.1 k_ e_)); have n2_ := Aside0.mk (Kd.R_mono (ok' := fun k_ => some k_ ≠ (.slice Ao29 t170.length co29 : Value).ownBlock ∧ some k_ ≠ (.slice Ao35 t175.length co35 : Value).ownBlock ∧ some k_ ≠ (.slice Ao78 t187.length co78 : Value).ownBlock) (Kd.R_keptB (HO_186000.out) hkp (fun k_ hk_ hs_ => by first | exact (hk_.1.2) hs_ | (simp only [show _ = _ from hs_, ne_eq, not_true_eq_false, and_false, false_and] at hk_; done) | simp_all)) (fun k_ hk_ => by first | exact ⟨hk_.1.1.1, hk_.1.1.2, hk_.1.2⟩ | (simp only [hk_, ne_eq, not_false_eq_true, and_self]; done) | simp_all)); have n3_ := Aside0.mk (blk_kept (pkb BK162.out) hkp (fun hs_ => (fun e_ => (Kd.R_ne HO_179000.out BK162.out (by decide)) e_) hs_)); have n4_ := Aside0.mk (blk_kept (pkb BK163.out) hkp (fun hs_ => (fun e_ => (Kd.R_ne HO_179000.out BK163.out (by decide)) e_) hs_)); have n5_ := Aside0.mk (blk_kept (pkb BK174.out) hkp (fun hs_ => (fun e_ => (Kd.R_ne HO_179000.out BK174.out (by decide)) e_) hs_)); have n6_ := Aside0.mk (blk_kept (pkb BK178.out) hkp (fun hs_ => (fun e_ => (Kd.R_ne HO_179000.out BK178.out (by decide)) e_) hs_)); have n7_ := Aside0.mk (blk_kept (pkb BK185.out) hkp (fun hs_ => (fun e_ => (Kd.R_ne HO_179000.out BK185.out (by decide)) e_) hs_)); have n8_ := Aside0.mk (Kd.R_mono (ok' := fun k_ => some k_ ≠ (.slice Ao29 t170.length co29 : Value).ownBlock ∧ some k_ ≠ (.slice Ao35 t175.length co35 : Value).ownBlock ∧ some k_ ≠ (.slice Ao46 t181.length co46 : Value).ownBlock) (Kd.R_keptB (HO189.out) hkp (fun k_ hk_ hs_ => by first | exact (hk_.1.2) hs_ | (simp only [show _ = _ from hs_, ne_eq, not_true_eq_false, and_false, false_and] at hk_; done) | simp_all)) (fun k_ hk_ => by first | exact ⟨hk_.1.1.1.2, hk_.1.1.2, hk_.1.2⟩ | (simp only [hk_, ne_eq, not_false_eq_true, and_self]; done) | simp_all)); have n9_ := Aside0.mk (hb); clear HO_175000; clear HO_179000; clear HO_186000; clear BK162; clear BK163; clear BK174; clear BK178; clear BK185; clear HO189; clear HB; have HO_175000 := n0_; have HO_179000 := n1_; have HO_186000 := n2_; have BK162 := n3_; have BK163 := n4_; have BK174 := n5_; have BK178 := n6_; have BK185 := n7_; have HO189 := n8_; have HB := n9_; clear n0_ n1_ n2_ n3_ n4_ n5_ n6_ n7_ n8_ n9_; (try clear hb); (try clear hkp); (try clear hy0)))
      (try simp only [Act.put, List.setIfInBounds_toArray, List.set_cons_zero, List.set_cons_succ])
      go_cut [67] (fun v67 wc => ∃ (kq : Nat) (x67_74 : Bool), v67 = .bool x67_74 ∧ Aside0 (laws_FnExactReceive.j1 kq t173 x67_74 l0_0 a1_0 a1_1 t170 t181 = some r) ∧ Aside0 (kq ≤ kj15) ∧ Aside0 (Kd.R (Kd.int .i64) 3 wc w.heap.size (fun k_ => some k_ ≠ ((.slice Ao35 t175.length co35) : Value).ownBlock ∧ some k_ ≠ ((.slice Ao46 t181.length co46) : Value).ownBlock) (.slice Ao29 t170.length co29) t170) ∧ Aside0 (Kd.R (Kd.int .i64) 3 wc w.heap.size (fun k_ => some k_ ≠ ((.slice Ao29 t170.length co29) : Value).ownBlock ∧ some k_ ≠ ((.slice Ao46 t181.length co46) : Value).ownBlock) (.slice Ao35 t175.length co35) t192) ∧ Aside0 (Kd.R (Kd.int .i64) 3 wc w.heap.size (fun k_ => some k_ ≠ ((.slice Ao29 t170.length co29) : Value).ownBlock ∧ some k_ ≠ ((.slice Ao35 t175.length co35) : Value).ownBlock) (.slice Ao46 t181.length co46) t181) ∧ Aside0 (wc.heap[gb162]? = some (.cells #[(.slice A0_0 l0_0.length c0_0)] 51 (0, 0))) ∧ Aside0 (wc.heap[gb163]? = some (.cells #[.int .i64 a1_0, .int .i64 a1_1] 66 (0, 0))) ∧ Aside0 (wc.heap[gb174]? = some (.cells #[(.slice Ao29 t170.length co29)] 56 (0, 0))) ∧ Aside0 (wc.heap[gb178]? = some (.cells #[(.slice Ao35 t175.length co35)] 56 (0, 0))) ∧ Aside0 (wc.heap[gb185]? = some (.cells #[(.slice Ao46 t181.length co46)] 56 (0, 0))) ∧ Aside0 (Below w.heap.size w wc))
      case first =>
       have H := HC75.out
       clear HC75
       by_cases c86 : t191 < 0
       ·rw [if_pos c86] at H
        have c86b0 : decide (t191 < 0) = true := decide_eq_true c86
        clear c86
        (first | rw [c86b0] | (simp only [i64_w, i32_w]; rw [c86b0]) | skip)
        have H' := Aside0.mk H
        clear H
        go_wp2
        go_meet
        case rel => exact ⟨_, (true), (by first | rfl | (simp; done) | (simp [*]; done)), H', ⟨by have := HJ15.out; first | omega | exact Nat.le_refl _⟩, ⟨by (with_reducible repeat (first | apply Kd.R_alloc | apply Kd.R_drewN | apply Kd.R_drew)); exact Kd.R_mono HO_175000.out (fun _ hk => by first | exact ⟨hk.1, hk.2.1⟩ | simp_all)⟩, ⟨by (with_reducible repeat (first | apply Kd.R_alloc | apply Kd.R_drewN | apply Kd.R_drew)); exact Kd.R_mono HO_179000.out (fun _ hk => by first | exact ⟨hk.1.1, hk.1.2⟩ | simp_all)⟩, ⟨by (with_reducible repeat (first | apply Kd.R_alloc | apply Kd.R_drewN | apply Kd.R_drew)); exact Kd.R_mono HO_186000.out (fun _ hk => by first | exact ⟨hk.1, hk.2.1⟩ | simp_all)⟩, ⟨by (with_reducible repeat (first | refine blk_drewN ?_ _ | refine blk_drew ?_ | refine blk_alloc ?_ _)); exact BK162.out⟩, ⟨by (with_reducible repeat (first | refine blk_drewN ?_ _ | refine blk_drew ?_ | refine blk_alloc ?_ _)); exact BK163.out⟩, ⟨by (with_reducible repeat (first | refine blk_drewN ?_ _ | refine blk_drew ?_ | refine blk_alloc ?_ _)); exact BK174.out⟩, ⟨by (with_reducible repeat (first | refine blk_drewN ?_ _ | refine blk_drew ?_ | refine blk_alloc ?_ _)); exact BK178.out⟩, ⟨by (with_reducible repeat (first | refine blk_drewN ?_ _ | refine blk_drew ?_ | refine blk_alloc ?_ _)); exact BK185.out⟩, ⟨by repeat (first | (with_reducible first | exact HB.out | apply below_alloc | apply pw_below_drewN | apply below_drew1 | refine below_set ?_ GE162.out | refine below_set ?_ GE163.out | refine below_set ?_ GE174.out | refine below_set ?_ GE178.out | refine below_set ?_ GE185.out) | exact HB.out)⟩⟩
       ·rw [if_neg c86] at H
        have c86b0 : decide (t191 < 0) = false := decide_eq_false c86
        clear c86
        (first | rw [c86b0] | (simp only [i64_w, i32_w]; rw [c86b0]) | skip)
        replace H := Option.bind_eq_some_iff.mp H
        obtain ⟨t193, A870, H⟩ := H
        replace H : (if t193 = true then (laws_FnExactReceive.j1 kj15 t173 (t184 != t173) l0_0 a1_0 a1_1 t170 t181) else (laws_FnExactReceive.j1 kj15 t173 true l0_0 a1_0 a1_1 t170 t181)) = some r := H
        have A87 := Aside0.mk A870
        clear A870
        by_cases c88 : t193 = true
        ·subst c88
         have H1 : (laws_FnExactReceive.j1 kj15 t173 (t184 != t173) l0_0 a1_0 a1_1 t170 t181) = some r := by rw [if_pos rfl] at H; exact H
         clear H
         have H := H1
         clear H1
         have H' := Aside0.mk H
         clear H
         have hnb89 := NB185_162.out
         have hnc89 := NB162_185.out
         have hnb90 := NB185_163.out
         have hnc90 := NB163_185.out
         have hnb91 := NB185_174.out
         have hnc91 := NB174_185.out
         have hnb92 := NB185_178.out
         have hnc92 := NB178_185.out
         have hcz93_0 : w85.cell? ⟨gb185, 0, none⟩ = some (.slice Ao46 t181.length co46) := (blk_cell BK185.out 0).trans rfl
         have hfz93_0 := blk_frozen BK185.out 0
         have hnb94 := NB174_162.out
         have hnc94 := NB162_174.out
         have hnb95 := NB174_163.out
         have hnc95 := NB163_174.out
         have hnb96 := NB174_178.out
         have hnc96 := NB178_174.out
         have hcz97_0 : w85.cell? ⟨gb174, 0, none⟩ = some (.slice Ao29 t170.length co29) := (blk_cell BK174.out 0).trans rfl
         have hfz97_0 := blk_frozen BK174.out 0
         go_wp2_with (first | (go_at_call 46; (with_reducible refine (laws_eqGateway.calls kj15 _ _ t181 _ _ t170 true _ ?side1 ?side2 ?side3 ?side4 A87.out).mono ?_); (case side1 => repeat (first | exact (Kd.R_reads' HO_186000.out).2.2 | (with_reducible refine Kd.C_alloc ?_ _) | (with_reducible refine Kd.C_drewN ?_ _) | (with_reducible refine Kd.C_drew ?_))); (case side2 => exact (Kd.R_reads' HO_186000.out).2.1); (case side3 => repeat (first | exact (Kd.R_reads' HO_175000.out).2.2 | (with_reducible refine Kd.C_alloc ?_ _) | (with_reducible refine Kd.C_drewN ?_ _) | (with_reducible refine Kd.C_drew ?_))); (case side4 => exact (Kd.R_reads' HO_175000.out).2.1); rintro e w98 ⟨rfl, hb⟩; have n0_ := Aside0.mk (Kd.R_below (pkr HO_175000.out) hb); have n1_ := Aside0.mk (Kd.R_below (pkr HO_179000.out) hb); have n2_ := Aside0.mk (Kd.R_below (pkr HO_186000.out) hb); have n3_ := Aside0.mk (Kd.R_below (pkr HO189.out) hb); have n4_ := Aside0.mk (blk_below (g := gb162) (o := .cells #[.slice A0_0 l0_0.length c0_0] 51 (0, 0)) (pkb BK162.out) hb); have n5_ := Aside0.mk (blk_below (g := gb163) (o := .cells #[.int .i64 a1_0, .int .i64 a1_1] 66 (0, 0)) (pkb BK163.out) hb); have n6_ := Aside0.mk (blk_below (g := gb174) (o := .cells #[.slice Ao29 t170.length co29] 56 (0, 0)) (pkb BK174.out) hb); have n7_ := Aside0.mk (blk_below (g := gb178) (o := .cells #[.slice Ao35 t175.length co35] 56 (0, 0)) (pkb BK178.out) hb); have n8_ := Aside0.mk (blk_below (g := gb185) (o := .cells #[.slice Ao46 t181.length co46] 56 (0, 0)) (pkb BK185.out) hb); have n9_ := Aside0.mk (below_step (by repeat (first | (with_reducible first | exact HB.out | apply below_alloc | apply pw_below_drewN | apply below_drew1 | refine below_set ?_ GE162.out | refine below_set ?_ GE163.out | refine below_set ?_ GE174.out | refine below_set ?_ GE178.out | refine below_set ?_ GE185.out) | exact HB.out)) hb); clear HO_175000; clear HO_179000; clear HO_186000; clear HO189; clear BK162; clear BK163; clear BK174; clear BK178; clear BK185; clear HB; have HO_175000 := n0_; have HO_179000 := n1_; have HO_186000 := n2_; have HO189 := n3_; have BK162 := n4_; have BK163 := n5_; have BK174 := n6_; have BK178 := n7_; have BK185 := n8_; have HB := n9_; clear n0_ n1_ n2_ n3_ n4_ n5_ n6_ n7_ n8_ n9_; (try clear hb); (try clear hb2); (try clear hk); (try clear hi)))
         go_meet
         case rel => exact ⟨_, ((t184 != t173)), (by first | rfl | (simp; done) | (simp [*]; done)), H', ⟨by have := HJ15.out; first | omega | exact Nat.le_refl _⟩, ⟨by (with_reducible repeat (first | apply Kd.R_alloc | apply Kd.R_drewN | apply Kd.R_drew)); exact Kd.R_mono HO_175000.out (fun _ hk => by first | exact ⟨hk.1, hk.2.1⟩ | simp_all)⟩, ⟨by (with_reducible repeat (first | apply Kd.R_alloc | apply Kd.R_drewN | apply Kd.R_drew)); exact Kd.R_mono HO_179000.out (fun _ hk => by first | exact ⟨hk.1.1, hk.1.2⟩ | simp_all)⟩, ⟨by (with_reducible repeat (first | apply Kd.R_alloc | apply Kd.R_drewN | apply Kd.R_drew)); exact Kd.R_mono HO_186000.out (fun _ hk => by first | exact ⟨hk.1, hk.2.1⟩ | simp_all)⟩, ⟨by (with_reducible repeat (first | refine blk_drewN ?_ _ | refine blk_drew ?_ | refine blk_alloc ?_ _)); exact BK162.out⟩, ⟨by (with_reducible repeat (first | refine blk_drewN ?_ _ | refine blk_drew ?_ | refine blk_alloc ?_ _)); exact BK163.out⟩, ⟨by (with_reducible repeat (first | refine blk_drewN ?_ _ | refine blk_drew ?_ | refine blk_alloc ?_ _)); exact BK174.out⟩, ⟨by (with_reducible repeat (first | refine blk_drewN ?_ _ | refine blk_drew ?_ | refine blk_alloc ?_ _)); exact BK178.out⟩, ⟨by (with_reducible repeat (first | refine blk_drewN ?_ _ | refine blk_drew ?_ | refine blk_alloc ?_ _)); exact BK185.out⟩, ⟨by repeat (first | (with_reducible first | exact HB.out | apply below_alloc | apply pw_below_drewN | apply below_drew1 | refine below_set ?_ GE162.out | refine below_set ?_ GE163.out | refine below_set ?_ GE174.out | refine below_set ?_ GE178.out | refine below_set ?_ GE185.out) | exact HB.out)⟩⟩
        ·replace c88 := Bool.eq_false_iff.mpr c88
         subst c88
         have H1 : (laws_FnExactReceive.j1 kj15 t173 true l0_0 a1_0 a1_1 t170 t181) = some r := by rw [if_neg (show ¬ (false = true) by decide)] at H; exact H
         clear H
         have H := H1
         clear H1
         have H' := Aside0.mk H
         clear H
         have hnb99 := NB185_162.out
         have hnc99 := NB162_185.out
         have hnb100 := NB185_163.out
         have hnc100 := NB163_185.out
         have hnb101 := NB185_174.out
         have hnc101 := NB174_185.out
         have hnb102 := NB185_178.out
         have hnc102 := NB178_185.out
         have hcz103_0 : w85.cell? ⟨gb185, 0, none⟩ = some (.slice Ao46 t181.length co46) := (blk_cell BK185.out 0).trans rfl
         have hfz103_0 := blk_frozen BK185.out 0
         have hnb104 := NB174_162.out
         have hnc104 := NB162_174.out
         have hnb105 := NB174_163.out
         have hnc105 := NB163_174.out
         have hnb106 := NB174_178.out
         have hnc106 := NB178_174.out
         have hcz107_0 : w85.cell? ⟨gb174, 0, none⟩ = some (.slice Ao29 t170.length co29) := (blk_cell BK174.out 0).trans rfl
         have hfz107_0 := blk_frozen BK174.out 0
         go_wp2_with (first | (go_at_call 46; (with_reducible refine (laws_eqGateway.calls kj15 _ _ t181 _ _ t170 false _ ?side1 ?side2 ?side3 ?side4 A87.out).mono ?_); (case side1 => repeat (first | exact (Kd.R_reads' HO_186000.out).2.2 | (with_reducible refine Kd.C_alloc ?_ _) | (with_reducible refine Kd.C_drewN ?_ _) | (with_reducible refine Kd.C_drew ?_))); (case side2 => exact (Kd.R_reads' HO_186000.out).2.1); (case side3 => repeat (first | exact (Kd.R_reads' HO_175000.out).2.2 | (with_reducible refine Kd.C_alloc ?_ _) | (with_reducible refine Kd.C_drewN ?_ _) | (with_reducible refine Kd.C_drew ?_))); (case side4 => exact (Kd.R_reads' HO_175000.out).2.1); rintro e w108 ⟨rfl, hb⟩; have n0_ := Aside0.mk (Kd.R_below (pkr HO_175000.out) hb); have n1_ := Aside0.mk (Kd.R_below (pkr HO_179000.out) hb); have n2_ := Aside0.mk (Kd.R_below (pkr HO_186000.out) hb); have n3_ := Aside0.mk (Kd.R_below (pkr HO189.out) hb); have n4_ := Aside0.mk (blk_below (g := gb162) (o := .cells #[.slice A0_0 l0_0.length c0_0] 51 (0, 0)) (pkb BK162.out) hb); have n5_ := Aside0.mk (blk_below (g := gb163) (o := .cells #[.int .i64 a1_0, .int .i64 a1_1] 66 (0, 0)) (pkb BK163.out) hb); have n6_ := Aside0.mk (blk_below (g := gb174) (o := .cells #[.slice Ao29 t170.length co29] 56 (0, 0)) (pkb BK174.out) hb); have n7_ := Aside0.mk (blk_below (g := gb178) (o := .cells #[.slice Ao35 t175.length co35] 56 (0, 0)) (pkb BK178.out) hb); have n8_ := Aside0.mk (blk_below (g := gb185) (o := .cells #[.slice Ao46 t181.length co46] 56 (0, 0)) (pkb BK185.out) hb); have n9_ := Aside0.mk (below_step (by repeat (first | (with_reducible first | exact HB.out | apply below_alloc | apply pw_below_drewN | apply below_drew1 | refine below_set ?_ GE162.out | refine below_set ?_ GE163.out | refine below_set ?_ GE174.out | refine below_set ?_ GE178.out | refine below_set ?_ GE185.out) | exact HB.out)) hb); clear HO_175000; clear HO_179000; clear HO_186000; clear HO189; clear BK162; clear BK163; clear BK174; clear BK178; clear BK185; clear HB; have HO_175000 := n0_; have HO_179000 := n1_; have HO_186000 := n2_; have HO189 := n3_; have BK162 := n4_; have BK163 := n5_; have BK174 := n6_; have BK178 := n7_; have BK185 := n8_; have HB := n9_; clear n0_ n1_ n2_ n3_ n4_ n5_ n6_ n7_ n8_ n9_; (try clear hb); (try clear hb2); (try clear hk); (try clear hi)))
         go_meet
         case rel => exact ⟨_, (true), (by first | rfl | (simp; done) | (simp [*]; done)), H', ⟨by have := HJ15.out; first | omega | exact Nat.le_refl _⟩, ⟨by (with_reducible repeat (first | apply Kd.R_alloc | apply Kd.R_drewN | apply Kd.R_drew)); exact Kd.R_mono HO_175000.out (fun _ hk => by first | exact ⟨hk.1, hk.2.1⟩ | simp_all)⟩, ⟨by (with_reducible repeat (first | apply Kd.R_alloc | apply Kd.R_drewN | apply Kd.R_drew)); exact Kd.R_mono HO_179000.out (fun _ hk => by first | exact ⟨hk.1.1, hk.1.2⟩ | simp_all)⟩, ⟨by (with_reducible repeat (first | apply Kd.R_alloc | apply Kd.R_drewN | apply Kd.R_drew)); exact Kd.R_mono HO_186000.out (fun _ hk => by first | exact ⟨hk.1, hk.2.1⟩ | simp_all)⟩, ⟨by (with_reducible repeat (first | refine blk_drewN ?_ _ | refine blk_drew ?_ | refine blk_alloc ?_ _)); exact BK162.out⟩, ⟨by (with_reducible repeat (first | refine blk_drewN ?_ _ | refine blk_drew ?_ | refine blk_alloc ?_ _)); exact BK163.out⟩, ⟨by (with_reducible repeat (first | refine blk_drewN ?_ _ | refine blk_drew ?_ | refine blk_alloc ?_ _)); exact BK174.out⟩, ⟨by (with_reducible repeat (first | refine blk_drewN ?_ _ | refine blk_drew ?_ | refine blk_alloc ?_ _)); exact BK178.out⟩, ⟨by (with_reducible repeat (first | refine blk_drewN ?_ _ | refine blk_drew ?_ | refine blk_alloc ?_ _)); exact BK185.out⟩, ⟨by repeat (first | (with_reducible first | exact HB.out | apply below_alloc | apply pw_below_drewN | apply below_drew1 | refine below_set ?_ GE162.out | refine below_set ?_ GE163.out | refine below_set ?_ GE174.out | refine below_set ?_ GE178.out | refine below_set ?_ GE185.out) | exact HB.out)⟩⟩
      case rest =>
       clear HC75
       try clear c1
       try clear p2
       try clear c4
       try clear c5
       try clear c6
       try clear c7
       try clear c8
       try clear c9
       try clear c10
       try clear c43
       try clear c44
       try clear c45
       try clear c46
       try clear c47
       try clear c49
       try clear c50
       try clear c51
       try clear c52
       try clear c53
       try clear c55
       try clear c56
       try clear c57
       try clear c60
       try clear c61
       try clear c62
       try clear c63
       try clear c65
       try clear c66
       try clear c67
       try clear c70
       try clear c73
       try clear c80
       try clear c81
       try clear c82
       try clear c83
       try clear c86
       try clear c86b0
       try clear c88
       try clear c89
       try clear c90
       try clear c91
       try clear c92
       try clear c94
       try clear c95
       try clear c96
       try clear c99
       try clear c100
       try clear c101
       try clear c102
       try clear c104
       try clear c105
       try clear c106
       try clear hcz103_0
       try clear hcz107_0
       try clear hcz54_0
       try clear hcz58_0
       try clear hcz64_0
       try clear hcz68_0
       try clear hcz84_0
       try clear hcz93_0
       try clear hcz97_0
       try clear hfz103_0
       try clear hfz107_0
       try clear hfz54_0
       try clear hfz58_0
       try clear hfz64_0
       try clear hfz68_0
       try clear hfz84_0
       try clear hfz93_0
       try clear hfz97_0
       try clear p2
       obtain ⟨kq, x67_74, rfl, HA, HJ74, HO_175000, HO_179000, HO_186000, BK162, BK163, BK174, BK178, BK185, HB⟩ := hcut
       have hl179000_74 := (Kd.R_reads' HO_179000.out).1
       rw [hl179000_74] at HO_179000
       (try simp only [hl179000_74])
       (try simp only [hl179000_74] at BK162)
       (try simp only [hl179000_74] at BK163)
       (try simp only [hl179000_74] at BK174)
       (try simp only [hl179000_74] at BK178)
       (try simp only [hl179000_74] at BK185)
       (try simp only [hl179000_74] at HO_175000)
       (try simp only [hl179000_74] at HO_186000)
       cases kq with
       | zero => exact absurd HA.out (by simp [laws_FnExactReceive.j1])
       | succ kj74 =>
        have H := HA.out
        clear HA
        simp only [laws_FnExactReceive.j1] at H
        by_cases c109 : x67_74 = true
        ·subst c109
         have H1 : (none) = some r := by rw [if_pos rfl] at H; exact H
         clear H
         have H := H1
         clear H1
         exact absurd H (by simp)
        ·replace c109 := Bool.eq_false_iff.mpr c109
         subst c109
         have H1 : ((laws_markGateway.f kj74 t181 1).bind fun bt194 => ((laws_heldGateway.f kj74 bt194.2 1).bind fun t196 => (if t196 < 0 then (none) else (if t196 = bt194.1 then ((laws_toGateway.f kj74 l0_0).bind fun t197 => ((laws_toPacket.f a1_0 a1_1).bind fun bt200 => ((impl_Receive.f t197 bt200.1 bt200.2).bind fun bt202 => ((laws_eqGateway.f kj74 bt202.1 t170).bind fun t207 => (if t207 = true then (if bt202.2 = t173 then ((laws_heldGateway.f kj74 bt194.2 1).bind fun t208 => (if t208 < 0 then (none) else (if t208 = bt194.1 then (some true) else (none)))) else (none)) else (none)))))) else (none))))) = some r := by rw [if_neg (show ¬ (false = true) by decide)] at H; exact H
         clear H
         have H := H1
         clear H1
         replace H := Option.bind_eq_some_iff.mp H
         obtain ⟨⟨t194, t195⟩, A1100, H⟩ := H
         replace H : ((laws_heldGateway.f kj74 t195 1).bind fun t196 => (if t196 < 0 then (none) else (if t196 = t194 then ((laws_toGateway.f kj74 l0_0).bind fun t197 => ((laws_toPacket.f a1_0 a1_1).bind fun bt200 => ((impl_Receive.f t197 bt200.1 bt200.2).bind fun bt202 => ((laws_eqGateway.f kj74 bt202.1 t170).bind fun t207 => (if t207 = true then (if bt202.2 = t173 then ((laws_heldGateway.f kj74 t195 1).bind fun t208 => (if t208 < 0 then (none) else (if t208 = t194 then (some true) else (none)))) else (none)) else (none)))))) else (none)))) = some r := H
         have A110 := Aside0.mk A1100
         clear A1100
         replace H := Option.bind_eq_some_iff.mp H
         obtain ⟨t196, A1110, H⟩ := H
         replace H : (if t196 < 0 then (none) else (if t196 = t194 then ((laws_toGateway.f kj74 l0_0).bind fun t197 => ((laws_toPacket.f a1_0 a1_1).bind fun bt200 => ((impl_Receive.f t197 bt200.1 bt200.2).bind fun bt202 => ((laws_eqGateway.f kj74 bt202.1 t170).bind fun t207 => (if t207 = true then (if bt202.2 = t173 then ((laws_heldGateway.f kj74 t195 1).bind fun t208 => (if t208 < 0 then (none) else (if t208 = t194 then (some true) else (none)))) else (none)) else (none)))))) else (none))) = some r := H
         have A111 := Aside0.mk A1110
         clear A1110
         by_cases c112 : t196 < 0
         ·rw [if_pos c112] at H
          exact absurd H (by simp)
         ·rw [if_neg c112] at H
          have c112b0 : decide (t196 < 0) = false := decide_eq_false c112
          clear c112
          by_cases c113 : t196 = t194
          ·rw [if_pos c113] at H
           have c113b0 : (t196 == t194) = true := beq_iff_eq.mpr c113
           have c113b1 : (t196 != t194) = false := bne_eq_false_iff_eq.mpr c113
           clear c113
           replace H := Option.bind_eq_some_iff.mp H
           obtain ⟨t197, A1140, H⟩ := H
           replace H : ((laws_toPacket.f a1_0 a1_1).bind fun bt200 => ((impl_Receive.f t197 bt200.1 bt200.2).bind fun bt202 => ((laws_eqGateway.f kj74 bt202.1 t170).bind fun t207 => (if t207 = true then (if bt202.2 = t173 then ((laws_heldGateway.f kj74 t195 1).bind fun t208 => (if t208 < 0 then (none) else (if t208 = t194 then (some true) else (none)))) else (none)) else (none))))) = some r := H
           have A114 := Aside0.mk A1140
           clear A1140
           replace H := Option.bind_eq_some_iff.mp H
           obtain ⟨⟨t200, t201⟩, A1150, H⟩ := H
           replace H : ((impl_Receive.f t197 t200 t201).bind fun bt202 => ((laws_eqGateway.f kj74 bt202.1 t170).bind fun t207 => (if t207 = true then (if bt202.2 = t173 then ((laws_heldGateway.f kj74 t195 1).bind fun t208 => (if t208 < 0 then (none) else (if t208 = t194 then (some true) else (none)))) else (none)) else (none)))) = some r := H
           have A115 := Aside0.mk A1150
           clear A1150
           replace H := Option.bind_eq_some_iff.mp H
           obtain ⟨⟨t202, t205⟩, A1160, H⟩ := H
           replace H : ((laws_eqGateway.f kj74 t202 t170).bind fun t207 => (if t207 = true then (if t205 = t173 then ((laws_heldGateway.f kj74 t195 1).bind fun t208 => (if t208 < 0 then (none) else (if t208 = t194 then (some true) else (none)))) else (none)) else (none))) = some r := H
           have A116 := Aside0.mk A1160
           clear A1160
           replace H := Option.bind_eq_some_iff.mp H
           obtain ⟨t207, A1170, H⟩ := H
           replace H : (if t207 = true then (if t205 = t173 then ((laws_heldGateway.f kj74 t195 1).bind fun t208 => (if t208 < 0 then (none) else (if t208 = t194 then (some true) else (none)))) else (none)) else (none)) = some r := H
           have A117 := Aside0.mk A1170
           clear A1170
           by_cases c118 : t207 = true
           ·subst c118
            have H1 : (if t205 = t173 then ((laws_heldGateway.f kj74 t195 1).bind fun t208 => (if t208 < 0 then (none) else (if t208 = t194 then (some true) else (none)))) else (none)) = some r := by rw [if_pos rfl] at H; exact H
            clear H
            have H := H1
            clear H1
            by_cases c119 : t205 = t173
            ·rw [if_pos c119] at H
             have c119b0 : (t205 == t173) = true := beq_iff_eq.mpr c119
             have c119b1 : (t205 != t173) = false := bne_eq_false_iff_eq.mpr c119
             clear c119
             replace H := Option.bind_eq_some_iff.mp H
             obtain ⟨t208, A1200, H⟩ := H
             replace H : (if t208 < 0 then (none) else (if t208 = t194 then (some true) else (none))) = some r := H
             have A120 := Aside0.mk A1200
             clear A1200
             by_cases c121 : t208 < 0
             ·rw [if_pos c121] at H
              exact absurd H (by simp)
             ·rw [if_neg c121] at H
              have c121b0 : decide (t208 < 0) = false := decide_eq_false c121
              clear c121
              by_cases c122 : t208 = t194
              ·rw [if_pos c122] at H
               have c122b0 : (t208 == t194) = true := beq_iff_eq.mpr c122
               have c122b1 : (t208 != t194) = false := bne_eq_false_iff_eq.mpr c122
               clear c122
               obtain rfl := Option.some.inj H
               have hnb123 := NB185_162.out
               have hnc123 := NB162_185.out
               have hnb124 := NB185_163.out
               have hnc124 := NB163_185.out
               have hnb125 := NB185_174.out
               have hnc125 := NB174_185.out
               have hnb126 := NB185_178.out
               have hnc126 := NB178_185.out
               have hcz127_0 : wc.cell? ⟨gb185, 0, none⟩ = some (.slice Ao46 t181.length co46) := (blk_cell BK185.out 0).trans rfl
               have hfz127_0 := blk_frozen BK185.out 0
               try go_wp2_with (first | ((with_reducible refine gate_callee (f := 47) rfl ?_); refine goesL_ (some 70) rfl rfl Try.func47 (by kernel_rfl) rfl #[.agg #[.slice Ao46 t181.length co46], .int .i64 1] rfl (by (try simp only [List.map_toArray, List.map_cons, List.map_nil]); first | done | rfl | (simp only [List.length_drop, List.length_take]; rfl)) ?_; (with_reducible refine (laws_markGateway.calls kj74 (fun k_ => some k_ = (.slice Ao46 t181.length co46 : Value).ownBlock) (.slice Ao46 t181.length co46) t181 1 t194 t195 w _ ?side1 ?side2 A110.out).mono ?_); (case side1 => repeat (first | (with_reducible first | exact HB.out | apply below_alloc | apply pw_below_drewN | apply below_drew1 | refine below_set ?_ GE162.out | refine below_set ?_ GE163.out | refine below_set ?_ GE174.out | refine below_set ?_ GE178.out | refine below_set ?_ GE185.out) | exact HB.out)); (case side2 => exact Kd.R_tight rfl HO_186000.out); rintro e w128 ⟨rfl, hy0, hb, hkp⟩; refine ⟨_, rfl, ?_⟩; have n0_ := Aside0.mk (Kd.R_mono (ok' := fun k_ => some k_ ≠ (.slice Ao35 t192.length co35 : Value).ownBlock ∧ some k_ ≠ (.slice Ao46 t181.length co46 : Value).ownBlock) (Kd.R_keptB (HO_175000.out) hkp (fun k_ hk_ hs_ => by first | exact (hk_.2) hs_ | (simp only [show _ = _ from hs_, ne_eq, not_true_eq_false, and_false, false_and] at hk_; done) | simp_all)) (fun k_ hk_ => by first | exact ⟨hk_.1.1, hk_.1.2⟩ | (simp only [hk_, ne_eq, not_false_eq_true, and_self]; done) | simp_all)); have n1_ := Aside0.mk (Kd.R_mono (ok' := fun k_ => some k_ ≠ (.slice Ao29 t170.length co29 : Value).ownBlock ∧ some k_ ≠ (.slice Ao46 t181.length co46 : Value).ownBlock) (Kd.R_keptB (HO_179000.out) hkp (fun k_ hk_ hs_ => by first | exact (hk_.2) hs_ | (simp only [show _ = _ from hs_, ne_eq, not_true_eq_false, and_false, false_and] at hk_; done) | simp_all)) (fun k_ hk_ => by first | exact ⟨hk_.1.1, hk_.1.2⟩ | (simp only [hk_, ne_eq, not_false_eq_true, and_self]; done) | simp_all)); have n2_ := Aside0.mk (Kd.R_reok rfl hy0 (fun k_ e_ => HO_186000.out.1 k_ e_)); have n3_ := Aside0.mk (blk_kept (pkb BK162.out) hkp (fun hs_ => (fun e_ => (Kd.R_ne HO_186000.out BK162.out (by decide)) e_) hs_)); have n4_ := Aside0.mk (blk_kept (pkb BK163.out) hkp (fun hs_ => (fun e_ => (Kd.R_ne HO_186000.out BK163.out (by decide)) e_) hs_)); have n5_ := Aside0.mk (blk_kept (pkb BK174.out) hkp (fun hs_ => (fun e_ => (Kd.R_ne HO_186000.out BK174.out (by decide)) e_) hs_)); have n6_ := Aside0.mk (blk_kept (pkb BK178.out) hkp (fun hs_ => (fun e_ => (Kd.R_ne HO_186000.out BK178.out (by decide)) e_) hs_)); have n7_ := Aside0.mk (blk_kept (pkb BK185.out) hkp (fun hs_ => (fun e_ => (Kd.R_ne HO_186000.out BK185.out (by decide)) e_) hs_)); have n8_ := Aside0.mk (hb); clear HO_175000; clear HO_179000; clear HO_186000; clear BK162; clear BK163; clear BK174; clear BK178; clear BK185; clear HB; have HO_175000 := n0_; have HO_179000 := n1_; have HO_186000 := n2_; have BK162 := n3_; have BK163 := n4_; have BK174 := n5_; have BK178 := n6_; have BK185 := n7_; have HB := n8_; clear n0_ n1_ n2_ n3_ n4_ n5_ n6_ n7_ n8_; (try clear hb); (try clear hkp); (try clear hy0); have hcz129_0 : w128.cell? ⟨gb185, 0, none⟩ = some (.slice Ao46 t181.length co46) := (blk_cell BK185.out 0).trans rfl; have hfz129_0 := blk_frozen BK185.out 0) | ((with_reducible refine gate_callee (f := 48) rfl ?_); refine goesL_ (some 73) rfl rfl Try.func48 (by kernel_rfl) rfl #[.agg #[.slice Ao46 t195.length co46], .int .i64 1] rfl (by (try simp only [List.map_toArray, List.map_cons, List.map_nil]); first | done | (rw [show t195.length = t181.length from (Kd.R_reads' HO_186000.out).1.symm] <;> rfl) | rfl | (simp only [List.length_drop, List.length_take]; rfl)) ?_; (with_reducible refine (laws_heldGateway.calls kj74 _ _ t195 1 t196 _ ?side1 ?side2 A111.out).mono ?_); (case side1 => repeat (first | exact (Kd.R_reads' HO_186000.out).2.2 | (with_reducible refine Kd.C_alloc ?_ _) | (with_reducible refine Kd.C_drewN ?_ _) | (with_reducible refine Kd.C_drew ?_))); (case side2 => rw [show t195.length = t181.length from (Kd.R_reads' HO_186000.out).1.symm]; exact (Kd.R_reads' HO_186000.out).2.1); rintro e w130 ⟨rfl, hb⟩; refine ⟨_, rfl, ?_⟩; have n0_ := Aside0.mk (Kd.R_below (pkr HO_175000.out) hb); have n1_ := Aside0.mk (Kd.R_below (pkr HO_179000.out) hb); have n2_ := Aside0.mk (Kd.R_below (pkr HO_186000.out) hb); have n3_ := Aside0.mk (blk_below (g := gb162) (o := .cells #[.slice A0_0 l0_0.length c0_0] 51 (0, 0)) (pkb BK162.out) hb); have n4_ := Aside0.mk (blk_below (g := gb163) (o := .cells #[.int .i64 a1_0, .int .i64 a1_1] 66 (0, 0)) (pkb BK163.out) hb); have n5_ := Aside0.mk (blk_below (g := gb174) (o := .cells #[.slice Ao29 t170.length co29] 56 (0, 0)) (pkb BK174.out) hb); have n6_ := Aside0.mk (blk_below (g := gb178) (o := .cells #[.slice Ao35 t192.length co35] 56 (0, 0)) (pkb BK178.out) hb); have n7_ := Aside0.mk (blk_below (g := gb185) (o := .cells #[.slice Ao46 t181.length co46] 56 (0, 0)) (pkb BK185.out) hb); have n8_ := Aside0.mk (below_step (by repeat (first | (with_reducible first | exact HB.out | apply below_alloc | apply pw_below_drewN | apply below_drew1 | refine below_set ?_ GE162.out | refine below_set ?_ GE163.out | refine below_set ?_ GE174.out | refine below_set ?_ GE178.out | refine below_set ?_ GE185.out) | exact HB.out)) hb); clear HO_175000; clear HO_179000; clear HO_186000; clear BK162; clear BK163; clear BK174; clear BK178; clear BK185; clear HB; have HO_175000 := n0_; have HO_179000 := n1_; have HO_186000 := n2_; have BK162 := n3_; have BK163 := n4_; have BK174 := n5_; have BK178 := n6_; have BK185 := n7_; have HB := n8_; clear n0_ n1_ n2_ n3_ n4_ n5_ n6_ n7_ n8_; (try clear hb); (try clear hb2); (try clear hk); (try clear hi)))
               have n0_ := Aside0.mk (Kd.R_drew HO_175000.out)
               have n1_ := Aside0.mk (Kd.R_drew HO_179000.out)
               have n2_ := Aside0.mk (Kd.R_drew HO_186000.out)
               have n3_ := Aside0.mk (blk_drew BK162.out)
               have n4_ := Aside0.mk (blk_drew BK163.out)
               have n5_ := Aside0.mk (blk_drew BK174.out)
               have n6_ := Aside0.mk (blk_drew BK178.out)
               have n7_ := Aside0.mk (blk_drew BK185.out)
               have n8_ := Aside0.mk (below_drew1 HB.out)
               clear HO_175000
               clear HO_179000
               clear HO_186000
               clear BK162
               clear BK163
               clear BK174
               clear BK178
               clear BK185
               clear HB
               have HO_175000 := n0_
               have HO_179000 := n1_
               have HO_186000 := n2_
               have BK162 := n3_
               have BK163 := n4_
               have BK174 := n5_
               have BK178 := n6_
               have BK185 := n7_
               have HB := n8_
               clear n0_ n1_ n2_ n3_ n4_ n5_ n6_ n7_ n8_
               refine start_ (n := 11) (S := fun w' => w'.cell? ⟨gb162, 0, none⟩ = some (.slice A0_0 l0_0.length c0_0) ∧ w'.cell? ⟨gb163, 0, none⟩ = some (.int .i64 a1_0) ∧ w'.cell? ⟨gb163, 1, none⟩ = some (.int .i64 a1_1)) (ds := []) #[false, false, false, false, false, false, false, false, false, false, false] (by kernel_rfl) rfl rfl ⟨(blk_cell BK162.out 0).trans rfl, (blk_cell BK163.out 0).trans rfl, (blk_cell BK163.out 1).trans rfl⟩ (fun hHeld => ?_); refine with_tabW laws_FnExactReceive.tab24 laws_FnExactReceive.bits24 (fun HT_ HW_ => ?_)
               generalize w130.drew = w131 at HO_175000 HO_179000 HO_186000 BK162 BK163 BK174 BK178 BK185 HB hHeld ⊢
               refine take_ (i := 0) (N := some 80) (v := ?_) (a' := ?_) #[true, false, false, false, false, false, false, false, false, false, false] rfl rfl (take_ofW HT_.out HW_.out (by kernel_rfl)) (fun _ _ _ h => h) (Or.inl ⟨by rfl, ?_⟩) hHeld ?_ ?_
               rotate_left
               ·rintro w' ⟨s0, s1, s2⟩
                go_simp
                with_reducible rfl
               rotate_left
               ·simp only [Act.put, List.setIfInBounds_toArray, List.set_cons_zero, List.set_cons_succ, i64_w, i32_w]
                rfl
               refine take_ (i := 2) (N := some 82) (v := ?_) (a' := ?_) #[true, false, true, false, false, false, false, false, false, false, false] rfl rfl (take_ofW HT_.out HW_.out (by kernel_rfl)) (fun _ _ _ h => h) (Or.inl ⟨by rfl, ?_⟩) hHeld ?_ ?_
               rotate_left
               ·rintro w' ⟨s0, s1, s2⟩
                go_simp
                with_reducible rfl
               rotate_left
               ·simp only [Act.put, List.setIfInBounds_toArray, List.set_cons_zero, List.set_cons_succ, i64_w, i32_w]
                rfl
               refine join_ (σ := Value × Value × Nat) 2 #[true, true, true, true, true, true, true, true, true, false, false] (fun s_ => [(81, .agg #[s_.1]), (83, .agg #[.int .i64 t200, .int .i64 t201]), (84, .tuple #[.agg #[s_.2.1], .int .i64 t205]), (14, .pointer (some ⟨s_.2.2, 0, none⟩)), (79, .tuple #[.agg #[s_.2.1], .int .i64 t205]), (85, .agg #[s_.2.1]), (86, .int .i64 t205)]) (fun s_ w' => (w'.cell? ⟨gb162, 0, none⟩ = some (.slice A0_0 l0_0.length c0_0) ∧ w'.cell? ⟨gb163, 0, none⟩ = some (.int .i64 a1_0) ∧ w'.cell? ⟨gb163, 1, none⟩ = some (.int .i64 a1_1)) ∧ (Kd.R (Kd.int .i64) 3 w' w.heap.size (fun k_ => some k_ ≠ (s_.2.1 : Value).ownBlock ∧ some k_ ≠ (.slice Ao29 t170.length co29 : Value).ownBlock ∧ some k_ ≠ (.slice Ao35 t192.length co35 : Value).ownBlock ∧ some k_ ≠ (.slice Ao46 t181.length co46 : Value).ownBlock) s_.1 t197) ∧ (Kd.R (Kd.int .i64) 3 w' w.heap.size (fun k_ => some k_ ≠ (s_.1 : Value).ownBlock ∧ some k_ ≠ (.slice Ao29 t170.length co29 : Value).ownBlock ∧ some k_ ≠ (.slice Ao35 t192.length co35 : Value).ownBlock ∧ some k_ ≠ (.slice Ao46 t181.length co46 : Value).ownBlock) s_.2.1 t202) ∧ (Kd.R (Kd.int .i64) 3 w' w.heap.size (fun k_ => some k_ ≠ (s_.1 : Value).ownBlock ∧ some k_ ≠ (s_.2.1 : Value).ownBlock ∧ some k_ ≠ (.slice Ao35 t192.length co35 : Value).ownBlock ∧ some k_ ≠ (.slice Ao46 t181.length co46 : Value).ownBlock) (.slice Ao29 t170.length co29) t170) ∧ (Kd.R (Kd.int .i64) 3 w' w.heap.size (fun k_ => some k_ ≠ (s_.1 : Value).ownBlock ∧ some k_ ≠ (s_.2.1 : Value).ownBlock ∧ some k_ ≠ (.slice Ao29 t170.length co29 : Value).ownBlock ∧ some k_ ≠ (.slice Ao46 t181.length co46 : Value).ownBlock) (.slice Ao35 t192.length co35) t192) ∧ (Kd.R (Kd.int .i64) 3 w' w.heap.size (fun k_ => some k_ ≠ (s_.1 : Value).ownBlock ∧ some k_ ≠ (s_.2.1 : Value).ownBlock ∧ some k_ ≠ (.slice Ao29 t170.length co29 : Value).ownBlock ∧ some k_ ≠ (.slice Ao35 t192.length co35 : Value).ownBlock) (.slice Ao46 t181.length co46) t195) ∧ (w'.heap[gb162]? = some (.cells #[.slice A0_0 l0_0.length c0_0] 51 (0, 0))) ∧ (w'.heap[gb163]? = some (.cells #[.int .i64 a1_0, .int .i64 a1_1] 66 (0, 0))) ∧ (w'.heap[gb174]? = some (.cells #[.slice Ao29 t170.length co29] 56 (0, 0))) ∧ (w'.heap[gb178]? = some (.cells #[.slice Ao35 t192.length co35] 56 (0, 0))) ∧ (w'.heap[gb185]? = some (.cells #[.slice Ao46 t181.length co46] 56 (0, 0))) ∧ (w'.heap[s_.2.2]? = some (.cells #[.slice none 0 0] 56 (0, 0))) ∧ (w.heap.size ≤ s_.2.2) ∧ (w.heap.size ≤ s_.2.2) ∧ (gb162 ≠ s_.2.2) ∧ (s_.2.2 ≠ gb162) ∧ (gb163 ≠ s_.2.2) ∧ (s_.2.2 ≠ gb163) ∧ (gb174 ≠ s_.2.2) ∧ (s_.2.2 ≠ gb174) ∧ (gb178 ≠ s_.2.2) ∧ (s_.2.2 ≠ gb178) ∧ (gb185 ≠ s_.2.2) ∧ (s_.2.2 ≠ gb185) ∧ (Below w.heap.size w w')) ?_ ?_
               rotate_left
               ·intro hCont
                refine two_ (i := 1) (j := 8) (Ni := some 81) (Nj := some 14) #[true, true, true, false, false, false, false, false, false, false, false] #[true, false, true, false, false, false, false, false, true, false, false] rfl rfl rfl rfl (two_of HT_.out (by kernel_rfl)) (by decide) (by decide) (fun K hK => ?_) (fun K hK => ?_)
                ·skip
                 refine goes_ Try.func43 (by kernel_rfl) rfl #[.agg #[.slice A0_0 l0_0.length c0_0]] (by rfl) rfl rfl (by (try simp only [List.map_toArray, List.map_cons, List.map_nil]); first | done | rfl | (simp only [List.length_drop, List.length_take]; rfl)) ?_
                 with_reducible refine (laws_toGateway.calls kj74 _ _ l0_0 t197 _ ?side1 ?side2 A114.out).mono ?_
                 (case side1 => repeat (first | exact (Kd.C_below HR0_0.out HB.out) | (with_reducible refine Kd.C_alloc ?_ _) | (with_reducible refine Kd.C_drewN ?_ _) | (with_reducible refine Kd.C_drew ?_)))
                 (case side2 => exact HC0_0.out)
                 rintro e w132 ⟨v198, rfl, ho0, hb⟩
                 refine ⟨_, rfl, ?_⟩
                 have n0_ := Aside0.mk (Kd.R_elder' (pkr HO_175000.out) (Kd.R_base ho0) hb)
                 have n1_ := Aside0.mk (Kd.R_elder' (pkr HO_179000.out) (Kd.R_base ho0) hb)
                 have n2_ := Aside0.mk (Kd.R_elder' (pkr HO_186000.out) (Kd.R_base ho0) hb)
                 have n3_ := Aside0.mk (Kd.R_lower (Kd.R_new' (Kd.R_new' (Kd.R_new' ho0 (Kd.R_lt (pkr HO_175000.out))) (Kd.R_lt (pkr HO_179000.out))) (Kd.R_lt (pkr HO_186000.out))) (below_size (by repeat (first | (with_reducible first | exact HB.out | apply below_alloc | apply pw_below_drewN | apply below_drew1 | refine below_set ?_ GE162.out | refine below_set ?_ GE163.out | refine below_set ?_ GE174.out | refine below_set ?_ GE178.out | refine below_set ?_ GE185.out) | exact HB.out))))
                 have n4_ := Aside0.mk (blk_below (g := gb162) (o := .cells #[.slice A0_0 l0_0.length c0_0] 51 (0, 0)) (pkb BK162.out) hb)
                 have n5_ := Aside0.mk (blk_below (g := gb163) (o := .cells #[.int .i64 a1_0, .int .i64 a1_1] 66 (0, 0)) (pkb BK163.out) hb)
                 have n6_ := Aside0.mk (blk_below (g := gb174) (o := .cells #[.slice Ao29 t170.length co29] 56 (0, 0)) (pkb BK174.out) hb)
                 have n7_ := Aside0.mk (blk_below (g := gb178) (o := .cells #[.slice Ao35 t192.length co35] 56 (0, 0)) (pkb BK178.out) hb)
                 have n8_ := Aside0.mk (blk_below (g := gb185) (o := .cells #[.slice Ao46 t181.length co46] 56 (0, 0)) (pkb BK185.out) hb)
                 have n9_ := Aside0.mk (below_step (by repeat (first | (with_reducible first | exact HB.out | apply below_alloc | apply pw_below_drewN | apply below_drew1 | refine below_set ?_ GE162.out | refine below_set ?_ GE163.out | refine below_set ?_ GE174.out | refine below_set ?_ GE178.out | refine below_set ?_ GE185.out) | exact HB.out)) hb)
                 clear HO_175000
                 clear HO_179000
                 clear HO_186000
                 clear BK162
                 clear BK163
                 clear BK174
                 clear BK178
                 clear BK185
                 clear HB
                 have HO_175000 := n0_
                 have HO_179000 := n1_
                 have HO_186000 := n2_
                 have HO199 := n3_
                 have BK162 := n4_
                 have BK163 := n5_
                 have BK174 := n6_
                 have BK178 := n7_
                 have BK185 := n8_
                 have HB := n9_
                 clear n0_ n1_ n2_ n3_ n4_ n5_ n6_ n7_ n8_ n9_
                 (try clear hb)
                 (try clear hb2)
                 (try clear hk)
                 (try clear hi)
                 (try clear ho0)
                 refine hK.out _ _ ⟨(blk_cell BK162.out 0).trans rfl, (blk_cell BK163.out 0).trans rfl, (blk_cell BK163.out 1).trans rfl⟩ (fun hHeld => ?_)
                 clear hK K
                 refine norm_ (a' := ?_) ?_ ?_
                 rotate_left
                 ·show Act.put _ (some 81) _ = _
                  simp only [Act.put, List.setIfInBounds_toArray, List.set_cons_zero, List.set_cons_succ, i64_w, i32_w]
                  rfl
                 refine two_ (i := 3) (j := 8) (Ni := some 83) (Nj := some 14) #[true, true, true, true, false, false, false, false, false, false, false] #[true, true, true, false, false, false, false, false, true, false, false] rfl rfl rfl rfl (two_of HT_.out (by kernel_rfl)) (by decide) (by decide) (fun K hK => ?_) (fun K hK => ?_)
                 ·skip
                  refine goes_ Try.func44 (by kernel_rfl) rfl #[.agg #[.int .i64 a1_0, .int .i64 a1_1]] (by rfl) rfl rfl (by (try simp only [List.map_toArray, List.map_cons, List.map_nil]); first | done | rfl | (simp only [List.length_drop, List.length_take]; rfl)) ?_
                  with_reducible refine (laws_toPacket.calls a1_0 a1_1 t200 t201 _ A115.out).mono ?_
                  rintro e w133 ⟨rfl, hb⟩
                  refine ⟨_, rfl, ?_⟩
                  have n0_ := Aside0.mk (Kd.R_below (pkr HO_175000.out) hb)
                  have n1_ := Aside0.mk (Kd.R_below (pkr HO_179000.out) hb)
                  have n2_ := Aside0.mk (Kd.R_below (pkr HO_186000.out) hb)
                  have n3_ := Aside0.mk (Kd.R_below (pkr HO199.out) hb)
                  have n4_ := Aside0.mk (blk_below (g := gb162) (o := .cells #[.slice A0_0 l0_0.length c0_0] 51 (0, 0)) (pkb BK162.out) hb)
                  have n5_ := Aside0.mk (blk_below (g := gb163) (o := .cells #[.int .i64 a1_0, .int .i64 a1_1] 66 (0, 0)) (pkb BK163.out) hb)
                  have n6_ := Aside0.mk (blk_below (g := gb174) (o := .cells #[.slice Ao29 t170.length co29] 56 (0, 0)) (pkb BK174.out) hb)
                  have n7_ := Aside0.mk (blk_below (g := gb178) (o := .cells #[.slice Ao35 t192.length co35] 56 (0, 0)) (pkb BK178.out) hb)
                  have n8_ := Aside0.mk (blk_below (g := gb185) (o := .cells #[.slice Ao46 t181.length co46] 56 (0, 0)) (pkb BK185.out) hb)
                  have n9_ := Aside0.mk (below_step (by repeat (first | (with_reducible first | exact HB.out | apply below_alloc | apply pw_below_drewN | apply below_drew1 | refine below_set ?_ GE162.out | refine below_set ?_ GE163.out | refine below_set ?_ GE174.out | refine below_set ?_ GE178.out | refine below_set ?_ GE185.out) | exact HB.out)) hb)
                  clear HO_175000
                  clear HO_179000
                  clear HO_186000
                  clear HO199
                  clear BK162
                  clear BK163
                  clear BK174
                  clear BK178
                  clear BK185
                  clear HB
                  have HO_175000 := n0_
                  have HO_179000 := n1_
                  have HO_186000 := n2_
                  have HO199 := n3_
                  have BK162 := n4_
                  have BK163 := n5_
                  have BK174 := n6_
                  have BK178 := n7_
                  have BK185 := n8_
                  have HB := n9_
                  clear n0_ n1_ n2_ n3_ n4_ n5_ n6_ n7_ n8_ n9_
                  (try clear hb)
                  (try clear hb2)
                  (try clear hk)
                  (try clear hi)
                  obtain ⟨Ao134, co134, eo134⟩ := Kd.R_slice HO199.out
                  (first | subst eo134 | (injection eo134 with f1_ f2_ f3_; have f4_ := f1_.symm; have f5_ := f3_.symm; clear f1_ f2_ f3_; subst f4_; subst f5_))
                  refine hK.out _ _ ⟨(blk_cell BK162.out 0).trans rfl, (blk_cell BK163.out 0).trans rfl, (blk_cell BK163.out 1).trans rfl⟩ (fun hHeld => ?_)
                  clear hK K
                  refine norm_ (a' := ?_) ?_ ?_
                  rotate_left
                  ·show Act.put _ (some 83) _ = _
                   simp only [Act.put, List.setIfInBounds_toArray, List.set_cons_zero, List.set_cons_succ, i64_w, i32_w]
                   rfl
                  refine two_ (i := 4) (j := 8) (Ni := some 84) (Nj := some 14) #[true, true, true, true, true, false, false, false, false, false, false] #[true, true, true, true, false, false, false, false, true, false, false] rfl rfl rfl rfl (two_of HT_.out (by kernel_rfl)) (by decide) (by decide) (fun K hK => ?_) (fun K hK => ?_)
                  ·skip
                   refine goes_ Try.func45 (by kernel_rfl) rfl #[.agg #[.slice Ao134 t197.length co134], .agg #[.int .i64 t200, .int .i64 t201]] (by rfl) rfl rfl (by (try simp only [List.map_toArray, List.map_cons, List.map_nil]); first | done | rfl | (simp only [List.length_drop, List.length_take]; rfl)) ?_
                   with_reducible refine (impl_Receive.calls _ _ t197 t200 t201 t202 t205 _ ?side1 ?side2 A116.out).mono ?_
                   (case side1 => repeat (first | exact (Kd.R_reads' HO199.out).2.2 | (with_reducible refine Kd.C_alloc ?_ _) | (with_reducible refine Kd.C_drewN ?_ _) | (with_reducible refine Kd.C_drew ?_)))
                   (case side2 => exact (Kd.R_reads' HO199.out).2.1)
                   rintro e w135 ⟨v203, rfl, ho0, hb⟩
                   refine ⟨_, rfl, ?_⟩
                   have n0_ := Aside0.mk (Kd.R_elder' (pkr HO_175000.out) (Kd.R_base ho0) hb)
                   have n1_ := Aside0.mk (Kd.R_elder' (pkr HO_179000.out) (Kd.R_base ho0) hb)
                   have n2_ := Aside0.mk (Kd.R_elder' (pkr HO_186000.out) (Kd.R_base ho0) hb)
                   have n3_ := Aside0.mk (Kd.R_elder' (pkr HO199.out) (Kd.R_base ho0) hb)
                   have n4_ := Aside0.mk (Kd.R_lower (Kd.R_new' (Kd.R_new' (Kd.R_new' (Kd.R_new' ho0 (Kd.R_lt (pkr HO_175000.out))) (Kd.R_lt (pkr HO_179000.out))) (Kd.R_lt (pkr HO_186000.out))) (Kd.R_lt (pkr HO199.out))) (below_size (by repeat (first | (with_reducible first | exact HB.out | apply below_alloc | apply pw_below_drewN | apply below_drew1 | refine below_set ?_ GE162.out | refine below_set ?_ GE163.out | refine below_set ?_ GE174.out | refine below_set ?_ GE178.out | refine below_set ?_ GE185.out) | exact HB.out))))
                   have n5_ := Aside0.mk (blk_below (g := gb162) (o := .cells #[.slice A0_0 l0_0.length c0_0] 51 (0, 0)) (pkb BK162.out) hb)
                   have n6_ := Aside0.mk (blk_below (g := gb163) (o := .cells #[.int .i64 a1_0, .int .i64 a1_1] 66 (0, 0)) (pkb BK163.out) hb)
                   have n7_ := Aside0.mk (blk_below (g := gb174) (o := .cells #[.slice Ao29 t170.length co29] 56 (0, 0)) (pkb BK174.out) hb)
                   have n8_ := Aside0.mk (blk_below (g := gb178) (o := .cells #[.slice Ao35 t192.length co35] 56 (0, 0)) (pkb BK178.out) hb)
                   have n9_ := Aside0.mk (blk_below (g := gb185) (o := .cells #[.slice Ao46 t181.length co46] 56 (0, 0)) (pkb BK185.out) hb)
                   have n10_ := Aside0.mk (below_step (by repeat (first | (with_reducible first | exact HB.out | apply below_alloc | apply pw_below_drewN | apply below_drew1 | refine below_set ?_ GE162.out | refine below_set ?_ GE163.out | refine below_set ?_ GE174.out | refine below_set ?_ GE178.out | refine below_set ?_ GE185.out) | exact HB.out)) hb)
                   clear HO_175000
                   clear HO_179000
                   clear HO_186000
                   clear HO199
                   clear BK162
                   clear BK163
                   clear BK174
                   clear BK178
                   clear BK185
                   clear HB
                   have HO_175000 := n0_
                   have HO_179000 := n1_
                   have HO_186000 := n2_
                   have HO199 := n3_
                   have HO204 := n4_
                   have BK162 := n5_
                   have BK163 := n6_
                   have BK174 := n7_
                   have BK178 := n8_
                   have BK185 := n9_
                   have HB := n10_
                   clear n0_ n1_ n2_ n3_ n4_ n5_ n6_ n7_ n8_ n9_ n10_
                   (try clear hb)
                   (try clear hb2)
                   (try clear hk)
                   (try clear hi)
                   (try clear ho0)
                   refine hK.out _ _ ⟨(blk_cell BK162.out 0).trans rfl, (blk_cell BK163.out 0).trans rfl, (blk_cell BK163.out 1).trans rfl⟩ (fun hHeld => ?_)
                   clear hK K
                   refine norm_ (a' := ?_) ?_ ?_
                   rotate_left
                   ·show Act.put _ (some 84) _ = _
                    simp only [Act.put, List.setIfInBounds_toArray, List.set_cons_zero, List.set_cons_succ, i64_w, i32_w]
                    rfl
                   refine pure_ (i := 5) (N := some 79) (v := ?_) (a' := ?_) #[true, true, true, true, true, true, false, false, false, false, false] rfl rfl (any_of HT_.out (by kernel_rfl)) (fun _ _ _ h => h) (Or.inl ⟨by rfl, ?_⟩) ?_ ?_
                   rotate_left
                   ·intro w'
                    go_simp
                    with_reducible rfl
                   rotate_left
                   ·simp only [Act.put, List.setIfInBounds_toArray, List.set_cons_zero, List.set_cons_succ, i64_w, i32_w]
                    rfl
                   refine pure_ (i := 6) (N := some 85) (v := ?_) (a' := ?_) #[true, true, true, true, true, true, true, false, false, false, false] rfl rfl (any_of HT_.out (by kernel_rfl)) (fun _ _ _ h => h) (Or.inl ⟨by rfl, ?_⟩) ?_ ?_
                   rotate_left
                   ·intro w'
                    go_simp
                    with_reducible rfl
                   rotate_left
                   ·simp only [Act.put, List.setIfInBounds_toArray, List.set_cons_zero, List.set_cons_succ, i64_w, i32_w]
                    rfl
                   refine pure_ (i := 7) (N := some 86) (v := ?_) (a' := ?_) #[true, true, true, true, true, true, true, true, false, false, false] rfl rfl (any_of HT_.out (by kernel_rfl)) (fun _ _ _ h => h) (Or.inl ⟨by rfl, ?_⟩) ?_ ?_
                   rotate_left
                   ·intro w'
                    go_simp
                    with_reducible rfl
                   rotate_left
                   ·simp only [Act.put, List.setIfInBounds_toArray, List.set_cons_zero, List.set_cons_succ, i64_w, i32_w]
                    rfl
                   refine one_ (i := 8) (N := some 14) #[true, true, true, true, true, true, true, true, true, false, false] rfl rfl (one_of HT_.out (by kernel_rfl)) (by decide) (fun K hK => ?_)
                   refine box_step ?hg (N := 14) ?hd (cs := #[.slice none 0 0]) (t := 56) ?hr ?_; (case hd => rfl); (case hg => rfl); (case hr => first | (go_simp; done) | (go_simp; rfl))
                   intro gb206 hg w136 hbox hb
                   have n0_ := Aside0.mk (Kd.R_below (pkr HO_175000.out) hb)
                   have n1_ := Aside0.mk (Kd.R_below (pkr HO_179000.out) hb)
                   have n2_ := Aside0.mk (Kd.R_below (pkr HO_186000.out) hb)
                   have n3_ := Aside0.mk (Kd.R_below (pkr HO199.out) hb)
                   have n4_ := Aside0.mk (Kd.R_below (pkr HO204.out) hb)
                   have n5_ := Aside0.mk (blk_below (g := gb162) (o := .cells #[.slice A0_0 l0_0.length c0_0] 51 (0, 0)) (pkb BK162.out) hb)
                   have n6_ := Aside0.mk (blk_below (g := gb163) (o := .cells #[.int .i64 a1_0, .int .i64 a1_1] 66 (0, 0)) (pkb BK163.out) hb)
                   have n7_ := Aside0.mk (blk_below (g := gb174) (o := .cells #[.slice Ao29 t170.length co29] 56 (0, 0)) (pkb BK174.out) hb)
                   have n8_ := Aside0.mk (blk_below (g := gb178) (o := .cells #[.slice Ao35 t192.length co35] 56 (0, 0)) (pkb BK178.out) hb)
                   have n9_ := Aside0.mk (blk_below (g := gb185) (o := .cells #[.slice Ao46 t181.length co46] 56 (0, 0)) (pkb BK185.out) hb)
                   have n10_ := Aside0.mk (below_step (by repeat (first | (with_reducible first | exact HB.out | apply below_alloc | apply pw_below_drewN | apply below_drew1 | refine below_set ?_ GE162.out | refine below_set ?_ GE163.out | refine below_set ?_ GE174.out | refine below_set ?_ GE178.out | refine below_set ?_ GE185.out) | exact HB.out)) hb)
                   have n11_ := Aside0.mk (hbox)
                   have n12_ := Aside0.mk ((by rw [hg]; exact (below_size (by repeat (first | (with_reducible first | exact HB.out | apply below_alloc | apply pw_below_drewN | apply below_drew1 | refine below_set ?_ GE162.out | refine below_set ?_ GE163.out | refine below_set ?_ GE174.out | refine below_set ?_ GE178.out | refine below_set ?_ GE185.out) | exact HB.out))) : w.heap.size ≤ gb206))
                   have n13_ := Aside0.mk ((by rw [hg]; exact (below_size (by repeat (first | (with_reducible first | exact HB.out | apply below_alloc | apply pw_below_drewN | apply below_drew1 | refine below_set ?_ GE162.out | refine below_set ?_ GE163.out | refine below_set ?_ GE174.out | refine below_set ?_ GE178.out | refine below_set ?_ GE185.out) | exact HB.out))) : w.heap.size ≤ gb206))
                   have n14_ := Aside0.mk ((by rw [hg]; exact Nat.ne_of_lt (blk_lt (g := gb162) (o := .cells #[.slice A0_0 l0_0.length c0_0] 51 (0, 0)) (pkb BK162.out)) : gb162 ≠ gb206))
                   have n15_ := Aside0.mk ((by rw [hg]; exact Nat.ne_of_gt (blk_lt (g := gb162) (o := .cells #[.slice A0_0 l0_0.length c0_0] 51 (0, 0)) (pkb BK162.out)) : gb206 ≠ gb162))
                   have n16_ := Aside0.mk ((by rw [hg]; exact Nat.ne_of_lt (blk_lt (g := gb163) (o := .cells #[.int .i64 a1_0, .int .i64 a1_1] 66 (0, 0)) (pkb BK163.out)) : gb163 ≠ gb206))
                   have n17_ := Aside0.mk ((by rw [hg]; exact Nat.ne_of_gt (blk_lt (g := gb163) (o := .cells #[.int .i64 a1_0, .int .i64 a1_1] 66 (0, 0)) (pkb BK163.out)) : gb206 ≠ gb163))
                   have n18_ := Aside0.mk ((by rw [hg]; exact Nat.ne_of_lt (blk_lt (g := gb174) (o := .cells #[.slice Ao29 t170.length co29] 56 (0, 0)) (pkb BK174.out)) : gb174 ≠ gb206))
                   have n19_ := Aside0.mk ((by rw [hg]; exact Nat.ne_of_gt (blk_lt (g := gb174) (o := .cells #[.slice Ao29 t170.length co29] 56 (0, 0)) (pkb BK174.out)) : gb206 ≠ gb174))
                   have n20_ := Aside0.mk ((by rw [hg]; exact Nat.ne_of_lt (blk_lt (g := gb178) (o := .cells #[.slice Ao35 t192.length co35] 56 (0, 0)) (pkb BK178.out)) : gb178 ≠ gb206))
                   have n21_ := Aside0.mk ((by rw [hg]; exact Nat.ne_of_gt (blk_lt (g := gb178) (o := .cells #[.slice Ao35 t192.length co35] 56 (0, 0)) (pkb BK178.out)) : gb206 ≠ gb178))
                   have n22_ := Aside0.mk ((by rw [hg]; exact Nat.ne_of_lt (blk_lt (g := gb185) (o := .cells #[.slice Ao46 t181.length co46] 56 (0, 0)) (pkb BK185.out)) : gb185 ≠ gb206))
                   have n23_ := Aside0.mk ((by rw [hg]; exact Nat.ne_of_gt (blk_lt (g := gb185) (o := .cells #[.slice Ao46 t181.length co46] 56 (0, 0)) (pkb BK185.out)) : gb206 ≠ gb185))
                   clear HO_175000
                   clear HO_179000
                   clear HO_186000
                   clear HO199
                   clear HO204
                   clear BK162
                   clear BK163
                   clear BK174
                   clear BK178
                   clear BK185
                   clear HB
                   have HO_175000 := n0_
                   have HO_179000 := n1_
                   have HO_186000 := n2_
                   have HO199 := n3_
                   have HO204 := n4_
                   have BK162 := n5_
                   have BK163 := n6_
                   have BK174 := n7_
                   have BK178 := n8_
                   have BK185 := n9_
                   have HB := n10_
                   have BK206 := n11_
                   have GW206 := n12_
                   have GE206 := n13_
                   have NB162_206 := n14_
                   have NB206_162 := n15_
                   have NB163_206 := n16_
                   have NB206_163 := n17_
                   have NB174_206 := n18_
                   have NB206_174 := n19_
                   have NB178_206 := n20_
                   have NB206_178 := n21_
                   have NB185_206 := n22_
                   have NB206_185 := n23_
                   clear n0_ n1_ n2_ n3_ n4_ n5_ n6_ n7_ n8_ n9_ n10_ n11_ n12_ n13_ n14_ n15_ n16_ n17_ n18_ n19_ n20_ n21_ n22_ n23_
                   clear hb hbox hg
                   refine hK.out _ _ ⟨(blk_cell BK162.out 0).trans rfl, (blk_cell BK163.out 0).trans rfl, (blk_cell BK163.out 1).trans rfl⟩ (fun hHeld => ?_)
                   clear hK K
                   refine norm_ (a' := ?_) ?_ ?_
                   rotate_left
                   ·show Act.put _ (some 14) _ = _
                    simp only [Act.put, List.setIfInBounds_toArray, List.set_cons_zero, List.set_cons_succ, i64_w, i32_w]
                    rfl
                   exact norm_ (by simp only [putAll, Act.put, List.setIfInBounds_toArray, List.set_cons_zero, List.set_cons_succ]) (hCont (.slice Ao134 t197.length co134, v203, gb206) _ ⟨hHeld, (pkr (Kd.R_mono HO199.out (fun _ hk => ⟨hk.2, ⟨hk.1.1.1.2, ⟨hk.1.1.2, hk.1.2⟩⟩⟩))), (pkr (Kd.R_mono HO204.out (fun _ hk => ⟨hk.2, ⟨hk.1.1.1.2, ⟨hk.1.1.2, hk.1.2⟩⟩⟩))), (pkr (Kd.R_mono HO_175000.out (fun _ hk => ⟨hk.1.2, ⟨hk.2, ⟨hk.1.1.1, hk.1.1.2⟩⟩⟩))), (pkr (Kd.R_mono HO_179000.out (fun _ hk => ⟨hk.1.2, ⟨hk.2, ⟨hk.1.1.1, hk.1.1.2⟩⟩⟩))), (pkr (Kd.R_mono HO_186000.out (fun _ hk => ⟨hk.1.2, ⟨hk.2, ⟨hk.1.1.1, hk.1.1.2⟩⟩⟩))), (pkb BK162.out), (pkb BK163.out), (pkb BK174.out), (pkb BK178.out), (pkb BK185.out), (pkb BK206.out), GW206.out, GE206.out, NB162_206.out, NB206_162.out, NB163_206.out, NB206_163.out, NB174_206.out, NB206_174.out, NB178_206.out, NB206_178.out, NB185_206.out, NB206_185.out, (by repeat (first | (with_reducible first | exact HB.out | apply below_alloc | apply pw_below_drewN | apply below_drew1 | refine below_set ?_ GE162.out | refine below_set ?_ GE163.out | refine below_set ?_ GE174.out | refine below_set ?_ GE178.out | refine below_set ?_ GE185.out | refine below_set ?_ GE206.out) | exact HB.out))⟩)
                  ·skip
                   refine box_step ?hg (N := 14) ?hd (cs := #[.slice none 0 0]) (t := 56) ?hr ?_; (case hd => rfl); (case hg => rfl); (case hr => first | (go_simp; done) | (go_simp; rfl))
                   intro gb206 hg w134 hbox hb
                   have n0_ := Aside0.mk (Kd.R_below (pkr HO_175000.out) hb)
                   have n1_ := Aside0.mk (Kd.R_below (pkr HO_179000.out) hb)
                   have n2_ := Aside0.mk (Kd.R_below (pkr HO_186000.out) hb)
                   have n3_ := Aside0.mk (Kd.R_below (pkr HO199.out) hb)
                   have n4_ := Aside0.mk (blk_below (g := gb162) (o := .cells #[.slice A0_0 l0_0.length c0_0] 51 (0, 0)) (pkb BK162.out) hb)
                   have n5_ := Aside0.mk (blk_below (g := gb163) (o := .cells #[.int .i64 a1_0, .int .i64 a1_1] 66 (0, 0)) (pkb BK163.out) hb)
                   have n6_ := Aside0.mk (blk_below (g := gb174) (o := .cells #[.slice Ao29 t170.length co29] 56 (0, 0)) (pkb BK174.out) hb)
                   have n7_ := Aside0.mk (blk_below (g := gb178) (o := .cells #[.slice Ao35 t192.length co35] 56 (0, 0)) (pkb BK178.out) hb)
                   have n8_ := Aside0.mk (blk_below (g := gb185) (o := .cells #[.slice Ao46 t181.length co46] 56 (0, 0)) (pkb BK185.out) hb)
                   have n9_ := Aside0.mk (below_step (by repeat (first | (with_reducible first | exact HB.out | apply below_alloc | apply pw_below_drewN | apply below_drew1 | refine below_set ?_ GE162.out | refine below_set ?_ GE163.out | refine below_set ?_ GE174.out | refine below_set ?_ GE178.out | refine below_set ?_ GE185.out) | exact HB.out)) hb)
                   have n10_ := Aside0.mk (hbox)
                   have n11_ := Aside0.mk ((by rw [hg]; exact (below_size (by repeat (first | (with_reducible first | exact HB.out | apply below_alloc | apply pw_below_drewN | apply below_drew1 | refine below_set ?_ GE162.out | refine below_set ?_ GE163.out | refine below_set ?_ GE174.out | refine below_set ?_ GE178.out | refine below_set ?_ GE185.out) | exact HB.out))) : w.heap.size ≤ gb206))
                   have n12_ := Aside0.mk ((by rw [hg]; exact (below_size (by repeat (first | (with_reducible first | exact HB.out | apply below_alloc | apply pw_below_drewN | apply below_drew1 | refine below_set ?_ GE162.out | refine below_set ?_ GE163.out | refine below_set ?_ GE174.out | refine below_set ?_ GE178.out | refine below_set ?_ GE185.out) | exact HB.out))) : w.heap.size ≤ gb206))
                   have n13_ := Aside0.mk ((by rw [hg]; exact Nat.ne_of_lt (blk_lt (g := gb162) (o := .cells #[.slice A0_0 l0_0.length c0_0] 51 (0, 0)) (pkb BK162.out)) : gb162 ≠ gb206))
                   have n14_ := Aside0.mk ((by rw [hg]; exact Nat.ne_of_gt (blk_lt (g := gb162) (o := .cells #[.slice A0_0 l0_0.length c0_0] 51 (0, 0)) (pkb BK162.out)) : gb206 ≠ gb162))
                   have n15_ := Aside0.mk ((by rw [hg]; exact Nat.ne_of_lt (blk_lt (g := gb163) (o := .cells #[.int .i64 a1_0, .int .i64 a1_1] 66 (0, 0)) (pkb BK163.out)) : gb163 ≠ gb206))
                   have n16_ := Aside0.mk ((by rw [hg]; exact Nat.ne_of_gt (blk_lt (g := gb163) (o := .cells #[.int .i64 a1_0, .int .i64 a1_1] 66 (0, 0)) (pkb BK163.out)) : gb206 ≠ gb163))
                   have n17_ := Aside0.mk ((by rw [hg]; exact Nat.ne_of_lt (blk_lt (g := gb174) (o := .cells #[.slice Ao29 t170.length co29] 56 (0, 0)) (pkb BK174.out)) : gb174 ≠ gb206))
                   have n18_ := Aside0.mk ((by rw [hg]; exact Nat.ne_of_gt (blk_lt (g := gb174) (o := .cells #[.slice Ao29 t170.length co29] 56 (0, 0)) (pkb BK174.out)) : gb206 ≠ gb174))
                   have n19_ := Aside0.mk ((by rw [hg]; exact Nat.ne_of_lt (blk_lt (g := gb178) (o := .cells #[.slice Ao35 t192.length co35] 56 (0, 0)) (pkb BK178.out)) : gb178 ≠ gb206))
                   have n20_ := Aside0.mk ((by rw [hg]; exact Nat.ne_of_gt (blk_lt (g := gb178) (o := .cells #[.slice Ao35 t192.length co35] 56 (0, 0)) (pkb BK178.out)) : gb206 ≠ gb178))
                   have n21_ := Aside0.mk ((by rw [hg]; exact Nat.ne_of_lt (blk_lt (g := gb185) (o := .cells #[.slice Ao46 t181.length co46] 56 (0, 0)) (pkb BK185.out)) : gb185 ≠ gb206))
                   have n22_ := Aside0.mk ((by rw [hg]; exact Nat.ne_of_gt (blk_lt (g := gb185) (o := .cells #[.slice Ao46 t181.length co46] 56 (0, 0)) (pkb BK185.out)) : gb206 ≠ gb185))
                   clear HO_175000
                   clear HO_179000
                   clear HO_186000
                   clear HO199
                   clear BK162
                   clear BK163
                   clear BK174
                   clear BK178
                   clear BK185
                   clear HB
                   have HO_175000 := n0_
                   have HO_179000 := n1_
                   have HO_186000 := n2_
                   have HO199 := n3_
                   have BK162 := n4_
                   have BK163 := n5_
                   have BK174 := n6_
                   have BK178 := n7_
                   have BK185 := n8_
                   have HB := n9_
                   have BK206 := n10_
                   have GW206 := n11_
                   have GE206 := n12_
                   have NB162_206 := n13_
                   have NB206_162 := n14_
                   have NB163_206 := n15_
                   have NB206_163 := n16_
                   have NB174_206 := n17_
                   have NB206_174 := n18_
                   have NB178_206 := n19_
                   have NB206_178 := n20_
                   have NB185_206 := n21_
                   have NB206_185 := n22_
                   clear n0_ n1_ n2_ n3_ n4_ n5_ n6_ n7_ n8_ n9_ n10_ n11_ n12_ n13_ n14_ n15_ n16_ n17_ n18_ n19_ n20_ n21_ n22_
                   clear hb hbox hg
                   obtain ⟨Ao135, co135, eo135⟩ := Kd.R_slice HO199.out
                   (first | subst eo135 | (injection eo135 with f1_ f2_ f3_; have f4_ := f1_.symm; have f5_ := f3_.symm; clear f1_ f2_ f3_; subst f4_; subst f5_))
                   refine hK.out _ _ ⟨(blk_cell BK162.out 0).trans rfl, (blk_cell BK163.out 0).trans rfl, (blk_cell BK163.out 1).trans rfl⟩ (fun hHeld => ?_)
                   clear hK K
                   refine norm_ (a' := ?_) ?_ ?_
                   rotate_left
                   ·show Act.put _ (some 14) _ = _
                    simp only [Act.put, List.setIfInBounds_toArray, List.set_cons_zero, List.set_cons_succ, i64_w, i32_w]
                    rfl
                   refine one_ (i := 4) (N := some 84) #[true, true, true, true, true, false, false, false, true, false, false] rfl rfl (one_of HT_.out (by kernel_rfl)) (by decide) (fun K hK => ?_)
                   refine goes_ Try.func45 (by kernel_rfl) rfl #[.agg #[.slice Ao135 t197.length co135], .agg #[.int .i64 t200, .int .i64 t201]] (by rfl) rfl rfl (by (try simp only [List.map_toArray, List.map_cons, List.map_nil]); first | done | rfl | (simp only [List.length_drop, List.length_take]; rfl)) ?_
                   with_reducible refine (impl_Receive.calls _ _ t197 t200 t201 t202 t205 _ ?side1 ?side2 A116.out).mono ?_
                   (case side1 => repeat (first | exact (Kd.R_reads' HO199.out).2.2 | (with_reducible refine Kd.C_alloc ?_ _) | (with_reducible refine Kd.C_drewN ?_ _) | (with_reducible refine Kd.C_drew ?_)))
                   (case side2 => exact (Kd.R_reads' HO199.out).2.1)
                   rintro e w136 ⟨v203, rfl, ho0, hb⟩
                   refine ⟨_, rfl, ?_⟩
                   have n0_ := Aside0.mk (Kd.R_elder' (pkr HO_175000.out) (Kd.R_base ho0) hb)
                   have n1_ := Aside0.mk (Kd.R_elder' (pkr HO_179000.out) (Kd.R_base ho0) hb)
                   have n2_ := Aside0.mk (Kd.R_elder' (pkr HO_186000.out) (Kd.R_base ho0) hb)
                   have n3_ := Aside0.mk (Kd.R_elder' (pkr HO199.out) (Kd.R_base ho0) hb)
                   have n4_ := Aside0.mk (Kd.R_lower (Kd.R_new' (Kd.R_new' (Kd.R_new' (Kd.R_new' ho0 (Kd.R_lt (pkr HO_175000.out))) (Kd.R_lt (pkr HO_179000.out))) (Kd.R_lt (pkr HO_186000.out))) (Kd.R_lt (pkr HO199.out))) (below_size (by repeat (first | (with_reducible first | exact HB.out | apply below_alloc | apply pw_below_drewN | apply below_drew1 | refine below_set ?_ GE162.out | refine below_set ?_ GE163.out | refine below_set ?_ GE174.out | refine below_set ?_ GE178.out | refine below_set ?_ GE185.out | refine below_set ?_ GE206.out) | exact HB.out))))
                   have n5_ := Aside0.mk (blk_below (g := gb162) (o := .cells #[.slice A0_0 l0_0.length c0_0] 51 (0, 0)) (pkb BK162.out) hb)
                   have n6_ := Aside0.mk (blk_below (g := gb163) (o := .cells #[.int .i64 a1_0, .int .i64 a1_1] 66 (0, 0)) (pkb BK163.out) hb)
                   have n7_ := Aside0.mk (blk_below (g := gb174) (o := .cells #[.slice Ao29 t170.length co29] 56 (0, 0)) (pkb BK174.out) hb)
                   have n8_ := Aside0.mk (blk_below (g := gb178) (o := .cells #[.slice Ao35 t192.length co35] 56 (0, 0)) (pkb BK178.out) hb)
                   have n9_ := Aside0.mk (blk_below (g := gb185) (o := .cells #[.slice Ao46 t181.length co46] 56 (0, 0)) (pkb BK185.out) hb)
                   have n10_ := Aside0.mk (blk_below (g := gb206) (o := .cells #[.slice none 0 0] 56 (0, 0)) (pkb BK206.out) hb)
                   have n11_ := Aside0.mk (below_step (by repeat (first | (with_reducible first | exact HB.out | apply below_alloc | apply pw_below_drewN | apply below_drew1 | refine below_set ?_ GE162.out | refine below_set ?_ GE163.out | refine below_set ?_ GE174.out | refine below_set ?_ GE178.out | refine below_set ?_ GE185.out | refine below_set ?_ GE206.out) | exact HB.out)) hb)
                   clear HO_175000
                   clear HO_179000
                   clear HO_186000
                   clear HO199
                   clear BK162
                   clear BK163
                   clear BK174
                   clear BK178
                   clear BK185
                   clear BK206
                   clear HB
                   have HO_175000 := n0_
                   have HO_179000 := n1_
                   have HO_186000 := n2_
                   have HO199 := n3_
                   have HO204 := n4_
                   have BK162 := n5_
                   have BK163 := n6_
                   have BK174 := n7_
                   have BK178 := n8_
                   have BK185 := n9_
                   have BK206 := n10_
                   have HB := n11_
                   clear n0_ n1_ n2_ n3_ n4_ n5_ n6_ n7_ n8_ n9_ n10_ n11_
                   (try clear hb)
                   (try clear hb2)
                   (try clear hk)
                   (try clear hi)
                   (try clear ho0)
                   refine hK.out _ _ ⟨(blk_cell BK162.out 0).trans rfl, (blk_cell BK163.out 0).trans rfl, (blk_cell BK163.out 1).trans rfl⟩ (fun hHeld => ?_)
                   clear hK K
                   refine norm_ (a' := ?_) ?_ ?_
                   rotate_left
                   ·show Act.put _ (some 84) _ = _
                    simp only [Act.put, List.setIfInBounds_toArray, List.set_cons_zero, List.set_cons_succ, i64_w, i32_w]
                    rfl
                   refine pure_ (i := 5) (N := some 79) (v := ?_) (a' := ?_) #[true, true, true, true, true, true, false, false, true, false, false] rfl rfl (any_of HT_.out (by kernel_rfl)) (fun _ _ _ h => h) (Or.inl ⟨by rfl, ?_⟩) ?_ ?_
                   rotate_left
                   ·intro w'
                    go_simp
                    with_reducible rfl
                   rotate_left
                   ·simp only [Act.put, List.setIfInBounds_toArray, List.set_cons_zero, List.set_cons_succ, i64_w, i32_w]
                    rfl
                   refine pure_ (i := 6) (N := some 85) (v := ?_) (a' := ?_) #[true, true, true, true, true, true, true, false, true, false, false] rfl rfl (any_of HT_.out (by kernel_rfl)) (fun _ _ _ h => h) (Or.inl ⟨by rfl, ?_⟩) ?_ ?_
                   rotate_left
                   ·intro w'
                    go_simp
                    with_reducible rfl
                   rotate_left
                   ·simp only [Act.put, List.setIfInBounds_toArray, List.set_cons_zero, List.set_cons_succ, i64_w, i32_w]
                    rfl
                   refine pure_ (i := 7) (N := some 86) (v := ?_) (a' := ?_) #[true, true, true, true, true, true, true, true, true, false, false] rfl rfl (any_of HT_.out (by kernel_rfl)) (fun _ _ _ h => h) (Or.inl ⟨by rfl, ?_⟩) ?_ ?_
                   rotate_left
                   ·intro w'
                    go_simp
                    with_reducible rfl
                   rotate_left
                   ·simp only [Act.put, List.setIfInBounds_toArray, List.set_cons_zero, List.set_cons_succ, i64_w, i32_w]
                    rfl
                   exact norm_ (by simp only [putAll, Act.put, List.setIfInBounds_toArray, List.set_cons_zero, List.set_cons_succ]) (hCont (.slice Ao135 t197.length co135, v203, gb206) _ ⟨hHeld, (pkr (Kd.R_mono HO199.out (fun _ hk => ⟨hk.2, ⟨hk.1.1.1.2, ⟨hk.1.1.2, hk.1.2⟩⟩⟩))), (pkr (Kd.R_mono HO204.out (fun _ hk => ⟨hk.2, ⟨hk.1.1.1.2, ⟨hk.1.1.2, hk.1.2⟩⟩⟩))), (pkr (Kd.R_mono HO_175000.out (fun _ hk => ⟨hk.1.2, ⟨hk.2, ⟨hk.1.1.1, hk.1.1.2⟩⟩⟩))), (pkr (Kd.R_mono HO_179000.out (fun _ hk => ⟨hk.1.2, ⟨hk.2, ⟨hk.1.1.1, hk.1.1.2⟩⟩⟩))), (pkr (Kd.R_mono HO_186000.out (fun _ hk => ⟨hk.1.2, ⟨hk.2, ⟨hk.1.1.1, hk.1.1.2⟩⟩⟩))), (pkb BK162.out), (pkb BK163.out), (pkb BK174.out), (pkb BK178.out), (pkb BK185.out), (pkb BK206.out), GW206.out, GE206.out, NB162_206.out, NB206_162.out, NB163_206.out, NB206_163.out, NB174_206.out, NB206_174.out, NB178_206.out, NB206_178.out, NB185_206.out, NB206_185.out, (by repeat (first | (with_reducible first | exact HB.out | apply below_alloc | apply pw_below_drewN | apply below_drew1 | refine below_set ?_ GE162.out | refine below_set ?_ GE163.out | refine below_set ?_ GE174.out | refine below_set ?_ GE178.out | refine below_set ?_ GE185.out | refine below_set ?_ GE206.out) | exact HB.out))⟩)
                 ·skip
                  refine box_step ?hg (N := 14) ?hd (cs := #[.slice none 0 0]) (t := 56) ?hr ?_; (case hd => rfl); (case hg => rfl); (case hr => first | (go_simp; done) | (go_simp; rfl))
                  intro gb206 hg w133 hbox hb
                  have n0_ := Aside0.mk (Kd.R_below (pkr HO_175000.out) hb)
                  have n1_ := Aside0.mk (Kd.R_below (pkr HO_179000.out) hb)
                  have n2_ := Aside0.mk (Kd.R_below (pkr HO_186000.out) hb)
                  have n3_ := Aside0.mk (Kd.R_below (pkr HO199.out) hb)
                  have n4_ := Aside0.mk (blk_below (g := gb162) (o := .cells #[.slice A0_0 l0_0.length c0_0] 51 (0, 0)) (pkb BK162.out) hb)
                  have n5_ := Aside0.mk (blk_below (g := gb163) (o := .cells #[.int .i64 a1_0, .int .i64 a1_1] 66 (0, 0)) (pkb BK163.out) hb)
                  have n6_ := Aside0.mk (blk_below (g := gb174) (o := .cells #[.slice Ao29 t170.length co29] 56 (0, 0)) (pkb BK174.out) hb)
                  have n7_ := Aside0.mk (blk_below (g := gb178) (o := .cells #[.slice Ao35 t192.length co35] 56 (0, 0)) (pkb BK178.out) hb)
                  have n8_ := Aside0.mk (blk_below (g := gb185) (o := .cells #[.slice Ao46 t181.length co46] 56 (0, 0)) (pkb BK185.out) hb)
                  have n9_ := Aside0.mk (below_step (by repeat (first | (with_reducible first | exact HB.out | apply below_alloc | apply pw_below_drewN | apply below_drew1 | refine below_set ?_ GE162.out | refine below_set ?_ GE163.out | refine below_set ?_ GE174.out | refine below_set ?_ GE178.out | refine below_set ?_ GE185.out) | exact HB.out)) hb)
                  have n10_ := Aside0.mk (hbox)
                  have n11_ := Aside0.mk ((by rw [hg]; exact (below_size (by repeat (first | (with_reducible first | exact HB.out | apply below_alloc | apply pw_below_drewN | apply below_drew1 | refine below_set ?_ GE162.out | refine below_set ?_ GE163.out | refine below_set ?_ GE174.out | refine below_set ?_ GE178.out | refine below_set ?_ GE185.out) | exact HB.out))) : w.heap.size ≤ gb206))
                  have n12_ := Aside0.mk ((by rw [hg]; exact (below_size (by repeat (first | (with_reducible first | exact HB.out | apply below_alloc | apply pw_below_drewN | apply below_drew1 | refine below_set ?_ GE162.out | refine below_set ?_ GE163.out | refine below_set ?_ GE174.out | refine below_set ?_ GE178.out | refine below_set ?_ GE185.out) | exact HB.out))) : w.heap.size ≤ gb206))
                  have n13_ := Aside0.mk ((by rw [hg]; exact Nat.ne_of_lt (blk_lt (g := gb162) (o := .cells #[.slice A0_0 l0_0.length c0_0] 51 (0, 0)) (pkb BK162.out)) : gb162 ≠ gb206))
                  have n14_ := Aside0.mk ((by rw [hg]; exact Nat.ne_of_gt (blk_lt (g := gb162) (o := .cells #[.slice A0_0 l0_0.length c0_0] 51 (0, 0)) (pkb BK162.out)) : gb206 ≠ gb162))
                  have n15_ := Aside0.mk ((by rw [hg]; exact Nat.ne_of_lt (blk_lt (g := gb163) (o := .cells #[.int .i64 a1_0, .int .i64 a1_1] 66 (0, 0)) (pkb BK163.out)) : gb163 ≠ gb206))
                  have n16_ := Aside0.mk ((by rw [hg]; exact Nat.ne_of_gt (blk_lt (g := gb163) (o := .cells #[.int .i64 a1_0, .int .i64 a1_1] 66 (0, 0)) (pkb BK163.out)) : gb206 ≠ gb163))
                  have n17_ := Aside0.mk ((by rw [hg]; exact Nat.ne_of_lt (blk_lt (g := gb174) (o := .cells #[.slice Ao29 t170.length co29] 56 (0, 0)) (pkb BK174.out)) : gb174 ≠ gb206))
                  have n18_ := Aside0.mk ((by rw [hg]; exact Nat.ne_of_gt (blk_lt (g := gb174) (o := .cells #[.slice Ao29 t170.length co29] 56 (0, 0)) (pkb BK174.out)) : gb206 ≠ gb174))
                  have n19_ := Aside0.mk ((by rw [hg]; exact Nat.ne_of_lt (blk_lt (g := gb178) (o := .cells #[.slice Ao35 t192.length co35] 56 (0, 0)) (pkb BK178.out)) : gb178 ≠ gb206))
                  have n20_ := Aside0.mk ((by rw [hg]; exact Nat.ne_of_gt (blk_lt (g := gb178) (o := .cells #[.slice Ao35 t192.length co35] 56 (0, 0)) (pkb BK178.out)) : gb206 ≠ gb178))
                  have n21_ := Aside0.mk ((by rw [hg]; exact Nat.ne_of_lt (blk_lt (g := gb185) (o := .cells #[.slice Ao46 t181.length co46] 56 (0, 0)) (pkb BK185.out)) : gb185 ≠ gb206))
                  have n22_ := Aside0.mk ((by rw [hg]; exact Nat.ne_of_gt (blk_lt (g := gb185) (o := .cells #[.slice Ao46 t181.length co46] 56 (0, 0)) (pkb BK185.out)) : gb206 ≠ gb185))
                  clear HO_175000
                  clear HO_179000
                  clear HO_186000
                  clear HO199
                  clear BK162
                  clear BK163
                  clear BK174
                  clear BK178
                  clear BK185
                  clear HB
                  have HO_175000 := n0_
                  have HO_179000 := n1_
                  have HO_186000 := n2_
                  have HO199 := n3_
                  have BK162 := n4_
                  have BK163 := n5_
                  have BK174 := n6_
                  have BK178 := n7_
                  have BK185 := n8_
                  have HB := n9_
                  have BK206 := n10_
                  have GW206 := n11_
                  have GE206 := n12_
                  have NB162_206 := n13_
                  have NB206_162 := n14_
                  have NB163_206 := n15_
                  have NB206_163 := n16_
                  have NB174_206 := n17_
                  have NB206_174 := n18_
                  have NB178_206 := n19_
                  have NB206_178 := n20_
                  have NB185_206 := n21_
                  have NB206_185 := n22_
                  clear n0_ n1_ n2_ n3_ n4_ n5_ n6_ n7_ n8_ n9_ n10_ n11_ n12_ n13_ n14_ n15_ n16_ n17_ n18_ n19_ n20_ n21_ n22_
                  clear hb hbox hg
                  refine hK.out _ _ ⟨(blk_cell BK162.out 0).trans rfl, (blk_cell BK163.out 0).trans rfl, (blk_cell BK163.out 1).trans rfl⟩ (fun hHeld => ?_)
                  clear hK K
                  refine norm_ (a' := ?_) ?_ ?_
                  rotate_left
                  ·show Act.put _ (some 14) _ = _
                   simp only [Act.put, List.setIfInBounds_toArray, List.set_cons_zero, List.set_cons_succ, i64_w, i32_w]
                   rfl
                  refine one_ (i := 3) (N := some 83) #[true, true, true, true, false, false, false, false, true, false, false] rfl rfl (one_of HT_.out (by kernel_rfl)) (by decide) (fun K hK => ?_)
                  refine goes_ Try.func44 (by kernel_rfl) rfl #[.agg #[.int .i64 a1_0, .int .i64 a1_1]] (by rfl) rfl rfl (by (try simp only [List.map_toArray, List.map_cons, List.map_nil]); first | done | rfl | (simp only [List.length_drop, List.length_take]; rfl)) ?_
                  with_reducible refine (laws_toPacket.calls a1_0 a1_1 t200 t201 _ A115.out).mono ?_
                  rintro e w134 ⟨rfl, hb⟩
                  refine ⟨_, rfl, ?_⟩
                  have n0_ := Aside0.mk (Kd.R_below (pkr HO_175000.out) hb)
                  have n1_ := Aside0.mk (Kd.R_below (pkr HO_179000.out) hb)
                  have n2_ := Aside0.mk (Kd.R_below (pkr HO_186000.out) hb)
                  have n3_ := Aside0.mk (Kd.R_below (pkr HO199.out) hb)
                  have n4_ := Aside0.mk (blk_below (g := gb162) (o := .cells #[.slice A0_0 l0_0.length c0_0] 51 (0, 0)) (pkb BK162.out) hb)
                  have n5_ := Aside0.mk (blk_below (g := gb163) (o := .cells #[.int .i64 a1_0, .int .i64 a1_1] 66 (0, 0)) (pkb BK163.out) hb)
                  have n6_ := Aside0.mk (blk_below (g := gb174) (o := .cells #[.slice Ao29 t170.length co29] 56 (0, 0)) (pkb BK174.out) hb)
                  have n7_ := Aside0.mk (blk_below (g := gb178) (o := .cells #[.slice Ao35 t192.length co35] 56 (0, 0)) (pkb BK178.out) hb)
                  have n8_ := Aside0.mk (blk_below (g := gb185) (o := .cells #[.slice Ao46 t181.length co46] 56 (0, 0)) (pkb BK185.out) hb)
                  have n9_ := Aside0.mk (blk_below (g := gb206) (o := .cells #[.slice none 0 0] 56 (0, 0)) (pkb BK206.out) hb)
                  have n10_ := Aside0.mk (below_step (by repeat (first | (with_reducible first | exact HB.out | apply below_alloc | apply pw_below_drewN | apply below_drew1 | refine below_set ?_ GE162.out | refine below_set ?_ GE163.out | refine below_set ?_ GE174.out | refine below_set ?_ GE178.out | refine below_set ?_ GE185.out | refine below_set ?_ GE206.out) | exact HB.out)) hb)
                  clear HO_175000
                  clear HO_179000
                  clear HO_186000
                  clear HO199
                  clear BK162
                  clear BK163
                  clear BK174
                  clear BK178
                  clear BK185
                  clear BK206
                  clear HB
                  have HO_175000 := n0_
                  have HO_179000 := n1_
                  have HO_186000 := n2_
                  have HO199 := n3_
                  have BK162 := n4_
                  have BK163 := n5_
                  have BK174 := n6_
                  have BK178 := n7_
                  have BK185 := n8_
                  have BK206 := n9_
                  have HB := n10_
                  clear n0_ n1_ n2_ n3_ n4_ n5_ n6_ n7_ n8_ n9_ n10_
                  (try clear hb)
                  (try clear hb2)
                  (try clear hk)
                  (try clear hi)
                  obtain ⟨Ao135, co135, eo135⟩ := Kd.R_slice HO199.out
                  (first | subst eo135 | (injection eo135 with f1_ f2_ f3_; have f4_ := f1_.symm; have f5_ := f3_.symm; clear f1_ f2_ f3_; subst f4_; subst f5_))
                  refine hK.out _ _ ⟨(blk_cell BK162.out 0).trans rfl, (blk_cell BK163.out 0).trans rfl, (blk_cell BK163.out 1).trans rfl⟩ (fun hHeld => ?_)
                  clear hK K
                  refine norm_ (a' := ?_) ?_ ?_
                  rotate_left
                  ·show Act.put _ (some 83) _ = _
                   simp only [Act.put, List.setIfInBounds_toArray, List.set_cons_zero, List.set_cons_succ, i64_w, i32_w]
                   rfl
                  refine one_ (i := 4) (N := some 84) #[true, true, true, true, true, false, false, false, true, false, false] rfl rfl (one_of HT_.out (by kernel_rfl)) (by decide) (fun K hK => ?_)
                  refine goes_ Try.func45 (by kernel_rfl) rfl #[.agg #[.slice Ao135 t197.length co135], .agg #[.int .i64 t200, .int .i64 t201]] (by rfl) rfl rfl (by (try simp only [List.map_toArray, List.map_cons, List.map_nil]); first | done | rfl | (simp only [List.length_drop, List.length_take]; rfl)) ?_
                  with_reducible refine (impl_Receive.calls _ _ t197 t200 t201 t202 t205 _ ?side1 ?side2 A116.out).mono ?_
                  (case side1 => repeat (first | exact (Kd.R_reads' HO199.out).2.2 | (with_reducible refine Kd.C_alloc ?_ _) | (with_reducible refine Kd.C_drewN ?_ _) | (with_reducible refine Kd.C_drew ?_)))
                  (case side2 => exact (Kd.R_reads' HO199.out).2.1)
                  rintro e w136 ⟨v203, rfl, ho0, hb⟩
                  refine ⟨_, rfl, ?_⟩
                  have n0_ := Aside0.mk (Kd.R_elder' (pkr HO_175000.out) (Kd.R_base ho0) hb)
                  have n1_ := Aside0.mk (Kd.R_elder' (pkr HO_179000.out) (Kd.R_base ho0) hb)
                  have n2_ := Aside0.mk (Kd.R_elder' (pkr HO_186000.out) (Kd.R_base ho0) hb)
                  have n3_ := Aside0.mk (Kd.R_elder' (pkr HO199.out) (Kd.R_base ho0) hb)
                  have n4_ := Aside0.mk (Kd.R_lower (Kd.R_new' (Kd.R_new' (Kd.R_new' (Kd.R_new' ho0 (Kd.R_lt (pkr HO_175000.out))) (Kd.R_lt (pkr HO_179000.out))) (Kd.R_lt (pkr HO_186000.out))) (Kd.R_lt (pkr HO199.out))) (below_size (by repeat (first | (with_reducible first | exact HB.out | apply below_alloc | apply pw_below_drewN | apply below_drew1 | refine below_set ?_ GE162.out | refine below_set ?_ GE163.out | refine below_set ?_ GE174.out | refine below_set ?_ GE178.out | refine below_set ?_ GE185.out | refine below_set ?_ GE206.out) | exact HB.out))))
                  have n5_ := Aside0.mk (blk_below (g := gb162) (o := .cells #[.slice A0_0 l0_0.length c0_0] 51 (0, 0)) (pkb BK162.out) hb)
                  have n6_ := Aside0.mk (blk_below (g := gb163) (o := .cells #[.int .i64 a1_0, .int .i64 a1_1] 66 (0, 0)) (pkb BK163.out) hb)
                  have n7_ := Aside0.mk (blk_below (g := gb174) (o := .cells #[.slice Ao29 t170.length co29] 56 (0, 0)) (pkb BK174.out) hb)
                  have n8_ := Aside0.mk (blk_below (g := gb178) (o := .cells #[.slice Ao35 t192.length co35] 56 (0, 0)) (pkb BK178.out) hb)
                  have n9_ := Aside0.mk (blk_below (g := gb185) (o := .cells #[.slice Ao46 t181.length co46] 56 (0, 0)) (pkb BK185.out) hb)
                  have n10_ := Aside0.mk (blk_below (g := gb206) (o := .cells #[.slice none 0 0] 56 (0, 0)) (pkb BK206.out) hb)
                  have n11_ := Aside0.mk (below_step (by repeat (first | (with_reducible first | exact HB.out | apply below_alloc | apply pw_below_drewN | apply below_drew1 | refine below_set ?_ GE162.out | refine below_set ?_ GE163.out | refine below_set ?_ GE174.out | refine below_set ?_ GE178.out | refine below_set ?_ GE185.out | refine below_set ?_ GE206.out) | exact HB.out)) hb)
                  clear HO_175000
                  clear HO_179000
                  clear HO_186000
                  clear HO199
                  clear BK162
                  clear BK163
                  clear BK174
                  clear BK178
                  clear BK185
                  clear BK206
                  clear HB
                  have HO_175000 := n0_
                  have HO_179000 := n1_
                  have HO_186000 := n2_
                  have HO199 := n3_
                  have HO204 := n4_
                  have BK162 := n5_
                  have BK163 := n6_
                  have BK174 := n7_
                  have BK178 := n8_
                  have BK185 := n9_
                  have BK206 := n10_
                  have HB := n11_
                  clear n0_ n1_ n2_ n3_ n4_ n5_ n6_ n7_ n8_ n9_ n10_ n11_
                  (try clear hb)
                  (try clear hb2)
                  (try clear hk)
                  (try clear hi)
                  (try clear ho0)
                  refine hK.out _ _ ⟨(blk_cell BK162.out 0).trans rfl, (blk_cell BK163.out 0).trans rfl, (blk_cell BK163.out 1).trans rfl⟩ (fun hHeld => ?_)
                  clear hK K
                  refine norm_ (a' := ?_) ?_ ?_
                  rotate_left
                  ·show Act.put _ (some 84) _ = _
                   simp only [Act.put, List.setIfInBounds_toArray, List.set_cons_zero, List.set_cons_succ, i64_w, i32_w]
                   rfl
                  refine pure_ (i := 5) (N := some 79) (v := ?_) (a' := ?_) #[true, true, true, true, true, true, false, false, true, false, false] rfl rfl (any_of HT_.out (by kernel_rfl)) (fun _ _ _ h => h) (Or.inl ⟨by rfl, ?_⟩) ?_ ?_
                  rotate_left
                  ·intro w'
                   go_simp
                   with_reducible rfl
                  rotate_left
                  ·simp only [Act.put, List.setIfInBounds_toArray, List.set_cons_zero, List.set_cons_succ, i64_w, i32_w]
                   rfl
                  refine pure_ (i := 6) (N := some 85) (v := ?_) (a' := ?_) #[true, true, true, true, true, true, true, false, true, false, false] rfl rfl (any_of HT_.out (by kernel_rfl)) (fun _ _ _ h => h) (Or.inl ⟨by rfl, ?_⟩) ?_ ?_
                  rotate_left
                  ·intro w'
                   go_simp
                   with_reducible rfl
                  rotate_left
                  ·simp only [Act.put, List.setIfInBounds_toArray, List.set_cons_zero, List.set_cons_succ, i64_w, i32_w]
                   rfl
                  refine pure_ (i := 7) (N := some 86) (v := ?_) (a' := ?_) #[true, true, true, true, true, true, true, true, true, false, false] rfl rfl (any_of HT_.out (by kernel_rfl)) (fun _ _ _ h => h) (Or.inl ⟨by rfl, ?_⟩) ?_ ?_
                  rotate_left
                  ·intro w'
                   go_simp
                   with_reducible rfl
                  rotate_left
                  ·simp only [Act.put, List.setIfInBounds_toArray, List.set_cons_zero, List.set_cons_succ, i64_w, i32_w]
                   rfl
                  exact norm_ (by simp only [putAll, Act.put, List.setIfInBounds_toArray, List.set_cons_zero, List.set_cons_succ]) (hCont (.slice Ao135 t197.length co135, v203, gb206) _ ⟨hHeld, (pkr (Kd.R_mono HO199.out (fun _ hk => ⟨hk.2, ⟨hk.1.1.1.2, ⟨hk.1.1.2, hk.1.2⟩⟩⟩))), (pkr (Kd.R_mono HO204.out (fun _ hk => ⟨hk.2, ⟨hk.1.1.1.2, ⟨hk.1.1.2, hk.1.2⟩⟩⟩))), (pkr (Kd.R_mono HO_175000.out (fun _ hk => ⟨hk.1.2, ⟨hk.2, ⟨hk.1.1.1, hk.1.1.2⟩⟩⟩))), (pkr (Kd.R_mono HO_179000.out (fun _ hk => ⟨hk.1.2, ⟨hk.2, ⟨hk.1.1.1, hk.1.1.2⟩⟩⟩))), (pkr (Kd.R_mono HO_186000.out (fun _ hk => ⟨hk.1.2, ⟨hk.2, ⟨hk.1.1.1, hk.1.1.2⟩⟩⟩))), (pkb BK162.out), (pkb BK163.out), (pkb BK174.out), (pkb BK178.out), (pkb BK185.out), (pkb BK206.out), GW206.out, GE206.out, NB162_206.out, NB206_162.out, NB163_206.out, NB206_163.out, NB174_206.out, NB206_174.out, NB178_206.out, NB206_178.out, NB185_206.out, NB206_185.out, (by repeat (first | (with_reducible first | exact HB.out | apply below_alloc | apply pw_below_drewN | apply below_drew1 | refine below_set ?_ GE162.out | refine below_set ?_ GE163.out | refine below_set ?_ GE174.out | refine below_set ?_ GE178.out | refine below_set ?_ GE185.out | refine below_set ?_ GE206.out) | exact HB.out))⟩)
                ·skip
                 refine box_step ?hg (N := 14) ?hd (cs := #[.slice none 0 0]) (t := 56) ?hr ?_; (case hd => rfl); (case hg => rfl); (case hr => first | (go_simp; done) | (go_simp; rfl))
                 intro gb206 hg w132 hbox hb
                 have n0_ := Aside0.mk (Kd.R_below (pkr HO_175000.out) hb)
                 have n1_ := Aside0.mk (Kd.R_below (pkr HO_179000.out) hb)
                 have n2_ := Aside0.mk (Kd.R_below (pkr HO_186000.out) hb)
                 have n3_ := Aside0.mk (blk_below (g := gb162) (o := .cells #[.slice A0_0 l0_0.length c0_0] 51 (0, 0)) (pkb BK162.out) hb)
                 have n4_ := Aside0.mk (blk_below (g := gb163) (o := .cells #[.int .i64 a1_0, .int .i64 a1_1] 66 (0, 0)) (pkb BK163.out) hb)
                 have n5_ := Aside0.mk (blk_below (g := gb174) (o := .cells #[.slice Ao29 t170.length co29] 56 (0, 0)) (pkb BK174.out) hb)
                 have n6_ := Aside0.mk (blk_below (g := gb178) (o := .cells #[.slice Ao35 t192.length co35] 56 (0, 0)) (pkb BK178.out) hb)
                 have n7_ := Aside0.mk (blk_below (g := gb185) (o := .cells #[.slice Ao46 t181.length co46] 56 (0, 0)) (pkb BK185.out) hb)
                 have n8_ := Aside0.mk (below_step (by repeat (first | (with_reducible first | exact HB.out | apply below_alloc | apply pw_below_drewN | apply below_drew1 | refine below_set ?_ GE162.out | refine below_set ?_ GE163.out | refine below_set ?_ GE174.out | refine below_set ?_ GE178.out | refine below_set ?_ GE185.out) | exact HB.out)) hb)
                 have n9_ := Aside0.mk (hbox)
                 have n10_ := Aside0.mk ((by rw [hg]; exact (below_size (by repeat (first | (with_reducible first | exact HB.out | apply below_alloc | apply pw_below_drewN | apply below_drew1 | refine below_set ?_ GE162.out | refine below_set ?_ GE163.out | refine below_set ?_ GE174.out | refine below_set ?_ GE178.out | refine below_set ?_ GE185.out) | exact HB.out))) : w.heap.size ≤ gb206))
                 have n11_ := Aside0.mk ((by rw [hg]; exact (below_size (by repeat (first | (with_reducible first | exact HB.out | apply below_alloc | apply pw_below_drewN | apply below_drew1 | refine below_set ?_ GE162.out | refine below_set ?_ GE163.out | refine below_set ?_ GE174.out | refine below_set ?_ GE178.out | refine below_set ?_ GE185.out) | exact HB.out))) : w.heap.size ≤ gb206))
                 have n12_ := Aside0.mk ((by rw [hg]; exact Nat.ne_of_lt (blk_lt (g := gb162) (o := .cells #[.slice A0_0 l0_0.length c0_0] 51 (0, 0)) (pkb BK162.out)) : gb162 ≠ gb206))
                 have n13_ := Aside0.mk ((by rw [hg]; exact Nat.ne_of_gt (blk_lt (g := gb162) (o := .cells #[.slice A0_0 l0_0.length c0_0] 51 (0, 0)) (pkb BK162.out)) : gb206 ≠ gb162))
                 have n14_ := Aside0.mk ((by rw [hg]; exact Nat.ne_of_lt (blk_lt (g := gb163) (o := .cells #[.int .i64 a1_0, .int .i64 a1_1] 66 (0, 0)) (pkb BK163.out)) : gb163 ≠ gb206))
                 have n15_ := Aside0.mk ((by rw [hg]; exact Nat.ne_of_gt (blk_lt (g := gb163) (o := .cells #[.int .i64 a1_0, .int .i64 a1_1] 66 (0, 0)) (pkb BK163.out)) : gb206 ≠ gb163))
                 have n16_ := Aside0.mk ((by rw [hg]; exact Nat.ne_of_lt (blk_lt (g := gb174) (o := .cells #[.slice Ao29 t170.length co29] 56 (0, 0)) (pkb BK174.out)) : gb174 ≠ gb206))
                 have n17_ := Aside0.mk ((by rw [hg]; exact Nat.ne_of_gt (blk_lt (g := gb174) (o := .cells #[.slice Ao29 t170.length co29] 56 (0, 0)) (pkb BK174.out)) : gb206 ≠ gb174))
                 have n18_ := Aside0.mk ((by rw [hg]; exact Nat.ne_of_lt (blk_lt (g := gb178) (o := .cells #[.slice Ao35 t192.length co35] 56 (0, 0)) (pkb BK178.out)) : gb178 ≠ gb206))
                 have n19_ := Aside0.mk ((by rw [hg]; exact Nat.ne_of_gt (blk_lt (g := gb178) (o := .cells #[.slice Ao35 t192.length co35] 56 (0, 0)) (pkb BK178.out)) : gb206 ≠ gb178))
                 have n20_ := Aside0.mk ((by rw [hg]; exact Nat.ne_of_lt (blk_lt (g := gb185) (o := .cells #[.slice Ao46 t181.length co46] 56 (0, 0)) (pkb BK185.out)) : gb185 ≠ gb206))
                 have n21_ := Aside0.mk ((by rw [hg]; exact Nat.ne_of_gt (blk_lt (g := gb185) (o := .cells #[.slice Ao46 t181.length co46] 56 (0, 0)) (pkb BK185.out)) : gb206 ≠ gb185))
                 clear HO_175000
                 clear HO_179000
                 clear HO_186000
                 clear BK162
                 clear BK163
                 clear BK174
                 clear BK178
                 clear BK185
                 clear HB
                 have HO_175000 := n0_
                 have HO_179000 := n1_
                 have HO_186000 := n2_
                 have BK162 := n3_
                 have BK163 := n4_
                 have BK174 := n5_
                 have BK178 := n6_
                 have BK185 := n7_
                 have HB := n8_
                 have BK206 := n9_
                 have GW206 := n10_
                 have GE206 := n11_
                 have NB162_206 := n12_
                 have NB206_162 := n13_
                 have NB163_206 := n14_
                 have NB206_163 := n15_
                 have NB174_206 := n16_
                 have NB206_174 := n17_
                 have NB178_206 := n18_
                 have NB206_178 := n19_
                 have NB185_206 := n20_
                 have NB206_185 := n21_
                 clear n0_ n1_ n2_ n3_ n4_ n5_ n6_ n7_ n8_ n9_ n10_ n11_ n12_ n13_ n14_ n15_ n16_ n17_ n18_ n19_ n20_ n21_
                 clear hb hbox hg
                 refine hK.out _ _ ⟨(blk_cell BK162.out 0).trans rfl, (blk_cell BK163.out 0).trans rfl, (blk_cell BK163.out 1).trans rfl⟩ (fun hHeld => ?_)
                 clear hK K
                 refine norm_ (a' := ?_) ?_ ?_
                 rotate_left
                 ·show Act.put _ (some 14) _ = _
                  simp only [Act.put, List.setIfInBounds_toArray, List.set_cons_zero, List.set_cons_succ, i64_w, i32_w]
                  rfl
                 refine one_ (i := 1) (N := some 81) #[true, true, true, false, false, false, false, false, true, false, false] rfl rfl (one_of HT_.out (by kernel_rfl)) (by decide) (fun K hK => ?_)
                 refine goes_ Try.func43 (by kernel_rfl) rfl #[.agg #[.slice A0_0 l0_0.length c0_0]] (by rfl) rfl rfl (by (try simp only [List.map_toArray, List.map_cons, List.map_nil]); first | done | rfl | (simp only [List.length_drop, List.length_take]; rfl)) ?_
                 with_reducible refine (laws_toGateway.calls kj74 _ _ l0_0 t197 _ ?side1 ?side2 A114.out).mono ?_
                 (case side1 => repeat (first | exact (Kd.C_below HR0_0.out HB.out) | (with_reducible refine Kd.C_alloc ?_ _) | (with_reducible refine Kd.C_drewN ?_ _) | (with_reducible refine Kd.C_drew ?_)))
                 (case side2 => exact HC0_0.out)
                 rintro e w133 ⟨v198, rfl, ho0, hb⟩
                 refine ⟨_, rfl, ?_⟩
                 have n0_ := Aside0.mk (Kd.R_elder' (pkr HO_175000.out) (Kd.R_base ho0) hb)
                 have n1_ := Aside0.mk (Kd.R_elder' (pkr HO_179000.out) (Kd.R_base ho0) hb)
                 have n2_ := Aside0.mk (Kd.R_elder' (pkr HO_186000.out) (Kd.R_base ho0) hb)
                 have n3_ := Aside0.mk (Kd.R_lower (Kd.R_new' (Kd.R_new' (Kd.R_new' ho0 (Kd.R_lt (pkr HO_175000.out))) (Kd.R_lt (pkr HO_179000.out))) (Kd.R_lt (pkr HO_186000.out))) (below_size (by repeat (first | (with_reducible first | exact HB.out | apply below_alloc | apply pw_below_drewN | apply below_drew1 | refine below_set ?_ GE162.out | refine below_set ?_ GE163.out | refine below_set ?_ GE174.out | refine below_set ?_ GE178.out | refine below_set ?_ GE185.out | refine below_set ?_ GE206.out) | exact HB.out))))
                 have n4_ := Aside0.mk (blk_below (g := gb162) (o := .cells #[.slice A0_0 l0_0.length c0_0] 51 (0, 0)) (pkb BK162.out) hb)
                 have n5_ := Aside0.mk (blk_below (g := gb163) (o := .cells #[.int .i64 a1_0, .int .i64 a1_1] 66 (0, 0)) (pkb BK163.out) hb)
                 have n6_ := Aside0.mk (blk_below (g := gb174) (o := .cells #[.slice Ao29 t170.length co29] 56 (0, 0)) (pkb BK174.out) hb)
                 have n7_ := Aside0.mk (blk_below (g := gb178) (o := .cells #[.slice Ao35 t192.length co35] 56 (0, 0)) (pkb BK178.out) hb)
                 have n8_ := Aside0.mk (blk_below (g := gb185) (o := .cells #[.slice Ao46 t181.length co46] 56 (0, 0)) (pkb BK185.out) hb)
                 have n9_ := Aside0.mk (blk_below (g := gb206) (o := .cells #[.slice none 0 0] 56 (0, 0)) (pkb BK206.out) hb)
                 have n10_ := Aside0.mk (below_step (by repeat (first | (with_reducible first | exact HB.out | apply below_alloc | apply pw_below_drewN | apply below_drew1 | refine below_set ?_ GE162.out | refine below_set ?_ GE163.out | refine below_set ?_ GE174.out | refine below_set ?_ GE178.out | refine below_set ?_ GE185.out | refine below_set ?_ GE206.out) | exact HB.out)) hb)
                 clear HO_175000
                 clear HO_179000
                 clear HO_186000
                 clear BK162
                 clear BK163
                 clear BK174
                 clear BK178
                 clear BK185
                 clear BK206
                 clear HB
                 have HO_175000 := n0_
                 have HO_179000 := n1_
                 have HO_186000 := n2_
                 have HO199 := n3_
                 have BK162 := n4_
                 have BK163 := n5_
                 have BK174 := n6_
                 have BK178 := n7_
                 have BK185 := n8_
                 have BK206 := n9_
                 have HB := n10_
                 clear n0_ n1_ n2_ n3_ n4_ n5_ n6_ n7_ n8_ n9_ n10_
                 (try clear hb)
                 (try clear hb2)
                 (try clear hk)
                 (try clear hi)
                 (try clear ho0)
                 refine hK.out _ _ ⟨(blk_cell BK162.out 0).trans rfl, (blk_cell BK163.out 0).trans rfl, (blk_cell BK163.out 1).trans rfl⟩ (fun hHeld => ?_)
                 clear hK K
                 refine norm_ (a' := ?_) ?_ ?_
                 rotate_left
                 ·show Act.put _ (some 81) _ = _
                  simp only [Act.put, List.setIfInBounds_toArray, List.set_cons_zero, List.set_cons_succ, i64_w, i32_w]
                  rfl
                 refine one_ (i := 3) (N := some 83) #[true, true, true, true, false, false, false, false, true, false, false] rfl rfl (one_of HT_.out (by kernel_rfl)) (by decide) (fun K hK => ?_)
                 refine goes_ Try.func44 (by kernel_rfl) rfl #[.agg #[.int .i64 a1_0, .int .i64 a1_1]] (by rfl) rfl rfl (by (try simp only [List.map_toArray, List.map_cons, List.map_nil]); first | done | rfl | (simp only [List.length_drop, List.length_take]; rfl)) ?_
                 with_reducible refine (laws_toPacket.calls a1_0 a1_1 t200 t201 _ A115.out).mono ?_
                 rintro e w134 ⟨rfl, hb⟩
                 refine ⟨_, rfl, ?_⟩
                 have n0_ := Aside0.mk (Kd.R_below (pkr HO_175000.out) hb)
                 have n1_ := Aside0.mk (Kd.R_below (pkr HO_179000.out) hb)
                 have n2_ := Aside0.mk (Kd.R_below (pkr HO_186000.out) hb)
                 have n3_ := Aside0.mk (Kd.R_below (pkr HO199.out) hb)
                 have n4_ := Aside0.mk (blk_below (g := gb162) (o := .cells #[.slice A0_0 l0_0.length c0_0] 51 (0, 0)) (pkb BK162.out) hb)
                 have n5_ := Aside0.mk (blk_below (g := gb163) (o := .cells #[.int .i64 a1_0, .int .i64 a1_1] 66 (0, 0)) (pkb BK163.out) hb)
                 have n6_ := Aside0.mk (blk_below (g := gb174) (o := .cells #[.slice Ao29 t170.length co29] 56 (0, 0)) (pkb BK174.out) hb)
                 have n7_ := Aside0.mk (blk_below (g := gb178) (o := .cells #[.slice Ao35 t192.length co35] 56 (0, 0)) (pkb BK178.out) hb)
                 have n8_ := Aside0.mk (blk_below (g := gb185) (o := .cells #[.slice Ao46 t181.length co46] 56 (0, 0)) (pkb BK185.out) hb)
                 have n9_ := Aside0.mk (blk_below (g := gb206) (o := .cells #[.slice none 0 0] 56 (0, 0)) (pkb BK206.out) hb)
                 have n10_ := Aside0.mk (below_step (by repeat (first | (with_reducible first | exact HB.out | apply below_alloc | apply pw_below_drewN | apply below_drew1 | refine below_set ?_ GE162.out | refine below_set ?_ GE163.out | refine below_set ?_ GE174.out | refine below_set ?_ GE178.out | refine below_set ?_ GE185.out | refine below_set ?_ GE206.out) | exact HB.out)) hb)
                 clear HO_175000
                 clear HO_179000
                 clear HO_186000
                 clear HO199
                 clear BK162
                 clear BK163
                 clear BK174
                 clear BK178
                 clear BK185
                 clear BK206
                 clear HB
                 have HO_175000 := n0_
                 have HO_179000 := n1_
                 have HO_186000 := n2_
                 have HO199 := n3_
                 have BK162 := n4_
                 have BK163 := n5_
                 have BK174 := n6_
                 have BK178 := n7_
                 have BK185 := n8_
                 have BK206 := n9_
                 have HB := n10_
                 clear n0_ n1_ n2_ n3_ n4_ n5_ n6_ n7_ n8_ n9_ n10_
                 (try clear hb)
                 (try clear hb2)
                 (try clear hk)
                 (try clear hi)
                 obtain ⟨Ao135, co135, eo135⟩ := Kd.R_slice HO199.out
                 (first | subst eo135 | (injection eo135 with f1_ f2_ f3_; have f4_ := f1_.symm; have f5_ := f3_.symm; clear f1_ f2_ f3_; subst f4_; subst f5_))
                 refine hK.out _ _ ⟨(blk_cell BK162.out 0).trans rfl, (blk_cell BK163.out 0).trans rfl, (blk_cell BK163.out 1).trans rfl⟩ (fun hHeld => ?_)
                 clear hK K
                 refine norm_ (a' := ?_) ?_ ?_
                 rotate_left
                 ·show Act.put _ (some 83) _ = _
                  simp only [Act.put, List.setIfInBounds_toArray, List.set_cons_zero, List.set_cons_succ, i64_w, i32_w]
                  rfl
                 refine one_ (i := 4) (N := some 84) #[true, true, true, true, true, false, false, false, true, false, false] rfl rfl (one_of HT_.out (by kernel_rfl)) (by decide) (fun K hK => ?_)
                 refine goes_ Try.func45 (by kernel_rfl) rfl #[.agg #[.slice Ao135 t197.length co135], .agg #[.int .i64 t200, .int .i64 t201]] (by rfl) rfl rfl (by (try simp only [List.map_toArray, List.map_cons, List.map_nil]); first | done | rfl | (simp only [List.length_drop, List.length_take]; rfl)) ?_
                 with_reducible refine (impl_Receive.calls _ _ t197 t200 t201 t202 t205 _ ?side1 ?side2 A116.out).mono ?_
                 (case side1 => repeat (first | exact (Kd.R_reads' HO199.out).2.2 | (with_reducible refine Kd.C_alloc ?_ _) | (with_reducible refine Kd.C_drewN ?_ _) | (with_reducible refine Kd.C_drew ?_)))
                 (case side2 => exact (Kd.R_reads' HO199.out).2.1)
                 rintro e w136 ⟨v203, rfl, ho0, hb⟩
                 refine ⟨_, rfl, ?_⟩
                 have n0_ := Aside0.mk (Kd.R_elder' (pkr HO_175000.out) (Kd.R_base ho0) hb)
                 have n1_ := Aside0.mk (Kd.R_elder' (pkr HO_179000.out) (Kd.R_base ho0) hb)
                 have n2_ := Aside0.mk (Kd.R_elder' (pkr HO_186000.out) (Kd.R_base ho0) hb)
                 have n3_ := Aside0.mk (Kd.R_elder' (pkr HO199.out) (Kd.R_base ho0) hb)
                 have n4_ := Aside0.mk (Kd.R_lower (Kd.R_new' (Kd.R_new' (Kd.R_new' (Kd.R_new' ho0 (Kd.R_lt (pkr HO_175000.out))) (Kd.R_lt (pkr HO_179000.out))) (Kd.R_lt (pkr HO_186000.out))) (Kd.R_lt (pkr HO199.out))) (below_size (by repeat (first | (with_reducible first | exact HB.out | apply below_alloc | apply pw_below_drewN | apply below_drew1 | refine below_set ?_ GE162.out | refine below_set ?_ GE163.out | refine below_set ?_ GE174.out | refine below_set ?_ GE178.out | refine below_set ?_ GE185.out | refine below_set ?_ GE206.out) | exact HB.out))))
                 have n5_ := Aside0.mk (blk_below (g := gb162) (o := .cells #[.slice A0_0 l0_0.length c0_0] 51 (0, 0)) (pkb BK162.out) hb)
                 have n6_ := Aside0.mk (blk_below (g := gb163) (o := .cells #[.int .i64 a1_0, .int .i64 a1_1] 66 (0, 0)) (pkb BK163.out) hb)
                 have n7_ := Aside0.mk (blk_below (g := gb174) (o := .cells #[.slice Ao29 t170.length co29] 56 (0, 0)) (pkb BK174.out) hb)
                 have n8_ := Aside0.mk (blk_below (g := gb178) (o := .cells #[.slice Ao35 t192.length co35] 56 (0, 0)) (pkb BK178.out) hb)
                 have n9_ := Aside0.mk (blk_below (g := gb185) (o := .cells #[.slice Ao46 t181.length co46] 56 (0, 0)) (pkb BK185.out) hb)
                 have n10_ := Aside0.mk (blk_below (g := gb206) (o := .cells #[.slice none 0 0] 56 (0, 0)) (pkb BK206.out) hb)
                 have n11_ := Aside0.mk (below_step (by repeat (first | (with_reducible first | exact HB.out | apply below_alloc | apply pw_below_drewN | apply below_drew1 | refine below_set ?_ GE162.out | refine below_set ?_ GE163.out | refine below_set ?_ GE174.out | refine below_set ?_ GE178.out | refine below_set ?_ GE185.out | refine below_set ?_ GE206.out) | exact HB.out)) hb)
                 clear HO_175000
                 clear HO_179000
                 clear HO_186000
                 clear HO199
                 clear BK162
                 clear BK163
                 clear BK174
                 clear BK178
                 clear BK185
                 clear BK206
                 clear HB
                 have HO_175000 := n0_
                 have HO_179000 := n1_
                 have HO_186000 := n2_
                 have HO199 := n3_
                 have HO204 := n4_
                 have BK162 := n5_
                 have BK163 := n6_
                 have BK174 := n7_
                 have BK178 := n8_
                 have BK185 := n9_
                 have BK206 := n10_
                 have HB := n11_
                 clear n0_ n1_ n2_ n3_ n4_ n5_ n6_ n7_ n8_ n9_ n10_ n11_
                 (try clear hb)
                 (try clear hb2)
                 (try clear hk)
                 (try clear hi)
                 (try clear ho0)
                 refine hK.out _ _ ⟨(blk_cell BK162.out 0).trans rfl, (blk_cell BK163.out 0).trans rfl, (blk_cell BK163.out 1).trans rfl⟩ (fun hHeld => ?_)
                 clear hK K
                 refine norm_ (a' := ?_) ?_ ?_
                 rotate_left
                 ·show Act.put _ (some 84) _ = _
                  simp only [Act.put, List.setIfInBounds_toArray, List.set_cons_zero, List.set_cons_succ, i64_w, i32_w]
                  rfl
                 refine pure_ (i := 5) (N := some 79) (v := ?_) (a' := ?_) #[true, true, true, true, true, true, false, false, true, false, false] rfl rfl (any_of HT_.out (by kernel_rfl)) (fun _ _ _ h => h) (Or.inl ⟨by rfl, ?_⟩) ?_ ?_
                 rotate_left
                 ·intro w'
                  go_simp
                  with_reducible rfl
                 rotate_left
                 ·simp only [Act.put, List.setIfInBounds_toArray, List.set_cons_zero, List.set_cons_succ, i64_w, i32_w]
                  rfl
                 refine pure_ (i := 6) (N := some 85) (v := ?_) (a' := ?_) #[true, true, true, true, true, true, true, false, true, false, false] rfl rfl (any_of HT_.out (by kernel_rfl)) (fun _ _ _ h => h) (Or.inl ⟨by rfl, ?_⟩) ?_ ?_
                 rotate_left
                 ·intro w'
                  go_simp
                  with_reducible rfl
                 rotate_left
                 ·simp only [Act.put, List.setIfInBounds_toArray, List.set_cons_zero, List.set_cons_succ, i64_w, i32_w]
                  rfl
                 refine pure_ (i := 7) (N := some 86) (v := ?_) (a' := ?_) #[true, true, true, true, true, true, true, true, true, false, false] rfl rfl (any_of HT_.out (by kernel_rfl)) (fun _ _ _ h => h) (Or.inl ⟨by rfl, ?_⟩) ?_ ?_
                 rotate_left
                 ·intro w'
                  go_simp
                  with_reducible rfl
                 rotate_left
                 ·simp only [Act.put, List.setIfInBounds_toArray, List.set_cons_zero, List.set_cons_succ, i64_w, i32_w]
                  rfl
                 exact norm_ (by simp only [putAll, Act.put, List.setIfInBounds_toArray, List.set_cons_zero, List.set_cons_succ]) (hCont (.slice Ao135 t197.length co135, v203, gb206) _ ⟨hHeld, (pkr (Kd.R_mono HO199.out (fun _ hk => ⟨hk.2, ⟨hk.1.1.1.2, ⟨hk.1.1.2, hk.1.2⟩⟩⟩))), (pkr (Kd.R_mono HO204.out (fun _ hk => ⟨hk.2, ⟨hk.1.1.1.2, ⟨hk.1.1.2, hk.1.2⟩⟩⟩))), (pkr (Kd.R_mono HO_175000.out (fun _ hk => ⟨hk.1.2, ⟨hk.2, ⟨hk.1.1.1, hk.1.1.2⟩⟩⟩))), (pkr (Kd.R_mono HO_179000.out (fun _ hk => ⟨hk.1.2, ⟨hk.2, ⟨hk.1.1.1, hk.1.1.2⟩⟩⟩))), (pkr (Kd.R_mono HO_186000.out (fun _ hk => ⟨hk.1.2, ⟨hk.2, ⟨hk.1.1.1, hk.1.1.2⟩⟩⟩))), (pkb BK162.out), (pkb BK163.out), (pkb BK174.out), (pkb BK178.out), (pkb BK185.out), (pkb BK206.out), GW206.out, GE206.out, NB162_206.out, NB206_162.out, NB163_206.out, NB206_163.out, NB174_206.out, NB206_174.out, NB178_206.out, NB206_178.out, NB185_206.out, NB206_185.out, (by repeat (first | (with_reducible first | exact HB.out | apply below_alloc | apply pw_below_drewN | apply below_drew1 | refine below_set ?_ GE162.out | refine below_set ?_ GE163.out | refine below_set ?_ GE174.out | refine below_set ?_ GE178.out | refine below_set ?_ GE185.out | refine below_set ?_ GE206.out) | exact HB.out))⟩)
               rintro ⟨v198, v203, gb206⟩ w137 ⟨hS_, h0_, h1_, h2_, h3_, h4_, h5_, h6_, h7_, h8_, h9_, h10_, h11_, h12_, h13_, h14_, h15_, h16_, h17_, h18_, h19_, h20_, h21_, h22_, h23_⟩
               have n0_ : Aside0 (Kd.R (Kd.int .i64) 3 w137 w.heap.size (fun k_ => some k_ ≠ (v203 : Value).ownBlock ∧ some k_ ≠ (.slice Ao29 t170.length co29 : Value).ownBlock ∧ some k_ ≠ (.slice Ao35 t192.length co35 : Value).ownBlock ∧ some k_ ≠ (.slice Ao46 t181.length co46 : Value).ownBlock) v198 t197) := ⟨h0_⟩
               have n1_ : Aside0 (Kd.R (Kd.int .i64) 3 w137 w.heap.size (fun k_ => some k_ ≠ (v198 : Value).ownBlock ∧ some k_ ≠ (.slice Ao29 t170.length co29 : Value).ownBlock ∧ some k_ ≠ (.slice Ao35 t192.length co35 : Value).ownBlock ∧ some k_ ≠ (.slice Ao46 t181.length co46 : Value).ownBlock) v203 t202) := ⟨h1_⟩
               have n2_ : Aside0 (Kd.R (Kd.int .i64) 3 w137 w.heap.size (fun k_ => some k_ ≠ (v198 : Value).ownBlock ∧ some k_ ≠ (v203 : Value).ownBlock ∧ some k_ ≠ (.slice Ao35 t192.length co35 : Value).ownBlock ∧ some k_ ≠ (.slice Ao46 t181.length co46 : Value).ownBlock) (.slice Ao29 t170.length co29) t170) := ⟨h2_⟩
               have n3_ : Aside0 (Kd.R (Kd.int .i64) 3 w137 w.heap.size (fun k_ => some k_ ≠ (v198 : Value).ownBlock ∧ some k_ ≠ (v203 : Value).ownBlock ∧ some k_ ≠ (.slice Ao29 t170.length co29 : Value).ownBlock ∧ some k_ ≠ (.slice Ao46 t181.length co46 : Value).ownBlock) (.slice Ao35 t192.length co35) t192) := ⟨h3_⟩
               have n4_ : Aside0 (Kd.R (Kd.int .i64) 3 w137 w.heap.size (fun k_ => some k_ ≠ (v198 : Value).ownBlock ∧ some k_ ≠ (v203 : Value).ownBlock ∧ some k_ ≠ (.slice Ao29 t170.length co29 : Value).ownBlock ∧ some k_ ≠ (.slice Ao35 t192.length co35 : Value).ownBlock) (.slice Ao46 t181.length co46) t195) := ⟨h4_⟩
               have n5_ : Aside0 (w137.heap[gb162]? = some (.cells #[.slice A0_0 l0_0.length c0_0] 51 (0, 0))) := ⟨h5_⟩
               have n6_ : Aside0 (w137.heap[gb163]? = some (.cells #[.int .i64 a1_0, .int .i64 a1_1] 66 (0, 0))) := ⟨h6_⟩
               have n7_ : Aside0 (w137.heap[gb174]? = some (.cells #[.slice Ao29 t170.length co29] 56 (0, 0))) := ⟨h7_⟩
               have n8_ : Aside0 (w137.heap[gb178]? = some (.cells #[.slice Ao35 t192.length co35] 56 (0, 0))) := ⟨h8_⟩
               have n9_ : Aside0 (w137.heap[gb185]? = some (.cells #[.slice Ao46 t181.length co46] 56 (0, 0))) := ⟨h9_⟩
               have n10_ : Aside0 (w137.heap[gb206]? = some (.cells #[.slice none 0 0] 56 (0, 0))) := ⟨h10_⟩
               have n11_ : Aside0 (w.heap.size ≤ gb206) := ⟨h11_⟩
               have n12_ : Aside0 (w.heap.size ≤ gb206) := ⟨h12_⟩
               have n13_ : Aside0 (gb162 ≠ gb206) := ⟨h13_⟩
               have n14_ : Aside0 (gb206 ≠ gb162) := ⟨h14_⟩
               have n15_ : Aside0 (gb163 ≠ gb206) := ⟨h15_⟩
               have n16_ : Aside0 (gb206 ≠ gb163) := ⟨h16_⟩
               have n17_ : Aside0 (gb174 ≠ gb206) := ⟨h17_⟩
               have n18_ : Aside0 (gb206 ≠ gb174) := ⟨h18_⟩
               have n19_ : Aside0 (gb178 ≠ gb206) := ⟨h19_⟩
               have n20_ : Aside0 (gb206 ≠ gb178) := ⟨h20_⟩
               have n21_ : Aside0 (gb185 ≠ gb206) := ⟨h21_⟩
               have n22_ : Aside0 (gb206 ≠ gb185) := ⟨h22_⟩
               have n23_ : Aside0 (Below w.heap.size w w137) := ⟨h23_⟩
               clear HO_175000
               clear HO_179000
               clear HO_186000
               clear BK162
               clear BK163
               clear BK174
               clear BK178
               clear BK185
               clear HB
               clear h0_ h1_ h2_ h3_ h4_ h5_ h6_ h7_ h8_ h9_ h10_ h11_ h12_ h13_ h14_ h15_ h16_ h17_ h18_ h19_ h20_ h21_ h22_ h23_
               have HO199 := n0_
               have HO204 := n1_
               have HO_175000 := n2_
               have HO_179000 := n3_
               have HO_186000 := n4_
               have BK162 := n5_
               have BK163 := n6_
               have BK174 := n7_
               have BK178 := n8_
               have BK185 := n9_
               have BK206 := n10_
               have GW206 := n11_
               have GE206 := n12_
               have NB162_206 := n13_
               have NB206_162 := n14_
               have NB163_206 := n15_
               have NB206_163 := n16_
               have NB174_206 := n17_
               have NB206_174 := n18_
               have NB178_206 := n19_
               have NB206_178 := n20_
               have NB185_206 := n21_
               have NB206_185 := n22_
               have HB := n23_
               clear n0_ n1_ n2_ n3_ n4_ n5_ n6_ n7_ n8_ n9_ n10_ n11_ n12_ n13_ n14_ n15_ n16_ n17_ n18_ n19_ n20_ n21_ n22_ n23_
               have hHeld : w137.cell? ⟨gb162, 0, none⟩ = some (.slice A0_0 l0_0.length c0_0) ∧ w137.cell? ⟨gb163, 0, none⟩ = some (.int .i64 a1_0) ∧ w137.cell? ⟨gb163, 1, none⟩ = some (.int .i64 a1_1) := hS_
               obtain ⟨Ao138, co138, eo138⟩ := Kd.R_slice HO204.out
               (first | subst eo138 | (injection eo138 with f1_ f2_ f3_; have f4_ := f1_.symm; have f5_ := f3_.symm; clear f1_ f2_ f3_; subst f4_; subst f5_))
               refine norm_ (a' := ?_) ?_ ?_
               rotate_left
               ·simp only [putAll, Act.put, List.setIfInBounds_toArray, List.set_cons_zero, List.set_cons_succ]
                rfl
               refine one_ (i := 9) (N := none) #[true, true, true, true, true, true, true, true, true, true, false] rfl rfl (one_of HT_.out (by kernel_rfl)) (by decide) (fun K hK => ?_)
               have hs139 : w137.cell? ⟨gb206, 0, none⟩ = some (.slice none 0 0) := (blk_cell BK206.out 0).trans rfl
               have hfs139 := blk_frozen BK206.out 0
               have hns139_0 := NB162_206.out
               have hns139_1 := NB163_206.out
               have hns139_2 := NB174_206.out
               have hns139_3 := NB178_206.out
               have hns139_4 := NB185_206.out
               have hms139_0 := NB206_162.out
               have hms139_1 := NB206_163.out
               have hms139_2 := NB206_174.out
               have hms139_3 := NB206_178.out
               have hms139_4 := NB206_185.out
               refine skip_ (w1 := ?_) (by rfl) rfl ?_ ?_
               rotate_left
               ·go_simp
                rfl
               refine hK.out _ _ ⟨((cell_far (p := ⟨gb206, _, none⟩) NB162_206.out _).trans (hHeld.1)), ((cell_far (p := ⟨gb206, _, none⟩) NB163_206.out _).trans (hHeld.2.1)), ((cell_far (p := ⟨gb206, _, none⟩) NB163_206.out _).trans (hHeld.2.2))⟩ (fun hHeld => ?_)
               clear hK K
               refine pure_ (i := 10) (N := some 15) (v := ?_) (a' := ?_) #[true, true, true, true, true, true, true, true, true, true, true] rfl rfl (any_of HT_.out (by kernel_rfl)) (fun _ _ _ h => h) (Or.inl ⟨by rfl, ?_⟩) ?_ ?_
               rotate_left
               ·intro w'
                go_simp
                with_reducible rfl
               rotate_left
               ·simp only [Act.put, List.setIfInBounds_toArray, List.set_cons_zero, List.set_cons_succ, i64_w, i32_w]
                rfl
               refine done_ (done_of HT_.out (by kernel_rfl)) ?_
               have hnb140 := NB206_162.out
               have hnc140 := NB162_206.out
               have hnb141 := NB206_163.out
               have hnc141 := NB163_206.out
               have hnb142 := NB206_174.out
               have hnc142 := NB174_206.out
               have hnb143 := NB206_178.out
               have hnc143 := NB178_206.out
               have hnb144 := NB206_185.out
               have hnc144 := NB185_206.out
               have hcz145_0 : w137.cell? ⟨gb206, 0, none⟩ = some (.slice none 0 0) := (blk_cell BK206.out 0).trans rfl
               have hfz145_0 := blk_frozen BK206.out 0
               have hnb146 := NB174_162.out
               have hnc146 := NB162_174.out
               have hnb147 := NB174_163.out
               have hnc147 := NB163_174.out
               have hnb148 := NB174_178.out
               have hnc148 := NB178_174.out
               have hcz149_0 : w137.cell? ⟨gb174, 0, none⟩ = some (.slice Ao29 t170.length co29) := (blk_cell BK174.out 0).trans rfl
               have hfz149_0 := blk_frozen BK174.out 0
               try go_wp2_with (first | ((with_reducible refine gate_callee (f := 46) rfl ?_); refine goesL_ (some 89) rfl rfl Try.func46 (by kernel_rfl) rfl #[.agg #[.slice Ao138 t202.length co138], .agg #[.slice Ao29 t170.length co29]] rfl (by (try simp only [List.map_toArray, List.map_cons, List.map_nil]); first | done | rfl | (simp only [List.length_drop, List.length_take]; rfl)) ?_; (with_reducible refine (laws_eqGateway.calls kj74 _ _ t202 _ _ t170 true _ ?side1 ?side2 ?side3 ?side4 A117.out).mono ?_); (case side1 => refine (Kd.R_reads' (e := 3) (base := w.heap.size) (ok := fun k_ => (some k_ ≠ (v198 : Value).ownBlock ∧ (some k_ ≠ (.slice Ao29 t170.length co29 : Value).ownBlock ∧ (some k_ ≠ (.slice Ao35 t192.length co35 : Value).ownBlock ∧ some k_ ≠ (.slice Ao46 t181.length co46 : Value).ownBlock)))) (n := t202.length) (c := co138) ?_).2.2; exact (pkr ((Kd.R_mono (Kd.R_far (p := ⟨gb206, 0, none⟩) (Kd.R_types HO204.out BK206.out (by decide)) (fun _ hk => by first | exact hk.2 | simp_all) (.slice Ao138 t202.length co138)) (fun _ h_ => by first | exact h_.1 | simp_all))))); (case side2 => exact (Kd.R_reads' HO204.out).2.1); (case side3 => refine (Kd.R_reads' (e := 3) (base := w.heap.size) (ok := fun k_ => (some k_ ≠ (v198 : Value).ownBlock ∧ (some k_ ≠ (.slice Ao138 t202.length co138 : Value).ownBlock ∧ (some k_ ≠ (.slice Ao35 t192.length co35 : Value).ownBlock ∧ some k_ ≠ (.slice Ao46 t181.length co46 : Value).ownBlock)))) (n := t170.length) (c := co29) ?_).2.2; exact (pkr ((Kd.R_mono (Kd.R_far (p := ⟨gb206, 0, none⟩) (Kd.R_types HO_175000.out BK206.out (by decide)) (fun _ hk => by first | exact hk.2 | simp_all) (.slice Ao138 t202.length co138)) (fun _ h_ => by first | exact h_.1 | simp_all))))); (case side4 => exact (Kd.R_reads' HO_175000.out).2.1); rintro e w150 ⟨rfl, hb⟩; refine ⟨_, rfl, ?_⟩; have n0_ := Aside0.mk (Kd.R_below (pkr ((Kd.R_mono (Kd.R_far (p := ⟨gb206, 0, none⟩) (Kd.R_types HO_175000.out BK206.out (by decide)) (fun _ hk => by first | exact hk.2 | simp_all) (.slice Ao138 t202.length co138)) (fun _ h_ => by first | exact h_.1 | simp_all)))) hb); have n1_ := Aside0.mk (Kd.R_below (pkr ((Kd.R_mono (Kd.R_far (p := ⟨gb206, 0, none⟩) (Kd.R_types HO_179000.out BK206.out (by decide)) (fun _ hk => by first | exact hk.2 | simp_all) (.slice Ao138 t202.length co138)) (fun _ h_ => by first | exact h_.1 | simp_all)))) hb); have n2_ := Aside0.mk (Kd.R_below (pkr ((Kd.R_mono (Kd.R_far (p := ⟨gb206, 0, none⟩) (Kd.R_types HO_186000.out BK206.out (by decide)) (fun _ hk => by first | exact hk.2 | simp_all) (.slice Ao138 t202.length co138)) (fun _ h_ => by first | exact h_.1 | simp_all)))) hb); have n3_ := Aside0.mk (Kd.R_below (pkr ((Kd.R_mono (Kd.R_far (p := ⟨gb206, 0, none⟩) (Kd.R_types HO199.out BK206.out (by decide)) (fun _ hk => by first | exact hk.2 | simp_all) (.slice Ao138 t202.length co138)) (fun _ h_ => by first | exact h_.1 | simp_all)))) hb); have n4_ := Aside0.mk (Kd.R_below (pkr ((Kd.R_mono (Kd.R_far (p := ⟨gb206, 0, none⟩) (Kd.R_types HO204.out BK206.out (by decide)) (fun _ hk => by first | exact hk.2 | simp_all) (.slice Ao138 t202.length co138)) (fun _ h_ => by first | exact h_.1 | simp_all)))) hb); have n5_ := Aside0.mk (blk_below (g := gb162) (o := .cells #[.slice A0_0 l0_0.length c0_0] 51 (0, 0)) (by (with_reducible repeat (first | refine blk_drewN ?_ _ | refine blk_drew ?_ | refine blk_alloc ?_ _)); refine blk_far ?_ NB162_206.out _; (with_reducible repeat (first | refine blk_drewN ?_ _ | refine blk_drew ?_ | refine blk_alloc ?_ _)); exact BK162.out) hb); have n6_ := Aside0.mk (blk_below (g := gb163) (o := .cells #[.int .i64 a1_0, .int .i64 a1_1] 66 (0, 0)) (by (with_reducible repeat (first | refine blk_drewN ?_ _ | refine blk_drew ?_ | refine blk_alloc ?_ _)); refine blk_far ?_ NB163_206.out _; (with_reducible repeat (first | refine blk_drewN ?_ _ | refine blk_drew ?_ | refine blk_alloc ?_ _)); exact BK163.out) hb); have n7_ := Aside0.mk (blk_below (g := gb174) (o := .cells #[.slice Ao29 t170.length co29] 56 (0, 0)) (by (with_reducible repeat (first | refine blk_drewN ?_ _ | refine blk_drew ?_ | refine blk_alloc ?_ _)); refine blk_far ?_ NB174_206.out _; (with_reducible repeat (first | refine blk_drewN ?_ _ | refine blk_drew ?_ | refine blk_alloc ?_ _)); exact BK174.out) hb); have n8_ := Aside0.mk (blk_below (g := gb178) (o := .cells #[.slice Ao35 t192.length co35] 56 (0, 0)) (by (with_reducible repeat (first | refine blk_drewN ?_ _ | refine blk_drew ?_ | refine blk_alloc ?_ _)); refine blk_far ?_ NB178_206.out _; (with_reducible repeat (first | refine blk_drewN ?_ _ | refine blk_drew ?_ | refine blk_alloc ?_ _)); exact BK178.out) hb); have n9_ := Aside0.mk (blk_below (g := gb185) (o := .cells #[.slice Ao46 t181.length co46] 56 (0, 0)) (by (with_reducible repeat (first | refine blk_drewN ?_ _ | refine blk_drew ?_ | refine blk_alloc ?_ _)); refine blk_far ?_ NB185_206.out _; (with_reducible repeat (first | refine blk_drewN ?_ _ | refine blk_drew ?_ | refine blk_alloc ?_ _)); exact BK185.out) hb); have n10_ := Aside0.mk (blk_below (g := gb206) (o := .cells #[.slice Ao138 t202.length co138] 56 (0, 0)) (by (with_reducible repeat (first | refine blk_drewN ?_ _ | refine blk_drew ?_ | refine blk_alloc ?_ _)); refine blk_put (cs := #[.slice none 0 0]) ?_ 0 _ rfl; (with_reducible repeat (first | refine blk_drewN ?_ _ | refine blk_drew ?_ | refine blk_alloc ?_ _)); exact BK206.out) hb); have n11_ := Aside0.mk (below_step (by repeat (first | (with_reducible first | exact HB.out | apply below_alloc | apply pw_below_drewN | apply below_drew1 | refine below_set ?_ GE162.out | refine below_set ?_ GE163.out | refine below_set ?_ GE174.out | refine below_set ?_ GE178.out | refine below_set ?_ GE185.out | refine below_set ?_ GE206.out) | exact HB.out)) hb); clear HO_175000; clear HO_179000; clear HO_186000; clear HO199; clear HO204; clear BK162; clear BK163; clear BK174; clear BK178; clear BK185; clear BK206; clear HB; have HO_175000 := n0_; have HO_179000 := n1_; have HO_186000 := n2_; have HO199 := n3_; have HO204 := n4_; have BK162 := n5_; have BK163 := n6_; have BK174 := n7_; have BK178 := n8_; have BK185 := n9_; have BK206 := n10_; have HB := n11_; clear n0_ n1_ n2_ n3_ n4_ n5_ n6_ n7_ n8_ n9_ n10_ n11_; (try clear hb); (try clear hb2); (try clear hk); (try clear hi); have hcz151_0 : w150.cell? ⟨gb185, 0, none⟩ = some (.slice Ao46 t181.length co46) := (blk_cell BK185.out 0).trans rfl; have hfz151_0 := blk_frozen BK185.out 0) | ((with_reducible refine gate_callee (f := 48) rfl ?_); refine goesL_ (some 98) rfl rfl Try.func48 (by kernel_rfl) rfl #[.agg #[.slice Ao46 t195.length co46], .int .i64 1] rfl (by (try simp only [List.map_toArray, List.map_cons, List.map_nil]); first | done | (rw [show t195.length = t181.length from (Kd.R_reads' HO_186000.out).1.symm] <;> rfl) | rfl | (simp only [List.length_drop, List.length_take]; rfl)) ?_; (with_reducible refine (laws_heldGateway.calls kj74 _ _ t195 1 t208 _ ?side1 ?side2 A120.out).mono ?_); (case side1 => repeat (first | exact (Kd.R_reads' HO_186000.out).2.2 | (with_reducible refine Kd.C_alloc ?_ _) | (with_reducible refine Kd.C_drewN ?_ _) | (with_reducible refine Kd.C_drew ?_))); (case side2 => rw [show t195.length = t181.length from (Kd.R_reads' HO_186000.out).1.symm]; exact (Kd.R_reads' HO_186000.out).2.1); rintro e w152 ⟨rfl, hb⟩; refine ⟨_, rfl, ?_⟩; have n0_ := Aside0.mk (Kd.R_below (pkr HO_175000.out) hb); have n1_ := Aside0.mk (Kd.R_below (pkr HO_179000.out) hb); have n2_ := Aside0.mk (Kd.R_below (pkr HO_186000.out) hb); have n3_ := Aside0.mk (Kd.R_below (pkr HO199.out) hb); have n4_ := Aside0.mk (Kd.R_below (pkr HO204.out) hb); have n5_ := Aside0.mk (blk_below (g := gb162) (o := .cells #[.slice A0_0 l0_0.length c0_0] 51 (0, 0)) (pkb BK162.out) hb); have n6_ := Aside0.mk (blk_below (g := gb163) (o := .cells #[.int .i64 a1_0, .int .i64 a1_1] 66 (0, 0)) (pkb BK163.out) hb); have n7_ := Aside0.mk (blk_below (g := gb174) (o := .cells #[.slice Ao29 t170.length co29] 56 (0, 0)) (pkb BK174.out) hb); have n8_ := Aside0.mk (blk_below (g := gb178) (o := .cells #[.slice Ao35 t192.length co35] 56 (0, 0)) (pkb BK178.out) hb); have n9_ := Aside0.mk (blk_below (g := gb185) (o := .cells #[.slice Ao46 t181.length co46] 56 (0, 0)) (pkb BK185.out) hb); have n10_ := Aside0.mk (blk_below (g := gb206) (o := .cells #[.slice Ao138 t202.length co138] 56 (0, 0)) (pkb BK206.out) hb); have n11_ := Aside0.mk (below_step (by repeat (first | (with_reducible first | exact HB.out | apply below_alloc | apply pw_below_drewN | apply below_drew1 | refine below_set ?_ GE162.out | refine below_set ?_ GE163.out | refine below_set ?_ GE174.out | refine below_set ?_ GE178.out | refine below_set ?_ GE185.out | refine below_set ?_ GE206.out) | exact HB.out)) hb); clear HO_175000; clear HO_179000; clear HO_186000; clear HO199; clear HO204; clear BK162; clear BK163; clear BK174; clear BK178; clear BK185; clear BK206; clear HB; have HO_175000 := n0_; have HO_179000 := n1_; have HO_186000 := n2_; have HO199 := n3_; have HO204 := n4_; have BK162 := n5_; have BK163 := n6_; have BK174 := n7_; have BK178 := n8_; have BK185 := n9_; have BK206 := n10_; have HB := n11_; clear n0_ n1_ n2_ n3_ n4_ n5_ n6_ n7_ n8_ n9_ n10_ n11_; (try clear hb); (try clear hb2); (try clear hk); (try clear hi)))
               go_ret
               exact ⟨by first | rfl | (simp [errW_none, errW_some] <;> rfl) | (simp [*, errW_none, errW_some] <;> rfl), by repeat (first | (with_reducible first | exact HB.out | apply below_alloc | apply pw_below_drewN | apply below_drew1 | refine below_set ?_ GE162.out | refine below_set ?_ GE163.out | refine below_set ?_ GE174.out | refine below_set ?_ GE178.out | refine below_set ?_ GE185.out | refine below_set ?_ GE206.out) | exact HB.out)⟩
              ·rw [if_neg c122] at H
               exact absurd H (by simp)
            ·rw [if_neg c119] at H
             exact absurd H (by simp)
           ·replace c118 := Bool.eq_false_iff.mpr c118
            subst c118
            have H1 : (none) = some r := by rw [if_neg (show ¬ (false = true) by decide)] at H; exact H
            clear H
            have H := H1
            clear H1
            exact absurd H (by simp)
          ·rw [if_neg c113] at H
           exact absurd H (by simp)
     ·replace c73 := Bool.eq_false_iff.mpr c73
      subst c73
      have H1 : (none) = some r := by rw [if_neg (show ¬ (false = true) by decide)] at H; exact H
      clear H
      have H := H1
      clear H1
      exact absurd H (by simp)

end Go.Proofs.Ytmnmafoojniclaa.PFnExactReceive
