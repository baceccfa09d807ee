-- written by xprint.py for this seat
import Derived.Test.YtefbmfgifjphfaaDoorPFnExactFormatActx0
import Derived.Test.YtefbmfgifjphfaaDoorPFnExactFormatActx2
import Derived.Test.YtefbmfgifjphfaaDoorPFnExactFormatActx3
namespace Go.Proofs.YtefbmfgifjphfaaDoor.PFnExactFormatAct
open Go.RowKit Go.Proofs.YtefbmfgifjphfaaDoorW.PrintWords Go.Proofs.YtefbmfgifjphfaaDoorW.PrintLast Go.Proofs.YtefbmfgifjphfaaDoorW.PrintMore
attribute [local go_sem] max2_int min2_int max_two min_two max_three min_three max_four min_four   -- for this text's walks alone
set_option linter.unusedVariables false
set_option linter.unusedSimpArgs false

/-! ### impl_ActOk: function 26 -/
def impl_ActOk.f (a0_0 : Int) (a0_1 : Int) (a0_2 : Int) : Option (Bool) := if a0_0 = 1 then ((impl_within.f a0_1 1 50).bind fun t162 => (if t162 = true then ((impl_isHarvest.f a0_2).bind fun t163 => (some t163)) else (some false))) else (if a0_0 = 2 then (if a0_1 ≥ 0 then (if a0_1 ≤ a0_2 then (some (decide (a0_2 ≤ 10000))) else (some false)) else (some false)) else (if a0_0 = 3 then ((impl_within.f a0_1 0 24).bind fun t164 => (if t164 = true then ((impl_within.f a0_2 0 1).bind fun t165 => (some t165)) else (some false))) else (if a0_0 = 4 then ((impl_SpanOk.f a0_1 a0_2).bind fun t166 => (some t166)) else (if a0_0 = 5 then ((impl_IsValue.f a0_1).bind fun t167 => (if t167 = true then (some (a0_2 == 0)) else (some false))) else (some false)))))
set_option maxHeartbeats 8000000 in
set_option maxRecDepth 100000 in
theorem impl_ActOk.calls (a0_0 : Int) (a0_1 : Int) (a0_2 : Int) (r : Bool) (w : World) (h : impl_ActOk.f a0_0 a0_1 a0_2 = some r) :
  Calls Tryd.prog 26 #[.agg #[.int .i64 a0_0, .int .i64 a0_1, .int .i64 a0_2]] w fun e w' => e = .returned (.bool r) ∧ Below w.heap.size w w' := by
 have hu31 := Tryd.underlying31; have hu64 := Tryd.underlying64; have HB := am (Below.refl w.heap.size w); have H : (if a0_0 = 1 then ((impl_within.f a0_1 1 50).bind fun t162 => (if t162 = true then ((impl_isHarvest.f a0_2).bind fun t163 => (some t163)) else (some false))) else (if a0_0 = 2 then (if a0_1 ≥ 0 then (if a0_1 ≤ a0_2 then (some (decide (a0_2 ≤ 10000))) else (some false)) else (some false)) else (if a0_0 = 3 then ((impl_within.f a0_1 0 24).bind fun t164 => (if t164 = true then ((impl_within.f a0_2 0 1).bind fun t165 => (some t165)) else (some false))) else (if a0_0 = 4 then ((impl_SpanOk.f a0_1 a0_2).bind fun t166 => (some t166)) else (if a0_0 = 5 then ((impl_IsValue.f a0_1).bind fun t167 => (if t167 = true then (some (a0_2 == 0)) else (some false))) else (some false)))))) = some r := h; clear h
 by_cases c2 : a0_0 = 1
 ·rw [if_pos c2] at H
  have c2b0 : (a0_0 == 1) = true := beq_iff_eq.mpr c2; have c2b1 : (a0_0 != 1) = false := bne_eq_false_iff_eq.mpr c2; clear c2; replace H := Option.bind_eq_some_iff.mp H; obtain ⟨t162, A30, H⟩ := H; replace H : (if t162 = true then ((impl_isHarvest.f a0_2).bind fun t163 => (some t163)) else (some false)) = some r := H; have A3 := am A30; clear A30
  by_cases c4 : t162 = true
  ·subst c4
   have H1 : ((impl_isHarvest.f a0_2).bind fun t163 => (some t163)) = some r := by rw [if_pos rfl] at H; exact H
   clear H; have H := H1; clear H1; replace H := Option.bind_eq_some_iff.mp H; obtain ⟨t163, A50, H⟩ := H; replace H : (some t163) = some r := H; have A5 := am A50; clear A50; obtain rfl := Option.some.inj H; go_enter Tryd.func26, Tryd.ntmps26
   go_wp2_with (first | ((with_reducible refine gate_dst (N := 1) rfl ?_); refine box_event ?hg (N := 1) ?hd (cs := #[.int .i64 a0_0, .int .i64 a0_1, .int .i64 a0_2]) (t := 31) ?hr ?_; (case hd => rfl); (case hg => rfl); (case hr => first | (go_simp; done) | (go_simp; rfl)); intro gb161 hg w6 hbox hb; have BK161 := am (hbox); have GW161 := am ((by rw [hg]; exact (below_size (pkh HB.out)) : w.heap.size ≤ gb161)); replace HB := am (below_step (pkh HB.out) hb); have GE161 := GW161; clear hb hbox hg; obtain ⟨hcz7_0, hcz7_1, hcz7_2, hfz7_0, hfz7_1, hfz7_2⟩ := pq3 BK161.out) | ((with_reducible refine gate_callee (f := 39) rfl ?_); refine goesL_ (some 9) rfl rfl Tryd.func39 (by kernel_rfl) rfl #[.int .i64 a0_1, .int .i64 1, .int .i64 50] rfl (by (try simp only [List.map_toArray, List.map_cons, List.map_nil]); first | done | rfl | (simp only [List.length_drop, List.length_take]; rfl)) ?_; (with_reducible refine (impl_within.calls a0_1 1 50 true _ A3.out).mono ?_); rintro e w' ⟨rfl, ⟨nd, rfl⟩⟩; refine ⟨_, rfl, ?_⟩) | (go_at_call 40; (with_reducible refine (impl_isHarvest.calls a0_2 t163 _ A5.out).mono ?_); rintro e w' ⟨rfl, ⟨nd, rfl⟩⟩))
   go_ret
   exact ⟨by first | rfl | (simp [errW_none, errW_some] <;> rfl) | (simp [*, errW_none, errW_some] <;> rfl), by repeat (first | (with_reducible first | exact HB.out | apply bA | apply bN | apply b1 | refine bS ?_ (by assumption)) | exact HB.out)⟩
  ·replace c4 := Bool.eq_false_iff.mpr c4
   subst c4
   have H1 : (some false) = some r := by rw [if_neg (show ¬ (false = true) by decide)] at H; exact H
   clear H; have H := H1; clear H1; obtain rfl := Option.some.inj H; go_enter Tryd.func26, Tryd.ntmps26
   go_wp2_with (first | ((with_reducible refine gate_dst (N := 1) rfl ?_); refine box_event ?hg (N := 1) ?hd (cs := #[.int .i64 a0_0, .int .i64 a0_1, .int .i64 a0_2]) (t := 31) ?hr ?_; (case hd => rfl); (case hg => rfl); (case hr => first | (go_simp; done) | (go_simp; rfl)); intro gb161 hg w8 hbox hb; have BK161 := am (hbox); have GW161 := am ((by rw [hg]; exact (below_size (pkh HB.out)) : w.heap.size ≤ gb161)); replace HB := am (below_step (pkh HB.out) hb); have GE161 := GW161; clear hb hbox hg; obtain ⟨hcz9_0, hcz9_1, hcz9_2, hfz9_0, hfz9_1, hfz9_2⟩ := pq3 BK161.out) | ((with_reducible refine gate_callee (f := 39) rfl ?_); refine goesL_ (some 9) rfl rfl Tryd.func39 (by kernel_rfl) rfl #[.int .i64 a0_1, .int .i64 1, .int .i64 50] rfl (by (try simp only [List.map_toArray, List.map_cons, List.map_nil]); first | done | rfl | (simp only [List.length_drop, List.length_take]; rfl)) ?_; (with_reducible refine (impl_within.calls a0_1 1 50 false _ A3.out).mono ?_); rintro e w' ⟨rfl, ⟨nd, rfl⟩⟩; refine ⟨_, rfl, ?_⟩))
   go_ret
   exact ⟨by first | rfl | (simp [errW_none, errW_some] <;> rfl) | (simp [*, errW_none, errW_some] <;> rfl), by repeat (first | (with_reducible first | exact HB.out | apply bA | apply bN | apply b1 | refine bS ?_ (by assumption)) | exact HB.out)⟩
 ·rw [if_neg c2] at H
  have c2b0 : (a0_0 == 1) = false := beq_eq_false_iff_ne.mpr c2; have c2b1 : (a0_0 != 1) = true := bne_iff_ne.mpr c2
  by_cases c10 : a0_0 = 2
  ·rw [if_pos c10] at H
   have c10b0 : (a0_0 == 2) = true := beq_iff_eq.mpr c10; have c10b1 : (a0_0 != 2) = false := bne_eq_false_iff_eq.mpr c10; clear c10
   by_cases c11 : a0_1 ≥ 0
   ·rw [if_pos c11] at H
    have c11b0 : decide (0 ≤ a0_1) = true := decide_eq_true c11; clear c11
    by_cases c12 : a0_1 ≤ a0_2
    ·rw [if_pos c12] at H
     have c12b0 : decide (a0_1 ≤ a0_2) = true := decide_eq_true c12; clear c12; obtain rfl := Option.some.inj H; go_enter Tryd.func26, Tryd.ntmps26
     go_wp2_with (first | ((with_reducible refine gate_dst (N := 1) rfl ?_); refine box_event ?hg (N := 1) ?hd (cs := #[.int .i64 a0_0, .int .i64 a0_1, .int .i64 a0_2]) (t := 31) ?hr ?_; (case hd => rfl); (case hg => rfl); (case hr => first | (go_simp; done) | (go_simp; rfl)); intro gb161 hg w13 hbox hb; have BK161 := am (hbox); have GW161 := am ((by rw [hg]; exact (below_size (pkh HB.out)) : w.heap.size ≤ gb161)); replace HB := am (below_step (pkh HB.out) hb); have GE161 := GW161; clear hb hbox hg; obtain ⟨hcz14_0, hcz14_1, hcz14_2, hfz14_0, hfz14_1, hfz14_2⟩ := pq3 BK161.out))
     go_ret
     exact ⟨by first | rfl | (simp [errW_none, errW_some] <;> rfl) | (simp [*, errW_none, errW_some] <;> rfl), by repeat (first | (with_reducible first | exact HB.out | apply bA | apply bN | apply b1 | refine bS ?_ (by assumption)) | exact HB.out)⟩
    ·rw [if_neg c12] at H
     have c12b0 : decide (a0_1 ≤ a0_2) = false := decide_eq_false c12; clear c12; obtain rfl := Option.some.inj H; go_enter Tryd.func26, Tryd.ntmps26
     go_wp2_with (first | ((with_reducible refine gate_dst (N := 1) rfl ?_); refine box_event ?hg (N := 1) ?hd (cs := #[.int .i64 a0_0, .int .i64 a0_1, .int .i64 a0_2]) (t := 31) ?hr ?_; (case hd => rfl); (case hg => rfl); (case hr => first | (go_simp; done) | (go_simp; rfl)); intro gb161 hg w15 hbox hb; have BK161 := am (hbox); have GW161 := am ((by rw [hg]; exact (below_size (pkh HB.out)) : w.heap.size ≤ gb161)); replace HB := am (below_step (pkh HB.out) hb); have GE161 := GW161; clear hb hbox hg; obtain ⟨hcz16_0, hcz16_1, hcz16_2, hfz16_0, hfz16_1, hfz16_2⟩ := pq3 BK161.out))
     go_ret
     exact ⟨by first | rfl | (simp [errW_none, errW_some] <;> rfl) | (simp [*, errW_none, errW_some] <;> rfl), by repeat (first | (with_reducible first | exact HB.out | apply bA | apply bN | apply b1 | refine bS ?_ (by assumption)) | exact HB.out)⟩
   ·rw [if_neg c11] at H
    have c11b0 : decide (0 ≤ a0_1) = false := decide_eq_false c11; clear c11; obtain rfl := Option.some.inj H; go_enter Tryd.func26, Tryd.ntmps26
    go_wp2_with (first | ((with_reducible refine gate_dst (N := 1) rfl ?_); refine box_event ?hg (N := 1) ?hd (cs := #[.int .i64 a0_0, .int .i64 a0_1, .int .i64 a0_2]) (t := 31) ?hr ?_; (case hd => rfl); (case hg => rfl); (case hr => first | (go_simp; done) | (go_simp; rfl)); intro gb161 hg w17 hbox hb; have BK161 := am (hbox); have GW161 := am ((by rw [hg]; exact (below_size (pkh HB.out)) : w.heap.size ≤ gb161)); replace HB := am (below_step (pkh HB.out) hb); have GE161 := GW161; clear hb hbox hg; obtain ⟨hcz18_0, hcz18_1, hcz18_2, hfz18_0, hfz18_1, hfz18_2⟩ := pq3 BK161.out))
    go_ret
    exact ⟨by first | rfl | (simp [errW_none, errW_some] <;> rfl) | (simp [*, errW_none, errW_some] <;> rfl), by repeat (first | (with_reducible first | exact HB.out | apply bA | apply bN | apply b1 | refine bS ?_ (by assumption)) | exact HB.out)⟩
  ·rw [if_neg c10] at H
   have c10b0 : (a0_0 == 2) = false := beq_eq_false_iff_ne.mpr c10; have c10b1 : (a0_0 != 2) = true := bne_iff_ne.mpr c10
   by_cases c19 : a0_0 = 3
   ·rw [if_pos c19] at H
    have c19b0 : (a0_0 == 3) = true := beq_iff_eq.mpr c19; have c19b1 : (a0_0 != 3) = false := bne_eq_false_iff_eq.mpr c19; clear c19; replace H := Option.bind_eq_some_iff.mp H; obtain ⟨t164, A200, H⟩ := H; replace H : (if t164 = true then ((impl_within.f a0_2 0 1).bind fun t165 => (some t165)) else (some false)) = some r := H; have A20 := am A200; clear A200
    by_cases c21 : t164 = true
    ·subst c21
     have H1 : ((impl_within.f a0_2 0 1).bind fun t165 => (some t165)) = some r := by rw [if_pos rfl] at H; exact H
     clear H; have H := H1; clear H1; replace H := Option.bind_eq_some_iff.mp H; obtain ⟨t165, A220, H⟩ := H; replace H : (some t165) = some r := H; have A22 := am A220; clear A220; obtain rfl := Option.some.inj H; go_enter Tryd.func26, Tryd.ntmps26
     go_wp2_with (first | ((with_reducible refine gate_dst (N := 1) rfl ?_); refine box_event ?hg (N := 1) ?hd (cs := #[.int .i64 a0_0, .int .i64 a0_1, .int .i64 a0_2]) (t := 31) ?hr ?_; (case hd => rfl); (case hg => rfl); (case hr => first | (go_simp; done) | (go_simp; rfl)); intro gb161 hg w23 hbox hb; have BK161 := am (hbox); have GW161 := am ((by rw [hg]; exact (below_size (pkh HB.out)) : w.heap.size ≤ gb161)); replace HB := am (below_step (pkh HB.out) hb); have GE161 := GW161; clear hb hbox hg; obtain ⟨hcz24_0, hcz24_1, hcz24_2, hfz24_0, hfz24_1, hfz24_2⟩ := pq3 BK161.out) | ((with_reducible refine gate_callee (f := 39) rfl ?_); refine goesL_ (some 36) rfl rfl Tryd.func39 (by kernel_rfl) rfl #[.int .i64 a0_1, .int .i64 0, .int .i64 24] rfl (by (try simp only [List.map_toArray, List.map_cons, List.map_nil]); first | done | rfl | (simp only [List.length_drop, List.length_take]; rfl)) ?_; (with_reducible refine (impl_within.calls a0_1 0 24 true _ A20.out).mono ?_); rintro e w' ⟨rfl, ⟨nd, rfl⟩⟩; refine ⟨_, rfl, ?_⟩) | (go_at_call 39; (with_reducible refine (impl_within.calls a0_2 0 1 t165 _ A22.out).mono ?_); rintro e w' ⟨rfl, ⟨nd, rfl⟩⟩))
     go_ret
     exact ⟨by first | rfl | (simp [errW_none, errW_some] <;> rfl) | (simp [*, errW_none, errW_some] <;> rfl), by repeat (first | (with_reducible first | exact HB.out | apply bA | apply bN | apply b1 | refine bS ?_ (by assumption)) | exact HB.out)⟩
    ·replace c21 := Bool.eq_false_iff.mpr c21
     subst c21
     have H1 : (some false) = some r := by rw [if_neg (show ¬ (false = true) by decide)] at H; exact H
     clear H; have H := H1; clear H1; obtain rfl := Option.some.inj H; go_enter Tryd.func26, Tryd.ntmps26
     go_wp2_with (first | ((with_reducible refine gate_dst (N := 1) rfl ?_); refine box_event ?hg (N := 1) ?hd (cs := #[.int .i64 a0_0, .int .i64 a0_1, .int .i64 a0_2]) (t := 31) ?hr ?_; (case hd => rfl); (case hg => rfl); (case hr => first | (go_simp; done) | (go_simp; rfl)); intro gb161 hg w25 hbox hb; have BK161 := am (hbox); have GW161 := am ((by rw [hg]; exact (below_size (pkh HB.out)) : w.heap.size ≤ gb161)); replace HB := am (below_step (pkh HB.out) hb); have GE161 := GW161; clear hb hbox hg; obtain ⟨hcz26_0, hcz26_1, hcz26_2, hfz26_0, hfz26_1, hfz26_2⟩ := pq3 BK161.out) | ((with_reducible refine gate_callee (f := 39) rfl ?_); refine goesL_ (some 36) rfl rfl Tryd.func39 (by kernel_rfl) rfl #[.int .i64 a0_1, .int .i64 0, .int .i64 24] rfl (by (try simp only [List.map_toArray, List.map_cons, List.map_nil]); first | done | rfl | (simp only [List.length_drop, List.length_take]; rfl)) ?_; (with_reducible refine (impl_within.calls a0_1 0 24 false _ A20.out).mono ?_); rintro e w' ⟨rfl, ⟨nd, rfl⟩⟩; refine ⟨_, rfl, ?_⟩))
     go_ret
     exact ⟨by first | rfl | (simp [errW_none, errW_some] <;> rfl) | (simp [*, errW_none, errW_some] <;> rfl), by repeat (first | (with_reducible first | exact HB.out | apply bA | apply bN | apply b1 | refine bS ?_ (by assumption)) | exact HB.out)⟩
   ·rw [if_neg c19] at H
    have c19b0 : (a0_0 == 3) = false := beq_eq_false_iff_ne.mpr c19; have c19b1 : (a0_0 != 3) = true := bne_iff_ne.mpr c19
    by_cases c27 : a0_0 = 4
    ·rw [if_pos c27] at H
     have c27b0 : (a0_0 == 4) = true := beq_iff_eq.mpr c27; have c27b1 : (a0_0 != 4) = false := bne_eq_false_iff_eq.mpr c27; clear c27; replace H := Option.bind_eq_some_iff.mp H; obtain ⟨t166, A280, H⟩ := H; replace H : (some t166) = some r := H; have A28 := am A280; clear A280; obtain rfl := Option.some.inj H; go_enter Tryd.func26, Tryd.ntmps26
     go_wp2_with (first | ((with_reducible refine gate_dst (N := 1) rfl ?_); refine box_event ?hg (N := 1) ?hd (cs := #[.int .i64 a0_0, .int .i64 a0_1, .int .i64 a0_2]) (t := 31) ?hr ?_; (case hd => rfl); (case hg => rfl); (case hr => first | (go_simp; done) | (go_simp; rfl)); intro gb161 hg w29 hbox hb; have BK161 := am (hbox); have GW161 := am ((by rw [hg]; exact (below_size (pkh HB.out)) : w.heap.size ≤ gb161)); replace HB := am (below_step (pkh HB.out) hb); have GE161 := GW161; clear hb hbox hg; obtain ⟨hcz30_0, hcz30_1, hcz30_2, hfz30_0, hfz30_1, hfz30_2⟩ := pq3 BK161.out) | ((with_reducible refine gate_callee (f := 41) rfl ?_); refine goesL_ (some 49) rfl rfl Tryd.func41 (by kernel_rfl) rfl #[.agg #[.int .i64 a0_1, .int .i64 a0_2]] rfl (by (try simp only [List.map_toArray, List.map_cons, List.map_nil]); first | done | rfl | (simp only [List.length_drop, List.length_take]; rfl)) ?_; (with_reducible refine (impl_SpanOk.calls a0_1 a0_2 t166 _ A28.out).mono ?_); rintro e w31 ⟨rfl, hb⟩; refine ⟨_, rfl, ?_⟩; replace BK161 := am (blk_below (pkb BK161.out) hb); replace HB := am (below_step (pkh HB.out) hb); (try clear hb); (try clear hb2); (try clear hk); (try clear hi)))
     go_ret
     exact ⟨by first | rfl | (simp [errW_none, errW_some] <;> rfl) | (simp [*, errW_none, errW_some] <;> rfl), by repeat (first | (with_reducible first | exact HB.out | apply bA | apply bN | apply b1 | refine bS ?_ (by assumption)) | exact HB.out)⟩
    ·rw [if_neg c27] at H
     have c27b0 : (a0_0 == 4) = false := beq_eq_false_iff_ne.mpr c27; have c27b1 : (a0_0 != 4) = true := bne_iff_ne.mpr c27
     by_cases c32 : a0_0 = 5
     ·rw [if_pos c32] at H
      have c32b0 : (a0_0 == 5) = true := beq_iff_eq.mpr c32; have c32b1 : (a0_0 != 5) = false := bne_eq_false_iff_eq.mpr c32; clear c32; replace H := Option.bind_eq_some_iff.mp H; obtain ⟨t167, A330, H⟩ := H; replace H : (if t167 = true then (some (a0_2 == 0)) else (some false)) = some r := H; have A33 := am A330; clear A330
      by_cases c34 : t167 = true
      ·subst c34
       have H1 : (some (a0_2 == 0)) = some r := by rw [if_pos rfl] at H; exact H
       clear H; have H := H1; clear H1; obtain rfl := Option.some.inj H; go_enter Tryd.func26, Tryd.ntmps26
       go_wp2_with (first | ((with_reducible refine gate_dst (N := 1) rfl ?_); refine box_event ?hg (N := 1) ?hd (cs := #[.int .i64 a0_0, .int .i64 a0_1, .int .i64 a0_2]) (t := 31) ?hr ?_; (case hd => rfl); (case hg => rfl); (case hr => first | (go_simp; done) | (go_simp; rfl)); intro gb161 hg w35 hbox hb; have BK161 := am (hbox); have GW161 := am ((by rw [hg]; exact (below_size (pkh HB.out)) : w.heap.size ≤ gb161)); replace HB := am (below_step (pkh HB.out) hb); have GE161 := GW161; clear hb hbox hg; obtain ⟨hcz36_0, hcz36_1, hcz36_2, hfz36_0, hfz36_1, hfz36_2⟩ := pq3 BK161.out) | ((with_reducible refine gate_callee (f := 42) rfl ?_); refine goesL_ (some 54) rfl rfl Tryd.func42 (by kernel_rfl) rfl #[.int .i64 a0_1] rfl (by (try simp only [List.map_toArray, List.map_cons, List.map_nil]); first | done | rfl | (simp only [List.length_drop, List.length_take]; rfl)) ?_; (with_reducible refine (impl_IsValue.calls a0_1 true _ A33.out).mono ?_); rintro e w' ⟨rfl, ⟨nd, rfl⟩⟩; refine ⟨_, rfl, ?_⟩))
       go_ret
       exact ⟨by first | rfl | (simp [errW_none, errW_some] <;> rfl) | (simp [*, errW_none, errW_some] <;> rfl), by repeat (first | (with_reducible first | exact HB.out | apply bA | apply bN | apply b1 | refine bS ?_ (by assumption)) | exact HB.out)⟩
      ·replace c34 := Bool.eq_false_iff.mpr c34
       subst c34
       have H1 : (some false) = some r := by rw [if_neg (show ¬ (false = true) by decide)] at H; exact H
       clear H; have H := H1; clear H1; obtain rfl := Option.some.inj H; go_enter Tryd.func26, Tryd.ntmps26
       go_wp2_with (first | ((with_reducible refine gate_dst (N := 1) rfl ?_); refine box_event ?hg (N := 1) ?hd (cs := #[.int .i64 a0_0, .int .i64 a0_1, .int .i64 a0_2]) (t := 31) ?hr ?_; (case hd => rfl); (case hg => rfl); (case hr => first | (go_simp; done) | (go_simp; rfl)); intro gb161 hg w37 hbox hb; have BK161 := am (hbox); have GW161 := am ((by rw [hg]; exact (below_size (pkh HB.out)) : w.heap.size ≤ gb161)); replace HB := am (below_step (pkh HB.out) hb); have GE161 := GW161; clear hb hbox hg; obtain ⟨hcz38_0, hcz38_1, hcz38_2, hfz38_0, hfz38_1, hfz38_2⟩ := pq3 BK161.out) | ((with_reducible refine gate_callee (f := 42) rfl ?_); refine goesL_ (some 54) rfl rfl Tryd.func42 (by kernel_rfl) rfl #[.int .i64 a0_1] rfl (by (try simp only [List.map_toArray, List.map_cons, List.map_nil]); first | done | rfl | (simp only [List.length_drop, List.length_take]; rfl)) ?_; (with_reducible refine (impl_IsValue.calls a0_1 false _ A33.out).mono ?_); rintro e w' ⟨rfl, ⟨nd, rfl⟩⟩; refine ⟨_, rfl, ?_⟩))
       go_ret
       exact ⟨by first | rfl | (simp [errW_none, errW_some] <;> rfl) | (simp [*, errW_none, errW_some] <;> rfl), by repeat (first | (with_reducible first | exact HB.out | apply bA | apply bN | apply b1 | refine bS ?_ (by assumption)) | exact HB.out)⟩
     ·rw [if_neg c32] at H
      have c32b0 : (a0_0 == 5) = false := beq_eq_false_iff_ne.mpr c32; have c32b1 : (a0_0 != 5) = true := bne_iff_ne.mpr c32; obtain rfl := Option.some.inj H; go_enter Tryd.func26, Tryd.ntmps26
      go_wp2_with (first | ((with_reducible refine gate_dst (N := 1) rfl ?_); refine box_event ?hg (N := 1) ?hd (cs := #[.int .i64 a0_0, .int .i64 a0_1, .int .i64 a0_2]) (t := 31) ?hr ?_; (case hd => rfl); (case hg => rfl); (case hr => first | (go_simp; done) | (go_simp; rfl)); intro gb161 hg w39 hbox hb; have BK161 := am (hbox); have GW161 := am ((by rw [hg]; exact (below_size (pkh HB.out)) : w.heap.size ≤ gb161)); replace HB := am (below_step (pkh HB.out) hb); have GE161 := GW161; clear hb hbox hg; obtain ⟨hcz40_0, hcz40_1, hcz40_2, hfz40_0, hfz40_1, hfz40_2⟩ := pq3 BK161.out))
      go_ret
      exact ⟨by first | rfl | (simp [errW_none, errW_some] <;> rfl) | (simp [*, errW_none, errW_some] <;> rfl), by repeat (first | (with_reducible first | exact HB.out | apply bA | apply bN | apply b1 | refine bS ?_ (by assumption)) | exact HB.out)⟩

/-! ### impl_actNames: function 27 -/
def impl_actNames.f  : Option (List ByteArray) := some (([(⟨#[]⟩ : ByteArray), (⟨#[116, 105, 99, 107]⟩ : ByteArray), (⟨#[100, 97, 114, 107]⟩ : ByteArray), (⟨#[117, 112, 108, 105, 110, 107]⟩ : ByteArray), (⟨#[99, 108, 111, 99, 107]⟩ : ByteArray), (⟨#[114, 101, 97, 100, 105, 110, 103]⟩ : ByteArray)] : List ByteArray))
set_option maxHeartbeats 8000000 in
set_option maxRecDepth 100000 in
theorem impl_actNames.calls  (r : List ByteArray) (w : World) (h : impl_actNames.f  = some r) :
  Calls Tryd.prog 27 #[] w fun e w' => ∃ v0_ : Value, e = .returned (v0_) ∧ Kd.R Kd.string 9 w' w.heap.size (fun _ => True) v0_ r ∧ Below w.heap.size w w' := by
 have HB := am (Below.refl w.heap.size w); have H : (some (([(⟨#[]⟩ : ByteArray), (⟨#[116, 105, 99, 107]⟩ : ByteArray), (⟨#[100, 97, 114, 107]⟩ : ByteArray), (⟨#[117, 112, 108, 105, 110, 107]⟩ : ByteArray), (⟨#[99, 108, 111, 99, 107]⟩ : ByteArray), (⟨#[114, 101, 97, 100, 105, 110, 103]⟩ : ByteArray)] : List ByteArray))) = some r := h; clear h; obtain ⟨y168, hy168⟩ : ∃ y_ : List ByteArray, y_ = (([(⟨#[]⟩ : ByteArray), (⟨#[116, 105, 99, 107]⟩ : ByteArray), (⟨#[100, 97, 114, 107]⟩ : ByteArray), (⟨#[117, 112, 108, 105, 110, 107]⟩ : ByteArray), (⟨#[99, 108, 111, 99, 107]⟩ : ByteArray), (⟨#[114, 101, 97, 100, 105, 110, 103]⟩ : ByteArray)] : List ByteArray)) := ⟨_, rfl⟩
 replace H : (some y168) = some r := by first | (rw [hy168]; with_reducible exact H) | (have H2_ := (Option.bind_some _ _).symm.trans H; rw [hy168]; with_reducible exact H2_) | (have H2_ := (Option.bind_some _ _).symm.trans H; with_reducible exact H2_) | with_reducible exact H | (rw [hy168]; exact H) | exact H
 have Ny168 := am hy168; clear hy168; obtain rfl := Option.some.inj H; go_enter Tryd.func27, Tryd.ntmps27
 go_wp2_with (first | ((with_reducible refine gate_dst (N := 1) rfl ?_); refine Kd.R_lit Kd.string _ 9 ?hg (N := 1) ?hd (xs := ([(⟨#[]⟩ : ByteArray), (⟨#[116, 105, 99, 107]⟩ : ByteArray), (⟨#[100, 97, 114, 107]⟩ : ByteArray), (⟨#[117, 112, 108, 105, 110, 107]⟩ : ByteArray), (⟨#[99, 108, 111, 99, 107]⟩ : ByteArray), (⟨#[114, 101, 97, 100, 105, 110, 103]⟩ : ByteArray)] : List ByteArray)) (inner := [.string (⟨#[]⟩ : ByteArray), .string (⟨#[116, 105, 99, 107]⟩ : ByteArray), .string (⟨#[100, 97, 114, 107]⟩ : ByteArray), .string (⟨#[117, 112, 108, 105, 110, 107]⟩ : ByteArray), .string (⟨#[99, 108, 111, 99, 107]⟩ : ByteArray), .string (⟨#[114, 101, 97, 100, 105, 110, 103]⟩ : ByteArray)]) (ok := fun _ => True) (okp := fun _ => True) ?hr ?hp (fun _ hk => hk) trivial (Below.refl _ _) (Nat.le_refl _) (by simp) ?_; (case hd => rfl); (case hg => rfl); (case hr => first | (go_simp; done) | (go_simp; rfl)); (case hp => exact (Reps.one (show Kd.M Kd.string _ _ _ (⟨#[]⟩ : ByteArray) [.string (⟨#[]⟩ : ByteArray)] from rfl) (Reps.one (show Kd.M Kd.string _ _ _ (⟨#[116, 105, 99, 107]⟩ : ByteArray) [.string (⟨#[116, 105, 99, 107]⟩ : ByteArray)] from rfl) (Reps.one (show Kd.M Kd.string _ _ _ (⟨#[100, 97, 114, 107]⟩ : ByteArray) [.string (⟨#[100, 97, 114, 107]⟩ : ByteArray)] from rfl) (Reps.one (show Kd.M Kd.string _ _ _ (⟨#[117, 112, 108, 105, 110, 107]⟩ : ByteArray) [.string (⟨#[117, 112, 108, 105, 110, 107]⟩ : ByteArray)] from rfl) (Reps.one (show Kd.M Kd.string _ _ _ (⟨#[99, 108, 111, 99, 107]⟩ : ByteArray) [.string (⟨#[99, 108, 111, 99, 107]⟩ : ByteArray)] from rfl) (Reps.one (show Kd.M Kd.string _ _ _ (⟨#[114, 101, 97, 100, 105, 110, 103]⟩ : ByteArray) [.string (⟨#[114, 101, 97, 100, 105, 110, 103]⟩ : ByteArray)] from rfl) (Reps.none _ _)))))))); intro v169 w1 ho2 hb hg_ hnew_; clear hg_ hnew_; (first | rw [← Ny168.out] at ho2 | (simp only [Int.reduceToNat] at ho2; rw [← Ny168.out] at ho2)); have HO170 := am (Kd.R_lower ho2 (below_size (pkh HB.out))); replace HB := am (below_step (pkh HB.out) hb); clear hb ho2))
 go_ret
 exact ⟨_, by first | rfl | (simp [errW_none, errW_some] <;> rfl) | (simp [*, errW_none, errW_some] <;> rfl), by (with_reducible repeat (first | apply Kd.R_alloc | apply Kd.R_drewN | apply Kd.R_drew)); exact HO170.out, by repeat (first | (with_reducible first | exact HB.out | apply bA | apply bN | apply b1) | exact HB.out)⟩

/-! ### impl_FormatAct: function 13 -/
def impl_FormatAct.f (k : Nat) (a0_0 : Int) (a0_1 : Int) (a0_2 : Int) : Option (ByteArray × Bool) := (impl_ActOk.f a0_0 a0_1 a0_2).bind fun t172 => (if t172 = true then (if a0_0 = 5 then ((impl_spaced.f k (⟨#[114, 101, 97, 100, 105, 110, 103]⟩ : ByteArray) (([a0_1] : List Int))).bind fun t176 => (some (t176, true))) else ((impl_actNames.f).bind fun t177 => (if 0 ≤ a0_0 then (if a0_0 < (t177.length : Int) then ((impl_spaced.f k (rdOf ByteArray.empty t177 a0_0) (([a0_1, a0_2] : List Int))).bind fun t184 => (some (t184, true))) else (none)) else (none)))) else (some ((⟨#[]⟩ : ByteArray), false)))
theorem impl_FormatAct.mono : ∀ a0 a1 a2 k, LeO (impl_FormatAct.f k a0 a1 a2) (impl_FormatAct.f (k + 1) a0 a1 a2) := by
 intro a0 a1 a2 k; unfold impl_FormatAct.f
 repeat' first
   | (with_reducible exact impl_spaced.mono _ _ _)
   | (with_reducible exact LeO.refl _)
   | (with_reducible exact LeO.none _)
   | (with_reducible refine LeO.ite ?_ ?_)
   | (with_reducible refine LeO.bind ?_ (fun _ => ?_))
   | exact impl_spaced.mono _ _ _
   | exact LeO.none _
   | refine LeO.ite ?_ ?_
   | refine LeO.bind ?_ (fun _ => ?_)
def impl_FormatAct.T5 : Bool × List (List Nat × List Nat) := (true, [([], []), ([], []), ([1], [1]), ([0, 2], [0, 2]), ([3], [3]), ([], []), ([5], [5]), ([], []), ([7], [7]), ([6, 8], [6, 8]), ([4, 9, 0], [4, 9]), ([10, 10, 0, 1, 2, 3, 4, 5, 6, 7, 8, 9, 10], [10]), ([11, 0, 1, 2, 3, 4, 5, 6, 7, 8, 9, 10, 11], [])])
def impl_FormatAct.B5 : List Nat := [0, 0, 2, 7, 15, 0, 32, 0, 128, 480, 1023, 2047, 4095]
theorem impl_FormatAct.tab5 : rtab .any (opsOf Tryd.f13 5) = impl_FormatAct.T5 := by kernel_rfl
theorem impl_FormatAct.bits5 : waitsOk impl_FormatAct.T5.2 impl_FormatAct.B5 = true := by kernel_rfl
set_option maxHeartbeats 8000000 in
set_option maxRecDepth 100000 in
theorem impl_FormatAct.calls (k : Nat) (a0_0 : Int) (a0_1 : Int) (a0_2 : Int) (r1 : ByteArray) (r2 : Bool) (w : World) (h : impl_FormatAct.f k a0_0 a0_1 a0_2 = some (r1, r2)) (htab0 : TabW w) :
  Calls Tryd.prog 13 #[.agg #[.int .i64 a0_0, .int .i64 a0_1, .int .i64 a0_2]] w fun e w' => e = .returned (.tuple #[.string r1, .bool r2]) ∧ Below w.heap.size w w' := by
 have hu31 := Tryd.underlying31; have HB := am (Below.refl w.heap.size w); have H : ((impl_ActOk.f a0_0 a0_1 a0_2).bind fun t172 => (if t172 = true then (if a0_0 = 5 then ((impl_spaced.f k (⟨#[114, 101, 97, 100, 105, 110, 103]⟩ : ByteArray) (([a0_1] : List Int))).bind fun t176 => (some (t176, true))) else ((impl_actNames.f).bind fun t177 => (if 0 ≤ a0_0 then (if a0_0 < (t177.length : Int) then ((impl_spaced.f k (rdOf ByteArray.empty t177 a0_0) (([a0_1, a0_2] : List Int))).bind fun t184 => (some (t184, true))) else (none)) else (none)))) else (some ((⟨#[]⟩ : ByteArray), false)))) = some (r1, r2) := h; clear h; replace H := Option.bind_eq_some_iff.mp H; obtain ⟨t172, A20, H⟩ := H; replace H : (if t172 = true then (if a0_0 = 5 then ((impl_spaced.f k (⟨#[114, 101, 97, 100, 105, 110, 103]⟩ : ByteArray) (([a0_1] : List Int))).bind fun t176 => (some (t176, true))) else ((impl_actNames.f).bind fun t177 => (if 0 ≤ a0_0 then (if a0_0 < (t177.length : Int) then ((impl_spaced.f k (rdOf ByteArray.empty t177 a0_0) (([a0_1, a0_2] : List Int))).bind fun t184 => (some (t184, true))) else (none)) else (none)))) else (some ((⟨#[]⟩ : ByteArray), false))) = some (r1, r2) := H; have A2 := am A20; clear A20
 by_cases c3 : t172 = true
 ·subst c3
  have H1 : (if a0_0 = 5 then ((impl_spaced.f k (⟨#[114, 101, 97, 100, 105, 110, 103]⟩ : ByteArray) (([a0_1] : List Int))).bind fun t176 => (some (t176, true))) else ((impl_actNames.f).bind fun t177 => (if 0 ≤ a0_0 then (if a0_0 < (t177.length : Int) then ((impl_spaced.f k (rdOf ByteArray.empty t177 a0_0) (([a0_1, a0_2] : List Int))).bind fun t184 => (some (t184, true))) else (none)) else (none)))) = some (r1, r2) := by rw [if_pos rfl] at H; exact H
  clear H; have H := H1; clear H1
  by_cases c4 : a0_0 = 5
  ·rw [if_pos c4] at H
   have c4b0 : (a0_0 == 5) = true := beq_iff_eq.mpr c4; have c4b1 : (a0_0 != 5) = false := bne_eq_false_iff_eq.mpr c4; clear c4; obtain ⟨y173, hy173⟩ : ∃ y_ : List Int, y_ = (([a0_1] : List Int)) := ⟨_, rfl⟩
   replace H : ((impl_spaced.f k (⟨#[114, 101, 97, 100, 105, 110, 103]⟩ : ByteArray) y173).bind fun t176 => (some (t176, true))) = some (r1, r2) := by first | (rw [hy173]; with_reducible exact H) | (have H2_ := (Option.bind_some _ _).symm.trans H; rw [hy173]; with_reducible exact H2_) | (have H2_ := (Option.bind_some _ _).symm.trans H; with_reducible exact H2_) | with_reducible exact H | (rw [hy173]; exact H) | exact H
   have Ny173 := am hy173; clear hy173; replace H := Option.bind_eq_some_iff.mp H; obtain ⟨t176, A50, H⟩ := H; replace H : (some (t176, true)) = some (r1, r2) := H; have A5 := am A50; clear A50; simp only [Option.some.injEq, Prod.mk.injEq] at H; obtain ⟨rfl, rfl⟩ := H; go_enter Tryd.func13, Tryd.ntmps13
   go_wp2_with (first | ((with_reducible refine gate_dst (N := 1) rfl ?_); refine box_event ?hg (N := 1) ?hd (cs := #[.int .i64 a0_0, .int .i64 a0_1, .int .i64 a0_2]) (t := 31) ?hr ?_; (case hd => rfl); (case hg => rfl); (case hr => first | (go_simp; done) | (go_simp; rfl)); intro gb171 hg w6 hbox hb; have BK171 := am (hbox); have GW171 := am ((by rw [hg]; exact (below_size (pkh HB.out)) : w.heap.size ≤ gb171)); replace HB := am (below_step (pkh HB.out) hb); have GE171 := GW171; clear hb hbox hg; obtain ⟨hcz7_0, hcz7_1, hcz7_2, hfz7_0, hfz7_1, hfz7_2⟩ := pq3 BK171.out) | ((with_reducible refine gate_callee (f := 26) rfl ?_); refine goesL_ (some 6) rfl rfl Tryd.func26 (by kernel_rfl) rfl #[.agg #[.int .i64 a0_0, .int .i64 a0_1, .int .i64 a0_2]] rfl (by (try simp only [List.map_toArray, List.map_cons, List.map_nil]); first | done | rfl | (simp only [List.length_drop, List.length_take]; rfl)) ?_; (with_reducible refine (impl_ActOk.calls a0_0 a0_1 a0_2 true _ A2.out).mono ?_); rintro e w8 ⟨rfl, hb⟩; refine ⟨_, rfl, ?_⟩; replace BK171 := am (blk_below (pkb BK171.out) hb); replace HB := am (below_step (pkh HB.out) hb); (try clear hb); (try clear hb2); (try clear hk); (try clear hi); obtain ⟨hcz9_0, hcz9_1, hcz9_2, hfz9_0, hfz9_1, hfz9_2⟩ := pq3 BK171.out) | ((with_reducible refine gate_dst (N := 14) rfl ?_); refine Kd.R_lit (Kd.int .i64) _ 3 ?hg (N := 14) ?hd (xs := ([a0_1] : List Int)) (inner := [.int .i64 a0_1]) (ok := fun _ => True) (okp := fun _ => True) ?hr ?hp (fun _ hk => hk) trivial (Below.refl _ _) (Nat.le_refl _) (by simp) ?_; (case hd => rfl); (case hg => rfl); (case hr => first | (go_simp; done) | (go_simp; rfl)); (case hp => exact (Reps.one (show Kd.M (Kd.int .i64) _ _ _ a0_1 [.int .i64 a0_1] from rfl) (Reps.none _ _))); intro v174 w10 ho11 hb hg_ hnew_; clear hg_ hnew_; (first | rw [← Ny173.out] at ho11 | (simp only [Int.reduceToNat] at ho11; rw [← Ny173.out] at ho11)); have HO175 := am (Kd.R_lower ho11 (below_size (pkh HB.out))); replace BK171 := am (blk_below (pkb BK171.out) hb); replace HB := am (below_step (pkh HB.out) hb); clear hb ho11; obtain ⟨Ao12, co12, eo12⟩ := Kd.R_slice HO175.out; subst eo12) | ((with_reducible refine gate_callee (f := 23) rfl ?_); refine goesL_ (some 15) rfl rfl Tryd.func23 (by kernel_rfl) rfl #[.string (⟨#[114, 101, 97, 100, 105, 110, 103]⟩ : ByteArray), .slice Ao12 y173.length co12] rfl (by (try simp only [List.map_toArray, List.map_cons, List.map_nil]); first | done | rfl | (simp only [List.length_drop, List.length_take]; rfl)) ?_; (with_reducible refine (impl_spaced.calls k (⟨#[114, 101, 97, 100, 105, 110, 103]⟩ : ByteArray) _ _ y173 t176 _ ?side1 ?side2 A5.out (TabW.below htab0 (by repeat (first | (with_reducible first | exact HB.out | apply bA | apply bN | apply b1) | exact HB.out)))).mono ?_); (case side1 => exact pkc (Kd.R_reads' HO175.out).2.2); (case side2 => exact (Kd.R_reads' HO175.out).2.1); rintro e w13 ⟨rfl, hb⟩; refine ⟨_, rfl, ?_⟩; replace HO175 := am (Kd.R_below (pkr HO175.out) hb); replace BK171 := am (blk_below (pkb BK171.out) hb); replace HB := am (below_step (pkh HB.out) hb); (try clear hb); (try clear hb2); (try clear hk); (try clear hi)))
   go_ret2
   exact ⟨by first | rfl | (simp [errW_none, errW_some] <;> rfl) | (simp [*, errW_none, errW_some] <;> rfl), by repeat (first | (with_reducible first | exact HB.out | apply bA | apply bN | apply b1 | refine bS ?_ (by assumption)) | exact HB.out)⟩
  ·rw [if_neg c4] at H
   have c4b0 : (a0_0 == 5) = false := beq_eq_false_iff_ne.mpr c4; have c4b1 : (a0_0 != 5) = true := bne_iff_ne.mpr c4; replace H := Option.bind_eq_some_iff.mp H; obtain ⟨t177, A140, H⟩ := H; replace H : (if 0 ≤ a0_0 then (if a0_0 < (t177.length : Int) then ((impl_spaced.f k (rdOf ByteArray.empty t177 a0_0) (([a0_1, a0_2] : List Int))).bind fun t184 => (some (t184, true))) else (none)) else (none)) = some (r1, r2) := H; have A14 := am A140; clear A140
   by_cases c15 : 0 ≤ a0_0
   ·rw [if_pos c15] at H
    have c15b0 : decide (0 ≤ a0_0) = true := decide_eq_true c15; clear c15
    by_cases c16 : a0_0 < (t177.length : Int)
    ·rw [if_pos c16] at H
     have c16b0 : decide (a0_0 < (t177.length : Int)) = true := decide_eq_true c16; clear c16; obtain ⟨y181, hy181⟩ : ∃ y_ : List Int, y_ = (([a0_1, a0_2] : List Int)) := ⟨_, rfl⟩
     replace H : ((impl_spaced.f k (rdOf ByteArray.empty t177 a0_0) y181).bind fun t184 => (some (t184, true))) = some (r1, r2) := by first | (rw [hy181]; with_reducible exact H) | (have H2_ := (Option.bind_some _ _).symm.trans H; rw [hy181]; with_reducible exact H2_) | (have H2_ := (Option.bind_some _ _).symm.trans H; with_reducible exact H2_) | with_reducible exact H | (rw [hy181]; exact H) | exact H
     have Ny181 := am hy181; clear hy181; replace H := Option.bind_eq_some_iff.mp H; obtain ⟨t184, A170, H⟩ := H; replace H : (some (t184, true)) = some (r1, r2) := H; have A17 := am A170; clear A170; simp only [Option.some.injEq, Prod.mk.injEq] at H; obtain ⟨rfl, rfl⟩ := H; go_enter Tryd.func13, Tryd.ntmps13; (try go_wp2_with (first | ((with_reducible refine gate_dst (N := 1) rfl ?_); refine box_event ?hg (N := 1) ?hd (cs := #[.int .i64 a0_0, .int .i64 a0_1, .int .i64 a0_2]) (t := 31) ?hr ?_; (case hd => rfl); (case hg => rfl); (case hr => first | (go_simp; done) | (go_simp; rfl)); intro gb171 hg w18 hbox hb; have BK171 := am (hbox); have GW171 := am ((by rw [hg]; exact (below_size (pkh HB.out)) : w.heap.size ≤ gb171)); replace HB := am (below_step (pkh HB.out) hb); have GE171 := GW171; clear hb hbox hg; obtain ⟨hcz19_0, hcz19_1, hcz19_2, hfz19_0, hfz19_1, hfz19_2⟩ := pq3 BK171.out) | ((with_reducible refine gate_callee (f := 26) rfl ?_); refine goesL_ (some 6) rfl rfl Tryd.func26 (by kernel_rfl) rfl #[.agg #[.int .i64 a0_0, .int .i64 a0_1, .int .i64 a0_2]] rfl (by (try simp only [List.map_toArray, List.map_cons, List.map_nil]); first | done | rfl | (simp only [List.length_drop, List.length_take]; rfl)) ?_; (with_reducible refine (impl_ActOk.calls a0_0 a0_1 a0_2 true _ A2.out).mono ?_); rintro e w20 ⟨rfl, hb⟩; refine ⟨_, rfl, ?_⟩; replace BK171 := am (blk_below (pkb BK171.out) hb); replace HB := am (below_step (pkh HB.out) hb); (try clear hb); (try clear hb2); (try clear hk); (try clear hi); obtain ⟨hcz21_0, hcz21_1, hcz21_2, hfz21_0, hfz21_1, hfz21_2⟩ := pq3 BK171.out))); replace BK171 := am (blk_drew BK171.out); replace HB := am (below_drew1 HB.out); refine start_ (n := 13) (S := fun w' => True) (ds := []) #[false, false, false, false, false, false, false, false, false, false, false, false, false] (by kernel_rfl) rfl rfl trivial (fun hHeld => ?_); refine with_tabW impl_FormatAct.tab5 impl_FormatAct.bits5 (fun HT_ HW_ => ?_); generalize w20.drew = w22 at BK171 HB hHeld ⊢; refine pure_ (i := 1) (N := some 17) (v := ?_) (a' := ?_) #[false, true, false, false, false, false, false, false, false, false, false, false, false] rfl rfl (any_of HT_.out (by kernel_rfl)) (fun _ _ _ h => h) (Or.inl ⟨by rfl, ?_⟩) ?_ ?_; rotate_left
     ·intro w'
      go_simp; with_reducible rfl
     rotate_left
     ·simp only [Act.put, sa, s0, s1, i64_w, i32_w]
      rfl
     refine pure_ (i := 5) (N := some 21) (v := ?_) (a' := ?_) #[false, true, false, false, false, true, false, false, false, false, false, false, false] rfl rfl (any_of HT_.out (by kernel_rfl)) (fun _ _ _ h => h) (Or.inl ⟨by rfl, ?_⟩) ?_ ?_; rotate_left
     ·intro w'
      go_simp; with_reducible rfl
     rotate_left
     ·simp only [Act.put, sa, s0, s1, i64_w, i32_w]
      rfl
     refine pure_ (i := 7) (N := some 23) (v := ?_) (a' := ?_) #[false, true, false, false, false, true, false, true, false, false, false, false, false] rfl rfl (any_of HT_.out (by kernel_rfl)) (fun _ _ _ h => h) (Or.inl ⟨by rfl, ?_⟩) ?_ ?_; rotate_left
     ·intro w'
      go_simp; with_reducible rfl
     rotate_left
     ·simp only [Act.put, sa, s0, s1, i64_w, i32_w]
      rfl
     refine inv_at [0, 2, 3, 4, 6, 8, 9, 10, 11, 12] (fun a0_ b a w' => ∃ (v178 : Value) (v182 : Value) (vp : Value), a = putSel a0_ b [(0, 16, v178), (2, 18, .int .i64 a0_0), (3, 19, vp), (4, 20, .string (rdOf ByteArray.empty t177 a0_0)), (6, 22, .int .i64 a0_1), (8, 24, .int .i64 a0_2), (9, 25, v182), (10, 26, .string t184), (11, 2, .string t184), (12, 3, .bool true)] ∧ (w'.heap[gb171]? = some (.cells #[.int .i64 a0_0, .int .i64 a0_1, .int .i64 a0_2] 31 (0, 0))) ∧ (Below w.heap.size w w') ∧ (b 0 = true → Kd.R Kd.string 9 w' w.heap.size (fun _ => True) v178 t177) ∧ (b 9 = true → Kd.R (Kd.int .i64) 3 w' w.heap.size (fun _ => True) v182 y181) ∧ (b 3 = true → ∃ (ad_ : Addr) (cp_ : Nat), v178 = .slice (some ad_) t177.length cp_ ∧ vp = .pointer (some (ad_.add (a0_0).toNat)))) HT_.out HW_.out (by kernel_rfl) (by kernel_rfl) ?_ ?_ ?_
     ·exact ⟨.bool false, .bool false, .bool false, by simp only [putSel, Bool.false_eq_true, if_false], BK171.out, HB.out, fun h_ => absurd h_ (by decide), fun h_ => absurd h_ (by decide), fun h_ => absurd h_ (by decide)⟩
     ·skip
      clear BK171 HB; refine steps_cons ?_ ?_
      ·rintro b a w' ⟨v178, v182, vp, ha, Q_BK171, Q_HB, Q_HO179, Q_HO183, Q_P⟩ hb_ hon hoff
       refine ⟨_, rfl, fun K hK => ?_⟩; replace ha := am ha; have BK171 := am Q_BK171; have HB := am Q_HB; refine goes_ Tryd.func27 (by kernel_rfl) rfl #[] (by rfl) rfl rfl (by first | (simp only [List.map_toArray, List.map_cons, List.map_nil, Act.eval, Array.getD_eq_getD_getElem?, Option.getD_some]; done) | (simp only [List.map_toArray, List.map_cons, List.map_nil, Act.eval, Array.getD_eq_getD_getElem?, Option.getD_some]; rfl)) ?_; (with_reducible refine (impl_actNames.calls  t177 _ A14.out).mono ?_); rintro e w23 ⟨v178, rfl, ho0, hb⟩; refine ⟨_, rfl, ?_⟩; have n0_ := am (Kd.R_lower ho0 (below_size (pkh HB.out))); have n1_ := am (blk_below (pkb BK171.out) hb); have n2_ := am (below_step (pkh HB.out) hb)
       have z_HO183 := fun (h0_ : b 9 = true) => (show Kd.R (Kd.int .i64) 3 w23 w.heap.size (fun _ => True) v182 y181 from by first | exact (Kd.R_below (pkr ((Q_HO183 h0_))) hb) | exact Kd.R_mono (Kd.R_below (pkr ((Q_HO183 h0_))) hb) (fun _ h_ => by first | trivial | exact h_ | exact h_.1))
       clear BK171; clear HB; have HO179 := n0_; have BK171 := n1_; have HB := n2_; clear n0_ n1_ n2_; (try clear hb); (try clear hb2); (try clear hk); (try clear hi); (try clear ho0); refine hK.out _ _ ⟨v178, v182, vp, (by rw [ha.out]; exact putSel_upk 0 hb_ rfl rfl rfl), (pkb BK171.out), (pkh HB.out), fun _ => (pkr HO179.out), z_HO183, fun h_ => absurd ((hoff 3 (by kernel_rfl)).symm.trans h_) (by decide)⟩
      refine steps_cons ?_ ?_
      ·rintro b a w' ⟨v178, v182, vp, ha, Q_BK171, Q_HB, Q_HO179, Q_HO183, Q_P⟩ hb_ hon hoff
       refine ⟨_, rfl, fun K hK => ?_⟩
       have e17 : a.tmps[17]? = some (.pointer (some ⟨gb171, 0, none⟩)) := by rw [ha]; exact (putSel_off rfl).trans rfl
       replace ha := am ha; have BK171 := am Q_BK171; have HB := am Q_HB; have hc0_ : w'.cell? ⟨gb171, 0, none⟩ = some (.int .i64 a0_0) := (blk_cell BK171.out 0).trans rfl; have hc1_ : w'.cell? ⟨gb171, 1, none⟩ = some (.int .i64 a0_1) := (blk_cell BK171.out 1).trans rfl; have hc2_ : w'.cell? ⟨gb171, 2, none⟩ = some (.int .i64 a0_2) := (blk_cell BK171.out 2).trans rfl; refine value_ (w1 := w') (v := .int .i64 a0_0) (by rfl) rfl ?_ ?_
       ·go_simp
        (try simp only [i64_w]); try rfl
       refine hK.out _ _ ⟨v178, v182, vp, (by rw [ha.out]; exact putSel_upk 1 hb_ rfl rfl rfl), Q_BK171, Q_HB, Q_HO179, Q_HO183, Q_P⟩
      refine steps_cons ?_ ?_
      ·rintro b a w' ⟨v178, v182, vp, ha, Q_BK171, Q_HB, Q_HO179, Q_HO183, Q_P⟩ hb_ hon hoff
       refine ⟨_, rfl, fun K hK => ?_⟩
       have e16 : a.tmps[16]? = some (v178) := by rw [ha]; exact putSel_on (e := (0, 16, v178)) 0 rfl rfl (hon 0 (by kernel_rfl)) rfl
       have e18 : a.tmps[18]? = some (.int .i64 a0_0) := by rw [ha]; exact putSel_on (e := (2, 18, .int .i64 a0_0)) 1 rfl rfl (hon 2 (by kernel_rfl)) rfl
       replace ha := am ha; have BK171 := am Q_BK171; have HB := am Q_HB; have HO179 := am (Q_HO179 (hon 0 (by kernel_rfl))); obtain ⟨Ao_, co_, eo_⟩ := Kd.R_slice HO179.out; have p_ : 0 ≤ (a0_0 : Int) := of_decide_eq_true (by first | (with_reducible assumption) | assumption); have q_ : a0_0 < (t177.length : Int) := of_decide_eq_true (by first | (with_reducible assumption) | assumption); have HOs_ := HO179.out; rw [eo_] at HOs_ e16; obtain ⟨ad_, ea_, hx_⟩ := Kd.at_string (Kd.R_reads' HOs_).2.2 a0_0 p_ q_; cases ea_; clear hx_; replace p_ := eq_true p_; replace q_ := eq_true q_; refine value_ (w1 := w') (v := .pointer (some (ad_.add (a0_0).toNat))) (by rfl) rfl ?_ ?_
       ·go_simp
        (try simp only [i64_w]); try rfl
       refine hK.out _ _ ⟨v178, v182, .pointer (some (ad_.add (a0_0).toNat)), (by rw [ha.out]; exact putSel_upk 2 hb_ rfl rfl rfl), Q_BK171, Q_HB, Q_HO179, Q_HO183, fun _ => ⟨ad_, co_, eo_, rfl⟩⟩
      refine steps_cons ?_ ?_
      ·rintro b a w' ⟨v178, v182, vp, ha, Q_BK171, Q_HB, Q_HO179, Q_HO183, Q_P⟩ hb_ hon hoff
       refine ⟨_, rfl, fun K hK => ?_⟩
       have e19 : a.tmps[19]? = some (vp) := by rw [ha]; exact putSel_on (e := (3, 19, vp)) 2 rfl rfl (hon 3 (by kernel_rfl)) rfl
       replace ha := am ha; have BK171 := am Q_BK171; have HB := am Q_HB; have HO179 := am (Q_HO179 (hon 0 (by kernel_rfl))); obtain ⟨ad180, cp_, eo_, hp_⟩ := Q_P (hon 3 (by kernel_rfl)); have HOs_ := HO179.out; rw [eo_] at HOs_; rw [hp_] at e19; have p_ : 0 ≤ (a0_0 : Int) := of_decide_eq_true (by first | (with_reducible assumption) | assumption); have q_ : a0_0 < (t177.length : Int) := of_decide_eq_true (by first | (with_reducible assumption) | assumption); obtain ⟨ad180_z, e180_z, hx180_0_z⟩ := Kd.at_string (Kd.R_reads' HOs_).2.2 a0_0 p_ q_; cases e180_z; have hs0_ : w'.cell? (ad180.add (a0_0).toNat) = some (.string (rdOf ByteArray.empty t177 a0_0)) := (by first | exact hx180_0_z | (have h_ := hx180_0_z; (try simp only [Int.reduceToNat, Nat.zero_mul, Nat.reduceMul, Nat.reduceEqDiff, Go.Addr.add, ↓reduceIte, Addr.add_zero'] at h_); exact h_)); refine value_ (w1 := w') (v := .string (rdOf ByteArray.empty t177 a0_0)) (by rfl) rfl ?_ ?_
       ·go_simp
        (try simp only [i64_w]); try rfl
       refine hK.out _ _ ⟨v178, v182, vp, (by rw [ha.out]; exact putSel_upk 3 hb_ rfl rfl rfl), Q_BK171, Q_HB, Q_HO179, Q_HO183, Q_P⟩
      refine steps_cons ?_ ?_
      ·rintro b a w' ⟨v178, v182, vp, ha, Q_BK171, Q_HB, Q_HO179, Q_HO183, Q_P⟩ hb_ hon hoff
       refine ⟨_, rfl, fun K hK => ?_⟩
       have e21 : a.tmps[21]? = some (.pointer (some ⟨gb171, 1, none⟩)) := by rw [ha]; exact (putSel_off rfl).trans rfl
       replace ha := am ha; have BK171 := am Q_BK171; have HB := am Q_HB; have hc0_ : w'.cell? ⟨gb171, 0, none⟩ = some (.int .i64 a0_0) := (blk_cell BK171.out 0).trans rfl; have hc1_ : w'.cell? ⟨gb171, 1, none⟩ = some (.int .i64 a0_1) := (blk_cell BK171.out 1).trans rfl; have hc2_ : w'.cell? ⟨gb171, 2, none⟩ = some (.int .i64 a0_2) := (blk_cell BK171.out 2).trans rfl; refine value_ (w1 := w') (v := .int .i64 a0_1) (by rfl) rfl ?_ ?_
       ·go_simp
        (try simp only [i64_w]); try rfl
       refine hK.out _ _ ⟨v178, v182, vp, (by rw [ha.out]; exact putSel_upk 4 hb_ rfl rfl rfl), Q_BK171, Q_HB, Q_HO179, fun h0_ => absurd ((hoff 9 (by kernel_rfl)).symm.trans h0_) (by decide), Q_P⟩
      refine steps_cons ?_ ?_
      ·rintro b a w' ⟨v178, v182, vp, ha, Q_BK171, Q_HB, Q_HO179, Q_HO183, Q_P⟩ hb_ hon hoff
       refine ⟨_, rfl, fun K hK => ?_⟩
       have e23 : a.tmps[23]? = some (.pointer (some ⟨gb171, 2, none⟩)) := by rw [ha]; exact (putSel_off rfl).trans rfl
       replace ha := am ha; have BK171 := am Q_BK171; have HB := am Q_HB; have hc0_ : w'.cell? ⟨gb171, 0, none⟩ = some (.int .i64 a0_0) := (blk_cell BK171.out 0).trans rfl; have hc1_ : w'.cell? ⟨gb171, 1, none⟩ = some (.int .i64 a0_1) := (blk_cell BK171.out 1).trans rfl; have hc2_ : w'.cell? ⟨gb171, 2, none⟩ = some (.int .i64 a0_2) := (blk_cell BK171.out 2).trans rfl; refine value_ (w1 := w') (v := .int .i64 a0_2) (by rfl) rfl ?_ ?_
       ·go_simp
        (try simp only [i64_w]); try rfl
       refine hK.out _ _ ⟨v178, v182, vp, (by rw [ha.out]; exact putSel_upk 5 hb_ rfl rfl rfl), Q_BK171, Q_HB, Q_HO179, fun h0_ => absurd ((hoff 9 (by kernel_rfl)).symm.trans h0_) (by decide), Q_P⟩
      refine steps_cons ?_ ?_
      ·rintro b a w' ⟨v178, v182, vp, ha, Q_BK171, Q_HB, Q_HO179, Q_HO183, Q_P⟩ hb_ hon hoff
       refine ⟨_, rfl, fun K hK => ?_⟩
       have e22 : a.tmps[22]? = some (.int .i64 a0_1) := by rw [ha]; exact putSel_on (e := (6, 22, .int .i64 a0_1)) 4 rfl rfl (hon 6 (by kernel_rfl)) rfl
       have e24 : a.tmps[24]? = some (.int .i64 a0_2) := by rw [ha]; exact putSel_on (e := (8, 24, .int .i64 a0_2)) 5 rfl rfl (hon 8 (by kernel_rfl)) rfl
       replace ha := am ha; have BK171 := am Q_BK171; have HB := am Q_HB; refine Kd.R_lit_step (Kd.int .i64) _ 3 ?hg (N := 25) ?hd (xs := ([a0_1, a0_2] : List Int)) (inner := [.int .i64 a0_1, .int .i64 a0_2]) (ok := fun _ => True) (okp := fun _ => True) ?hr ?hp (fun _ hk => hk) trivial (Below.refl _ _) (Nat.le_refl _) (by simp) ?_; (case hd => rfl); (case hg => rfl); (case hr => first | (go_simp; done) | (go_simp; rfl)); (case hp => exact (Reps.one (show Kd.M (Kd.int .i64) _ _ _ a0_1 [.int .i64 a0_1] from rfl) (Reps.one (show Kd.M (Kd.int .i64) _ _ _ a0_2 [.int .i64 a0_2] from rfl) (Reps.none _ _)))); intro v182 w23 ho24 hb hg_ hnew_; clear hg_ hnew_; (first | rw [← Ny181.out] at ho24 | (simp only [Int.reduceToNat] at ho24; rw [← Ny181.out] at ho24)); have n0_ := am (Kd.R_lower ho24 (below_size (pkh HB.out))); have n1_ := am (blk_below (pkb BK171.out) hb); have n2_ := am (below_step (pkh HB.out) hb)
       have z_HO179 := fun (h0_ : b 0 = true) => (show Kd.R Kd.string 9 w23 w.heap.size (fun _ => True) v178 t177 from by first | exact (Kd.R_below (pkr ((Q_HO179 h0_))) hb) | exact Kd.R_mono (Kd.R_below (pkr ((Q_HO179 h0_))) hb) (fun _ h_ => by first | trivial | exact h_ | exact h_.1))
       clear BK171; clear HB; have HO183 := n0_; have BK171 := n1_; have HB := n2_; clear n0_ n1_ n2_; clear hb ho24; refine hK.out _ _ ⟨v178, v182, vp, (by rw [ha.out]; exact putSel_upk 6 hb_ rfl rfl rfl), (pkb BK171.out), (pkh HB.out), z_HO179, fun _ => (pkr HO183.out), Q_P⟩
      refine steps_cons ?_ ?_
      ·rintro b a w' ⟨v178, v182, vp, ha, Q_BK171, Q_HB, Q_HO179, Q_HO183, Q_P⟩ hb_ hon hoff
       refine ⟨_, rfl, fun K hK => ?_⟩
       have e20 : a.tmps[20]? = some (.string (rdOf ByteArray.empty t177 a0_0)) := by rw [ha]; exact putSel_on (e := (4, 20, .string (rdOf ByteArray.empty t177 a0_0))) 3 rfl rfl (hon 4 (by kernel_rfl)) rfl
       have e25 : a.tmps[25]? = some (v182) := by rw [ha]; exact putSel_on (e := (9, 25, v182)) 6 rfl rfl (hon 9 (by kernel_rfl)) rfl
       replace ha := am ha; have BK171 := am Q_BK171; have HB := am Q_HB; have HO179 := am (Q_HO179 (hon 0 (by kernel_rfl))); have HO183 := am (Q_HO183 (hon 9 (by kernel_rfl))); obtain ⟨Ao27, co27, eo27⟩ := Kd.R_slice HO183.out; (first | subst eo27 | (injection eo27 with f1_ f2_ f3_; have f4_ := f1_.symm; have f5_ := f3_.symm; clear f1_ f2_ f3_; subst f4_; subst f5_)); refine goes_ Tryd.func23 (by kernel_rfl) rfl #[.string (rdOf ByteArray.empty t177 a0_0), .slice Ao27 y181.length co27] (by rfl) rfl rfl (by first | (simp only [List.map_toArray, List.map_cons, List.map_nil, Act.eval, Array.getD_eq_getD_getElem?, Option.getD_some, e20, e25]; done) | (simp only [List.map_toArray, List.map_cons, List.map_nil, Act.eval, Array.getD_eq_getD_getElem?, Option.getD_some, e20, e25]; rfl)) ?_; (with_reducible refine (impl_spaced.calls k (rdOf ByteArray.empty t177 a0_0) _ _ y181 t184 _ ?side1 ?side2 A17.out (TabW.below htab0 (by repeat (first | (with_reducible first | exact HB.out | apply bA | apply bN | apply b1) | exact HB.out)))).mono ?_); (case side1 => exact pkc (Kd.R_reads' HO183.out).2.2); (case side2 => exact (Kd.R_reads' HO183.out).2.1); rintro e w28 ⟨rfl, hb⟩; refine ⟨_, rfl, ?_⟩; replace HO179 := am (Kd.R_below (pkr HO179.out) hb); replace HO183 := am (Kd.R_below (pkr HO183.out) hb); replace BK171 := am (blk_below (pkb BK171.out) hb); replace HB := am (below_step (pkh HB.out) hb); (try clear hb); (try clear hb2); (try clear hk); (try clear hi); refine hK.out _ _ ⟨v178, .slice Ao27 y181.length co27, vp, (by rw [ha.out]; exact putSel_upk 7 hb_ rfl rfl rfl), (pkb BK171.out), (pkh HB.out), fun _ => (pkr HO179.out), fun _ => (pkr HO183.out), Q_P⟩
      refine steps_cons ?_ ?_
      ·rintro b a w' ⟨v178, v182, vp, ha, Q_BK171, Q_HB, Q_HO179, Q_HO183, Q_P⟩ hb_ hon hoff
       refine ⟨_, rfl, fun K hK => ?_⟩
       have e26 : a.tmps[26]? = some (.string t184) := by rw [ha]; exact putSel_on (e := (10, 26, .string t184)) 7 rfl rfl (hon 10 (by kernel_rfl)) rfl
       replace ha := am ha; have BK171 := am Q_BK171; have HB := am Q_HB; have HO179 := am (Q_HO179 (hon 0 (by kernel_rfl))); have HO183 := am (Q_HO183 (hon 9 (by kernel_rfl))); refine value_ (w1 := w') (v := .string t184) (by rfl) rfl ?_ ?_
       ·go_simp
        (try simp only [i64_w]); try rfl
       refine hK.out _ _ ⟨v178, v182, vp, (by rw [ha.out]; exact putSel_upk 8 hb_ rfl rfl rfl), Q_BK171, Q_HB, Q_HO179, Q_HO183, Q_P⟩
      refine steps_cons ?_ ?_
      ·rintro b a w' ⟨v178, v182, vp, ha, Q_BK171, Q_HB, Q_HO179, Q_HO183, Q_P⟩ hb_ hon hoff
       refine ⟨_, rfl, fun K hK => ?_⟩; replace ha := am ha; have BK171 := am Q_BK171; have HB := am Q_HB; have HO179 := am (Q_HO179 (hon 0 (by kernel_rfl))); have HO183 := am (Q_HO183 (hon 9 (by kernel_rfl))); refine value_ (w1 := w') (v := .bool true) (by rfl) rfl ?_ ?_
       ·go_simp
        (try simp only [i64_w]); try rfl
       refine hK.out _ _ ⟨v178, v182, vp, (by rw [ha.out]; exact putSel_upk 9 hb_ rfl rfl rfl), Q_BK171, Q_HB, Q_HO179, Q_HO183, Q_P⟩
      exact steps_nil
     rintro b a w28 hall ⟨v178, v182, vp, ha, Q_BK171, Q_HB, Q_HO179, Q_HO183, Q_P⟩; clear BK171 HB; have hb0_ := hall 0 (by kernel_rfl); have hb2_ := hall 2 (by kernel_rfl); have hb3_ := hall 3 (by kernel_rfl); have hb4_ := hall 4 (by kernel_rfl); have hb6_ := hall 6 (by kernel_rfl); have hb8_ := hall 8 (by kernel_rfl); have hb9_ := hall 9 (by kernel_rfl); have hb10_ := hall 10 (by kernel_rfl); have hb11_ := hall 11 (by kernel_rfl); have hb12_ := hall 12 (by kernel_rfl); subst ha; simp only [putSel, hb0_, hb2_, hb3_, hb4_, hb6_, hb8_, hb9_, hb10_, hb11_, hb12_, if_true, Act.put, sa, s0, s1]; have BK171 := am Q_BK171; clear Q_BK171; have HB := am Q_HB; clear Q_HB; have HO179 := am (Q_HO179 hb0_); clear Q_HO179; have HO183 := am (Q_HO183 hb9_); clear Q_HO183; clear hall hb0_ hb2_ hb3_ hb4_ hb6_ hb8_ hb9_ hb10_ hb11_ hb12_; obtain ⟨Ao29, co29, eo29⟩ := Kd.R_slice HO179.out; (first | subst eo29 | (injection eo29 with f1_ f2_ f3_; have f4_ := f1_.symm; have f5_ := f3_.symm; clear f1_ f2_ f3_; subst f4_; subst f5_)); have p180 : 0 ≤ (a0_0 : Int) := of_decide_eq_true (by first | (with_reducible assumption) | assumption); have q180 : a0_0 < (t177.length : Int) := of_decide_eq_true (by first | (with_reducible assumption) | assumption); obtain ⟨ad180, e180, hx180_0⟩ := Kd.at_string (Kd.R_reads' HO179.out).2.2 a0_0 p180 q180; cases e180; replace p180 := eq_true p180; replace q180 := eq_true q180; try go_wp2
     go_ret2
     exact ⟨by first | rfl | (simp [errW_none, errW_some] <;> rfl) | (simp [*, errW_none, errW_some] <;> rfl), by repeat (first | (with_reducible first | exact HB.out | apply bA | apply bN | apply b1 | refine bS ?_ (by assumption)) | exact HB.out)⟩
    ·rw [if_neg c16] at H
     exact absurd H (by simp)
   ·rw [if_neg c15] at H
    exact absurd H (by simp)
 ·replace c3 := Bool.eq_false_iff.mpr c3
  subst c3
  have H1 : (some ((⟨#[]⟩ : ByteArray), false)) = some (r1, r2) := by rw [if_neg (show ¬ (false = true) by decide)] at H; exact H
  clear H; have H := H1; clear H1; simp only [Option.some.injEq, Prod.mk.injEq] at H; obtain ⟨rfl, rfl⟩ := H; go_enter Tryd.func13, Tryd.ntmps13
  go_wp2_with (first | ((with_reducible refine gate_dst (N := 1) rfl ?_); refine box_event ?hg (N := 1) ?hd (cs := #[.int .i64 a0_0, .int .i64 a0_1, .int .i64 a0_2]) (t := 31) ?hr ?_; (case hd => rfl); (case hg => rfl); (case hr => first | (go_simp; done) | (go_simp; rfl)); intro gb171 hg w30 hbox hb; have BK171 := am (hbox); have GW171 := am ((by rw [hg]; exact (below_size (pkh HB.out)) : w.heap.size ≤ gb171)); replace HB := am (below_step (pkh HB.out) hb); have GE171 := GW171; clear hb hbox hg; obtain ⟨hcz31_0, hcz31_1, hcz31_2, hfz31_0, hfz31_1, hfz31_2⟩ := pq3 BK171.out) | ((with_reducible refine gate_callee (f := 26) rfl ?_); refine goesL_ (some 6) rfl rfl Tryd.func26 (by kernel_rfl) rfl #[.agg #[.int .i64 a0_0, .int .i64 a0_1, .int .i64 a0_2]] rfl (by (try simp only [List.map_toArray, List.map_cons, List.map_nil]); first | done | rfl | (simp only [List.length_drop, List.length_take]; rfl)) ?_; (with_reducible refine (impl_ActOk.calls a0_0 a0_1 a0_2 false _ A2.out).mono ?_); rintro e w32 ⟨rfl, hb⟩; refine ⟨_, rfl, ?_⟩; replace BK171 := am (blk_below (pkb BK171.out) hb); replace HB := am (below_step (pkh HB.out) hb); (try clear hb); (try clear hb2); (try clear hk); (try clear hi)))
  go_ret2
  exact ⟨by first | rfl | (simp [errW_none, errW_some] <;> rfl) | (simp [*, errW_none, errW_some] <;> rfl), by repeat (first | (with_reducible first | exact HB.out | apply bA | apply bN | apply b1 | refine bS ?_ (by assumption)) | exact HB.out)⟩

/-! ### laws_FnExactFormatAct: function 4 -/
def laws_FnExactFormatAct.f (k : Nat) (a0_0 : Int) (a0_1 : Int) (a0_2 : Int) : Option (Bool) := (laws_toAct.f a0_0 a0_1 a0_2).bind fun bt186 => ((spec_FormatAct.f k bt186.1 bt186.2.1 bt186.2.2).bind fun bt189 => ((laws_toAct.f a0_0 a0_1 a0_2).bind fun bt191 => ((impl_FormatAct.f k bt191.1 bt191.2.1 bt191.2.2).bind fun bt194 => (if bt194.1.toList = bt189.1.toList then (if (bt194.2 != bt189.2) = true then (none) else (some true)) else (none)))))
theorem laws_FnExactFormatAct.mono : ∀ a0 a1 a2 k, LeO (laws_FnExactFormatAct.f k a0 a1 a2) (laws_FnExactFormatAct.f (k + 1) a0 a1 a2) := by
 intro a0 a1 a2 k; unfold laws_FnExactFormatAct.f
 repeat' first
   | (with_reducible exact impl_FormatAct.mono _ _ _ _)
   | (with_reducible exact spec_FormatAct.mono _ _ _ _)
   | (with_reducible exact LeO.refl _)
   | (with_reducible exact LeO.none _)
   | (with_reducible refine LeO.ite ?_ ?_)
   | (with_reducible refine LeO.bind ?_ (fun _ => ?_))
   | exact impl_FormatAct.mono _ _ _ _
   | exact spec_FormatAct.mono _ _ _ _
   | exact LeO.none _
   | refine LeO.ite ?_ ?_
   | refine LeO.bind ?_ (fun _ => ?_)
set_option maxHeartbeats 8000000 in
set_option maxRecDepth 100000 in
theorem laws_FnExactFormatAct.calls (k : Nat) (a0_0 : Int) (a0_1 : Int) (a0_2 : Int) (r : Bool) (w : World) (h : laws_FnExactFormatAct.f k a0_0 a0_1 a0_2 = some r) (htab0 : TabW w) :
  Calls Tryd.prog 4 #[.agg #[.int .i64 a0_0, .int .i64 a0_1, .int .i64 a0_2]] w fun e w' => e = .returned (.bool r) ∧ Below w.heap.size w w' := by
 have hu28 := Tryd.underlying28; have HB := am (Below.refl w.heap.size w); have H : ((laws_toAct.f a0_0 a0_1 a0_2).bind fun bt186 => ((spec_FormatAct.f k bt186.1 bt186.2.1 bt186.2.2).bind fun bt189 => ((laws_toAct.f a0_0 a0_1 a0_2).bind fun bt191 => ((impl_FormatAct.f k bt191.1 bt191.2.1 bt191.2.2).bind fun bt194 => (if bt194.1.toList = bt189.1.toList then (if (bt194.2 != bt189.2) = true then (none) else (some true)) else (none)))))) = some r := h; clear h; replace H := Option.bind_eq_some_iff.mp H; obtain ⟨⟨t186, t187, t188⟩, A20, H⟩ := H; replace H : ((spec_FormatAct.f k t186 t187 t188).bind fun bt189 => ((laws_toAct.f a0_0 a0_1 a0_2).bind fun bt191 => ((impl_FormatAct.f k bt191.1 bt191.2.1 bt191.2.2).bind fun bt194 => (if bt194.1.toList = bt189.1.toList then (if (bt194.2 != bt189.2) = true then (none) else (some true)) else (none))))) = some r := H; have A2 := am A20; clear A20; replace H := Option.bind_eq_some_iff.mp H; obtain ⟨⟨t189, t190⟩, A30, H⟩ := H; replace H : ((laws_toAct.f a0_0 a0_1 a0_2).bind fun bt191 => ((impl_FormatAct.f k bt191.1 bt191.2.1 bt191.2.2).bind fun bt194 => (if bt194.1.toList = t189.toList then (if (bt194.2 != t190) = true then (none) else (some true)) else (none)))) = some r := H; have A3 := am A30; clear A30; replace H := Option.bind_eq_some_iff.mp H; obtain ⟨⟨t191, t192, t193⟩, A40, H⟩ := H; replace H : ((impl_FormatAct.f k t191 t192 t193).bind fun bt194 => (if bt194.1.toList = t189.toList then (if (bt194.2 != t190) = true then (none) else (some true)) else (none))) = some r := H; have A4 := am A40; clear A40; replace H := Option.bind_eq_some_iff.mp H; obtain ⟨⟨t194, t195⟩, A50, H⟩ := H; replace H : (if t194.toList = t189.toList then (if (t195 != t190) = true then (none) else (some true)) else (none)) = some r := H; have A5 := am A50; clear A50
 by_cases c6 : t194.toList = t189.toList
 ·rw [if_pos c6] at H
  have c6b0 : (t194.toList == t189.toList) = true := beq_iff_eq.mpr c6; have c6b1 : (t194.toList != t189.toList) = false := bne_eq_false_iff_eq.mpr c6; clear c6
  by_cases c7 : (t195 != t190) = true
  ·rw [if_pos c7] at H
   exact absurd H (by simp)
  ·rw [if_neg c7] at H
   have c7b0 : (t195 != t190) = false := by simpa using c7
   (try (have c7b1 : decide (t195 = t190) = true := by simpa using c7)); (try (have c7b2 : (t195 == t190) = true := by simpa using c7)); clear c7; obtain rfl := Option.some.inj H; go_enter Tryd.func4, Tryd.ntmps4
   go_wp2_with (first | ((with_reducible refine gate_dst (N := 1) rfl ?_); refine box_event ?hg (N := 1) ?hd (cs := #[.int .i64 a0_0, .int .i64 a0_1, .int .i64 a0_2]) (t := 28) ?hr ?_; (case hd => rfl); (case hg => rfl); (case hr => first | (go_simp; done) | (go_simp; rfl)); intro gb185 hg w8 hbox hb; have BK185 := am (hbox); have GW185 := am ((by rw [hg]; exact (below_size (pkh HB.out)) : w.heap.size ≤ gb185)); replace HB := am (below_step (pkh HB.out) hb); have GE185 := GW185; clear hb hbox hg; obtain ⟨hcz9_0, hcz9_1, hcz9_2, hfz9_0, hfz9_1, hfz9_2⟩ := pq3 BK185.out) | ((with_reducible refine gate_callee (f := 12) rfl ?_); refine goesL_ (some 9) rfl rfl Tryd.func12 (by kernel_rfl) rfl #[.agg #[.int .i64 a0_0, .int .i64 a0_1, .int .i64 a0_2]] rfl (by (try simp only [List.map_toArray, List.map_cons, List.map_nil]); first | done | rfl | (simp only [List.length_drop, List.length_take]; rfl)) ?_; (with_reducible refine (laws_toAct.calls a0_0 a0_1 a0_2 t186 t187 t188 _ A2.out).mono ?_); rintro e w10 ⟨rfl, hb⟩; refine ⟨_, rfl, ?_⟩; replace BK185 := am (blk_below (pkb BK185.out) hb); replace HB := am (below_step (pkh HB.out) hb); (try clear hb); (try clear hb2); (try clear hk); (try clear hi)) | ((with_reducible refine gate_callee (f := 11) rfl ?_); refine goesL_ (some 10) rfl rfl Tryd.func11 (by kernel_rfl) rfl #[.agg #[.int .i64 t186, .int .i64 t187, .int .i64 t188]] rfl (by (try simp only [List.map_toArray, List.map_cons, List.map_nil]); first | done | rfl | (simp only [List.length_drop, List.length_take]; rfl)) ?_; (with_reducible refine (spec_FormatAct.calls k t186 t187 t188 t189 t190 _ A3.out).mono ?_); rintro e w11 ⟨rfl, hb⟩; refine ⟨_, rfl, ?_⟩; replace BK185 := am (blk_below (pkb BK185.out) hb); replace HB := am (below_step (pkh HB.out) hb); (try clear hb); (try clear hb2); (try clear hk); (try clear hi); obtain ⟨hcz12_0, hcz12_1, hcz12_2, hfz12_0, hfz12_1, hfz12_2⟩ := pq3 BK185.out) | ((with_reducible refine gate_callee (f := 12) rfl ?_); refine goesL_ (some 15) rfl rfl Tryd.func12 (by kernel_rfl) rfl #[.agg #[.int .i64 a0_0, .int .i64 a0_1, .int .i64 a0_2]] rfl (by (try simp only [List.map_toArray, List.map_cons, List.map_nil]); first | done | rfl | (simp only [List.length_drop, List.length_take]; rfl)) ?_; (with_reducible refine (laws_toAct.calls a0_0 a0_1 a0_2 t191 t192 t193 _ A4.out).mono ?_); rintro e w13 ⟨rfl, hb⟩; refine ⟨_, rfl, ?_⟩; replace BK185 := am (blk_below (pkb BK185.out) hb); replace HB := am (below_step (pkh HB.out) hb); (try clear hb); (try clear hb2); (try clear hk); (try clear hi)) | ((with_reducible refine gate_callee (f := 13) rfl ?_); refine goesL_ (some 16) rfl rfl Tryd.func13 (by kernel_rfl) rfl #[.agg #[.int .i64 t191, .int .i64 t192, .int .i64 t193]] rfl (by (try simp only [List.map_toArray, List.map_cons, List.map_nil]); first | done | rfl | (simp only [List.length_drop, List.length_take]; rfl)) ?_; (with_reducible refine (impl_FormatAct.calls k t191 t192 t193 t194 t195 _ A5.out (TabW.below htab0 (by repeat (first | (with_reducible first | exact HB.out | apply bA | apply bN | apply b1) | exact HB.out)))).mono ?_); rintro e w14 ⟨rfl, hb⟩; refine ⟨_, rfl, ?_⟩; replace BK185 := am (blk_below (pkb BK185.out) hb); replace HB := am (below_step (pkh HB.out) hb); (try clear hb); (try clear hb2); (try clear hk); (try clear hi)))
   go_ret
   exact ⟨by first | rfl | (simp [errW_none, errW_some] <;> rfl) | (simp [*, errW_none, errW_some] <;> rfl), by repeat (first | (with_reducible first | exact HB.out | apply bA | apply bN | apply b1 | refine bS ?_ (by assumption)) | exact HB.out)⟩
 ·rw [if_neg c6] at H
  exact absurd H (by simp)

end Go.Proofs.YtefbmfgifjphfaaDoor.PFnExactFormatAct
