-- written by xprint.py for this seat
import Derived.Test.YtefbmfgifjphfaaDoorPFnExactParseActx0
import Derived.Test.YtefbmfgifjphfaaDoorPFnExactParseActx5
namespace Go.Proofs.YtefbmfgifjphfaaDoor.PFnExactParseAct
open Go.RowKit Go.Proofs.YtefbmfgifjphfaaDoorW.PrintWords Go.Proofs.YtefbmfgifjphfaaDoorW.PrintLast Go.Proofs.YtefbmfgifjphfaaDoorW.PrintMore
attribute [local go_sem] max2_int min2_int max_two min_two max_three min_three max_four min_four   -- for this text's walks alone
set_option linter.unusedVariables false
set_option linter.unusedSimpArgs false

/-! ### impl_ActOk: function 26 -/
def impl_ActOk.f (a0_0 : Int) (a0_1 : Int) (a0_2 : Int) : Option (Bool) := if a0_0 = 1 then ((impl_within.f a0_1 1 50).bind fun t196 => (if t196 = true then ((impl_isHarvest.f a0_2).bind fun t197 => (some t197)) else (some false))) else (if a0_0 = 2 then (if a0_1 ≥ 0 then (if a0_1 ≤ a0_2 then (some (decide (a0_2 ≤ 10000))) else (some false)) else (some false)) else (if a0_0 = 3 then ((impl_within.f a0_1 0 24).bind fun t198 => (if t198 = true then ((impl_within.f a0_2 0 1).bind fun t199 => (some t199)) else (some false))) else (if a0_0 = 4 then ((impl_SpanOk.f a0_1 a0_2).bind fun t200 => (some t200)) else (if a0_0 = 5 then ((impl_IsValue.f a0_1).bind fun t201 => (if t201 = true then (some (a0_2 == 0)) else (some false))) else (some false)))))
set_option maxHeartbeats 8000000 in
set_option maxRecDepth 100000 in
theorem impl_ActOk.calls (a0_0 : Int) (a0_1 : Int) (a0_2 : Int) (r : Bool) (w : World) (h : impl_ActOk.f a0_0 a0_1 a0_2 = some r) :
  Calls Tryd.prog 26 #[.agg #[.int .i64 a0_0, .int .i64 a0_1, .int .i64 a0_2]] w fun e w' => e = .returned (.bool r) ∧ Below w.heap.size w w' := by
 have hu31 := Tryd.underlying31; have hu64 := Tryd.underlying64; have HB := am (Below.refl w.heap.size w); have H : (if a0_0 = 1 then ((impl_within.f a0_1 1 50).bind fun t196 => (if t196 = true then ((impl_isHarvest.f a0_2).bind fun t197 => (some t197)) else (some false))) else (if a0_0 = 2 then (if a0_1 ≥ 0 then (if a0_1 ≤ a0_2 then (some (decide (a0_2 ≤ 10000))) else (some false)) else (some false)) else (if a0_0 = 3 then ((impl_within.f a0_1 0 24).bind fun t198 => (if t198 = true then ((impl_within.f a0_2 0 1).bind fun t199 => (some t199)) else (some false))) else (if a0_0 = 4 then ((impl_SpanOk.f a0_1 a0_2).bind fun t200 => (some t200)) else (if a0_0 = 5 then ((impl_IsValue.f a0_1).bind fun t201 => (if t201 = true then (some (a0_2 == 0)) else (some false))) else (some false)))))) = some r := h; clear h
 by_cases c2 : a0_0 = 1
 ·rw [if_pos c2] at H
  have c2b0 : (a0_0 == 1) = true := beq_iff_eq.mpr c2; have c2b1 : (a0_0 != 1) = false := bne_eq_false_iff_eq.mpr c2; clear c2; replace H := Option.bind_eq_some_iff.mp H; obtain ⟨t196, A30, H⟩ := H; replace H : (if t196 = true then ((impl_isHarvest.f a0_2).bind fun t197 => (some t197)) else (some false)) = some r := H; have A3 := am A30; clear A30
  by_cases c4 : t196 = true
  ·subst c4
   have H1 : ((impl_isHarvest.f a0_2).bind fun t197 => (some t197)) = some r := by rw [if_pos rfl] at H; exact H
   clear H; have H := H1; clear H1; replace H := Option.bind_eq_some_iff.mp H; obtain ⟨t197, A50, H⟩ := H; replace H : (some t197) = some r := H; have A5 := am A50; clear A50; obtain rfl := Option.some.inj H; go_enter Tryd.func26, Tryd.ntmps26
   go_wp2_with (first | ((with_reducible refine gate_dst (N := 1) rfl ?_); refine box_event ?hg (N := 1) ?hd (cs := #[.int .i64 a0_0, .int .i64 a0_1, .int .i64 a0_2]) (t := 31) ?hr ?_; (case hd => rfl); (case hg => rfl); (case hr => first | (go_simp; done) | (go_simp; rfl)); intro gb195 hg w6 hbox hb; have BK195 := am (hbox); have GW195 := am ((by rw [hg]; exact (below_size (pkh HB.out)) : w.heap.size ≤ gb195)); replace HB := am (below_step (pkh HB.out) hb); have GE195 := GW195; clear hb hbox hg; obtain ⟨hcz7_0, hcz7_1, hcz7_2, hfz7_0, hfz7_1, hfz7_2⟩ := pq3 BK195.out) | ((with_reducible refine gate_callee (f := 39) rfl ?_); refine goesL_ (some 9) rfl rfl Tryd.func39 (by kernel_rfl) rfl #[.int .i64 a0_1, .int .i64 1, .int .i64 50] rfl (by (try simp only [List.map_toArray, List.map_cons, List.map_nil]); first | done | rfl | (simp only [List.length_drop, List.length_take]; rfl)) ?_; (with_reducible refine (impl_within.calls a0_1 1 50 true _ A3.out).mono ?_); rintro e w' ⟨rfl, ⟨nd, rfl⟩⟩; refine ⟨_, rfl, ?_⟩) | (go_at_call 40; (with_reducible refine (impl_isHarvest.calls a0_2 t197 _ A5.out).mono ?_); rintro e w' ⟨rfl, ⟨nd, rfl⟩⟩))
   go_ret
   exact ⟨by first | rfl | (simp [errW_none, errW_some] <;> rfl) | (simp [*, errW_none, errW_some] <;> rfl), by repeat (first | (with_reducible first | exact HB.out | apply bA | apply bN | apply b1 | refine bS ?_ (by assumption)) | exact HB.out)⟩
  ·replace c4 := Bool.eq_false_iff.mpr c4
   subst c4
   have H1 : (some false) = some r := by rw [if_neg (show ¬ (false = true) by decide)] at H; exact H
   clear H; have H := H1; clear H1; obtain rfl := Option.some.inj H; go_enter Tryd.func26, Tryd.ntmps26
   go_wp2_with (first | ((with_reducible refine gate_dst (N := 1) rfl ?_); refine box_event ?hg (N := 1) ?hd (cs := #[.int .i64 a0_0, .int .i64 a0_1, .int .i64 a0_2]) (t := 31) ?hr ?_; (case hd => rfl); (case hg => rfl); (case hr => first | (go_simp; done) | (go_simp; rfl)); intro gb195 hg w8 hbox hb; have BK195 := am (hbox); have GW195 := am ((by rw [hg]; exact (below_size (pkh HB.out)) : w.heap.size ≤ gb195)); replace HB := am (below_step (pkh HB.out) hb); have GE195 := GW195; clear hb hbox hg; obtain ⟨hcz9_0, hcz9_1, hcz9_2, hfz9_0, hfz9_1, hfz9_2⟩ := pq3 BK195.out) | ((with_reducible refine gate_callee (f := 39) rfl ?_); refine goesL_ (some 9) rfl rfl Tryd.func39 (by kernel_rfl) rfl #[.int .i64 a0_1, .int .i64 1, .int .i64 50] rfl (by (try simp only [List.map_toArray, List.map_cons, List.map_nil]); first | done | rfl | (simp only [List.length_drop, List.length_take]; rfl)) ?_; (with_reducible refine (impl_within.calls a0_1 1 50 false _ A3.out).mono ?_); rintro e w' ⟨rfl, ⟨nd, rfl⟩⟩; refine ⟨_, rfl, ?_⟩))
   go_ret
   exact ⟨by first | rfl | (simp [errW_none, errW_some] <;> rfl) | (simp [*, errW_none, errW_some] <;> rfl), by repeat (first | (with_reducible first | exact HB.out | apply bA | apply bN | apply b1 | refine bS ?_ (by assumption)) | exact HB.out)⟩
 ·rw [if_neg c2] at H
  have c2b0 : (a0_0 == 1) = false := beq_eq_false_iff_ne.mpr c2; have c2b1 : (a0_0 != 1) = true := bne_iff_ne.mpr c2
  by_cases c10 : a0_0 = 2
  ·rw [if_pos c10] at H
   have c10b0 : (a0_0 == 2) = true := beq_iff_eq.mpr c10; have c10b1 : (a0_0 != 2) = false := bne_eq_false_iff_eq.mpr c10; clear c10
   by_cases c11 : a0_1 ≥ 0
   ·rw [if_pos c11] at H
    have c11b0 : decide (0 ≤ a0_1) = true := decide_eq_true c11; clear c11
    by_cases c12 : a0_1 ≤ a0_2
    ·rw [if_pos c12] at H
     have c12b0 : decide (a0_1 ≤ a0_2) = true := decide_eq_true c12; clear c12; obtain rfl := Option.some.inj H; go_enter Tryd.func26, Tryd.ntmps26
     go_wp2_with (first | ((with_reducible refine gate_dst (N := 1) rfl ?_); refine box_event ?hg (N := 1) ?hd (cs := #[.int .i64 a0_0, .int .i64 a0_1, .int .i64 a0_2]) (t := 31) ?hr ?_; (case hd => rfl); (case hg => rfl); (case hr => first | (go_simp; done) | (go_simp; rfl)); intro gb195 hg w13 hbox hb; have BK195 := am (hbox); have GW195 := am ((by rw [hg]; exact (below_size (pkh HB.out)) : w.heap.size ≤ gb195)); replace HB := am (below_step (pkh HB.out) hb); have GE195 := GW195; clear hb hbox hg; obtain ⟨hcz14_0, hcz14_1, hcz14_2, hfz14_0, hfz14_1, hfz14_2⟩ := pq3 BK195.out))
     go_ret
     exact ⟨by first | rfl | (simp [errW_none, errW_some] <;> rfl) | (simp [*, errW_none, errW_some] <;> rfl), by repeat (first | (with_reducible first | exact HB.out | apply bA | apply bN | apply b1 | refine bS ?_ (by assumption)) | exact HB.out)⟩
    ·rw [if_neg c12] at H
     have c12b0 : decide (a0_1 ≤ a0_2) = false := decide_eq_false c12; clear c12; obtain rfl := Option.some.inj H; go_enter Tryd.func26, Tryd.ntmps26
     go_wp2_with (first | ((with_reducible refine gate_dst (N := 1) rfl ?_); refine box_event ?hg (N := 1) ?hd (cs := #[.int .i64 a0_0, .int .i64 a0_1, .int .i64 a0_2]) (t := 31) ?hr ?_; (case hd => rfl); (case hg => rfl); (case hr => first | (go_simp; done) | (go_simp; rfl)); intro gb195 hg w15 hbox hb; have BK195 := am (hbox); have GW195 := am ((by rw [hg]; exact (below_size (pkh HB.out)) : w.heap.size ≤ gb195)); replace HB := am (below_step (pkh HB.out) hb); have GE195 := GW195; clear hb hbox hg; obtain ⟨hcz16_0, hcz16_1, hcz16_2, hfz16_0, hfz16_1, hfz16_2⟩ := pq3 BK195.out))
     go_ret
     exact ⟨by first | rfl | (simp [errW_none, errW_some] <;> rfl) | (simp [*, errW_none, errW_some] <;> rfl), by repeat (first | (with_reducible first | exact HB.out | apply bA | apply bN | apply b1 | refine bS ?_ (by assumption)) | exact HB.out)⟩
   ·rw [if_neg c11] at H
    have c11b0 : decide (0 ≤ a0_1) = false := decide_eq_false c11; clear c11; obtain rfl := Option.some.inj H; go_enter Tryd.func26, Tryd.ntmps26
    go_wp2_with (first | ((with_reducible refine gate_dst (N := 1) rfl ?_); refine box_event ?hg (N := 1) ?hd (cs := #[.int .i64 a0_0, .int .i64 a0_1, .int .i64 a0_2]) (t := 31) ?hr ?_; (case hd => rfl); (case hg => rfl); (case hr => first | (go_simp; done) | (go_simp; rfl)); intro gb195 hg w17 hbox hb; have BK195 := am (hbox); have GW195 := am ((by rw [hg]; exact (below_size (pkh HB.out)) : w.heap.size ≤ gb195)); replace HB := am (below_step (pkh HB.out) hb); have GE195 := GW195; clear hb hbox hg; obtain ⟨hcz18_0, hcz18_1, hcz18_2, hfz18_0, hfz18_1, hfz18_2⟩ := pq3 BK195.out))
    go_ret
    exact ⟨by first | rfl | (simp [errW_none, errW_some] <;> rfl) | (simp [*, errW_none, errW_some] <;> rfl), by repeat (first | (with_reducible first | exact HB.out | apply bA | apply bN | apply b1 | refine bS ?_ (by assumption)) | exact HB.out)⟩
  ·rw [if_neg c10] at H
   have c10b0 : (a0_0 == 2) = false := beq_eq_false_iff_ne.mpr c10; have c10b1 : (a0_0 != 2) = true := bne_iff_ne.mpr c10
   by_cases c19 : a0_0 = 3
   ·rw [if_pos c19] at H
    have c19b0 : (a0_0 == 3) = true := beq_iff_eq.mpr c19; have c19b1 : (a0_0 != 3) = false := bne_eq_false_iff_eq.mpr c19; clear c19; replace H := Option.bind_eq_some_iff.mp H; obtain ⟨t198, A200, H⟩ := H; replace H : (if t198 = true then ((impl_within.f a0_2 0 1).bind fun t199 => (some t199)) else (some false)) = some r := H; have A20 := am A200; clear A200
    by_cases c21 : t198 = true
    ·subst c21
     have H1 : ((impl_within.f a0_2 0 1).bind fun t199 => (some t199)) = some r := by rw [if_pos rfl] at H; exact H
     clear H; have H := H1; clear H1; replace H := Option.bind_eq_some_iff.mp H; obtain ⟨t199, A220, H⟩ := H; replace H : (some t199) = some r := H; have A22 := am A220; clear A220; obtain rfl := Option.some.inj H; go_enter Tryd.func26, Tryd.ntmps26
     go_wp2_with (first | ((with_reducible refine gate_dst (N := 1) rfl ?_); refine box_event ?hg (N := 1) ?hd (cs := #[.int .i64 a0_0, .int .i64 a0_1, .int .i64 a0_2]) (t := 31) ?hr ?_; (case hd => rfl); (case hg => rfl); (case hr => first | (go_simp; done) | (go_simp; rfl)); intro gb195 hg w23 hbox hb; have BK195 := am (hbox); have GW195 := am ((by rw [hg]; exact (below_size (pkh HB.out)) : w.heap.size ≤ gb195)); replace HB := am (below_step (pkh HB.out) hb); have GE195 := GW195; clear hb hbox hg; obtain ⟨hcz24_0, hcz24_1, hcz24_2, hfz24_0, hfz24_1, hfz24_2⟩ := pq3 BK195.out) | ((with_reducible refine gate_callee (f := 39) rfl ?_); refine goesL_ (some 36) rfl rfl Tryd.func39 (by kernel_rfl) rfl #[.int .i64 a0_1, .int .i64 0, .int .i64 24] rfl (by (try simp only [List.map_toArray, List.map_cons, List.map_nil]); first | done | rfl | (simp only [List.length_drop, List.length_take]; rfl)) ?_; (with_reducible refine (impl_within.calls a0_1 0 24 true _ A20.out).mono ?_); rintro e w' ⟨rfl, ⟨nd, rfl⟩⟩; refine ⟨_, rfl, ?_⟩) | (go_at_call 39; (with_reducible refine (impl_within.calls a0_2 0 1 t199 _ A22.out).mono ?_); rintro e w' ⟨rfl, ⟨nd, rfl⟩⟩))
     go_ret
     exact ⟨by first | rfl | (simp [errW_none, errW_some] <;> rfl) | (simp [*, errW_none, errW_some] <;> rfl), by repeat (first | (with_reducible first | exact HB.out | apply bA | apply bN | apply b1 | refine bS ?_ (by assumption)) | exact HB.out)⟩
    ·replace c21 := Bool.eq_false_iff.mpr c21
     subst c21
     have H1 : (some false) = some r := by rw [if_neg (show ¬ (false = true) by decide)] at H; exact H
     clear H; have H := H1; clear H1; obtain rfl := Option.some.inj H; go_enter Tryd.func26, Tryd.ntmps26
     go_wp2_with (first | ((with_reducible refine gate_dst (N := 1) rfl ?_); refine box_event ?hg (N := 1) ?hd (cs := #[.int .i64 a0_0, .int .i64 a0_1, .int .i64 a0_2]) (t := 31) ?hr ?_; (case hd => rfl); (case hg => rfl); (case hr => first | (go_simp; done) | (go_simp; rfl)); intro gb195 hg w25 hbox hb; have BK195 := am (hbox); have GW195 := am ((by rw [hg]; exact (below_size (pkh HB.out)) : w.heap.size ≤ gb195)); replace HB := am (below_step (pkh HB.out) hb); have GE195 := GW195; clear hb hbox hg; obtain ⟨hcz26_0, hcz26_1, hcz26_2, hfz26_0, hfz26_1, hfz26_2⟩ := pq3 BK195.out) | ((with_reducible refine gate_callee (f := 39) rfl ?_); refine goesL_ (some 36) rfl rfl Tryd.func39 (by kernel_rfl) rfl #[.int .i64 a0_1, .int .i64 0, .int .i64 24] rfl (by (try simp only [List.map_toArray, List.map_cons, List.map_nil]); first | done | rfl | (simp only [List.length_drop, List.length_take]; rfl)) ?_; (with_reducible refine (impl_within.calls a0_1 0 24 false _ A20.out).mono ?_); rintro e w' ⟨rfl, ⟨nd, rfl⟩⟩; refine ⟨_, rfl, ?_⟩))
     go_ret
     exact ⟨by first | rfl | (simp [errW_none, errW_some] <;> rfl) | (simp [*, errW_none, errW_some] <;> rfl), by repeat (first | (with_reducible first | exact HB.out | apply bA | apply bN | apply b1 | refine bS ?_ (by assumption)) | exact HB.out)⟩
   ·rw [if_neg c19] at H
    have c19b0 : (a0_0 == 3) = false := beq_eq_false_iff_ne.mpr c19; have c19b1 : (a0_0 != 3) = true := bne_iff_ne.mpr c19
    by_cases c27 : a0_0 = 4
    ·rw [if_pos c27] at H
     have c27b0 : (a0_0 == 4) = true := beq_iff_eq.mpr c27; have c27b1 : (a0_0 != 4) = false := bne_eq_false_iff_eq.mpr c27; clear c27; replace H := Option.bind_eq_some_iff.mp H; obtain ⟨t200, A280, H⟩ := H; replace H : (some t200) = some r := H; have A28 := am A280; clear A280; obtain rfl := Option.some.inj H; go_enter Tryd.func26, Tryd.ntmps26
     go_wp2_with (first | ((with_reducible refine gate_dst (N := 1) rfl ?_); refine box_event ?hg (N := 1) ?hd (cs := #[.int .i64 a0_0, .int .i64 a0_1, .int .i64 a0_2]) (t := 31) ?hr ?_; (case hd => rfl); (case hg => rfl); (case hr => first | (go_simp; done) | (go_simp; rfl)); intro gb195 hg w29 hbox hb; have BK195 := am (hbox); have GW195 := am ((by rw [hg]; exact (below_size (pkh HB.out)) : w.heap.size ≤ gb195)); replace HB := am (below_step (pkh HB.out) hb); have GE195 := GW195; clear hb hbox hg; obtain ⟨hcz30_0, hcz30_1, hcz30_2, hfz30_0, hfz30_1, hfz30_2⟩ := pq3 BK195.out) | ((with_reducible refine gate_callee (f := 41) rfl ?_); refine goesL_ (some 49) rfl rfl Tryd.func41 (by kernel_rfl) rfl #[.agg #[.int .i64 a0_1, .int .i64 a0_2]] rfl (by (try simp only [List.map_toArray, List.map_cons, List.map_nil]); first | done | rfl | (simp only [List.length_drop, List.length_take]; rfl)) ?_; (with_reducible refine (impl_SpanOk.calls a0_1 a0_2 t200 _ A28.out).mono ?_); rintro e w31 ⟨rfl, hb⟩; refine ⟨_, rfl, ?_⟩; replace BK195 := am (blk_below (pkb BK195.out) hb); replace HB := am (below_step (pkh HB.out) hb); (try clear hb); (try clear hb2); (try clear hk); (try clear hi)))
     go_ret
     exact ⟨by first | rfl | (simp [errW_none, errW_some] <;> rfl) | (simp [*, errW_none, errW_some] <;> rfl), by repeat (first | (with_reducible first | exact HB.out | apply bA | apply bN | apply b1 | refine bS ?_ (by assumption)) | exact HB.out)⟩
    ·rw [if_neg c27] at H
     have c27b0 : (a0_0 == 4) = false := beq_eq_false_iff_ne.mpr c27; have c27b1 : (a0_0 != 4) = true := bne_iff_ne.mpr c27
     by_cases c32 : a0_0 = 5
     ·rw [if_pos c32] at H
      have c32b0 : (a0_0 == 5) = true := beq_iff_eq.mpr c32; have c32b1 : (a0_0 != 5) = false := bne_eq_false_iff_eq.mpr c32; clear c32; replace H := Option.bind_eq_some_iff.mp H; obtain ⟨t201, A330, H⟩ := H; replace H : (if t201 = true then (some (a0_2 == 0)) else (some false)) = some r := H; have A33 := am A330; clear A330
      by_cases c34 : t201 = true
      ·subst c34
       have H1 : (some (a0_2 == 0)) = some r := by rw [if_pos rfl] at H; exact H
       clear H; have H := H1; clear H1; obtain rfl := Option.some.inj H; go_enter Tryd.func26, Tryd.ntmps26
       go_wp2_with (first | ((with_reducible refine gate_dst (N := 1) rfl ?_); refine box_event ?hg (N := 1) ?hd (cs := #[.int .i64 a0_0, .int .i64 a0_1, .int .i64 a0_2]) (t := 31) ?hr ?_; (case hd => rfl); (case hg => rfl); (case hr => first | (go_simp; done) | (go_simp; rfl)); intro gb195 hg w35 hbox hb; have BK195 := am (hbox); have GW195 := am ((by rw [hg]; exact (below_size (pkh HB.out)) : w.heap.size ≤ gb195)); replace HB := am (below_step (pkh HB.out) hb); have GE195 := GW195; clear hb hbox hg; obtain ⟨hcz36_0, hcz36_1, hcz36_2, hfz36_0, hfz36_1, hfz36_2⟩ := pq3 BK195.out) | ((with_reducible refine gate_callee (f := 42) rfl ?_); refine goesL_ (some 54) rfl rfl Tryd.func42 (by kernel_rfl) rfl #[.int .i64 a0_1] rfl (by (try simp only [List.map_toArray, List.map_cons, List.map_nil]); first | done | rfl | (simp only [List.length_drop, List.length_take]; rfl)) ?_; (with_reducible refine (impl_IsValue.calls a0_1 true _ A33.out).mono ?_); rintro e w' ⟨rfl, ⟨nd, rfl⟩⟩; refine ⟨_, rfl, ?_⟩))
       go_ret
       exact ⟨by first | rfl | (simp [errW_none, errW_some] <;> rfl) | (simp [*, errW_none, errW_some] <;> rfl), by repeat (first | (with_reducible first | exact HB.out | apply bA | apply bN | apply b1 | refine bS ?_ (by assumption)) | exact HB.out)⟩
      ·replace c34 := Bool.eq_false_iff.mpr c34
       subst c34
       have H1 : (some false) = some r := by rw [if_neg (show ¬ (false = true) by decide)] at H; exact H
       clear H; have H := H1; clear H1; obtain rfl := Option.some.inj H; go_enter Tryd.func26, Tryd.ntmps26
       go_wp2_with (first | ((with_reducible refine gate_dst (N := 1) rfl ?_); refine box_event ?hg (N := 1) ?hd (cs := #[.int .i64 a0_0, .int .i64 a0_1, .int .i64 a0_2]) (t := 31) ?hr ?_; (case hd => rfl); (case hg => rfl); (case hr => first | (go_simp; done) | (go_simp; rfl)); intro gb195 hg w37 hbox hb; have BK195 := am (hbox); have GW195 := am ((by rw [hg]; exact (below_size (pkh HB.out)) : w.heap.size ≤ gb195)); replace HB := am (below_step (pkh HB.out) hb); have GE195 := GW195; clear hb hbox hg; obtain ⟨hcz38_0, hcz38_1, hcz38_2, hfz38_0, hfz38_1, hfz38_2⟩ := pq3 BK195.out) | ((with_reducible refine gate_callee (f := 42) rfl ?_); refine goesL_ (some 54) rfl rfl Tryd.func42 (by kernel_rfl) rfl #[.int .i64 a0_1] rfl (by (try simp only [List.map_toArray, List.map_cons, List.map_nil]); first | done | rfl | (simp only [List.length_drop, List.length_take]; rfl)) ?_; (with_reducible refine (impl_IsValue.calls a0_1 false _ A33.out).mono ?_); rintro e w' ⟨rfl, ⟨nd, rfl⟩⟩; refine ⟨_, rfl, ?_⟩))
       go_ret
       exact ⟨by first | rfl | (simp [errW_none, errW_some] <;> rfl) | (simp [*, errW_none, errW_some] <;> rfl), by repeat (first | (with_reducible first | exact HB.out | apply bA | apply bN | apply b1 | refine bS ?_ (by assumption)) | exact HB.out)⟩
     ·rw [if_neg c32] at H
      have c32b0 : (a0_0 == 5) = false := beq_eq_false_iff_ne.mpr c32; have c32b1 : (a0_0 != 5) = true := bne_iff_ne.mpr c32; obtain rfl := Option.some.inj H; go_enter Tryd.func26, Tryd.ntmps26
      go_wp2_with (first | ((with_reducible refine gate_dst (N := 1) rfl ?_); refine box_event ?hg (N := 1) ?hd (cs := #[.int .i64 a0_0, .int .i64 a0_1, .int .i64 a0_2]) (t := 31) ?hr ?_; (case hd => rfl); (case hg => rfl); (case hr => first | (go_simp; done) | (go_simp; rfl)); intro gb195 hg w39 hbox hb; have BK195 := am (hbox); have GW195 := am ((by rw [hg]; exact (below_size (pkh HB.out)) : w.heap.size ≤ gb195)); replace HB := am (below_step (pkh HB.out) hb); have GE195 := GW195; clear hb hbox hg; obtain ⟨hcz40_0, hcz40_1, hcz40_2, hfz40_0, hfz40_1, hfz40_2⟩ := pq3 BK195.out))
      go_ret
      exact ⟨by first | rfl | (simp [errW_none, errW_some] <;> rfl) | (simp [*, errW_none, errW_some] <;> rfl), by repeat (first | (with_reducible first | exact HB.out | apply bA | apply bN | apply b1 | refine bS ?_ (by assumption)) | exact HB.out)⟩

/-! ### impl_actNames: function 27 -/
def impl_actNames.f  : Option (List ByteArray) := some (([(⟨#[]⟩ : ByteArray), (⟨#[116, 105, 99, 107]⟩ : ByteArray), (⟨#[100, 97, 114, 107]⟩ : ByteArray), (⟨#[117, 112, 108, 105, 110, 107]⟩ : ByteArray), (⟨#[99, 108, 111, 99, 107]⟩ : ByteArray), (⟨#[114, 101, 97, 100, 105, 110, 103]⟩ : ByteArray)] : List ByteArray))
set_option maxHeartbeats 8000000 in
set_option maxRecDepth 100000 in
theorem impl_actNames.calls  (r : List ByteArray) (w : World) (h : impl_actNames.f  = some r) :
  Calls Tryd.prog 27 #[] w fun e w' => ∃ v0_ : Value, e = .returned (v0_) ∧ Kd.R Kd.string 9 w' w.heap.size (fun _ => True) v0_ r ∧ Below w.heap.size w w' := by
 have HB := am (Below.refl w.heap.size w); have H : (some (([(⟨#[]⟩ : ByteArray), (⟨#[116, 105, 99, 107]⟩ : ByteArray), (⟨#[100, 97, 114, 107]⟩ : ByteArray), (⟨#[117, 112, 108, 105, 110, 107]⟩ : ByteArray), (⟨#[99, 108, 111, 99, 107]⟩ : ByteArray), (⟨#[114, 101, 97, 100, 105, 110, 103]⟩ : ByteArray)] : List ByteArray))) = some r := h; clear h; obtain ⟨y202, hy202⟩ : ∃ y_ : List ByteArray, y_ = (([(⟨#[]⟩ : ByteArray), (⟨#[116, 105, 99, 107]⟩ : ByteArray), (⟨#[100, 97, 114, 107]⟩ : ByteArray), (⟨#[117, 112, 108, 105, 110, 107]⟩ : ByteArray), (⟨#[99, 108, 111, 99, 107]⟩ : ByteArray), (⟨#[114, 101, 97, 100, 105, 110, 103]⟩ : ByteArray)] : List ByteArray)) := ⟨_, rfl⟩
 replace H : (some y202) = some r := by first | (rw [hy202]; with_reducible exact H) | (have H2_ := (Option.bind_some _ _).symm.trans H; rw [hy202]; with_reducible exact H2_) | (have H2_ := (Option.bind_some _ _).symm.trans H; with_reducible exact H2_) | with_reducible exact H | (rw [hy202]; exact H) | exact H
 have Ny202 := am hy202; clear hy202; obtain rfl := Option.some.inj H; go_enter Tryd.func27, Tryd.ntmps27
 go_wp2_with (first | ((with_reducible refine gate_dst (N := 1) rfl ?_); refine Kd.R_lit Kd.string _ 9 ?hg (N := 1) ?hd (xs := ([(⟨#[]⟩ : ByteArray), (⟨#[116, 105, 99, 107]⟩ : ByteArray), (⟨#[100, 97, 114, 107]⟩ : ByteArray), (⟨#[117, 112, 108, 105, 110, 107]⟩ : ByteArray), (⟨#[99, 108, 111, 99, 107]⟩ : ByteArray), (⟨#[114, 101, 97, 100, 105, 110, 103]⟩ : ByteArray)] : List ByteArray)) (inner := [.string (⟨#[]⟩ : ByteArray), .string (⟨#[116, 105, 99, 107]⟩ : ByteArray), .string (⟨#[100, 97, 114, 107]⟩ : ByteArray), .string (⟨#[117, 112, 108, 105, 110, 107]⟩ : ByteArray), .string (⟨#[99, 108, 111, 99, 107]⟩ : ByteArray), .string (⟨#[114, 101, 97, 100, 105, 110, 103]⟩ : ByteArray)]) (ok := fun _ => True) (okp := fun _ => True) ?hr ?hp (fun _ hk => hk) trivial (Below.refl _ _) (Nat.le_refl _) (by simp) ?_; (case hd => rfl); (case hg => rfl); (case hr => first | (go_simp; done) | (go_simp; rfl)); (case hp => exact (Reps.one (show Kd.M Kd.string _ _ _ (⟨#[]⟩ : ByteArray) [.string (⟨#[]⟩ : ByteArray)] from rfl) (Reps.one (show Kd.M Kd.string _ _ _ (⟨#[116, 105, 99, 107]⟩ : ByteArray) [.string (⟨#[116, 105, 99, 107]⟩ : ByteArray)] from rfl) (Reps.one (show Kd.M Kd.string _ _ _ (⟨#[100, 97, 114, 107]⟩ : ByteArray) [.string (⟨#[100, 97, 114, 107]⟩ : ByteArray)] from rfl) (Reps.one (show Kd.M Kd.string _ _ _ (⟨#[117, 112, 108, 105, 110, 107]⟩ : ByteArray) [.string (⟨#[117, 112, 108, 105, 110, 107]⟩ : ByteArray)] from rfl) (Reps.one (show Kd.M Kd.string _ _ _ (⟨#[99, 108, 111, 99, 107]⟩ : ByteArray) [.string (⟨#[99, 108, 111, 99, 107]⟩ : ByteArray)] from rfl) (Reps.one (show Kd.M Kd.string _ _ _ (⟨#[114, 101, 97, 100, 105, 110, 103]⟩ : ByteArray) [.string (⟨#[114, 101, 97, 100, 105, 110, 103]⟩ : ByteArray)] from rfl) (Reps.none _ _)))))))); intro v203 w1 ho2 hb hg_ hnew_; clear hg_ hnew_; (first | rw [← Ny202.out] at ho2 | (simp only [Int.reduceToNat] at ho2; rw [← Ny202.out] at ho2)); have HO204 := am (Kd.R_lower ho2 (below_size (pkh HB.out))); replace HB := am (below_step (pkh HB.out) hb); clear hb ho2))
 go_ret
 exact ⟨_, by first | rfl | (simp [errW_none, errW_some] <;> rfl) | (simp [*, errW_none, errW_some] <;> rfl), by (with_reducible repeat (first | apply Kd.R_alloc | apply Kd.R_drewN | apply Kd.R_drew)); exact HO204.out, by repeat (first | (with_reducible first | exact HB.out | apply bA | apply bN | apply b1) | exact HB.out)⟩

/-! ### impl_FormatAct: function 13 -/
def impl_FormatAct.f (k : Nat) (a0_0 : Int) (a0_1 : Int) (a0_2 : Int) : Option (ByteArray × Bool) := (impl_ActOk.f a0_0 a0_1 a0_2).bind fun t206 => (if t206 = true then (if a0_0 = 5 then ((impl_spaced.f k (⟨#[114, 101, 97, 100, 105, 110, 103]⟩ : ByteArray) (([a0_1] : List Int))).bind fun t210 => (some (t210, true))) else ((impl_actNames.f).bind fun t211 => (if 0 ≤ a0_0 then (if a0_0 < (t211.length : Int) then ((impl_spaced.f k (rdOf ByteArray.empty t211 a0_0) (([a0_1, a0_2] : List Int))).bind fun t218 => (some (t218, true))) else (none)) else (none)))) else (some ((⟨#[]⟩ : ByteArray), false)))
theorem impl_FormatAct.mono : ∀ a0 a1 a2 k, LeO (impl_FormatAct.f k a0 a1 a2) (impl_FormatAct.f (k + 1) a0 a1 a2) := by
 intro a0 a1 a2 k; unfold impl_FormatAct.f
 repeat' first
   | (with_reducible exact impl_spaced.mono _ _ _)
   | (with_reducible exact LeO.refl _)
   | (with_reducible exact LeO.none _)
   | (with_reducible refine LeO.ite ?_ ?_)
   | (with_reducible refine LeO.bind ?_ (fun _ => ?_))
   | exact impl_spaced.mono _ _ _
   | exact LeO.none _
   | refine LeO.ite ?_ ?_
   | refine LeO.bind ?_ (fun _ => ?_)
def impl_FormatAct.T5 : Bool × List (List Nat × List Nat) := (true, [([], []), ([], []), ([1], [1]), ([0, 2], [0, 2]), ([3], [3]), ([], []), ([5], [5]), ([], []), ([7], [7]), ([6, 8], [6, 8]), ([4, 9, 0], [4, 9]), ([10, 10, 0, 1, 2, 3, 4, 5, 6, 7, 8, 9, 10], [10]), ([11, 0, 1, 2, 3, 4, 5, 6, 7, 8, 9, 10, 11], [])])
def impl_FormatAct.B5 : List Nat := [0, 0, 2, 7, 15, 0, 32, 0, 128, 480, 1023, 2047, 4095]
theorem impl_FormatAct.tab5 : rtab .any (opsOf Tryd.f13 5) = impl_FormatAct.T5 := by kernel_rfl
theorem impl_FormatAct.bits5 : waitsOk impl_FormatAct.T5.2 impl_FormatAct.B5 = true := by kernel_rfl
set_option maxHeartbeats 8000000 in
set_option maxRecDepth 100000 in
theorem impl_FormatAct.calls (k : Nat) (a0_0 : Int) (a0_1 : Int) (a0_2 : Int) (r1 : ByteArray) (r2 : Bool) (w : World) (h : impl_FormatAct.f k a0_0 a0_1 a0_2 = some (r1, r2)) (htab0 : TabW w) :
  Calls Tryd.prog 13 #[.agg #[.int .i64 a0_0, .int .i64 a0_1, .int .i64 a0_2]] w fun e w' => e = .returned (.tuple #[.string r1, .bool r2]) ∧ Below w.heap.size w w' := by
 have hu31 := Tryd.underlying31; have HB := am (Below.refl w.heap.size w); have H : ((impl_ActOk.f a0_0 a0_1 a0_2).bind fun t206 => (if t206 = true then (if a0_0 = 5 then ((impl_spaced.f k (⟨#[114, 101, 97, 100, 105, 110, 103]⟩ : ByteArray) (([a0_1] : List Int))).bind fun t210 => (some (t210, true))) else ((impl_actNames.f).bind fun t211 => (if 0 ≤ a0_0 then (if a0_0 < (t211.length : Int) then ((impl_spaced.f k (rdOf ByteArray.empty t211 a0_0) (([a0_1, a0_2] : List Int))).bind fun t218 => (some (t218, true))) else (none)) else (none)))) else (some ((⟨#[]⟩ : ByteArray), false)))) = some (r1, r2) := h; clear h; replace H := Option.bind_eq_some_iff.mp H; obtain ⟨t206, A20, H⟩ := H; replace H : (if t206 = true then (if a0_0 = 5 then ((impl_spaced.f k (⟨#[114, 101, 97, 100, 105, 110, 103]⟩ : ByteArray) (([a0_1] : List Int))).bind fun t210 => (some (t210, true))) else ((impl_actNames.f).bind fun t211 => (if 0 ≤ a0_0 then (if a0_0 < (t211.length : Int) then ((impl_spaced.f k (rdOf ByteArray.empty t211 a0_0) (([a0_1, a0_2] : List Int))).bind fun t218 => (some (t218, true))) else (none)) else (none)))) else (some ((⟨#[]⟩ : ByteArray), false))) = some (r1, r2) := H; have A2 := am A20; clear A20
 by_cases c3 : t206 = true
 ·subst c3
  have H1 : (if a0_0 = 5 then ((impl_spaced.f k (⟨#[114, 101, 97, 100, 105, 110, 103]⟩ : ByteArray) (([a0_1] : List Int))).bind fun t210 => (some (t210, true))) else ((impl_actNames.f).bind fun t211 => (if 0 ≤ a0_0 then (if a0_0 < (t211.length : Int) then ((impl_spaced.f k (rdOf ByteArray.empty t211 a0_0) (([a0_1, a0_2] : List Int))).bind fun t218 => (some (t218, true))) else (none)) else (none)))) = some (r1, r2) := by rw [if_pos rfl] at H; exact H
  clear H; have H := H1; clear H1
  by_cases c4 : a0_0 = 5
  ·rw [if_pos c4] at H
   have c4b0 : (a0_0 == 5) = true := beq_iff_eq.mpr c4; have c4b1 : (a0_0 != 5) = false := bne_eq_false_iff_eq.mpr c4; clear c4; obtain ⟨y207, hy207⟩ : ∃ y_ : List Int, y_ = (([a0_1] : List Int)) := ⟨_, rfl⟩
   replace H : ((impl_spaced.f k (⟨#[114, 101, 97, 100, 105, 110, 103]⟩ : ByteArray) y207).bind fun t210 => (some (t210, true))) = some (r1, r2) := by first | (rw [hy207]; with_reducible exact H) | (have H2_ := (Option.bind_some _ _).symm.trans H; rw [hy207]; with_reducible exact H2_) | (have H2_ := (Option.bind_some _ _).symm.trans H; with_reducible exact H2_) | with_reducible exact H | (rw [hy207]; exact H) | exact H
   have Ny207 := am hy207; clear hy207; replace H := Option.bind_eq_some_iff.mp H; obtain ⟨t210, A50, H⟩ := H; replace H : (some (t210, true)) = some (r1, r2) := H; have A5 := am A50; clear A50; simp only [Option.some.injEq, Prod.mk.injEq] at H; obtain ⟨rfl, rfl⟩ := H; go_enter Tryd.func13, Tryd.ntmps13
   go_wp2_with (first | ((with_reducible refine gate_dst (N := 1) rfl ?_); refine box_event ?hg (N := 1) ?hd (cs := #[.int .i64 a0_0, .int .i64 a0_1, .int .i64 a0_2]) (t := 31) ?hr ?_; (case hd => rfl); (case hg => rfl); (case hr => first | (go_simp; done) | (go_simp; rfl)); intro gb205 hg w6 hbox hb; have BK205 := am (hbox); have GW205 := am ((by rw [hg]; exact (below_size (pkh HB.out)) : w.heap.size ≤ gb205)); replace HB := am (below_step (pkh HB.out) hb); have GE205 := GW205; clear hb hbox hg; obtain ⟨hcz7_0, hcz7_1, hcz7_2, hfz7_0, hfz7_1, hfz7_2⟩ := pq3 BK205.out) | ((with_reducible refine gate_callee (f := 26) rfl ?_); refine goesL_ (some 6) rfl rfl Tryd.func26 (by kernel_rfl) rfl #[.agg #[.int .i64 a0_0, .int .i64 a0_1, .int .i64 a0_2]] rfl (by (try simp only [List.map_toArray, List.map_cons, List.map_nil]); first | done | rfl | (simp only [List.length_drop, List.length_take]; rfl)) ?_; (with_reducible refine (impl_ActOk.calls a0_0 a0_1 a0_2 true _ A2.out).mono ?_); rintro e w8 ⟨rfl, hb⟩; refine ⟨_, rfl, ?_⟩; replace BK205 := am (blk_below (pkb BK205.out) hb); replace HB := am (below_step (pkh HB.out) hb); (try clear hb); (try clear hb2); (try clear hk); (try clear hi); obtain ⟨hcz9_0, hcz9_1, hcz9_2, hfz9_0, hfz9_1, hfz9_2⟩ := pq3 BK205.out) | ((with_reducible refine gate_dst (N := 14) rfl ?_); refine Kd.R_lit (Kd.int .i64) _ 3 ?hg (N := 14) ?hd (xs := ([a0_1] : List Int)) (inner := [.int .i64 a0_1]) (ok := fun _ => True) (okp := fun _ => True) ?hr ?hp (fun _ hk => hk) trivial (Below.refl _ _) (Nat.le_refl _) (by simp) ?_; (case hd => rfl); (case hg => rfl); (case hr => first | (go_simp; done) | (go_simp; rfl)); (case hp => exact (Reps.one (show Kd.M (Kd.int .i64) _ _ _ a0_1 [.int .i64 a0_1] from rfl) (Reps.none _ _))); intro v208 w10 ho11 hb hg_ hnew_; clear hg_ hnew_; (first | rw [← Ny207.out] at ho11 | (simp only [Int.reduceToNat] at ho11; rw [← Ny207.out] at ho11)); have HO209 := am (Kd.R_lower ho11 (below_size (pkh HB.out))); replace BK205 := am (blk_below (pkb BK205.out) hb); replace HB := am (below_step (pkh HB.out) hb); clear hb ho11; obtain ⟨Ao12, co12, eo12⟩ := Kd.R_slice HO209.out; subst eo12) | ((with_reducible refine gate_callee (f := 23) rfl ?_); refine goesL_ (some 15) rfl rfl Tryd.func23 (by kernel_rfl) rfl #[.string (⟨#[114, 101, 97, 100, 105, 110, 103]⟩ : ByteArray), .slice Ao12 y207.length co12] rfl (by (try simp only [List.map_toArray, List.map_cons, List.map_nil]); first | done | rfl | (simp only [List.length_drop, List.length_take]; rfl)) ?_; (with_reducible refine (impl_spaced.calls k (⟨#[114, 101, 97, 100, 105, 110, 103]⟩ : ByteArray) _ _ y207 t210 _ ?side1 ?side2 A5.out (TabW.below htab0 (by repeat (first | (with_reducible first | exact HB.out | apply bA | apply bN | apply b1 | refine bS ?_ (by assumption)) | exact HB.out)))).mono ?_); (case side1 => exact pkc (Kd.R_reads' HO209.out).2.2); (case side2 => exact (Kd.R_reads' HO209.out).2.1); rintro e w13 ⟨rfl, hb⟩; refine ⟨_, rfl, ?_⟩; replace HO209 := am (Kd.R_below (pkr HO209.out) hb); replace BK205 := am (blk_below (pkb BK205.out) hb); replace HB := am (below_step (pkh HB.out) hb); (try clear hb); (try clear hb2); (try clear hk); (try clear hi)))
   go_ret2
   exact ⟨by first | rfl | (simp [errW_none, errW_some] <;> rfl) | (simp [*, errW_none, errW_some] <;> rfl), by repeat (first | (with_reducible first | exact HB.out | apply bA | apply bN | apply b1 | refine bS ?_ (by assumption)) | exact HB.out)⟩
  ·rw [if_neg c4] at H
   have c4b0 : (a0_0 == 5) = false := beq_eq_false_iff_ne.mpr c4; have c4b1 : (a0_0 != 5) = true := bne_iff_ne.mpr c4; replace H := Option.bind_eq_some_iff.mp H; obtain ⟨t211, A140, H⟩ := H; replace H : (if 0 ≤ a0_0 then (if a0_0 < (t211.length : Int) then ((impl_spaced.f k (rdOf ByteArray.empty t211 a0_0) (([a0_1, a0_2] : List Int))).bind fun t218 => (some (t218, true))) else (none)) else (none)) = some (r1, r2) := H; have A14 := am A140; clear A140
   by_cases c15 : 0 ≤ a0_0
   ·rw [if_pos c15] at H
    have c15b0 : decide (0 ≤ a0_0) = true := decide_eq_true c15; clear c15
    by_cases c16 : a0_0 < (t211.length : Int)
    ·rw [if_pos c16] at H
     have c16b0 : decide (a0_0 < (t211.length : Int)) = true := decide_eq_true c16; clear c16; obtain ⟨y215, hy215⟩ : ∃ y_ : List Int, y_ = (([a0_1, a0_2] : List Int)) := ⟨_, rfl⟩
     replace H : ((impl_spaced.f k (rdOf ByteArray.empty t211 a0_0) y215).bind fun t218 => (some (t218, true))) = some (r1, r2) := by first | (rw [hy215]; with_reducible exact H) | (have H2_ := (Option.bind_some _ _).symm.trans H; rw [hy215]; with_reducible exact H2_) | (have H2_ := (Option.bind_some _ _).symm.trans H; with_reducible exact H2_) | with_reducible exact H | (rw [hy215]; exact H) | exact H
     have Ny215 := am hy215; clear hy215; replace H := Option.bind_eq_some_iff.mp H; obtain ⟨t218, A170, H⟩ := H; replace H : (some (t218, true)) = some (r1, r2) := H; have A17 := am A170; clear A170; simp only [Option.some.injEq, Prod.mk.injEq] at H; obtain ⟨rfl, rfl⟩ := H; go_enter Tryd.func13, Tryd.ntmps13; (try go_wp2_with (first | ((with_reducible refine gate_dst (N := 1) rfl ?_); refine box_event ?hg (N := 1) ?hd (cs := #[.int .i64 a0_0, .int .i64 a0_1, .int .i64 a0_2]) (t := 31) ?hr ?_; (case hd => rfl); (case hg => rfl); (case hr => first | (go_simp; done) | (go_simp; rfl)); intro gb205 hg w18 hbox hb; have BK205 := am (hbox); have GW205 := am ((by rw [hg]; exact (below_size (pkh HB.out)) : w.heap.size ≤ gb205)); replace HB := am (below_step (pkh HB.out) hb); have GE205 := GW205; clear hb hbox hg; obtain ⟨hcz19_0, hcz19_1, hcz19_2, hfz19_0, hfz19_1, hfz19_2⟩ := pq3 BK205.out) | ((with_reducible refine gate_callee (f := 26) rfl ?_); refine goesL_ (some 6) rfl rfl Tryd.func26 (by kernel_rfl) rfl #[.agg #[.int .i64 a0_0, .int .i64 a0_1, .int .i64 a0_2]] rfl (by (try simp only [List.map_toArray, List.map_cons, List.map_nil]); first | done | rfl | (simp only [List.length_drop, List.length_take]; rfl)) ?_; (with_reducible refine (impl_ActOk.calls a0_0 a0_1 a0_2 true _ A2.out).mono ?_); rintro e w20 ⟨rfl, hb⟩; refine ⟨_, rfl, ?_⟩; replace BK205 := am (blk_below (pkb BK205.out) hb); replace HB := am (below_step (pkh HB.out) hb); (try clear hb); (try clear hb2); (try clear hk); (try clear hi); obtain ⟨hcz21_0, hcz21_1, hcz21_2, hfz21_0, hfz21_1, hfz21_2⟩ := pq3 BK205.out))); replace BK205 := am (blk_drew BK205.out); replace HB := am (below_drew1 HB.out); refine start_ (n := 13) (S := fun w' => True) (ds := []) #[false, false, false, false, false, false, false, false, false, false, false, false, false] (by kernel_rfl) rfl rfl trivial (fun hHeld => ?_); refine with_tabW impl_FormatAct.tab5 impl_FormatAct.bits5 (fun HT_ HW_ => ?_); generalize w20.drew = w22 at BK205 HB hHeld ⊢; refine pure_ (i := 1) (N := some 17) (v := ?_) (a' := ?_) #[false, true, false, false, false, false, false, false, false, false, false, false, false] rfl rfl (any_of HT_.out (by kernel_rfl)) (fun _ _ _ h => h) (Or.inl ⟨by rfl, ?_⟩) ?_ ?_; rotate_left
     ·intro w'
      go_simp; with_reducible rfl
     rotate_left
     ·simp only [Act.put, sa, s0, s1, i64_w, i32_w]
      rfl
     refine pure_ (i := 5) (N := some 21) (v := ?_) (a' := ?_) #[false, true, false, false, false, true, false, false, false, false, false, false, false] rfl rfl (any_of HT_.out (by kernel_rfl)) (fun _ _ _ h => h) (Or.inl ⟨by rfl, ?_⟩) ?_ ?_; rotate_left
     ·intro w'
      go_simp; with_reducible rfl
     rotate_left
     ·simp only [Act.put, sa, s0, s1, i64_w, i32_w]
      rfl
     refine pure_ (i := 7) (N := some 23) (v := ?_) (a' := ?_) #[false, true, false, false, false, true, false, true, false, false, false, false, false] rfl rfl (any_of HT_.out (by kernel_rfl)) (fun _ _ _ h => h) (Or.inl ⟨by rfl, ?_⟩) ?_ ?_; rotate_left
     ·intro w'
      go_simp; with_reducible rfl
     rotate_left
     ·simp only [Act.put, sa, s0, s1, i64_w, i32_w]
      rfl
     refine inv_at [0, 2, 3, 4, 6, 8, 9, 10, 11, 12] (fun a0_ b a w' => ∃ (v212 : Value) (v216 : Value) (vp : Value), a = putSel a0_ b [(0, 16, v212), (2, 18, .int .i64 a0_0), (3, 19, vp), (4, 20, .string (rdOf ByteArray.empty t211 a0_0)), (6, 22, .int .i64 a0_1), (8, 24, .int .i64 a0_2), (9, 25, v216), (10, 26, .string t218), (11, 2, .string t218), (12, 3, .bool true)] ∧ (w'.heap[gb205]? = some (.cells #[.int .i64 a0_0, .int .i64 a0_1, .int .i64 a0_2] 31 (0, 0))) ∧ (Below w.heap.size w w') ∧ (b 0 = true → Kd.R Kd.string 9 w' w.heap.size (fun _ => True) v212 t211) ∧ (b 9 = true → Kd.R (Kd.int .i64) 3 w' w.heap.size (fun _ => True) v216 y215) ∧ (b 3 = true → ∃ (ad_ : Addr) (cp_ : Nat), v212 = .slice (some ad_) t211.length cp_ ∧ vp = .pointer (some (ad_.add (a0_0).toNat)))) HT_.out HW_.out (by kernel_rfl) (by kernel_rfl) ?_ ?_ ?_
     ·exact ⟨.bool false, .bool false, .bool false, by simp only [putSel, Bool.false_eq_true, if_false], BK205.out, HB.out, fun h_ => absurd h_ (by decide), fun h_ => absurd h_ (by decide), fun h_ => absurd h_ (by decide)⟩
     ·skip
      clear BK205 HB; refine steps_cons ?_ ?_
      ·rintro b a w' ⟨v212, v216, vp, ha, Q_BK205, Q_HB, Q_HO213, Q_HO217, Q_P⟩ hb_ hon hoff
       refine ⟨_, rfl, fun K hK => ?_⟩; replace ha := am ha; have BK205 := am Q_BK205; have HB := am Q_HB; refine goes_ Tryd.func27 (by kernel_rfl) rfl #[] (by rfl) rfl rfl (by first | (simp only [List.map_toArray, List.map_cons, List.map_nil, Act.eval, Array.getD_eq_getD_getElem?, Option.getD_some]; done) | (simp only [List.map_toArray, List.map_cons, List.map_nil, Act.eval, Array.getD_eq_getD_getElem?, Option.getD_some]; rfl)) ?_; (with_reducible refine (impl_actNames.calls  t211 _ A14.out).mono ?_); rintro e w23 ⟨v212, rfl, ho0, hb⟩; refine ⟨_, rfl, ?_⟩; have n0_ := am (Kd.R_lower ho0 (below_size (pkh HB.out))); have n1_ := am (blk_below (pkb BK205.out) hb); have n2_ := am (below_step (pkh HB.out) hb)
       have z_HO217 := fun (h0_ : b 9 = true) => (show Kd.R (Kd.int .i64) 3 w23 w.heap.size (fun _ => True) v216 y215 from by first | exact (Kd.R_below (pkr ((Q_HO217 h0_))) hb) | exact Kd.R_mono (Kd.R_below (pkr ((Q_HO217 h0_))) hb) (fun _ h_ => by first | trivial | exact h_ | exact h_.1))
       clear BK205; clear HB; have HO213 := n0_; have BK205 := n1_; have HB := n2_; clear n0_ n1_ n2_; (try clear hb); (try clear hb2); (try clear hk); (try clear hi); (try clear ho0); refine hK.out _ _ ⟨v212, v216, vp, (by rw [ha.out]; exact putSel_upk 0 hb_ rfl rfl rfl), (pkb BK205.out), (pkh HB.out), fun _ => (pkr HO213.out), z_HO217, fun h_ => absurd ((hoff 3 (by kernel_rfl)).symm.trans h_) (by decide)⟩
      refine steps_cons ?_ ?_
      ·rintro b a w' ⟨v212, v216, vp, ha, Q_BK205, Q_HB, Q_HO213, Q_HO217, Q_P⟩ hb_ hon hoff
       refine ⟨_, rfl, fun K hK => ?_⟩
       have e17 : a.tmps[17]? = some (.pointer (some ⟨gb205, 0, none⟩)) := by rw [ha]; exact (putSel_off rfl).trans rfl
       replace ha := am ha; have BK205 := am Q_BK205; have HB := am Q_HB; have hc0_ : w'.cell? ⟨gb205, 0, none⟩ = some (.int .i64 a0_0) := (blk_cell BK205.out 0).trans rfl; have hc1_ : w'.cell? ⟨gb205, 1, none⟩ = some (.int .i64 a0_1) := (blk_cell BK205.out 1).trans rfl; have hc2_ : w'.cell? ⟨gb205, 2, none⟩ = some (.int .i64 a0_2) := (blk_cell BK205.out 2).trans rfl; refine value_ (w1 := w') (v := .int .i64 a0_0) (by rfl) rfl ?_ ?_
       ·go_simp
        (try simp only [i64_w]); try rfl
       refine hK.out _ _ ⟨v212, v216, vp, (by rw [ha.out]; exact putSel_upk 1 hb_ rfl rfl rfl), Q_BK205, Q_HB, Q_HO213, Q_HO217, Q_P⟩
      refine steps_cons ?_ ?_
      ·rintro b a w' ⟨v212, v216, vp, ha, Q_BK205, Q_HB, Q_HO213, Q_HO217, Q_P⟩ hb_ hon hoff
       refine ⟨_, rfl, fun K hK => ?_⟩
       have e16 : a.tmps[16]? = some (v212) := by rw [ha]; exact putSel_on (e := (0, 16, v212)) 0 rfl rfl (hon 0 (by kernel_rfl)) rfl
       have e18 : a.tmps[18]? = some (.int .i64 a0_0) := by rw [ha]; exact putSel_on (e := (2, 18, .int .i64 a0_0)) 1 rfl rfl (hon 2 (by kernel_rfl)) rfl
       replace ha := am ha; have BK205 := am Q_BK205; have HB := am Q_HB; have HO213 := am (Q_HO213 (hon 0 (by kernel_rfl))); obtain ⟨Ao_, co_, eo_⟩ := Kd.R_slice HO213.out; have p_ : 0 ≤ (a0_0 : Int) := of_decide_eq_true (by first | (with_reducible assumption) | assumption); have q_ : a0_0 < (t211.length : Int) := of_decide_eq_true (by first | (with_reducible assumption) | assumption); have HOs_ := HO213.out; rw [eo_] at HOs_ e16; obtain ⟨ad_, ea_, hx_⟩ := Kd.at_string (Kd.R_reads' HOs_).2.2 a0_0 p_ q_; cases ea_; clear hx_; replace p_ := eq_true p_; replace q_ := eq_true q_; refine value_ (w1 := w') (v := .pointer (some (ad_.add (a0_0).toNat))) (by rfl) rfl ?_ ?_
       ·go_simp
        (try simp only [i64_w]); try rfl
       refine hK.out _ _ ⟨v212, v216, .pointer (some (ad_.add (a0_0).toNat)), (by rw [ha.out]; exact putSel_upk 2 hb_ rfl rfl rfl), Q_BK205, Q_HB, Q_HO213, Q_HO217, fun _ => ⟨ad_, co_, eo_, rfl⟩⟩
      refine steps_cons ?_ ?_
      ·rintro b a w' ⟨v212, v216, vp, ha, Q_BK205, Q_HB, Q_HO213, Q_HO217, Q_P⟩ hb_ hon hoff
       refine ⟨_, rfl, fun K hK => ?_⟩
       have e19 : a.tmps[19]? = some (vp) := by rw [ha]; exact putSel_on (e := (3, 19, vp)) 2 rfl rfl (hon 3 (by kernel_rfl)) rfl
       replace ha := am ha; have BK205 := am Q_BK205; have HB := am Q_HB; have HO213 := am (Q_HO213 (hon 0 (by kernel_rfl))); obtain ⟨ad214, cp_, eo_, hp_⟩ := Q_P (hon 3 (by kernel_rfl)); have HOs_ := HO213.out; rw [eo_] at HOs_; rw [hp_] at e19; have p_ : 0 ≤ (a0_0 : Int) := of_decide_eq_true (by first | (with_reducible assumption) | assumption); have q_ : a0_0 < (t211.length : Int) := of_decide_eq_true (by first | (with_reducible assumption) | assumption); obtain ⟨ad214_z, e214_z, hx214_0_z⟩ := Kd.at_string (Kd.R_reads' HOs_).2.2 a0_0 p_ q_; cases e214_z; have hs0_ : w'.cell? (ad214.add (a0_0).toNat) = some (.string (rdOf ByteArray.empty t211 a0_0)) := (by first | exact hx214_0_z | (have h_ := hx214_0_z; (try simp only [Int.reduceToNat, Nat.zero_mul, Nat.reduceMul, Nat.reduceEqDiff, Go.Addr.add, ↓reduceIte, Addr.add_zero'] at h_); exact h_)); refine value_ (w1 := w') (v := .string (rdOf ByteArray.empty t211 a0_0)) (by rfl) rfl ?_ ?_
       ·go_simp
        (try simp only [i64_w]); try rfl
       refine hK.out _ _ ⟨v212, v216, vp, (by rw [ha.out]; exact putSel_upk 3 hb_ rfl rfl rfl), Q_BK205, Q_HB, Q_HO213, Q_HO217, Q_P⟩
      refine steps_cons ?_ ?_
      ·rintro b a w' ⟨v212, v216, vp, ha, Q_BK205, Q_HB, Q_HO213, Q_HO217, Q_P⟩ hb_ hon hoff
       refine ⟨_, rfl, fun K hK => ?_⟩
       have e21 : a.tmps[21]? = some (.pointer (some ⟨gb205, 1, none⟩)) := by rw [ha]; exact (putSel_off rfl).trans rfl
       replace ha := am ha; have BK205 := am Q_BK205; have HB := am Q_HB; have hc0_ : w'.cell? ⟨gb205, 0, none⟩ = some (.int .i64 a0_0) := (blk_cell BK205.out 0).trans rfl; have hc1_ : w'.cell? ⟨gb205, 1, none⟩ = some (.int .i64 a0_1) := (blk_cell BK205.out 1).trans rfl; have hc2_ : w'.cell? ⟨gb205, 2, none⟩ = some (.int .i64 a0_2) := (blk_cell BK205.out 2).trans rfl; refine value_ (w1 := w') (v := .int .i64 a0_1) (by rfl) rfl ?_ ?_
       ·go_simp
        (try simp only [i64_w]); try rfl
       refine hK.out _ _ ⟨v212, v216, vp, (by rw [ha.out]; exact putSel_upk 4 hb_ rfl rfl rfl), Q_BK205, Q_HB, Q_HO213, fun h0_ => absurd ((hoff 9 (by kernel_rfl)).symm.trans h0_) (by decide), Q_P⟩
      refine steps_cons ?_ ?_
      ·rintro b a w' ⟨v212, v216, vp, ha, Q_BK205, Q_HB, Q_HO213, Q_HO217, Q_P⟩ hb_ hon hoff
       refine ⟨_, rfl, fun K hK => ?_⟩
       have e23 : a.tmps[23]? = some (.pointer (some ⟨gb205, 2, none⟩)) := by rw [ha]; exact (putSel_off rfl).trans rfl
       replace ha := am ha; have BK205 := am Q_BK205; have HB := am Q_HB; have hc0_ : w'.cell? ⟨gb205, 0, none⟩ = some (.int .i64 a0_0) := (blk_cell BK205.out 0).trans rfl; have hc1_ : w'.cell? ⟨gb205, 1, none⟩ = some (.int .i64 a0_1) := (blk_cell BK205.out 1).trans rfl; have hc2_ : w'.cell? ⟨gb205, 2, none⟩ = some (.int .i64 a0_2) := (blk_cell BK205.out 2).trans rfl; refine value_ (w1 := w') (v := .int .i64 a0_2) (by rfl) rfl ?_ ?_
       ·go_simp
        (try simp only [i64_w]); try rfl
       refine hK.out _ _ ⟨v212, v216, vp, (by rw [ha.out]; exact putSel_upk 5 hb_ rfl rfl rfl), Q_BK205, Q_HB, Q_HO213, fun h0_ => absurd ((hoff 9 (by kernel_rfl)).symm.trans h0_) (by decide), Q_P⟩
      refine steps_cons ?_ ?_
      ·rintro b a w' ⟨v212, v216, vp, ha, Q_BK205, Q_HB, Q_HO213, Q_HO217, Q_P⟩ hb_ hon hoff
       refine ⟨_, rfl, fun K hK => ?_⟩
       have e22 : a.tmps[22]? = some (.int .i64 a0_1) := by rw [ha]; exact putSel_on (e := (6, 22, .int .i64 a0_1)) 4 rfl rfl (hon 6 (by kernel_rfl)) rfl
       have e24 : a.tmps[24]? = some (.int .i64 a0_2) := by rw [ha]; exact putSel_on (e := (8, 24, .int .i64 a0_2)) 5 rfl rfl (hon 8 (by kernel_rfl)) rfl
       replace ha := am ha; have BK205 := am Q_BK205; have HB := am Q_HB; refine Kd.R_lit_step (Kd.int .i64) _ 3 ?hg (N := 25) ?hd (xs := ([a0_1, a0_2] : List Int)) (inner := [.int .i64 a0_1, .int .i64 a0_2]) (ok := fun _ => True) (okp := fun _ => True) ?hr ?hp (fun _ hk => hk) trivial (Below.refl _ _) (Nat.le_refl _) (by simp) ?_; (case hd => rfl); (case hg => rfl); (case hr => first | (go_simp; done) | (go_simp; rfl)); (case hp => exact (Reps.one (show Kd.M (Kd.int .i64) _ _ _ a0_1 [.int .i64 a0_1] from rfl) (Reps.one (show Kd.M (Kd.int .i64) _ _ _ a0_2 [.int .i64 a0_2] from rfl) (Reps.none _ _)))); intro v216 w23 ho24 hb hg_ hnew_; clear hg_ hnew_; (first | rw [← Ny215.out] at ho24 | (simp only [Int.reduceToNat] at ho24; rw [← Ny215.out] at ho24)); have n0_ := am (Kd.R_lower ho24 (below_size (pkh HB.out))); have n1_ := am (blk_below (pkb BK205.out) hb); have n2_ := am (below_step (pkh HB.out) hb)
       have z_HO213 := fun (h0_ : b 0 = true) => (show Kd.R Kd.string 9 w23 w.heap.size (fun _ => True) v212 t211 from by first | exact (Kd.R_below (pkr ((Q_HO213 h0_))) hb) | exact Kd.R_mono (Kd.R_below (pkr ((Q_HO213 h0_))) hb) (fun _ h_ => by first | trivial | exact h_ | exact h_.1))
       clear BK205; clear HB; have HO217 := n0_; have BK205 := n1_; have HB := n2_; clear n0_ n1_ n2_; clear hb ho24; refine hK.out _ _ ⟨v212, v216, vp, (by rw [ha.out]; exact putSel_upk 6 hb_ rfl rfl rfl), (pkb BK205.out), (pkh HB.out), z_HO213, fun _ => (pkr HO217.out), Q_P⟩
      refine steps_cons ?_ ?_
      ·rintro b a w' ⟨v212, v216, vp, ha, Q_BK205, Q_HB, Q_HO213, Q_HO217, Q_P⟩ hb_ hon hoff
       refine ⟨_, rfl, fun K hK => ?_⟩
       have e20 : a.tmps[20]? = some (.string (rdOf ByteArray.empty t211 a0_0)) := by rw [ha]; exact putSel_on (e := (4, 20, .string (rdOf ByteArray.empty t211 a0_0))) 3 rfl rfl (hon 4 (by kernel_rfl)) rfl
       have e25 : a.tmps[25]? = some (v216) := by rw [ha]; exact putSel_on (e := (9, 25, v216)) 6 rfl rfl (hon 9 (by kernel_rfl)) rfl
       replace ha := am ha; have BK205 := am Q_BK205; have HB := am Q_HB; have HO213 := am (Q_HO213 (hon 0 (by kernel_rfl))); have HO217 := am (Q_HO217 (hon 9 (by kernel_rfl))); obtain ⟨Ao27, co27, eo27⟩ := Kd.R_slice HO217.out; (first | subst eo27 | (injection eo27 with f1_ f2_ f3_; have f4_ := f1_.symm; have f5_ := f3_.symm; clear f1_ f2_ f3_; subst f4_; subst f5_)); refine goes_ Tryd.func23 (by kernel_rfl) rfl #[.string (rdOf ByteArray.empty t211 a0_0), .slice Ao27 y215.length co27] (by rfl) rfl rfl (by first | (simp only [List.map_toArray, List.map_cons, List.map_nil, Act.eval, Array.getD_eq_getD_getElem?, Option.getD_some, e20, e25]; done) | (simp only [List.map_toArray, List.map_cons, List.map_nil, Act.eval, Array.getD_eq_getD_getElem?, Option.getD_some, e20, e25]; rfl)) ?_; (with_reducible refine (impl_spaced.calls k (rdOf ByteArray.empty t211 a0_0) _ _ y215 t218 _ ?side1 ?side2 A17.out (TabW.below htab0 (by repeat (first | (with_reducible first | exact HB.out | apply bA | apply bN | apply b1 | refine bS ?_ (by assumption)) | exact HB.out)))).mono ?_); (case side1 => exact pkc (Kd.R_reads' HO217.out).2.2); (case side2 => exact (Kd.R_reads' HO217.out).2.1); rintro e w28 ⟨rfl, hb⟩; refine ⟨_, rfl, ?_⟩; replace HO213 := am (Kd.R_below (pkr HO213.out) hb); replace HO217 := am (Kd.R_below (pkr HO217.out) hb); replace BK205 := am (blk_below (pkb BK205.out) hb); replace HB := am (below_step (pkh HB.out) hb); (try clear hb); (try clear hb2); (try clear hk); (try clear hi); refine hK.out _ _ ⟨v212, .slice Ao27 y215.length co27, vp, (by rw [ha.out]; exact putSel_upk 7 hb_ rfl rfl rfl), (pkb BK205.out), (pkh HB.out), fun _ => (pkr HO213.out), fun _ => (pkr HO217.out), Q_P⟩
      refine steps_cons ?_ ?_
      ·rintro b a w' ⟨v212, v216, vp, ha, Q_BK205, Q_HB, Q_HO213, Q_HO217, Q_P⟩ hb_ hon hoff
       refine ⟨_, rfl, fun K hK => ?_⟩
       have e26 : a.tmps[26]? = some (.string t218) := by rw [ha]; exact putSel_on (e := (10, 26, .string t218)) 7 rfl rfl (hon 10 (by kernel_rfl)) rfl
       replace ha := am ha; have BK205 := am Q_BK205; have HB := am Q_HB; have HO213 := am (Q_HO213 (hon 0 (by kernel_rfl))); have HO217 := am (Q_HO217 (hon 9 (by kernel_rfl))); refine value_ (w1 := w') (v := .string t218) (by rfl) rfl ?_ ?_
       ·go_simp
        (try simp only [i64_w]); try rfl
       refine hK.out _ _ ⟨v212, v216, vp, (by rw [ha.out]; exact putSel_upk 8 hb_ rfl rfl rfl), Q_BK205, Q_HB, Q_HO213, Q_HO217, Q_P⟩
      refine steps_cons ?_ ?_
      ·rintro b a w' ⟨v212, v216, vp, ha, Q_BK205, Q_HB, Q_HO213, Q_HO217, Q_P⟩ hb_ hon hoff
       refine ⟨_, rfl, fun K hK => ?_⟩; replace ha := am ha; have BK205 := am Q_BK205; have HB := am Q_HB; have HO213 := am (Q_HO213 (hon 0 (by kernel_rfl))); have HO217 := am (Q_HO217 (hon 9 (by kernel_rfl))); refine value_ (w1 := w') (v := .bool true) (by rfl) rfl ?_ ?_
       ·go_simp
        (try simp only [i64_w]); try rfl
       refine hK.out _ _ ⟨v212, v216, vp, (by rw [ha.out]; exact putSel_upk 9 hb_ rfl rfl rfl), Q_BK205, Q_HB, Q_HO213, Q_HO217, Q_P⟩
      exact steps_nil
     rintro b a w28 hall ⟨v212, v216, vp, ha, Q_BK205, Q_HB, Q_HO213, Q_HO217, Q_P⟩; clear BK205 HB; have hb0_ := hall 0 (by kernel_rfl); have hb2_ := hall 2 (by kernel_rfl); have hb3_ := hall 3 (by kernel_rfl); have hb4_ := hall 4 (by kernel_rfl); have hb6_ := hall 6 (by kernel_rfl); have hb8_ := hall 8 (by kernel_rfl); have hb9_ := hall 9 (by kernel_rfl); have hb10_ := hall 10 (by kernel_rfl); have hb11_ := hall 11 (by kernel_rfl); have hb12_ := hall 12 (by kernel_rfl); subst ha; simp only [putSel, hb0_, hb2_, hb3_, hb4_, hb6_, hb8_, hb9_, hb10_, hb11_, hb12_, if_true, Act.put, sa, s0, s1]; have BK205 := am Q_BK205; clear Q_BK205; have HB := am Q_HB; clear Q_HB; have HO213 := am (Q_HO213 hb0_); clear Q_HO213; have HO217 := am (Q_HO217 hb9_); clear Q_HO217; clear hall hb0_ hb2_ hb3_ hb4_ hb6_ hb8_ hb9_ hb10_ hb11_ hb12_; obtain ⟨Ao29, co29, eo29⟩ := Kd.R_slice HO213.out; (first | subst eo29 | (injection eo29 with f1_ f2_ f3_; have f4_ := f1_.symm; have f5_ := f3_.symm; clear f1_ f2_ f3_; subst f4_; subst f5_)); have p214 : 0 ≤ (a0_0 : Int) := of_decide_eq_true (by first | (with_reducible assumption) | assumption); have q214 : a0_0 < (t211.length : Int) := of_decide_eq_true (by first | (with_reducible assumption) | assumption); obtain ⟨ad214, e214, hx214_0⟩ := Kd.at_string (Kd.R_reads' HO213.out).2.2 a0_0 p214 q214; cases e214; replace p214 := eq_true p214; replace q214 := eq_true q214; try go_wp2
     go_ret2
     exact ⟨by first | rfl | (simp [errW_none, errW_some] <;> rfl) | (simp [*, errW_none, errW_some] <;> rfl), by repeat (first | (with_reducible first | exact HB.out | apply bA | apply bN | apply b1 | refine bS ?_ (by assumption)) | exact HB.out)⟩
    ·rw [if_neg c16] at H
     exact absurd H (by simp)
   ·rw [if_neg c15] at H
    exact absurd H (by simp)
 ·replace c3 := Bool.eq_false_iff.mpr c3
  subst c3
  have H1 : (some ((⟨#[]⟩ : ByteArray), false)) = some (r1, r2) := by rw [if_neg (show ¬ (false = true) by decide)] at H; exact H
  clear H; have H := H1; clear H1; simp only [Option.some.injEq, Prod.mk.injEq] at H; obtain ⟨rfl, rfl⟩ := H; go_enter Tryd.func13, Tryd.ntmps13
  go_wp2_with (first | ((with_reducible refine gate_dst (N := 1) rfl ?_); refine box_event ?hg (N := 1) ?hd (cs := #[.int .i64 a0_0, .int .i64 a0_1, .int .i64 a0_2]) (t := 31) ?hr ?_; (case hd => rfl); (case hg => rfl); (case hr => first | (go_simp; done) | (go_simp; rfl)); intro gb205 hg w30 hbox hb; have BK205 := am (hbox); have GW205 := am ((by rw [hg]; exact (below_size (pkh HB.out)) : w.heap.size ≤ gb205)); replace HB := am (below_step (pkh HB.out) hb); have GE205 := GW205; clear hb hbox hg; obtain ⟨hcz31_0, hcz31_1, hcz31_2, hfz31_0, hfz31_1, hfz31_2⟩ := pq3 BK205.out) | ((with_reducible refine gate_callee (f := 26) rfl ?_); refine goesL_ (some 6) rfl rfl Tryd.func26 (by kernel_rfl) rfl #[.agg #[.int .i64 a0_0, .int .i64 a0_1, .int .i64 a0_2]] rfl (by (try simp only [List.map_toArray, List.map_cons, List.map_nil]); first | done | rfl | (simp only [List.length_drop, List.length_take]; rfl)) ?_; (with_reducible refine (impl_ActOk.calls a0_0 a0_1 a0_2 false _ A2.out).mono ?_); rintro e w32 ⟨rfl, hb⟩; refine ⟨_, rfl, ?_⟩; replace BK205 := am (blk_below (pkb BK205.out) hb); replace HB := am (below_step (pkh HB.out) hb); (try clear hb); (try clear hb2); (try clear hk); (try clear hi)))
  go_ret2
  exact ⟨by first | rfl | (simp [errW_none, errW_some] <;> rfl) | (simp [*, errW_none, errW_some] <;> rfl), by repeat (first | (with_reducible first | exact HB.out | apply bA | apply bN | apply b1 | refine bS ?_ (by assumption)) | exact HB.out)⟩

