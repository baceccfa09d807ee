-- written by xprint.py for this seat
import Derived.Test.YtdmmogcpamgdnaaPFnLinksx0
import Derived.Test.YtdmmogcpamgdnaaPFnLinksx5
namespace Go.Proofs.Ytdmmogcpamgdnaa.PFnLinks
set_option maxHeartbeats 8000000
set_option maxRecDepth 100000
open Go.RowKit Go.Proofs.YtdmmogcpamgdnaaW.PrintWords Go.Proofs.YtdmmogcpamgdnaaW.PrintLast Go.Proofs.YtdmmogcpamgdnaaW.PrintMore
attribute [local go_sem] max2_int min2_int max_two min_two max_three min_three max_four min_four   -- for this text's walks alone
set_option linter.unusedVariables false
set_option linter.unusedSimpArgs false

/-! ### impl_LinkOk: function 13 -/
def impl_LinkOk.f (k : Nat) (l0 : List Int) (a1_0 : Int) (l1_1 : List Int) : Option (Bool) := (impl_within.f a1_0 0 (l1_1.length : Int)).bind fun t428 => (if t428 = true then ((impl_MemSent.f l0).bind fun t429 => ((impl_IsPrefixOf.f k l1_1 t429).bind fun t432 => (some t432))) else (some false))
theorem impl_LinkOk.mono : ∀ a0 a1 a2 k, LeO (impl_LinkOk.f k a0 a1 a2) (impl_LinkOk.f (k + 1) a0 a1 a2) := by
 intro a0 a1 a2 k; unfold impl_LinkOk.f
 repeat' first
   | (with_reducible exact impl_IsPrefixOf.mono _ _ _)
   | (with_reducible exact LeO.refl _)
   | (with_reducible exact LeO.none _)
   | (with_reducible refine LeO.ite ?_ ?_)
   | (with_reducible refine LeO.bind ?_ (fun _ => ?_))
   | exact impl_IsPrefixOf.mono _ _ _
   | exact LeO.none _
   | refine LeO.ite ?_ ?_
   | refine LeO.bind ?_ (fun _ => ?_)
def impl_LinkOk.T1 : Bool × List (List Nat × List Nat) := (true, [([], []), ([0], [0]), ([], []), ([2], [2]), ([3], [3]), ([4], [4]), ([1, 5], [1, 5]), ([6, 6], [6]), ([7], [7]), ([8, 7], [7, 8]), ([9, 7], [7, 9]), ([7], [7]), ([11, 7, 7], [7, 11]), ([10, 12, 12, 7], [7, 10, 12]), ([7, 13], [7, 13]), ([14, 13, 0, 1, 2, 3, 4, 5, 6, 7, 8, 9, 10, 11, 12, 13, 14], [14])])
def impl_LinkOk.B1 : List Nat := [0, 1, 0, 4, 12, 28, 63, 127, 255, 511, 1023, 255, 2303, 8191, 16383, 32767]
theorem impl_LinkOk.tab1 : rtab .any (opsOf Try.f13 1) = impl_LinkOk.T1 := by kernel_rfl
theorem impl_LinkOk.bits1 : waitsOk impl_LinkOk.T1.2 impl_LinkOk.B1 = true := by kernel_rfl
theorem impl_LinkOk.calls (k : Nat) (A0 : Option Addr) (c0 : Nat) (l0 : List Int) (a1_0 : Int) (A1_1 : Option Addr) (c1_1 : Nat) (l1_1 : List Int) (r : Bool) (w : World) (hr0 : Kd.C (Kd.int .i64) w A0 l0.length l0) (hc0 : l0.length ≤ c0) (hr1_1 : Kd.C (Kd.int .i64) w A1_1 l1_1.length l1_1) (hc1_1 : l1_1.length ≤ c1_1) (h : impl_LinkOk.f k l0 a1_0 l1_1 = some r) :
  Calls Try.prog 13 #[.slice A0 l0.length c0, .agg #[.int .i64 a1_0, .slice A1_1 l1_1.length c1_1]] w fun e w' => e = .returned (.bool r) ∧ Below w.heap.size w w' := by
 have hu28 := Try.underlying28; have HR0 := am hr0; have HC0 := am hc0; clear hr0 hc0; have HR1_1 := am hr1_1; have HC1_1 := am hc1_1; clear hr1_1 hc1_1; have HB := am (Below.refl w.heap.size w); have H : ((impl_within.f a1_0 0 (l1_1.length : Int)).bind fun t428 => (if t428 = true then ((impl_MemSent.f l0).bind fun t429 => ((impl_IsPrefixOf.f k l1_1 t429).bind fun t432 => (some t432))) else (some false))) = some r := h; clear h; replace H := Option.bind_eq_some_iff.mp H; obtain ⟨t428, A30, H⟩ := H; replace H : (if t428 = true then ((impl_MemSent.f l0).bind fun t429 => ((impl_IsPrefixOf.f k l1_1 t429).bind fun t432 => (some t432))) else (some false)) = some r := H; have A3 := am A30; clear A30
 by_cases c4 : t428 = true
 ·subst c4
  have H1 : ((impl_MemSent.f l0).bind fun t429 => ((impl_IsPrefixOf.f k l1_1 t429).bind fun t432 => (some t432))) = some r := by rw [if_pos rfl] at H; exact H
  clear H; have H := H1; clear H1; replace H := Option.bind_eq_some_iff.mp H; obtain ⟨t429, A50, H⟩ := H; replace H : ((impl_IsPrefixOf.f k l1_1 t429).bind fun t432 => (some t432)) = some r := H; have A5 := am A50; clear A50; replace H := Option.bind_eq_some_iff.mp H; obtain ⟨t432, A60, H⟩ := H; replace H : (some t432) = some r := H; have A6 := am A60; clear A60; obtain rfl := Option.some.inj H; go_enter Try.func13, Try.ntmps13; (try go_wp2_with (first | ((with_reducible refine gate_dst (N := 3) rfl ?_); refine box_event ?hg (N := 3) ?hd (cs := #[.int .i64 a1_0, .slice A1_1 l1_1.length c1_1]) (t := 28) ?hr ?_; (case hd => rfl); (case hg => rfl); (case hr => first | (go_simp; done) | (go_simp; rfl)); intro gb427 hg w7 hbox hb; have BK427 := am (hbox); have GW427 := am ((by rw [hg]; exact (below_size (pkh HB.out)) : w.heap.size ≤ gb427)); replace HB := am (below_step (pkh HB.out) hb); have GE427 := GW427; clear hb hbox hg))); replace BK427 := am (blk_drew BK427.out); replace HB := am (below_drew1 HB.out); refine start_ (n := 16) (S := fun w' => w'.cell? ⟨gb427, 0, none⟩ = some (.int .i64 a1_0) ∧ w'.cell? ⟨gb427, 1, none⟩ = some (.slice A1_1 l1_1.length c1_1)) (ds := []) #[false, false, false, false, false, false, false, false, false, false, false, false, false, false, false, false] (by kernel_rfl) rfl rfl ⟨(blk_cell BK427.out 0).trans rfl, (blk_cell BK427.out 1).trans rfl⟩ (fun hHeld => ?_); refine with_tabW impl_LinkOk.tab1 impl_LinkOk.bits1 (fun HT_ HW_ => ?_); generalize w7.drew = w8 at BK427 HB hHeld ⊢; refine pure_ (i := 0) (N := some 5) (v := ?_) (a' := ?_) #[true, false, false, false, false, false, false, false, false, false, false, false, false, false, false, false] rfl rfl (any_of HT_.out (by kernel_rfl)) (fun _ _ _ h => h) (Or.inl ⟨by rfl, ?_⟩) ?_ ?_; rotate_left
  ·intro w'
   go_simp; with_reducible rfl
  rotate_left
  ·simp only [Act.put, sa, s0, s1, i64_w, i32_w]
   rfl
  refine pure_ (i := 2) (N := some 7) (v := ?_) (a' := ?_) #[true, false, true, false, false, false, false, false, false, false, false, false, false, false, false, false] rfl rfl (any_of HT_.out (by kernel_rfl)) (fun _ _ _ h => h) (Or.inl ⟨by rfl, ?_⟩) ?_ ?_; rotate_left
  ·intro w'
   go_simp; with_reducible rfl
  rotate_left
  ·simp only [Act.put, sa, s0, s1, i64_w, i32_w]
   rfl
  refine pure_ (i := 3) (N := some 8) (v := ?_) (a' := ?_) #[true, false, true, true, false, false, false, false, false, false, false, false, false, false, false, false] rfl rfl (any_of HT_.out (by kernel_rfl)) (fun _ _ _ h => h) (Or.inl ⟨by rfl, ?_⟩) ?_ ?_; rotate_left
  ·intro w'
   go_simp; with_reducible rfl
  rotate_left
  ·simp only [Act.put, sa, s0, s1, i64_w, i32_w]
   rfl
  refine take_ (i := 1) (N := some 6) (v := ?_) (a' := ?_) #[true, true, true, true, false, false, false, false, false, false, false, false, false, false, false, false] rfl rfl (take_ofW HT_.out HW_.out (by kernel_rfl)) (fun _ _ _ h => h) (Or.inl ⟨by rfl, ?_⟩) hHeld ?_ ?_; rotate_left
  ·rintro w' ⟨s0, s1⟩
   go_simp; with_reducible rfl
  rotate_left
  ·simp only [Act.put, sa, s0, s1, i64_w, i32_w]
   rfl
  refine take_ (i := 4) (N := some 9) (v := ?_) (a' := ?_) #[true, true, true, true, true, false, false, false, false, false, false, false, false, false, false, false] rfl rfl (take_ofW HT_.out HW_.out (by kernel_rfl)) (fun _ _ _ h => h) (Or.inl ⟨by rfl, ?_⟩) hHeld ?_ ?_; rotate_left
  ·rintro w' ⟨s0, s1⟩
   go_simp; with_reducible rfl
  rotate_left
  ·simp only [Act.put, sa, s0, s1, i64_w, i32_w]
   rfl
  refine pure_ (i := 5) (N := some 10) (v := ?_) (a' := ?_) #[true, true, true, true, true, true, false, false, false, false, false, false, false, false, false, false] rfl rfl (any_of HT_.out (by kernel_rfl)) (fun _ _ _ h => h) (Or.inl ⟨by rfl, ?_⟩) ?_ ?_; rotate_left
  ·intro w'
   go_simp; with_reducible rfl
  rotate_left
  ·simp only [Act.put, sa, s0, s1, i64_w, i32_w]
   rfl
  refine one_ (i := 6) (N := some 11) #[true, true, true, true, true, true, true, false, false, false, false, false, false, false, false, false] rfl rfl (one_of HT_.out (by kernel_rfl)) (by decide) (fun K hK => ?_); refine goes_ Try.func31 (by kernel_rfl) rfl #[.int .i64 a1_0, .int .i64 0, .int .i64 (l1_1.length : Int)] (by rfl) rfl rfl (by (try simp only [List.map_toArray, List.map_cons, List.map_nil]); first | done | rfl | (simp only [List.length_drop, List.length_take]; rfl)) ?_; (with_reducible refine (impl_within.calls a1_0 0 (l1_1.length : Int) true _ A3.out).mono ?_); rintro e w' ⟨rfl, ⟨nd, rfl⟩⟩; refine ⟨_, rfl, ?_⟩; refine hK.out _ _ ⟨(blk_cell BK427.out 0).trans rfl, (blk_cell BK427.out 1).trans rfl⟩ (fun hHeld => ?_); clear hK K; refine norm_ (a' := ?_) ?_ ?_; rotate_left
  ·show Act.put _ (some 11) _ = _
   simp only [Act.put, sa, s0, s1, i64_w, i32_w]; rfl
  refine pure_ (i := 7) (N := some 12) (v := ?_) (a' := ?_) #[true, true, true, true, true, true, true, true, false, false, false, false, false, false, false, false] rfl rfl (any_of HT_.out (by kernel_rfl)) (fun _ _ _ h => h) (Or.inl ⟨by rfl, ?_⟩) ?_ ?_; rotate_left
  ·intro w'
   go_simp; with_reducible rfl
  rotate_left
  ·simp only [Act.put, sa, s0, s1, i64_w, i32_w]
   rfl
  refine pure_ (i := 8) (N := some 13) (v := ?_) (a' := ?_) #[true, true, true, true, true, true, true, true, true, false, false, false, false, false, false, false] rfl rfl (any_of HT_.out (by kernel_rfl)) (fun _ _ _ h => h) (Or.inl ⟨by rfl, ?_⟩) ?_ ?_; rotate_left
  ·intro w'
   go_simp; with_reducible rfl
  rotate_left
  ·simp only [Act.put, sa, s0, s1, i64_w, i32_w]
   rfl
  refine pure_ (i := 9) (N := some 14) (v := ?_) (a' := ?_) #[true, true, true, true, true, true, true, true, true, true, false, false, false, false, false, false] rfl rfl (any_of HT_.out (by kernel_rfl)) (fun _ _ _ h => h) (Or.inl ⟨by rfl, ?_⟩) ?_ ?_; rotate_left
  ·intro w'
   go_simp; with_reducible rfl
  rotate_left
  ·simp only [Act.put, sa, s0, s1, i64_w, i32_w]
   rfl
  refine pure_ (i := 11) (N := some 16) (v := ?_) (a' := ?_) #[true, true, true, true, true, true, true, true, true, true, false, true, false, false, false, false] rfl rfl (any_of HT_.out (by kernel_rfl)) (fun _ _ _ h => h) (Or.inl ⟨by rfl, ?_⟩) ?_ ?_; rotate_left
  ·intro w'
   go_simp; with_reducible rfl
  rotate_left
  ·simp only [Act.put, sa, s0, s1, i64_w, i32_w]
   rfl
  refine take_ (i := 10) (N := some 15) (v := ?_) (a' := ?_) #[true, true, true, true, true, true, true, true, true, true, true, true, false, false, false, false] rfl rfl (take_ofW HT_.out HW_.out (by kernel_rfl)) (fun _ _ _ h => h) (Or.inl ⟨by rfl, ?_⟩) hHeld ?_ ?_; rotate_left
  ·rintro w' ⟨s0, s1⟩
   go_simp; with_reducible rfl
  rotate_left
  ·simp only [Act.put, sa, s0, s1, i64_w, i32_w]
   rfl
  refine one_ (i := 12) (N := some 17) #[true, true, true, true, true, true, true, true, true, true, true, true, true, false, false, false] rfl rfl (one_of HT_.out (by kernel_rfl)) (by decide) (fun K hK => ?_); refine goes_ Try.func17 (by kernel_rfl) rfl #[.slice A0 l0.length c0] (by rfl) rfl rfl (by (try simp only [List.map_toArray, List.map_cons, List.map_nil]); first | done | rfl | (simp only [List.length_drop, List.length_take]; rfl)) ?_; (with_reducible refine (impl_MemSent.calls _ _ l0 t429 _ ?side1 ?side2 A5.out).mono ?_); (case side1 => repeat (first | exact (Kd.C_below HR0.out (pkh HB.out)) | (with_reducible refine Kd.C_alloc ?_ _) | (with_reducible refine Kd.C_drewN ?_ _) | (with_reducible refine Kd.C_drew ?_))); (case side2 => exact HC0.out); rintro e w9 ⟨v430, rfl, ho0, hb⟩; refine ⟨_, rfl, ?_⟩; have HO431 := am (Kd.R_lower ho0 (below_size (pkh HB.out))); replace BK427 := am (blk_below (pkb BK427.out) hb); replace HB := am (below_step (pkh HB.out) hb); (try clear hb); (try clear hb2); (try clear hk); (try clear hi); (try clear ho0); obtain ⟨Ao10, co10, eo10⟩ := Kd.R_slice HO431.out; (first | subst eo10 | (injection eo10 with f1_ f2_ f3_; have f4_ := f1_.symm; have f5_ := f3_.symm; clear f1_ f2_ f3_; subst f4_; subst f5_)); refine hK.out _ _ ⟨(blk_cell BK427.out 0).trans rfl, (blk_cell BK427.out 1).trans rfl⟩ (fun hHeld => ?_); clear hK K; refine norm_ (a' := ?_) ?_ ?_; rotate_left
  ·show Act.put _ (some 17) _ = _
   simp only [Act.put, sa, s0, s1, i64_w, i32_w]; rfl
  refine one_ (i := 13) (N := some 18) #[true, true, true, true, true, true, true, true, true, true, true, true, true, true, false, false] rfl rfl (one_of HT_.out (by kernel_rfl)) (by decide) (fun K hK => ?_); refine goes_ Try.func16 (by kernel_rfl) rfl #[.slice A1_1 l1_1.length c1_1, .slice Ao10 t429.length co10] (by rfl) rfl rfl (by (try simp only [List.map_toArray, List.map_cons, List.map_nil]); first | done | rfl | (simp only [List.length_drop, List.length_take]; rfl)) ?_; (with_reducible refine (impl_IsPrefixOf.calls k _ _ l1_1 _ _ t429 t432 _ ?side1 ?side2 ?side3 ?side4 A6.out).mono ?_); (case side1 => exact pkc (Kd.C_below HR1_1.out HB.out)); (case side2 => exact HC1_1.out); (case side3 => exact pkc (Kd.R_reads' HO431.out).2.2); (case side4 => exact (Kd.R_reads' HO431.out).2.1); rintro e w' ⟨rfl, ⟨nd, rfl⟩⟩; refine ⟨_, rfl, ?_⟩; refine hK.out _ _ ⟨(blk_cell BK427.out 0).trans rfl, (blk_cell BK427.out 1).trans rfl⟩ (fun hHeld => ?_); clear hK K; refine norm_ (a' := ?_) ?_ ?_; rotate_left
  ·show Act.put _ (some 18) _ = _
   simp only [Act.put, sa, s0, s1, i64_w, i32_w]; rfl
  refine pure_ (i := 14) (N := some 19) (v := ?_) (a' := ?_) #[true, true, true, true, true, true, true, true, true, true, true, true, true, true, true, false] rfl rfl (any_of HT_.out (by kernel_rfl)) (fun _ _ _ h => h) (Or.inl ⟨by rfl, ?_⟩) ?_ ?_; rotate_left
  ·intro w'
   go_simp; with_reducible rfl
  rotate_left
  ·simp only [Act.put, sa, s0, s1, i64_w, i32_w]
   rfl
  refine pure_ (i := 15) (N := some 4) (v := ?_) (a' := ?_) #[true, true, true, true, true, true, true, true, true, true, true, true, true, true, true, true] rfl rfl (any_of HT_.out (by kernel_rfl)) (fun _ _ _ h => h) (Or.inl ⟨by rfl, ?_⟩) ?_ ?_; rotate_left
  ·intro w'
   go_simp; with_reducible rfl
  rotate_left
  ·simp only [Act.put, sa, s0, s1, i64_w, i32_w]
   rfl
  refine done_ (done_of HT_.out (by kernel_rfl)) ?_; try go_wp2
  go_ret
  exact ⟨by first | rfl | (simp [errW_none, errW_some] <;> rfl) | (simp [*, errW_none, errW_some] <;> rfl), by repeat (first | (with_reducible first | exact HB.out | apply bA | apply bN | apply b1 | refine bS ?_ (by assumption)) | exact HB.out)⟩
 ·replace c4 := Bool.eq_false_iff.mpr c4
  subst c4
  have H1 : (some false) = some r := by rw [if_neg (show ¬ (false = true) by decide)] at H; exact H
  clear H; have H := H1; clear H1; obtain rfl := Option.some.inj H; go_enter Try.func13, Try.ntmps13; (try go_wp2_with (first | ((with_reducible refine gate_dst (N := 3) rfl ?_); refine box_event ?hg (N := 3) ?hd (cs := #[.int .i64 a1_0, .slice A1_1 l1_1.length c1_1]) (t := 28) ?hr ?_; (case hd => rfl); (case hg => rfl); (case hr => first | (go_simp; done) | (go_simp; rfl)); intro gb427 hg w11 hbox hb; have BK427 := am (hbox); have GW427 := am ((by rw [hg]; exact (below_size (pkh HB.out)) : w.heap.size ≤ gb427)); replace HB := am (below_step (pkh HB.out) hb); have GE427 := GW427; clear hb hbox hg))); replace BK427 := am (blk_drew BK427.out); replace HB := am (below_drew1 HB.out); refine start_ (n := 16) (S := fun w' => w'.cell? ⟨gb427, 0, none⟩ = some (.int .i64 a1_0) ∧ w'.cell? ⟨gb427, 1, none⟩ = some (.slice A1_1 l1_1.length c1_1)) (ds := []) #[false, false, false, false, false, false, false, false, false, false, false, false, false, false, false, false] (by kernel_rfl) rfl rfl ⟨(blk_cell BK427.out 0).trans rfl, (blk_cell BK427.out 1).trans rfl⟩ (fun hHeld => ?_); refine with_tabW impl_LinkOk.tab1 impl_LinkOk.bits1 (fun HT_ HW_ => ?_); generalize w11.drew = w12 at BK427 HB hHeld ⊢; refine pure_ (i := 0) (N := some 5) (v := ?_) (a' := ?_) #[true, false, false, false, false, false, false, false, false, false, false, false, false, false, false, false] rfl rfl (any_of HT_.out (by kernel_rfl)) (fun _ _ _ h => h) (Or.inl ⟨by rfl, ?_⟩) ?_ ?_; rotate_left
  ·intro w'
   go_simp; with_reducible rfl
  rotate_left
  ·simp only [Act.put, sa, s0, s1, i64_w, i32_w]
   rfl
  refine pure_ (i := 2) (N := some 7) (v := ?_) (a' := ?_) #[true, false, true, false, false, false, false, false, false, false, false, false, false, false, false, false] rfl rfl (any_of HT_.out (by kernel_rfl)) (fun _ _ _ h => h) (Or.inl ⟨by rfl, ?_⟩) ?_ ?_; rotate_left
  ·intro w'
   go_simp; with_reducible rfl
  rotate_left
  ·simp only [Act.put, sa, s0, s1, i64_w, i32_w]
   rfl
  refine pure_ (i := 3) (N := some 8) (v := ?_) (a' := ?_) #[true, false, true, true, false, false, false, false, false, false, false, false, false, false, false, false] rfl rfl (any_of HT_.out (by kernel_rfl)) (fun _ _ _ h => h) (Or.inl ⟨by rfl, ?_⟩) ?_ ?_; rotate_left
  ·intro w'
   go_simp; with_reducible rfl
  rotate_left
  ·simp only [Act.put, sa, s0, s1, i64_w, i32_w]
   rfl
  refine take_ (i := 1) (N := some 6) (v := ?_) (a' := ?_) #[true, true, true, true, false, false, false, false, false, false, false, false, false, false, false, false] rfl rfl (take_ofW HT_.out HW_.out (by kernel_rfl)) (fun _ _ _ h => h) (Or.inl ⟨by rfl, ?_⟩) hHeld ?_ ?_; rotate_left
  ·rintro w' ⟨s0, s1⟩
   go_simp; with_reducible rfl
  rotate_left
  ·simp only [Act.put, sa, s0, s1, i64_w, i32_w]
   rfl
  refine take_ (i := 4) (N := some 9) (v := ?_) (a' := ?_) #[true, true, true, true, true, false, false, false, false, false, false, false, false, false, false, false] rfl rfl (take_ofW HT_.out HW_.out (by kernel_rfl)) (fun _ _ _ h => h) (Or.inl ⟨by rfl, ?_⟩) hHeld ?_ ?_; rotate_left
  ·rintro w' ⟨s0, s1⟩
   go_simp; with_reducible rfl
  rotate_left
  ·simp only [Act.put, sa, s0, s1, i64_w, i32_w]
   rfl
  refine pure_ (i := 5) (N := some 10) (v := ?_) (a' := ?_) #[true, true, true, true, true, true, false, false, false, false, false, false, false, false, false, false] rfl rfl (any_of HT_.out (by kernel_rfl)) (fun _ _ _ h => h) (Or.inl ⟨by rfl, ?_⟩) ?_ ?_; rotate_left
  ·intro w'
   go_simp; with_reducible rfl
  rotate_left
  ·simp only [Act.put, sa, s0, s1, i64_w, i32_w]
   rfl
  refine one_ (i := 6) (N := some 11) #[true, true, true, true, true, true, true, false, false, false, false, false, false, false, false, false] rfl rfl (one_of HT_.out (by kernel_rfl)) (by decide) (fun K hK => ?_); refine goes_ Try.func31 (by kernel_rfl) rfl #[.int .i64 a1_0, .int .i64 0, .int .i64 (l1_1.length : Int)] (by rfl) rfl rfl (by (try simp only [List.map_toArray, List.map_cons, List.map_nil]); first | done | rfl | (simp only [List.length_drop, List.length_take]; rfl)) ?_; (with_reducible refine (impl_within.calls a1_0 0 (l1_1.length : Int) false _ A3.out).mono ?_); rintro e w' ⟨rfl, ⟨nd, rfl⟩⟩; refine ⟨_, rfl, ?_⟩; refine hK.out _ _ ⟨(blk_cell BK427.out 0).trans rfl, (blk_cell BK427.out 1).trans rfl⟩ (fun hHeld => ?_); clear hK K; refine norm_ (a' := ?_) ?_ ?_; rotate_left
  ·show Act.put _ (some 11) _ = _
   simp only [Act.put, sa, s0, s1, i64_w, i32_w]; rfl
  refine pure_ (i := 7) (N := some 12) (v := ?_) (a' := ?_) #[true, true, true, true, true, true, true, true, false, false, false, false, false, false, false, false] rfl rfl (any_of HT_.out (by kernel_rfl)) (fun _ _ _ h => h) (Or.inl ⟨by rfl, ?_⟩) ?_ ?_; rotate_left
  ·intro w'
   go_simp; with_reducible rfl
  rotate_left
  ·simp only [Act.put, sa, s0, s1, i64_w, i32_w]
   rfl
  refine pure_ (i := 8) (N := some 13) (v := undef) (a' := ?_) #[true, true, true, true, true, true, true, true, true, false, false, false, false, false, false, false] rfl rfl (any_of HT_.out (by kernel_rfl)) (fun _ _ _ h => h) (Or.inr ⟨by rfl, rfl⟩) ?_ ?_; rotate_left
  ·simp only [Act.put, sa, s0, s1, i64_w, i32_w]
   rfl
  refine pure_ (i := 9) (N := some 14) (v := undef) (a' := ?_) #[true, true, true, true, true, true, true, true, true, true, false, false, false, false, false, false] rfl rfl (any_of HT_.out (by kernel_rfl)) (fun _ _ _ h => h) (Or.inr ⟨by rfl, rfl⟩) ?_ ?_; rotate_left
  ·simp only [Act.put, sa, s0, s1, i64_w, i32_w]
   rfl
  refine pure_ (i := 10) (N := some 15) (v := undef) (a' := ?_) #[true, true, true, true, true, true, true, true, true, true, true, false, false, false, false, false] rfl rfl (any_of HT_.out (by kernel_rfl)) (fun _ _ _ h => h) (Or.inr ⟨by rfl, rfl⟩) ?_ ?_; rotate_left
  ·simp only [Act.put, sa, s0, s1, i64_w, i32_w]
   rfl
  refine pure_ (i := 11) (N := some 16) (v := undef) (a' := ?_) #[true, true, true, true, true, true, true, true, true, true, true, true, false, false, false, false] rfl rfl (any_of HT_.out (by kernel_rfl)) (fun _ _ _ h => h) (Or.inr ⟨by rfl, rfl⟩) ?_ ?_; rotate_left
  ·simp only [Act.put, sa, s0, s1, i64_w, i32_w]
   rfl
  refine pure_ (i := 12) (N := some 17) (v := undef) (a' := ?_) #[true, true, true, true, true, true, true, true, true, true, true, true, true, false, false, false] rfl rfl (any_of HT_.out (by kernel_rfl)) (fun _ _ _ h => h) (Or.inr ⟨by rfl, rfl⟩) ?_ ?_; rotate_left
  ·simp only [Act.put, sa, s0, s1, i64_w, i32_w]
   rfl
  refine pure_ (i := 13) (N := some 18) (v := undef) (a' := ?_) #[true, true, true, true, true, true, true, true, true, true, true, true, true, true, false, false] rfl rfl (any_of HT_.out (by kernel_rfl)) (fun _ _ _ h => h) (Or.inr ⟨by rfl, rfl⟩) ?_ ?_; rotate_left
  ·simp only [Act.put, sa, s0, s1, i64_w, i32_w]
   rfl
  refine pure_ (i := 14) (N := some 19) (v := ?_) (a' := ?_) #[true, true, true, true, true, true, true, true, true, true, true, true, true, true, true, false] rfl rfl (any_of HT_.out (by kernel_rfl)) (fun _ _ _ h => h) (Or.inl ⟨by rfl, ?_⟩) ?_ ?_; rotate_left
  ·intro w'
   go_simp; with_reducible rfl
  rotate_left
  ·simp only [Act.put, sa, s0, s1, i64_w, i32_w]
   rfl
  refine pure_ (i := 15) (N := some 4) (v := ?_) (a' := ?_) #[true, true, true, true, true, true, true, true, true, true, true, true, true, true, true, true] rfl rfl (any_of HT_.out (by kernel_rfl)) (fun _ _ _ h => h) (Or.inl ⟨by rfl, ?_⟩) ?_ ?_; rotate_left
  ·intro w'
   go_simp; with_reducible rfl
  rotate_left
  ·simp only [Act.put, sa, s0, s1, i64_w, i32_w]
   rfl
  refine done_ (done_of HT_.out (by kernel_rfl)) ?_; try go_wp2
  go_ret
  exact ⟨by first | rfl | (simp [errW_none, errW_some] <;> rfl) | (simp [*, errW_none, errW_some] <;> rfl), by repeat (first | (with_reducible first | exact HB.out | apply bA | apply bN | apply b1 | refine bS ?_ (by assumption)) | exact HB.out)⟩

/-! ### impl_PacketsOf: function 14 -/
def impl_PacketsOf.l0 : Nat → List Int → List (S33) → Int → Option ((List (S33)))
 | 0, _, _, _ => none
 | k + 1, x5, x6, x7 => if x7 < (x5.length : Int) then (if 0 ≤ x7 then (if x6.length < 8796093022208 then (impl_PacketsOf.l0 k x5 (x6 ++ [(⟨x7, rd x5 x7⟩ : S33)]) (wrap64 (x7 + 1))) else (none)) else (none)) else (some x6)
def impl_PacketsOf.f (k : Nat) (l0 : List Int) (a1 : Int) : Option ((List (S33))) := (impl_MemSent.f l0).bind fun t433 => ((impl_within.f a1 0 (t433.length : Int)).bind fun t436 => (if t436 = true then (impl_PacketsOf.l0 k t433 (([] : List (S33))) a1) else (some ([] : List (S33)))))
theorem impl_PacketsOf.mono_l : ∀ k, (∀ y0 y1 y2, LeO (impl_PacketsOf.l0 k y0 y1 y2) (impl_PacketsOf.l0 (k + 1) y0 y1 y2))
 | 0 => fun _ _ _ r h => by simp [impl_PacketsOf.l0] at h
 | k + 1 => by
  have ih0 := impl_PacketsOf.mono_l k
  ·intro y0 y1 y2
   unfold impl_PacketsOf.l0
   repeat' first
   | (with_reducible exact ih0 _ _ _)
   | (with_reducible exact LeO.refl _)
   | (with_reducible exact LeO.none _)
   | (with_reducible refine LeO.ite ?_ ?_)
   | (with_reducible refine LeO.bind ?_ (fun _ => ?_))
   | exact ih0 _ _ _
   | exact LeO.none _
   | refine LeO.ite ?_ ?_
   | refine LeO.bind ?_ (fun _ => ?_)
theorem impl_PacketsOf.mono : ∀ a0 a1 k, LeO (impl_PacketsOf.f k a0 a1) (impl_PacketsOf.f (k + 1) a0 a1) := by
 intro a0 a1 k; have ih0 := impl_PacketsOf.mono_l k; unfold impl_PacketsOf.f
 repeat' first
   | (with_reducible exact ih0 _ _ _)
   | (with_reducible exact LeO.refl _)
   | (with_reducible exact LeO.none _)
   | (with_reducible refine LeO.ite ?_ ?_)
   | (with_reducible refine LeO.bind ?_ (fun _ => ?_))
   | exact ih0 _ _ _
   | exact LeO.none _
   | refine LeO.ite ?_ ?_
   | refine LeO.bind ?_ (fun _ => ?_)
theorem impl_PacketsOf.calls (k : Nat) (A0 : Option Addr) (c0 : Nat) (l0 : List Int) (a1 : Int) (r : List (S33)) (w : World) (hr0 : Kd.C (Kd.int .i64) w A0 l0.length l0) (hc0 : l0.length ≤ c0) (h : impl_PacketsOf.f k l0 a1 = some r) :
  Calls Try.prog 14 #[.slice A0 l0.length c0, .int .i64 a1] w fun e w' => ∃ v0_ : Value, e = .returned (v0_) ∧ Kd.R k33 33 w' w.heap.size (fun _ => True) v0_ r ∧ Below w.heap.size w w' := by
 have hu33 := Try.underlying33; have HR0 := am hr0; have HC0 := am hc0; clear hr0 hc0; have HB := am (Below.refl w.heap.size w); have H : ((impl_MemSent.f l0).bind fun t433 => ((impl_within.f a1 0 (t433.length : Int)).bind fun t436 => (if t436 = true then (impl_PacketsOf.l0 k t433 (([] : List (S33))) a1) else (some ([] : List (S33)))))) = some r := h; clear h; replace H := Option.bind_eq_some_iff.mp H; obtain ⟨t433, A30, H⟩ := H; replace H : ((impl_within.f a1 0 (t433.length : Int)).bind fun t436 => (if t436 = true then (impl_PacketsOf.l0 k t433 (([] : List (S33))) a1) else (some ([] : List (S33))))) = some r := H; have A3 := am A30; clear A30; replace H := Option.bind_eq_some_iff.mp H; obtain ⟨t436, A40, H⟩ := H; replace H : (if t436 = true then (impl_PacketsOf.l0 k t433 (([] : List (S33))) a1) else (some ([] : List (S33)))) = some r := H; have A4 := am A40; clear A40
 by_cases c5 : t436 = true
 ·subst c5
  have H1 : (impl_PacketsOf.l0 k t433 (([] : List (S33))) a1) = some r := by rw [if_pos rfl] at H; exact H
  clear H; have H := H1; clear H1; obtain ⟨y437, hy437⟩ : ∃ y_ : List (S33), y_ = (([] : List (S33))) := ⟨_, rfl⟩
  replace H : (impl_PacketsOf.l0 k t433 y437 a1) = some r := by first | (rw [hy437]; with_reducible exact H) | (have H2_ := (Option.bind_some _ _).symm.trans H; rw [hy437]; with_reducible exact H2_) | (have H2_ := (Option.bind_some _ _).symm.trans H; with_reducible exact H2_) | with_reducible exact H | (rw [hy437]; exact H) | exact H
  have Ny437 := am hy437; clear hy437; have H' := am H; clear H; go_enter Try.func14, Try.ntmps14
  go_wp2_with (first | ((with_reducible refine gate_callee (f := 17) rfl ?_); refine goesL_ (some 9) rfl rfl Try.func17 (by kernel_rfl) rfl #[.slice A0 l0.length c0] rfl (by (try simp only [List.map_toArray, List.map_cons, List.map_nil]); first | done | rfl | (simp only [List.length_drop, List.length_take]; rfl)) ?_; (with_reducible refine (impl_MemSent.calls _ _ l0 t433 _ ?side1 ?side2 A3.out).mono ?_); (case side1 => repeat (first | exact HR0.out | (with_reducible refine Kd.C_alloc ?_ _) | (with_reducible refine Kd.C_drewN ?_ _) | (with_reducible refine Kd.C_drew ?_))); (case side2 => exact HC0.out); rintro e w6 ⟨v434, rfl, ho0, hb⟩; refine ⟨_, rfl, ?_⟩; have HO435 := am (Kd.R_lower ho0 (below_size (pkh HB.out))); replace HB := am (below_step (pkh HB.out) hb); (try clear hb); (try clear hb2); (try clear hk); (try clear hi); (try clear ho0); obtain ⟨Ao7, co7, eo7⟩ := Kd.R_slice HO435.out; subst eo7) | ((with_reducible refine gate_callee (f := 31) rfl ?_); refine goesL_ (some 13) rfl rfl Try.func31 (by kernel_rfl) rfl #[.int .i64 a1, .int .i64 0, .int .i64 (t433.length : Int)] rfl (by (try simp only [List.map_toArray, List.map_cons, List.map_nil]); first | done | rfl | (simp only [List.length_drop, List.length_take]; rfl)) ?_; (with_reducible refine (impl_within.calls a1 0 (t433.length : Int) true _ A4.out).mono ?_); rintro e w' ⟨rfl, ⟨nd, rfl⟩⟩; refine ⟨_, rfl, ?_⟩) | ((with_reducible refine gate_dst (N := 15) rfl ?_); refine Kd.R_lit k33 _ 33 ?hg (N := 15) ?hd (xs := ([] : List (S33))) (inner := []) (ok := fun _ => True) (okp := fun _ => True) ?hr ?hp (fun _ hk => hk) trivial (Below.refl _ _) (Nat.le_refl _) (by simp) ?_; (case hd => rfl); (case hg => rfl); (case hr => first | (go_simp; done) | (go_simp; rfl)); (case hp => exact (Reps.none _ _)); intro v438 w8 ho9 hb hg_ hnew_; clear hg_ hnew_; (first | rw [← Ny437.out] at ho9 | (simp only [Int.reduceToNat] at ho9; rw [← Ny437.out] at ho9)); replace HO435 := am (Kd.R_below (pkr HO435.out) hb); have HO439 := am (Kd.R_lower ho9 (below_size (pkh HB.out))); replace HB := am (below_step (pkh HB.out) hb); clear hb ho9))
  go_loopg [6, 7] k (fun kq v6 v7 w' => ∃ (x6_1 : List (S33)) (x7_1 : Int), v7 = .int .i64 x7_1 ∧ Aside0 (impl_PacketsOf.l0 kq t433 x6_1 x7_1 = some r) ∧ Aside0 (kq ≤ k) ∧ Aside0 (Kd.R (Kd.int .i64) 3 w' w.heap.size (fun _ => True) (.slice Ao7 t433.length co7) t433) ∧ Aside0 (Kd.R k33 33 w' w.heap.size (fun _ => True) v6 x6_1) ∧ Aside0 (Below w.heap.size w w'))
  case atStart => exact ⟨(y437), (a1), (by first | rfl | (simp; done) | (simp [*]; done)), H', ⟨Nat.le_refl _⟩, ⟨by (with_reducible repeat (first | apply Kd.R_alloc | apply Kd.R_drewN | apply Kd.R_drew)); exact HO435.out⟩, ⟨by (with_reducible repeat (first | apply Kd.R_alloc | apply Kd.R_drewN | apply Kd.R_drew)); exact HO439.out⟩, ⟨by repeat (first | (with_reducible first | exact HB.out | apply bA | apply bN | apply b1) | exact HB.out)⟩⟩
  case round =>
   clear H'; (try clear p2); obtain ⟨x6_1, x7_1, rfl, HA, HK1, HO_5, HO_6, HB⟩ := hrel; cases gk with
   | zero => exact absurd HA.out (by simp [impl_PacketsOf.l0])
   | succ k1 =>
    have H := HA.out; clear HA; simp only [impl_PacketsOf.l0] at H
    by_cases c10 : x7_1 < (t433.length : Int)
    ·rw [if_pos c10] at H
     have c10b0 : decide (x7_1 < (t433.length : Int)) = true := decide_eq_true c10; clear c10
     by_cases c11 : 0 ≤ x7_1
     ·rw [if_pos c11] at H
      have c11b0 : decide (0 ≤ x7_1) = true := decide_eq_true c11; clear c11
      by_cases c12 : x6_1.length < 8796093022208
      ·rw [if_pos c12] at H
       have LMc12 := am c12; clear c12; obtain ⟨y441, hy441⟩ : ∃ y_ : List (S33), y_ = (x6_1 ++ [(⟨x7_1, rd t433 x7_1⟩ : S33)]) := ⟨_, rfl⟩
       replace H : (impl_PacketsOf.l0 k1 t433 y441 (wrap64 (x7_1 + 1))) = some r := by first | (rw [hy441]; with_reducible exact H) | (have H2_ := (Option.bind_some _ _).symm.trans H; rw [hy441]; with_reducible exact H2_) | (have H2_ := (Option.bind_some _ _).symm.trans H; with_reducible exact H2_) | with_reducible exact H | (rw [hy441]; exact H) | exact H
       have Ny441 := am hy441; clear hy441; have H' := am H; clear H; have p440 : 0 ≤ (x7_1 : Int) := of_decide_eq_true (by first | (with_reducible assumption) | assumption); have q440 : x7_1 < (t433.length : Int) := of_decide_eq_true (by first | (with_reducible assumption) | assumption); obtain ⟨ad440, e440, hx440_0⟩ := Kd.at_int (Kd.R_reads' HO_5.out).2.2 x7_1 p440 q440; cases e440; replace p440 := eq_true p440; replace q440 := eq_true q440
       go_wp2_with (first | ((with_reducible refine gate_builtin (b := .append) (xs := #[.tmp 23, .tmp 30]) rfl ?_); at_builtin; refine Kd.R_append k33 (w0 := w) w.heap.size rfl (.tmp 23) (.tmp 30) 38 33 (.agg #[(.int .i64 0), (.int .i64 0)]) 16 rfl Try.underlying38 info33 rfl (by decide) (by omega) u6 x6_1 (⟨x7_1, rd t433 x7_1⟩ : S33) [.int .i64 x7_1, .int .i64 (rd t433 x7_1)] (fun _ => True) (fun _ => False) rfl rfl ?aP (fun _ hk => hk.elim) ?aF ?aO ?aB ?aS ?aL ?_; (case aP => exact k33_mkM _ _ _ (⟨x7_1, rd t433 x7_1⟩ : S33)); (case aB => exact (pkh HB.out)); (case aF => exact (fun _ _ => trivial)); (case aO => exact (pkr HO_6.out)); (case aS => exact (below_size (pkh HB.out))); (case aL => have := LMc12.out; omega); intro v442 w13 ho hb hg hat; rw [← Ny441.out] at ho; replace HO_5 := am (Kd.R_over' (pkr HO_5.out) (Kd.R_typed (pkr HO_6.out)) (by decide) hg); replace HB := am (hb); have HO443 := am (ho); clear HO_6; clear ho hb hg hat))
       go_roundg k1
       case measure => have := HK1.out; omega
       case rel => exact ⟨(y441), (wrap64 (x7_1 + 1)), (by first | rfl | (simp; done) | (simp [*]; done)), H', ⟨by have := HK1.out; omega⟩, ⟨by (with_reducible repeat (first | apply Kd.R_alloc | apply Kd.R_drewN | apply Kd.R_drew)); exact HO_5.out⟩, ⟨by (with_reducible repeat (first | apply Kd.R_alloc | apply Kd.R_drewN | apply Kd.R_drew)); exact HO443.out⟩, ⟨by repeat (first | (with_reducible first | exact HB.out | apply bA | apply bN | apply b1) | exact HB.out)⟩⟩
      ·rw [if_neg c12] at H
       exact absurd H (by simp)
     ·rw [if_neg c11] at H
      exact absurd H (by simp)
    ·rw [if_neg c10] at H
     have c10b0 : decide (x7_1 < (t433.length : Int)) = false := decide_eq_false c10; clear c10; obtain rfl := Option.some.inj H
     go_wp2
     go_ret
     exact ⟨_, by first | rfl | (simp [errW_none, errW_some] <;> rfl) | (simp [*, errW_none, errW_some] <;> rfl), by (with_reducible repeat (first | apply Kd.R_alloc | apply Kd.R_drewN | apply Kd.R_drew)); exact HO_6.out, by repeat (first | (with_reducible first | exact HB.out | apply bA | apply bN | apply b1) | exact HB.out)⟩
 ·replace c5 := Bool.eq_false_iff.mpr c5
  subst c5
  have H1 : (some ([] : List (S33))) = some r := by rw [if_neg (show ¬ (false = true) by decide)] at H; exact H
  clear H; have H := H1; clear H1; obtain rfl := Option.some.inj H; go_enter Try.func14, Try.ntmps14
  go_wp2_with (first | ((with_reducible refine gate_callee (f := 17) rfl ?_); refine goesL_ (some 9) rfl rfl Try.func17 (by kernel_rfl) rfl #[.slice A0 l0.length c0] rfl (by (try simp only [List.map_toArray, List.map_cons, List.map_nil]); first | done | rfl | (simp only [List.length_drop, List.length_take]; rfl)) ?_; (with_reducible refine (impl_MemSent.calls _ _ l0 t433 _ ?side1 ?side2 A3.out).mono ?_); (case side1 => repeat (first | exact HR0.out | (with_reducible refine Kd.C_alloc ?_ _) | (with_reducible refine Kd.C_drewN ?_ _) | (with_reducible refine Kd.C_drew ?_))); (case side2 => exact HC0.out); rintro e w14 ⟨v434, rfl, ho0, hb⟩; refine ⟨_, rfl, ?_⟩; have HO435 := am (Kd.R_lower ho0 (below_size (pkh HB.out))); replace HB := am (below_step (pkh HB.out) hb); (try clear hb); (try clear hb2); (try clear hk); (try clear hi); (try clear ho0); obtain ⟨Ao15, co15, eo15⟩ := Kd.R_slice HO435.out; subst eo15) | ((with_reducible refine gate_callee (f := 31) rfl ?_); refine goesL_ (some 13) rfl rfl Try.func31 (by kernel_rfl) rfl #[.int .i64 a1, .int .i64 0, .int .i64 (t433.length : Int)] rfl (by (try simp only [List.map_toArray, List.map_cons, List.map_nil]); first | done | rfl | (simp only [List.length_drop, List.length_take]; rfl)) ?_; (with_reducible refine (impl_within.calls a1 0 (t433.length : Int) false _ A4.out).mono ?_); rintro e w' ⟨rfl, ⟨nd, rfl⟩⟩; refine ⟨_, rfl, ?_⟩))
  go_ret
  exact ⟨_, by first | rfl | (simp [errW_none, errW_some] <;> rfl) | (simp [*, errW_none, errW_some] <;> rfl), by first | exact Kd.R_nil _ _ _ _ _ | exact Kd.N_nil _ _ _ _ _ | exact Kd.V_nil _ _ _ _ _ | exact Kd.Q_nil _ _ _ _ _ | exact Kd.S_nil _ _ _ _ _, by repeat (first | (with_reducible first | exact HB.out | apply bA | apply bN | apply b1) | exact HB.out)⟩

/-! ### impl_Receive: function 11 -/
def impl_Receive.f (l0_0 : List Int) (a1_0 : Int) (a1_1 : Int) : Option (List Int × Int) := (slices_Clone_int_int.f l0_0).bind fun t447 => (if a1_0 = (l0_0.length : Int) then (if (l0_0.length : Int) < 255 then (if t447.length < 17592186044416 then ((some (t447 ++ [a1_1] : List Int)).bind fun y451 => (some (y451, (y451.length : Int)))) else (none)) else (some (t447, (t447.length : Int)))) else (some (t447, (t447.length : Int))))
theorem impl_Receive.calls (A0_0 : Option Addr) (c0_0 : Nat) (l0_0 : List Int) (a1_0 : Int) (a1_1 : Int) (r1 : List Int) (r2 : Int) (w : World) (hr0_0 : Kd.C (Kd.int .i64) w A0_0 l0_0.length l0_0) (hc0_0 : l0_0.length ≤ c0_0) (h : impl_Receive.f l0_0 a1_0 a1_1 = some (r1, r2)) :
  Calls Try.prog 11 #[.agg #[.slice A0_0 l0_0.length c0_0], .agg #[.int .i64 a1_0, .int .i64 a1_1]] w fun e w' => ∃ v0_ : Value, e = .returned (.tuple #[.agg #[v0_], .int .i64 r2]) ∧ Kd.R (Kd.int .i64) 3 w' w.heap.size (fun _ => True) v0_ r1 ∧ Below w.heap.size w w' := by
 have hu26 := Try.underlying26; have hu33 := Try.underlying33; have HR0_0 := am hr0_0; have HC0_0 := am hc0_0; clear hr0_0 hc0_0; have HB := am (Below.refl w.heap.size w); have H : ((slices_Clone_int_int.f l0_0).bind fun t447 => (if a1_0 = (l0_0.length : Int) then (if (l0_0.length : Int) < 255 then (if t447.length < 17592186044416 then ((some (t447 ++ [a1_1] : List Int)).bind fun y451 => (some (y451, (y451.length : Int)))) else (none)) else (some (t447, (t447.length : Int)))) else (some (t447, (t447.length : Int))))) = some (r1, r2) := h; clear h; replace H := Option.bind_eq_some_iff.mp H; obtain ⟨t447, A30, H⟩ := H; replace H : (if a1_0 = (l0_0.length : Int) then (if (l0_0.length : Int) < 255 then (if t447.length < 17592186044416 then ((some (t447 ++ [a1_1] : List Int)).bind fun y451 => (some (y451, (y451.length : Int)))) else (none)) else (some (t447, (t447.length : Int)))) else (some (t447, (t447.length : Int)))) = some (r1, r2) := H; have A3 := am A30; clear A30
 by_cases c4 : a1_0 = (l0_0.length : Int)
 ·rw [if_pos c4] at H
  have c4b0 : (a1_0 == (l0_0.length : Int)) = true := beq_iff_eq.mpr c4; have c4b1 : (a1_0 != (l0_0.length : Int)) = false := bne_eq_false_iff_eq.mpr c4; clear c4
  by_cases c5 : (l0_0.length : Int) < 255
  ·rw [if_pos c5] at H
   have c5b0 : decide ((l0_0.length : Int) < 255) = true := decide_eq_true c5; have c5b1 : decide (l0_0.length < 255) = true := decide_eq_true (by omega); clear c5
   by_cases c6 : t447.length < 17592186044416
   ·rw [if_pos c6] at H
    have LMc6 := am c6; clear c6; obtain ⟨y451, hy451⟩ : ∃ y_ : List Int, y_ = (t447 ++ [a1_1]) := ⟨_, rfl⟩
    replace H : (some (y451, (y451.length : Int))) = some (r1, r2) := by first | (rw [hy451]; with_reducible exact H) | (have H2_ := (Option.bind_some _ _).symm.trans H; rw [hy451]; with_reducible exact H2_) | (have H2_ := (Option.bind_some _ _).symm.trans H; with_reducible exact H2_) | with_reducible exact H | (rw [hy451]; exact H) | exact H
    have Ny451 := am hy451; clear hy451; simp only [Option.some.injEq, Prod.mk.injEq] at H; obtain ⟨rfl, rfl⟩ := H; go_enter Try.func11, Try.ntmps11; (try go_wp2_with (first | ((with_reducible refine gate_dst (N := 2) rfl ?_); (try (refine gate_guard (by rfl) ?_; dsimp only)); refine box_event ?hg (N := 2) ?hd (cs := #[.slice A0_0 l0_0.length c0_0]) (t := 26) ?hr ?_; (case hd => rfl); (case hg => rfl); (case hr => first | (go_simp; done) | (go_simp; rfl)); intro gb444 hg w7 hbox hb; have BK444 := am (hbox); have GW444 := am ((by rw [hg]; exact (below_size (by repeat (first | (with_reducible first | exact HB.out | apply bA | apply bN | apply b1) | exact HB.out))) : w.heap.size ≤ gb444)); replace HB := am (below_step (by repeat (first | (with_reducible first | exact HB.out | apply bA | apply bN | apply b1) | exact HB.out)) hb); have GE444 := GW444; clear hb hbox hg) | ((with_reducible refine gate_dst (N := 3) rfl ?_); (try (refine gate_guard (by rfl) ?_; dsimp only)); refine box_event ?hg (N := 3) ?hd (cs := #[.int .i64 a1_0, .int .i64 a1_1]) (t := 33) ?hr ?_; (case hd => rfl); (case hg => rfl); (case hr => first | (go_simp; done) | (go_simp; rfl)); intro gb445 hg w8 hbox hb; have BK445 := am (hbox); have GW445 := am ((by rw [hg]; exact (below_size (by repeat (first | (with_reducible first | exact HB.out | apply bA | apply bN | apply b1 | refine bS ?_ (by assumption)) | exact HB.out))) : w.heap.size ≤ gb445)); replace HB := am (below_step (by repeat (first | (with_reducible first | exact HB.out | apply bA | apply bN | apply b1 | refine bS ?_ (by assumption)) | exact HB.out)) hb); have GE445 := GW445; have NB444_445 := am ((by rw [hg]; exact Nat.ne_of_lt (blk_lt (pkb BK444.out)) : gb444 ≠ gb445)); replace BK444 := am (blk_below (pkb BK444.out) hb); have NB445_444 := am NB444_445.out.symm; clear hb hbox hg) | ((with_reducible refine gate_dst (N := 4) rfl ?_); (try (refine gate_guard (by rfl) ?_; dsimp only)); refine box_event ?hg (N := 4) ?hd (cs := #[.slice none 0 0]) (t := 26) ?hr ?_; (case hd => rfl); (case hg => rfl); (case hr => first | (go_simp; done) | (go_simp; rfl)); intro gb446 hg w9 hbox hb; have BK446 := am (hbox); have GW446 := am ((by rw [hg]; exact (below_size (by repeat (first | (with_reducible first | exact HB.out | apply bA | apply bN | apply b1 | refine bS ?_ (by assumption)) | exact HB.out))) : w.heap.size ≤ gb446)); replace HB := am (below_step (by repeat (first | (with_reducible first | exact HB.out | apply bA | apply bN | apply b1 | refine bS ?_ (by assumption)) | exact HB.out)) hb); have GE446 := GW446; have NB444_446 := am ((by rw [hg]; exact Nat.ne_of_lt (blk_lt (pkb BK444.out)) : gb444 ≠ gb446)); replace BK444 := am (blk_below (pkb BK444.out) hb); have NB446_444 := am NB444_446.out.symm; have NB445_446 := am ((by rw [hg]; exact Nat.ne_of_lt (blk_lt (pkb BK445.out)) : gb445 ≠ gb446)); replace BK445 := am (blk_below (pkb BK445.out) hb); have NB446_445 := am NB445_446.out.symm; clear hb hbox hg; have hnb10 := NB444_445.out; have hnc10 := NB445_444.out; have hnb11 := NB444_446.out; have hnc11 := NB446_444.out; have hcz12_0 := pc0 BK444.out; have hfz12_0 := blk_frozen BK444.out 0) | ((with_reducible refine gate_callee (f := 30) rfl ?_); refine goesL_ (some 9) rfl rfl Try.func30 (by kernel_rfl) rfl #[.slice A0_0 l0_0.length c0_0] rfl (by (try simp only [List.map_toArray, List.map_cons, List.map_nil]); first | done | rfl | (simp only [List.length_drop, List.length_take]; rfl)) ?_; (with_reducible refine (slices_Clone_int_int.calls _ _ l0_0 t447 _ ?side1 ?side2 A3.out).mono ?_); (case side1 => exact pkc (Kd.C_below HR0_0.out HB.out)); (case side2 => exact HC0_0.out); rintro e w13 ⟨v448, rfl, ho0, hb⟩; refine ⟨_, rfl, ?_⟩; have HO449 := am (Kd.R_lower ho0 (below_size (by repeat (first | (with_reducible first | exact HB.out | apply bA | apply bN | apply b1 | refine bS ?_ (by assumption)) | exact HB.out)))); replace BK444 := am (blk_below (pkb BK444.out) hb); replace BK445 := am (blk_below (pkb BK445.out) hb); replace BK446 := am (blk_below (pkb BK446.out) hb); replace HB := am (below_step (by repeat (first | (with_reducible first | exact HB.out | apply bA | apply bN | apply b1 | refine bS ?_ (by assumption)) | exact HB.out)) hb); (try clear hb); (try clear hb2); (try clear hk); (try clear hi); (try clear ho0); obtain ⟨Ao14, co14, eo14⟩ := Kd.R_slice HO449.out; subst eo14) | ((with_reducible refine gate_dst (N := 6) rfl ?_); (try (refine gate_guard (by rfl) ?_; dsimp only)); refine box_event ?hg (N := 6) ?hd (cs := #[.slice none 0 0]) (t := 26) ?hr ?_; (case hd => rfl); (case hg => rfl); (case hr => first | (go_simp; done) | (go_simp; rfl)); intro gb450 hg w15 hbox hb; replace HO449 := am (Kd.R_below (pkr HO449.out) hb); have BK450 := am (hbox); have GW450 := am ((by rw [hg]; exact (below_size (by repeat (first | (with_reducible first | exact HB.out | apply bA | apply bN | apply b1 | refine bS ?_ (by assumption)) | exact HB.out))) : w.heap.size ≤ gb450)); replace HB := am (below_step (by repeat (first | (with_reducible first | exact HB.out | apply bA | apply bN | apply b1 | refine bS ?_ (by assumption)) | exact HB.out)) hb); have GE450 := GW450; have NB444_450 := am ((by rw [hg]; exact Nat.ne_of_lt (blk_lt (pkb BK444.out)) : gb444 ≠ gb450)); replace BK444 := am (blk_below (pkb BK444.out) hb); have NB450_444 := am NB444_450.out.symm; have NB445_450 := am ((by rw [hg]; exact Nat.ne_of_lt (blk_lt (pkb BK445.out)) : gb445 ≠ gb450)); replace BK445 := am (blk_below (pkb BK445.out) hb); have NB450_445 := am NB445_450.out.symm; have NB446_450 := am ((by rw [hg]; exact Nat.ne_of_lt (blk_lt (pkb BK446.out)) : gb446 ≠ gb450)); replace BK446 := am (blk_below (pkb BK446.out) hb); have NB450_446 := am NB446_450.out.symm; clear hb hbox hg; have hnb16 := NB450_444.out; have hnc16 := NB444_450.out; have hnb17 := NB450_445.out; have hnc17 := NB445_450.out; have hnb18 := NB450_446.out; have hnc18 := NB446_450.out; have hcz19_0 := pc0 BK450.out; have hfz19_0 := blk_frozen BK450.out 0; have hnb20 := NB445_446.out; have hnc20 := NB446_445.out; have hcz21_0 := pc0 BK445.out; have hcz21_1 := pc1 BK445.out; have hfz21_0 := blk_frozen BK445.out 0; have hfz21_1 := blk_frozen BK445.out 1; have hcz22_0 := pc0 BK444.out; have hfz22_0 := blk_frozen BK444.out 0) | ((with_reducible refine gate_builtin (b := .append) (xs := #[.tmp 24, .tmp 27]) rfl ?_); (try (refine gate_guard (by rfl) ?_; dsimp only)); at_builtin; refine Kd.R_append (Kd.int .i64) (w0 := w) w.heap.size rfl (.tmp 24) (.tmp 27) 24 3 (.int .i64 0) 8 rfl Try.underlying24 info3 rfl (by decide) (by omega) (.slice Ao14 t447.length co14) t447 a1_1 [.int .i64 a1_1] (fun _ => True) (fun _ => False) rfl (by first | (go_simp; done) | (go_simp; rfl)) ?aP (fun _ hk => hk.elim) ?aF ?aO ?aB ?aS ?aL ?_; (case aP => exact rfl); (case aB => exact (by repeat (first | (with_reducible first | exact HB.out | apply bA | apply bN | apply b1 | refine bS ?_ (by assumption)) | exact HB.out))); (case aF => exact (fun _ _ => trivial)); (case aO => exact (pkr (Kd.R_mono (Kd.R_far (p := ⟨gb450, 0, none⟩) (Kd.R_types HO449.out BK450.out (by decide)) (fun _ hk => by first | exact hk.2 | simp_all) (.slice Ao14 t447.length co14)) (fun _ hk => trivial)))); (case aS => exact (below_size (by repeat (first | (with_reducible first | exact HB.out | apply bA | apply bN | apply b1 | refine bS ?_ (by assumption)) | exact HB.out)))); (case aL => have := LMc6.out; omega); intro v452 w23 ho hb hg hat; rw [← Ny451.out] at ho; replace BK444 := am (blk_grown (g := gb444) (o := .cells #[.slice A0_0 l0_0.length c0_0] 26 (0, 0)) (by (with_reducible repeat (first | apply kN | apply k1 | apply kA)); refine blk_far ?_ NB444_450.out _; (with_reducible repeat (first | apply kN | apply k1 | apply kA)); exact BK444.out) hg (Kd.R_ne HO449.out BK444.out (by decide))); replace BK445 := am (blk_grown (g := gb445) (o := .cells #[.int .i64 a1_0, .int .i64 a1_1] 33 (0, 0)) (by (with_reducible repeat (first | apply kN | apply k1 | apply kA)); refine blk_far ?_ NB445_450.out _; (with_reducible repeat (first | apply kN | apply k1 | apply kA)); exact BK445.out) hg (Kd.R_ne HO449.out BK445.out (by decide))); replace BK446 := am (blk_grown (g := gb446) (o := .cells #[.slice none 0 0] 26 (0, 0)) (by (with_reducible repeat (first | apply kN | apply k1 | apply kA)); refine blk_far ?_ NB446_450.out _; (with_reducible repeat (first | apply kN | apply k1 | apply kA)); exact BK446.out) hg (Kd.R_ne HO449.out BK446.out (by decide))); replace BK450 := am (blk_grown (g := gb450) (o := .cells #[.slice Ao14 t447.length co14] 26 (0, 0)) (by (with_reducible repeat (first | apply kN | apply k1 | apply kA)); refine blk_put (cs := #[.slice none 0 0]) ?_ 0 _ rfl; (with_reducible repeat (first | apply kN | apply k1 | apply kA)); exact BK450.out) hg (Kd.R_ne HO449.out BK450.out (by decide))); replace HB := am (hb); have HO453 := am (ho); clear HO449; clear ho hb hg hat; obtain ⟨Ao24, co24, eo24⟩ := Kd.R_slice HO453.out; subst eo24; have hcz25_0 := pc0 BK450.out; have hfz25_0 := blk_frozen BK450.out 0))); have n0_ : Aside0 (Kd.R (Kd.int .i64) 3 (w23.setCell ⟨gb450, 0, none⟩ (.slice Ao24 y451.length co24)) w.heap.size (fun _ => True) (.slice Ao24 y451.length co24) y451) := ⟨by (with_reducible repeat (first | apply Kd.R_alloc | apply Kd.R_drewN | apply Kd.R_drew)); exact Kd.R_mono (Kd.R_far (p := ⟨gb450, 0, none⟩) (Kd.R_types HO453.out BK450.out (by decide)) (fun _ hk => by first | exact hk.2 | simp_all) (.slice Ao24 y451.length co24)) (fun _ hk => trivial)⟩; have n1_ : Aside0 ((w23.setCell ⟨gb450, 0, none⟩ (.slice Ao24 y451.length co24)).heap[gb444]? = some (.cells #[.slice A0_0 l0_0.length c0_0] 26 (0, 0))) := ⟨by (with_reducible repeat (first | apply kN | apply k1 | apply kA)); refine blk_far ?_ NB444_450.out _; (with_reducible repeat (first | apply kN | apply k1 | apply kA)); exact BK444.out⟩; have n2_ : Aside0 ((w23.setCell ⟨gb450, 0, none⟩ (.slice Ao24 y451.length co24)).heap[gb445]? = some (.cells #[.int .i64 a1_0, .int .i64 a1_1] 33 (0, 0))) := ⟨by (with_reducible repeat (first | apply kN | apply k1 | apply kA)); refine blk_far ?_ NB445_450.out _; (with_reducible repeat (first | apply kN | apply k1 | apply kA)); exact BK445.out⟩; have n3_ : Aside0 ((w23.setCell ⟨gb450, 0, none⟩ (.slice Ao24 y451.length co24)).heap[gb446]? = some (.cells #[.slice none 0 0] 26 (0, 0))) := ⟨by (with_reducible repeat (first | apply kN | apply k1 | apply kA)); refine blk_far ?_ NB446_450.out _; (with_reducible repeat (first | apply kN | apply k1 | apply kA)); exact BK446.out⟩; have n4_ : Aside0 ((w23.setCell ⟨gb450, 0, none⟩ (.slice Ao24 y451.length co24)).heap[gb450]? = some (.cells #[.slice Ao24 y451.length co24] 26 (0, 0))) := ⟨by (with_reducible repeat (first | apply kN | apply k1 | apply kA)); refine blk_put (cs := #[.slice Ao14 t447.length co14]) ?_ 0 _ rfl; (with_reducible repeat (first | apply kN | apply k1 | apply kA)); exact BK450.out⟩; have n5_ : Aside0 (Below w.heap.size w (w23.setCell ⟨gb450, 0, none⟩ (.slice Ao24 y451.length co24))) := ⟨by repeat (first | (with_reducible first | exact HB.out | apply bA | apply bN | apply b1 | refine bS ?_ (by assumption)) | exact HB.out)⟩; (try clear HO453); (try clear BK444); (try clear BK445); (try clear BK446); (try clear BK450); (try clear HB); generalize (w23.setCell ⟨gb450, 0, none⟩ (.slice Ao24 y451.length co24)) = w26 at n0_ n1_ n2_ n3_ n4_ n5_ ⊢; have HO453 := n0_; have BK444 := n1_; have BK445 := n2_; have BK446 := n3_; have BK450 := n4_; have HB := n5_; clear n0_ n1_ n2_ n3_ n4_ n5_; replace HO453 := am (Kd.R_drew HO453.out); replace BK444 := am (blk_drew BK444.out); replace BK445 := am (blk_drew BK445.out); replace BK446 := am (blk_drew BK446.out); replace BK450 := am (blk_drew BK450.out); replace HB := am (below_drew1 HB.out); refine start_ (n := 6) (S := fun w' => w'.cell? ⟨gb450, 0, none⟩ = some (.slice Ao24 y451.length co24)) (ds := []) #[false, false, false, false, false, false] (by kernel_rfl) rfl rfl ((blk_cell BK450.out 0).trans rfl) (fun hHeld => ?_); generalize w26.drew = w27 at HO453 BK444 BK445 BK446 BK450 HB hHeld ⊢; refine pure_ (i := 1) (N := some 31) (v := ?_) (a' := ?_) #[false, true, false, false, false, false] rfl rfl (by kernel_rfl) (fun _ _ _ h => h) (Or.inl ⟨by rfl, ?_⟩) ?_ ?_; rotate_left
    ·intro w'
     go_simp; with_reducible rfl
    rotate_left
    ·simp only [Act.put, sa, s0, s1, i64_w, i32_w]
     rfl
    refine take_ (i := 0) (N := some 30) (v := ?_) (a' := ?_) #[true, true, false, false, false, false] rfl rfl (by kernel_rfl) (fun _ _ _ h => h) (Or.inl ⟨by rfl, ?_⟩) hHeld ?_ ?_; rotate_left
    ·intro w' s0
     go_simp; with_reducible rfl
    rotate_left
    ·simp only [Act.put, sa, s0, s1, i64_w, i32_w]
     rfl
    refine take_ (i := 2) (N := some 32) (v := ?_) (a' := ?_) #[true, true, true, false, false, false] rfl rfl (by kernel_rfl) (fun _ _ _ h => h) (Or.inl ⟨by rfl, ?_⟩) hHeld ?_ ?_; rotate_left
    ·intro w' s0
     go_simp; with_reducible rfl
    rotate_left
    ·simp only [Act.put, sa, s0, s1, i64_w, i32_w]
     rfl
    refine pure_ (i := 3) (N := some 33) (v := ?_) (a' := ?_) #[true, true, true, true, false, false] rfl rfl (by kernel_rfl) (fun _ _ _ h => h) (Or.inl ⟨by rfl, ?_⟩) ?_ ?_; rotate_left
    ·intro w'
     go_simp; with_reducible rfl
    rotate_left
    ·simp only [Act.put, sa, s0, s1, i64_w, i32_w]
     rfl
    refine one_ (i := 4) (N := none) #[true, true, true, true, true, false] rfl rfl (by kernel_rfl) (by decide) (fun K hK => ?_); have hs28 : w27.cell? ⟨gb446, 0, none⟩ = some (.slice none 0 0) := (blk_cell BK446.out 0).trans rfl; have hfs28 := blk_frozen BK446.out 0; have hns28_0 := NB444_446.out; have hns28_1 := NB445_446.out; have hns28_3 := NB450_446.out; have hms28_0 := NB446_444.out; have hms28_1 := NB446_445.out; have hms28_3 := NB446_450.out; refine skip_ (w1 := ?_) (by rfl) rfl ?_ ?_; rotate_left
    ·go_simp
     rfl
    refine hK.out _ _ (((cell_far (p := ⟨gb446, _, none⟩) NB450_446.out _).trans (hHeld))) (fun hHeld => ?_); clear hK K; refine pure_ (i := 5) (N := some 5) (v := ?_) (a' := ?_) #[true, true, true, true, true, true] rfl rfl (by kernel_rfl) (fun _ _ _ h => h) (Or.inl ⟨by rfl, ?_⟩) ?_ ?_; rotate_left
    ·intro w'
     go_simp; with_reducible rfl
    rotate_left
    ·simp only [Act.put, sa, s0, s1, i64_w, i32_w]
     rfl
    refine done_ (by kernel_rfl) ?_; (try go_wp2); refine bodyPost_ret (results_ct rfl _ _ gb446 26 #[.slice Ao24 y451.length co24] (0, 0) _ rfl (by (with_reducible repeat (first | apply kN | apply k1 | apply kA)); refine blk_put (cs := #[.slice none 0 0]) ?_ 0 _ rfl; (with_reducible repeat (first | apply kN | apply k1 | apply kA)); exact BK446.out) Try.underlying26 rfl (by kernel_rfl)) rfl ?_; exact ⟨_, by first | rfl | (simp [errW_none, errW_some] <;> rfl) | (simp [*, errW_none, errW_some] <;> rfl), by (with_reducible repeat (first | apply Kd.R_alloc | apply Kd.R_drewN | apply Kd.R_drew)); exact Kd.R_mono (Kd.R_far (p := ⟨gb446, 0, none⟩) (Kd.R_types HO453.out BK446.out (by decide)) (fun _ hk => by first | exact hk.2 | simp_all) (.slice Ao24 y451.length co24)) (fun _ hk => trivial), by repeat (first | (with_reducible first | exact HB.out | apply bA | apply bN | apply b1 | refine bS ?_ (by assumption)) | exact HB.out)⟩
   ·rw [if_neg c6] at H
    exact absurd H (by simp)
  ·rw [if_neg c5] at H
   have c5b0 : decide ((l0_0.length : Int) < 255) = false := decide_eq_false c5; have c5b1 : decide (l0_0.length < 255) = false := decide_eq_false (by omega); clear c5; simp only [Option.some.injEq, Prod.mk.injEq] at H; obtain ⟨rfl, rfl⟩ := H; go_enter Try.func11, Try.ntmps11; (try go_wp2_with (first | ((with_reducible refine gate_dst (N := 2) rfl ?_); (try (refine gate_guard (by rfl) ?_; dsimp only)); refine box_event ?hg (N := 2) ?hd (cs := #[.slice A0_0 l0_0.length c0_0]) (t := 26) ?hr ?_; (case hd => rfl); (case hg => rfl); (case hr => first | (go_simp; done) | (go_simp; rfl)); intro gb444 hg w29 hbox hb; have BK444 := am (hbox); have GW444 := am ((by rw [hg]; exact (below_size (by repeat (first | (with_reducible first | exact HB.out | apply bA | apply bN | apply b1) | exact HB.out))) : w.heap.size ≤ gb444)); replace HB := am (below_step (by repeat (first | (with_reducible first | exact HB.out | apply bA | apply bN | apply b1) | exact HB.out)) hb); have GE444 := GW444; clear hb hbox hg) | ((with_reducible refine gate_dst (N := 3) rfl ?_); (try (refine gate_guard (by rfl) ?_; dsimp only)); refine box_event ?hg (N := 3) ?hd (cs := #[.int .i64 a1_0, .int .i64 a1_1]) (t := 33) ?hr ?_; (case hd => rfl); (case hg => rfl); (case hr => first | (go_simp; done) | (go_simp; rfl)); intro gb445 hg w30 hbox hb; have BK445 := am (hbox); have GW445 := am ((by rw [hg]; exact (below_size (by repeat (first | (with_reducible first | exact HB.out | apply bA | apply bN | apply b1 | refine bS ?_ (by assumption)) | exact HB.out))) : w.heap.size ≤ gb445)); replace HB := am (below_step (by repeat (first | (with_reducible first | exact HB.out | apply bA | apply bN | apply b1 | refine bS ?_ (by assumption)) | exact HB.out)) hb); have GE445 := GW445; have NB444_445 := am ((by rw [hg]; exact Nat.ne_of_lt (blk_lt (pkb BK444.out)) : gb444 ≠ gb445)); replace BK444 := am (blk_below (pkb BK444.out) hb); have NB445_444 := am NB444_445.out.symm; clear hb hbox hg) | ((with_reducible refine gate_dst (N := 4) rfl ?_); (try (refine gate_guard (by rfl) ?_; dsimp only)); refine box_event ?hg (N := 4) ?hd (cs := #[.slice none 0 0]) (t := 26) ?hr ?_; (case hd => rfl); (case hg => rfl); (case hr => first | (go_simp; done) | (go_simp; rfl)); intro gb446 hg w31 hbox hb; have BK446 := am (hbox); have GW446 := am ((by rw [hg]; exact (below_size (by repeat (first | (with_reducible first | exact HB.out | apply bA | apply bN | apply b1 | refine bS ?_ (by assumption)) | exact HB.out))) : w.heap.size ≤ gb446)); replace HB := am (below_step (by repeat (first | (with_reducible first | exact HB.out | apply bA | apply bN | apply b1 | refine bS ?_ (by assumption)) | exact HB.out)) hb); have GE446 := GW446; have NB444_446 := am ((by rw [hg]; exact Nat.ne_of_lt (blk_lt (pkb BK444.out)) : gb444 ≠ gb446)); replace BK444 := am (blk_below (pkb BK444.out) hb); have NB446_444 := am NB444_446.out.symm; have NB445_446 := am ((by rw [hg]; exact Nat.ne_of_lt (blk_lt (pkb BK445.out)) : gb445 ≠ gb446)); replace BK445 := am (blk_below (pkb BK445.out) hb); have NB446_445 := am NB445_446.out.symm; clear hb hbox hg; have hnb32 := NB444_445.out; have hnc32 := NB445_444.out; have hnb33 := NB444_446.out; have hnc33 := NB446_444.out; have hcz34_0 := pc0 BK444.out; have hfz34_0 := blk_frozen BK444.out 0) | ((with_reducible refine gate_callee (f := 30) rfl ?_); refine goesL_ (some 9) rfl rfl Try.func30 (by kernel_rfl) rfl #[.slice A0_0 l0_0.length c0_0] rfl (by (try simp only [List.map_toArray, List.map_cons, List.map_nil]); first | done | rfl | (simp only [List.length_drop, List.length_take]; rfl)) ?_; (with_reducible refine (slices_Clone_int_int.calls _ _ l0_0 t447 _ ?side1 ?side2 A3.out).mono ?_); (case side1 => exact pkc (Kd.C_below HR0_0.out HB.out)); (case side2 => exact HC0_0.out); rintro e w35 ⟨v448, rfl, ho0, hb⟩; refine ⟨_, rfl, ?_⟩; have HO449 := am (Kd.R_lower ho0 (below_size (by repeat (first | (with_reducible first | exact HB.out | apply bA | apply bN | apply b1 | refine bS ?_ (by assumption)) | exact HB.out)))); replace BK444 := am (blk_below (pkb BK444.out) hb); replace BK445 := am (blk_below (pkb BK445.out) hb); replace BK446 := am (blk_below (pkb BK446.out) hb); replace HB := am (below_step (by repeat (first | (with_reducible first | exact HB.out | apply bA | apply bN | apply b1 | refine bS ?_ (by assumption)) | exact HB.out)) hb); (try clear hb); (try clear hb2); (try clear hk); (try clear hi); (try clear ho0); obtain ⟨Ao36, co36, eo36⟩ := Kd.R_slice HO449.out; subst eo36) | ((with_reducible refine gate_dst (N := 6) rfl ?_); (try (refine gate_guard (by rfl) ?_; dsimp only)); refine box_event ?hg (N := 6) ?hd (cs := #[.slice none 0 0]) (t := 26) ?hr ?_; (case hd => rfl); (case hg => rfl); (case hr => first | (go_simp; done) | (go_simp; rfl)); intro gb450 hg w37 hbox hb; replace HO449 := am (Kd.R_below (pkr HO449.out) hb); have BK450 := am (hbox); have GW450 := am ((by rw [hg]; exact (below_size (by repeat (first | (with_reducible first | exact HB.out | apply bA | apply bN | apply b1 | refine bS ?_ (by assumption)) | exact HB.out))) : w.heap.size ≤ gb450)); replace HB := am (below_step (by repeat (first | (with_reducible first | exact HB.out | apply bA | apply bN | apply b1 | refine bS ?_ (by assumption)) | exact HB.out)) hb); have GE450 := GW450; have NB444_450 := am ((by rw [hg]; exact Nat.ne_of_lt (blk_lt (pkb BK444.out)) : gb444 ≠ gb450)); replace BK444 := am (blk_below (pkb BK444.out) hb); have NB450_444 := am NB444_450.out.symm; have NB445_450 := am ((by rw [hg]; exact Nat.ne_of_lt (blk_lt (pkb BK445.out)) : gb445 ≠ gb450)); replace BK445 := am (blk_below (pkb BK445.out) hb); have NB450_445 := am NB445_450.out.symm; have NB446_450 := am ((by rw [hg]; exact Nat.ne_of_lt (blk_lt (pkb BK446.out)) : gb446 ≠ gb450)); replace BK446 := am (blk_below (pkb BK446.out) hb); have NB450_446 := am NB446_450.out.symm; clear hb hbox hg; have hnb38 := NB450_444.out; have hnc38 := NB444_450.out; have hnb39 := NB450_445.out; have hnc39 := NB445_450.out; have hnb40 := NB450_446.out; have hnc40 := NB446_450.out; have hcz41_0 := pc0 BK450.out; have hfz41_0 := blk_frozen BK450.out 0; have hnb42 := NB445_446.out; have hnc42 := NB446_445.out; have hcz43_0 := pc0 BK445.out; have hcz43_1 := pc1 BK445.out; have hfz43_0 := blk_frozen BK445.out 0; have hfz43_1 := blk_frozen BK445.out 1; have hcz44_0 := pc0 BK444.out; have hfz44_0 := blk_frozen BK444.out 0))); have n0_ : Aside0 (Kd.R (Kd.int .i64) 3 (w37.setCell ⟨gb450, 0, none⟩ (.slice Ao36 t447.length co36)) w.heap.size (fun _ => True) (.slice Ao36 t447.length co36) t447) := ⟨by (with_reducible repeat (first | apply Kd.R_alloc | apply Kd.R_drewN | apply Kd.R_drew)); exact Kd.R_mono (Kd.R_far (p := ⟨gb450, 0, none⟩) (Kd.R_types HO449.out BK450.out (by decide)) (fun _ hk => by first | exact hk.2 | simp_all) (.slice Ao36 t447.length co36)) (fun _ hk => trivial)⟩; have n1_ : Aside0 ((w37.setCell ⟨gb450, 0, none⟩ (.slice Ao36 t447.length co36)).heap[gb444]? = some (.cells #[.slice A0_0 l0_0.length c0_0] 26 (0, 0))) := ⟨by (with_reducible repeat (first | apply kN | apply k1 | apply kA)); refine blk_far ?_ NB444_450.out _; (with_reducible repeat (first | apply kN | apply k1 | apply kA)); exact BK444.out⟩; have n2_ : Aside0 ((w37.setCell ⟨gb450, 0, none⟩ (.slice Ao36 t447.length co36)).heap[gb445]? = some (.cells #[.int .i64 a1_0, .int .i64 a1_1] 33 (0, 0))) := ⟨by (with_reducible repeat (first | apply kN | apply k1 | apply kA)); refine blk_far ?_ NB445_450.out _; (with_reducible repeat (first | apply kN | apply k1 | apply kA)); exact BK445.out⟩; have n3_ : Aside0 ((w37.setCell ⟨gb450, 0, none⟩ (.slice Ao36 t447.length co36)).heap[gb446]? = some (.cells #[.slice none 0 0] 26 (0, 0))) := ⟨by (with_reducible repeat (first | apply kN | apply k1 | apply kA)); refine blk_far ?_ NB446_450.out _; (with_reducible repeat (first | apply kN | apply k1 | apply kA)); exact BK446.out⟩; have n4_ : Aside0 ((w37.setCell ⟨gb450, 0, none⟩ (.slice Ao36 t447.length co36)).heap[gb450]? = some (.cells #[.slice Ao36 t447.length co36] 26 (0, 0))) := ⟨by (with_reducible repeat (first | apply kN | apply k1 | apply kA)); refine blk_put (cs := #[.slice none 0 0]) ?_ 0 _ rfl; (with_reducible repeat (first | apply kN | apply k1 | apply kA)); exact BK450.out⟩; have n5_ : Aside0 (Below w.heap.size w (w37.setCell ⟨gb450, 0, none⟩ (.slice Ao36 t447.length co36))) := ⟨by repeat (first | (with_reducible first | exact HB.out | apply bA | apply bN | apply b1 | refine bS ?_ (by assumption)) | exact HB.out)⟩; (try clear HO449); (try clear BK444); (try clear BK445); (try clear BK446); (try clear BK450); (try clear HB); generalize (w37.setCell ⟨gb450, 0, none⟩ (.slice Ao36 t447.length co36)) = w45 at n0_ n1_ n2_ n3_ n4_ n5_ ⊢; have HO449 := n0_; have BK444 := n1_; have BK445 := n2_; have BK446 := n3_; have BK450 := n4_; have HB := n5_; clear n0_ n1_ n2_ n3_ n4_ n5_; replace HO449 := am (Kd.R_drew HO449.out); replace BK444 := am (blk_drew BK444.out); replace BK445 := am (blk_drew BK445.out); replace BK446 := am (blk_drew BK446.out); replace BK450 := am (blk_drew BK450.out); replace HB := am (below_drew1 HB.out); refine start_ (n := 6) (S := fun w' => w'.cell? ⟨gb450, 0, none⟩ = some (.slice Ao36 t447.length co36)) (ds := []) #[false, false, false, false, false, false] (by kernel_rfl) rfl rfl ((blk_cell BK450.out 0).trans rfl) (fun hHeld => ?_); generalize w45.drew = w46 at HO449 BK444 BK445 BK446 BK450 HB hHeld ⊢; refine pure_ (i := 1) (N := some 31) (v := ?_) (a' := ?_) #[false, true, false, false, false, false] rfl rfl (by kernel_rfl) (fun _ _ _ h => h) (Or.inl ⟨by rfl, ?_⟩) ?_ ?_; rotate_left
   ·intro w'
    go_simp; with_reducible rfl
   rotate_left
   ·simp only [Act.put, sa, s0, s1, i64_w, i32_w]
    rfl
   refine take_ (i := 0) (N := some 30) (v := ?_) (a' := ?_) #[true, true, false, false, false, false] rfl rfl (by kernel_rfl) (fun _ _ _ h => h) (Or.inl ⟨by rfl, ?_⟩) hHeld ?_ ?_; rotate_left
   ·intro w' s0
    go_simp; with_reducible rfl
   rotate_left
   ·simp only [Act.put, sa, s0, s1, i64_w, i32_w]
    rfl
   refine take_ (i := 2) (N := some 32) (v := ?_) (a' := ?_) #[true, true, true, false, false, false] rfl rfl (by kernel_rfl) (fun _ _ _ h => h) (Or.inl ⟨by rfl, ?_⟩) hHeld ?_ ?_; rotate_left
   ·intro w' s0
    go_simp; with_reducible rfl
   rotate_left
   ·simp only [Act.put, sa, s0, s1, i64_w, i32_w]
    rfl
   refine pure_ (i := 3) (N := some 33) (v := ?_) (a' := ?_) #[true, true, true, true, false, false] rfl rfl (by kernel_rfl) (fun _ _ _ h => h) (Or.inl ⟨by rfl, ?_⟩) ?_ ?_; rotate_left
   ·intro w'
    go_simp; with_reducible rfl
   rotate_left
   ·simp only [Act.put, sa, s0, s1, i64_w, i32_w]
    rfl
   refine one_ (i := 4) (N := none) #[true, true, true, true, true, false] rfl rfl (by kernel_rfl) (by decide) (fun K hK => ?_); have hs47 : w46.cell? ⟨gb446, 0, none⟩ = some (.slice none 0 0) := (blk_cell BK446.out 0).trans rfl; have hfs47 := blk_frozen BK446.out 0; have hns47_0 := NB444_446.out; have hns47_1 := NB445_446.out; have hns47_3 := NB450_446.out; have hms47_0 := NB446_444.out; have hms47_1 := NB446_445.out; have hms47_3 := NB446_450.out; refine skip_ (w1 := ?_) (by rfl) rfl ?_ ?_; rotate_left
   ·go_simp
    rfl
   refine hK.out _ _ (((cell_far (p := ⟨gb446, _, none⟩) NB450_446.out _).trans (hHeld))) (fun hHeld => ?_); clear hK K; refine pure_ (i := 5) (N := some 5) (v := ?_) (a' := ?_) #[true, true, true, true, true, true] rfl rfl (by kernel_rfl) (fun _ _ _ h => h) (Or.inl ⟨by rfl, ?_⟩) ?_ ?_; rotate_left
   ·intro w'
    go_simp; with_reducible rfl
   rotate_left
   ·simp only [Act.put, sa, s0, s1, i64_w, i32_w]
    rfl
   refine done_ (by kernel_rfl) ?_; (try go_wp2); refine bodyPost_ret (results_ct rfl _ _ gb446 26 #[.slice Ao36 t447.length co36] (0, 0) _ rfl (by (with_reducible repeat (first | apply kN | apply k1 | apply kA)); refine blk_put (cs := #[.slice none 0 0]) ?_ 0 _ rfl; (with_reducible repeat (first | apply kN | apply k1 | apply kA)); exact BK446.out) Try.underlying26 rfl (by kernel_rfl)) rfl ?_; exact ⟨_, by first | rfl | (simp [errW_none, errW_some] <;> rfl) | (simp [*, errW_none, errW_some] <;> rfl), by (with_reducible repeat (first | apply Kd.R_alloc | apply Kd.R_drewN | apply Kd.R_drew)); exact Kd.R_mono (Kd.R_far (p := ⟨gb446, 0, none⟩) (Kd.R_types HO449.out BK446.out (by decide)) (fun _ hk => by first | exact hk.2 | simp_all) (.slice Ao36 t447.length co36)) (fun _ hk => trivial), by repeat (first | (with_reducible first | exact HB.out | apply bA | apply bN | apply b1 | refine bS ?_ (by assumption)) | exact HB.out)⟩
 ·rw [if_neg c4] at H
  have c4b0 : (a1_0 == (l0_0.length : Int)) = false := beq_eq_false_iff_ne.mpr c4; have c4b1 : (a1_0 != (l0_0.length : Int)) = true := bne_iff_ne.mpr c4; simp only [Option.some.injEq, Prod.mk.injEq] at H; obtain ⟨rfl, rfl⟩ := H; go_enter Try.func11, Try.ntmps11; (try go_wp2_with (first | ((with_reducible refine gate_dst (N := 2) rfl ?_); (try (refine gate_guard (by rfl) ?_; dsimp only)); refine box_event ?hg (N := 2) ?hd (cs := #[.slice A0_0 l0_0.length c0_0]) (t := 26) ?hr ?_; (case hd => rfl); (case hg => rfl); (case hr => first | (go_simp; done) | (go_simp; rfl)); intro gb444 hg w48 hbox hb; have BK444 := am (hbox); have GW444 := am ((by rw [hg]; exact (below_size (by repeat (first | (with_reducible first | exact HB.out | apply bA | apply bN | apply b1) | exact HB.out))) : w.heap.size ≤ gb444)); replace HB := am (below_step (by repeat (first | (with_reducible first | exact HB.out | apply bA | apply bN | apply b1) | exact HB.out)) hb); have GE444 := GW444; clear hb hbox hg) | ((with_reducible refine gate_dst (N := 3) rfl ?_); (try (refine gate_guard (by rfl) ?_; dsimp only)); refine box_event ?hg (N := 3) ?hd (cs := #[.int .i64 a1_0, .int .i64 a1_1]) (t := 33) ?hr ?_; (case hd => rfl); (case hg => rfl); (case hr => first | (go_simp; done) | (go_simp; rfl)); intro gb445 hg w49 hbox hb; have BK445 := am (hbox); have GW445 := am ((by rw [hg]; exact (below_size (by repeat (first | (with_reducible first | exact HB.out | apply bA | apply bN | apply b1 | refine bS ?_ (by assumption)) | exact HB.out))) : w.heap.size ≤ gb445)); replace HB := am (below_step (by repeat (first | (with_reducible first | exact HB.out | apply bA | apply bN | apply b1 | refine bS ?_ (by assumption)) | exact HB.out)) hb); have GE445 := GW445; have NB444_445 := am ((by rw [hg]; exact Nat.ne_of_lt (blk_lt (pkb BK444.out)) : gb444 ≠ gb445)); replace BK444 := am (blk_below (pkb BK444.out) hb); have NB445_444 := am NB444_445.out.symm; clear hb hbox hg) | ((with_reducible refine gate_dst (N := 4) rfl ?_); (try (refine gate_guard (by rfl) ?_; dsimp only)); refine box_event ?hg (N := 4) ?hd (cs := #[.slice none 0 0]) (t := 26) ?hr ?_; (case hd => rfl); (case hg => rfl); (case hr => first | (go_simp; done) | (go_simp; rfl)); intro gb446 hg w50 hbox hb; have BK446 := am (hbox); have GW446 := am ((by rw [hg]; exact (below_size (by repeat (first | (with_reducible first | exact HB.out | apply bA | apply bN | apply b1 | refine bS ?_ (by assumption)) | exact HB.out))) : w.heap.size ≤ gb446)); replace HB := am (below_step (by repeat (first | (with_reducible first | exact HB.out | apply bA | apply bN | apply b1 | refine bS ?_ (by assumption)) | exact HB.out)) hb); have GE446 := GW446; have NB444_446 := am ((by rw [hg]; exact Nat.ne_of_lt (blk_lt (pkb BK444.out)) : gb444 ≠ gb446)); replace BK444 := am (blk_below (pkb BK444.out) hb); have NB446_444 := am NB444_446.out.symm; have NB445_446 := am ((by rw [hg]; exact Nat.ne_of_lt (blk_lt (pkb BK445.out)) : gb445 ≠ gb446)); replace BK445 := am (blk_below (pkb BK445.out) hb); have NB446_445 := am NB445_446.out.symm; clear hb hbox hg; have hnb51 := NB444_445.out; have hnc51 := NB445_444.out; have hnb52 := NB444_446.out; have hnc52 := NB446_444.out; have hcz53_0 := pc0 BK444.out; have hfz53_0 := blk_frozen BK444.out 0) | ((with_reducible refine gate_callee (f := 30) rfl ?_); refine goesL_ (some 9) rfl rfl Try.func30 (by kernel_rfl) rfl #[.slice A0_0 l0_0.length c0_0] rfl (by (try simp only [List.map_toArray, List.map_cons, List.map_nil]); first | done | rfl | (simp only [List.length_drop, List.length_take]; rfl)) ?_; (with_reducible refine (slices_Clone_int_int.calls _ _ l0_0 t447 _ ?side1 ?side2 A3.out).mono ?_); (case side1 => exact pkc (Kd.C_below HR0_0.out HB.out)); (case side2 => exact HC0_0.out); rintro e w54 ⟨v448, rfl, ho0, hb⟩; refine ⟨_, rfl, ?_⟩; have HO449 := am (Kd.R_lower ho0 (below_size (by repeat (first | (with_reducible first | exact HB.out | apply bA | apply bN | apply b1 | refine bS ?_ (by assumption)) | exact HB.out)))); replace BK444 := am (blk_below (pkb BK444.out) hb); replace BK445 := am (blk_below (pkb BK445.out) hb); replace BK446 := am (blk_below (pkb BK446.out) hb); replace HB := am (below_step (by repeat (first | (with_reducible first | exact HB.out | apply bA | apply bN | apply b1 | refine bS ?_ (by assumption)) | exact HB.out)) hb); (try clear hb); (try clear hb2); (try clear hk); (try clear hi); (try clear ho0); obtain ⟨Ao55, co55, eo55⟩ := Kd.R_slice HO449.out; subst eo55) | ((with_reducible refine gate_dst (N := 6) rfl ?_); (try (refine gate_guard (by rfl) ?_; dsimp only)); refine box_event ?hg (N := 6) ?hd (cs := #[.slice none 0 0]) (t := 26) ?hr ?_; (case hd => rfl); (case hg => rfl); (case hr => first | (go_simp; done) | (go_simp; rfl)); intro gb450 hg w56 hbox hb; replace HO449 := am (Kd.R_below (pkr HO449.out) hb); have BK450 := am (hbox); have GW450 := am ((by rw [hg]; exact (below_size (by repeat (first | (with_reducible first | exact HB.out | apply bA | apply bN | apply b1 | refine bS ?_ (by assumption)) | exact HB.out))) : w.heap.size ≤ gb450)); replace HB := am (below_step (by repeat (first | (with_reducible first | exact HB.out | apply bA | apply bN | apply b1 | refine bS ?_ (by assumption)) | exact HB.out)) hb); have GE450 := GW450; have NB444_450 := am ((by rw [hg]; exact Nat.ne_of_lt (blk_lt (pkb BK444.out)) : gb444 ≠ gb450)); replace BK444 := am (blk_below (pkb BK444.out) hb); have NB450_444 := am NB444_450.out.symm; have NB445_450 := am ((by rw [hg]; exact Nat.ne_of_lt (blk_lt (pkb BK445.out)) : gb445 ≠ gb450)); replace BK445 := am (blk_below (pkb BK445.out) hb); have NB450_445 := am NB445_450.out.symm; have NB446_450 := am ((by rw [hg]; exact Nat.ne_of_lt (blk_lt (pkb BK446.out)) : gb446 ≠ gb450)); replace BK446 := am (blk_below (pkb BK446.out) hb); have NB450_446 := am NB446_450.out.symm; clear hb hbox hg; have hnb57 := NB450_444.out; have hnc57 := NB444_450.out; have hnb58 := NB450_445.out; have hnc58 := NB445_450.out; have hnb59 := NB450_446.out; have hnc59 := NB446_450.out; have hcz60_0 := pc0 BK450.out; have hfz60_0 := blk_frozen BK450.out 0; have hnb61 := NB445_446.out; have hnc61 := NB446_445.out; have hcz62_0 := pc0 BK445.out; have hcz62_1 := pc1 BK445.out; have hfz62_0 := blk_frozen BK445.out 0; have hfz62_1 := blk_frozen BK445.out 1; have hcz63_0 := pc0 BK444.out; have hfz63_0 := blk_frozen BK444.out 0))); have n0_ : Aside0 (Kd.R (Kd.int .i64) 3 (w56.setCell ⟨gb450, 0, none⟩ (.slice Ao55 t447.length co55)) w.heap.size (fun _ => True) (.slice Ao55 t447.length co55) t447) := ⟨by (with_reducible repeat (first | apply Kd.R_alloc | apply Kd.R_drewN | apply Kd.R_drew)); exact Kd.R_mono (Kd.R_far (p := ⟨gb450, 0, none⟩) (Kd.R_types HO449.out BK450.out (by decide)) (fun _ hk => by first | exact hk.2 | simp_all) (.slice Ao55 t447.length co55)) (fun _ hk => trivial)⟩; have n1_ : Aside0 ((w56.setCell ⟨gb450, 0, none⟩ (.slice Ao55 t447.length co55)).heap[gb444]? = some (.cells #[.slice A0_0 l0_0.length c0_0] 26 (0, 0))) := ⟨by (with_reducible repeat (first | apply kN | apply k1 | apply kA)); refine blk_far ?_ NB444_450.out _; (with_reducible repeat (first | apply kN | apply k1 | apply kA)); exact BK444.out⟩; have n2_ : Aside0 ((w56.setCell ⟨gb450, 0, none⟩ (.slice Ao55 t447.length co55)).heap[gb445]? = some (.cells #[.int .i64 a1_0, .int .i64 a1_1] 33 (0, 0))) := ⟨by (with_reducible repeat (first | apply kN | apply k1 | apply kA)); refine blk_far ?_ NB445_450.out _; (with_reducible repeat (first | apply kN | apply k1 | apply kA)); exact BK445.out⟩; have n3_ : Aside0 ((w56.setCell ⟨gb450, 0, none⟩ (.slice Ao55 t447.length co55)).heap[gb446]? = some (.cells #[.slice none 0 0] 26 (0, 0))) := ⟨by (with_reducible repeat (first | apply kN | apply k1 | apply kA)); refine blk_far ?_ NB446_450.out _; (with_reducible repeat (first | apply kN | apply k1 | apply kA)); exact BK446.out⟩; have n4_ : Aside0 ((w56.setCell ⟨gb450, 0, none⟩ (.slice Ao55 t447.length co55)).heap[gb450]? = some (.cells #[.slice Ao55 t447.length co55] 26 (0, 0))) := ⟨by (with_reducible repeat (first | apply kN | apply k1 | apply kA)); refine blk_put (cs := #[.slice none 0 0]) ?_ 0 _ rfl; (with_reducible repeat (first | apply kN | apply k1 | apply kA)); exact BK450.out⟩; have n5_ : Aside0 (Below w.heap.size w (w56.setCell ⟨gb450, 0, none⟩ (.slice Ao55 t447.length co55))) := ⟨by repeat (first | (with_reducible first | exact HB.out | apply bA | apply bN | apply b1 | refine bS ?_ (by assumption)) | exact HB.out)⟩; (try clear HO449); (try clear BK444); (try clear BK445); (try clear BK446); (try clear BK450); (try clear HB); generalize (w56.setCell ⟨gb450, 0, none⟩ (.slice Ao55 t447.length co55)) = w64 at n0_ n1_ n2_ n3_ n4_ n5_ ⊢; have HO449 := n0_; have BK444 := n1_; have BK445 := n2_; have BK446 := n3_; have BK450 := n4_; have HB := n5_; clear n0_ n1_ n2_ n3_ n4_ n5_; replace HO449 := am (Kd.R_drew HO449.out); replace BK444 := am (blk_drew BK444.out); replace BK445 := am (blk_drew BK445.out); replace BK446 := am (blk_drew BK446.out); replace BK450 := am (blk_drew BK450.out); replace HB := am (below_drew1 HB.out); refine start_ (n := 6) (S := fun w' => w'.cell? ⟨gb450, 0, none⟩ = some (.slice Ao55 t447.length co55)) (ds := []) #[false, false, false, false, false, false] (by kernel_rfl) rfl rfl ((blk_cell BK450.out 0).trans rfl) (fun hHeld => ?_); generalize w64.drew = w65 at HO449 BK444 BK445 BK446 BK450 HB hHeld ⊢; refine pure_ (i := 1) (N := some 31) (v := ?_) (a' := ?_) #[false, true, false, false, false, false] rfl rfl (by kernel_rfl) (fun _ _ _ h => h) (Or.inl ⟨by rfl, ?_⟩) ?_ ?_; rotate_left
  ·intro w'
   go_simp; with_reducible rfl
  rotate_left
  ·simp only [Act.put, sa, s0, s1, i64_w, i32_w]
   rfl
  refine take_ (i := 0) (N := some 30) (v := ?_) (a' := ?_) #[true, true, false, false, false, false] rfl rfl (by kernel_rfl) (fun _ _ _ h => h) (Or.inl ⟨by rfl, ?_⟩) hHeld ?_ ?_; rotate_left
  ·intro w' s0
   go_simp; with_reducible rfl
  rotate_left
  ·simp only [Act.put, sa, s0, s1, i64_w, i32_w]
   rfl
  refine take_ (i := 2) (N := some 32) (v := ?_) (a' := ?_) #[true, true, true, false, false, false] rfl rfl (by kernel_rfl) (fun _ _ _ h => h) (Or.inl ⟨by rfl, ?_⟩) hHeld ?_ ?_; rotate_left
  ·intro w' s0
   go_simp; with_reducible rfl
  rotate_left
  ·simp only [Act.put, sa, s0, s1, i64_w, i32_w]
   rfl
  refine pure_ (i := 3) (N := some 33) (v := ?_) (a' := ?_) #[true, true, true, true, false, false] rfl rfl (by kernel_rfl) (fun _ _ _ h => h) (Or.inl ⟨by rfl, ?_⟩) ?_ ?_; rotate_left
  ·intro w'
   go_simp; with_reducible rfl
  rotate_left
  ·simp only [Act.put, sa, s0, s1, i64_w, i32_w]
   rfl
  refine one_ (i := 4) (N := none) #[true, true, true, true, true, false] rfl rfl (by kernel_rfl) (by decide) (fun K hK => ?_); have hs66 : w65.cell? ⟨gb446, 0, none⟩ = some (.slice none 0 0) := (blk_cell BK446.out 0).trans rfl; have hfs66 := blk_frozen BK446.out 0; have hns66_0 := NB444_446.out; have hns66_1 := NB445_446.out; have hns66_3 := NB450_446.out; have hms66_0 := NB446_444.out; have hms66_1 := NB446_445.out; have hms66_3 := NB446_450.out; refine skip_ (w1 := ?_) (by rfl) rfl ?_ ?_; rotate_left
  ·go_simp
   rfl
  refine hK.out _ _ (((cell_far (p := ⟨gb446, _, none⟩) NB450_446.out _).trans (hHeld))) (fun hHeld => ?_); clear hK K; refine pure_ (i := 5) (N := some 5) (v := ?_) (a' := ?_) #[true, true, true, true, true, true] rfl rfl (by kernel_rfl) (fun _ _ _ h => h) (Or.inl ⟨by rfl, ?_⟩) ?_ ?_; rotate_left
  ·intro w'
   go_simp; with_reducible rfl
  rotate_left
  ·simp only [Act.put, sa, s0, s1, i64_w, i32_w]
   rfl
  refine done_ (by kernel_rfl) ?_; (try go_wp2); refine bodyPost_ret (results_ct rfl _ _ gb446 26 #[.slice Ao55 t447.length co55] (0, 0) _ rfl (by (with_reducible repeat (first | apply kN | apply k1 | apply kA)); refine blk_put (cs := #[.slice none 0 0]) ?_ 0 _ rfl; (with_reducible repeat (first | apply kN | apply k1 | apply kA)); exact BK446.out) Try.underlying26 rfl (by kernel_rfl)) rfl ?_; exact ⟨_, by first | rfl | (simp [errW_none, errW_some] <;> rfl) | (simp [*, errW_none, errW_some] <;> rfl), by (with_reducible repeat (first | apply Kd.R_alloc | apply Kd.R_drewN | apply Kd.R_drew)); exact Kd.R_mono (Kd.R_far (p := ⟨gb446, 0, none⟩) (Kd.R_types HO449.out BK446.out (by decide)) (fun _ hk => by first | exact hk.2 | simp_all) (.slice Ao55 t447.length co55)) (fun _ hk => trivial), by repeat (first | (with_reducible first | exact HB.out | apply bA | apply bN | apply b1 | refine bS ?_ (by assumption)) | exact HB.out)⟩

end Go.Proofs.Ytdmmogcpamgdnaa.PFnLinks
