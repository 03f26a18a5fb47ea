/- Written by a program of this session (a turned copy of the kit's print): a contract for each Go function. No condition beside those in each statement. -/
import Derived.Test.YtmdpggibcjkfoaaDoorPFnExactSameProgramx0
import Derived.Test.YtmdpggibcjkfoaaDoorPFnExactSameProgramx2
import Derived.Test.YtmdpggibcjkfoaaDoorPFnExactSameProgramx3
import Derived.Test.YtmdpggibcjkfoaaDoorPFnExactSameProgramx5
import Derived.Test.YtmdpggibcjkfoaaDoorPFnExactSameProgramx10
import Derived.Test.YtmdpggibcjkfoaaDoorPFnExactSameProgramx16
namespace Go.Proofs.YtmdpggibcjkfoaaDoor.PFnExactSameProgram
open Go.RowKit Go.Proofs.YtmdpggibcjkfoaaDoor.Given Go.Proofs.YtmdpggibcjkfoaaDoorW.PrintWords Go.Proofs.YtmdpggibcjkfoaaDoorW.PrintLast Go.Proofs.YtmdpggibcjkfoaaDoorW.PrintMore
attribute [local go_sem] max2_int min2_int max_two min_two max_three min_three max_four min_four   -- for this text's walks alone
set_option linter.unusedVariables false
set_option linter.unusedSimpArgs false

/-! ### laws_FnExactSameProgram: function 8 -/
def laws_FnExactSameProgram.f (k : Nat) (l0_0 : List (S62)) (l0_1 : List (S114)) (l1_0 : List (S62)) (l1_1 : List (S114)) : Option (Bool) := (laws_szProgram.f k l0_0 l0_1 1048576).bind fun t355 => (if t355 < 0 then (some true) else ((laws_szProgram.f k l1_0 l1_1 t355).bind fun t356 => (if t356 < 0 then (some true) else ((laws_toProgram.f k l0_0 l0_1).bind fun bt357 => ((laws_toProgram.f k l1_0 l1_1).bind fun bt363 => ((spec_SameProgram.f k bt357.1 bt357.2 bt363.1 bt363.2).bind fun t369 => ((laws_toProgram.f k l0_0 l0_1).bind fun bt370 => ((laws_toProgram.f k l1_0 l1_1).bind fun bt377 => ((impl_SameProgram.f k bt370.1 bt370.2 bt377.1 bt377.2).bind fun t384 => (if (t384 != t369) = true then (some false) else ((laws_toProgram.f k l0_0 l0_1).bind fun bt385 => ((laws_eqProgram.f k bt370.1 bt370.2 bt385.1 bt385.2).bind fun t391 => (if t391 = true then ((laws_toProgram.f k l1_0 l1_1).bind fun bt392 => ((laws_eqProgram.f k bt377.1 bt377.2 bt392.1 bt392.2).bind fun t398 => (if t398 = true then (some true) else (some false)))) else (some false))))))))))))))
theorem laws_FnExactSameProgram.mono : ∀ a0 a1 a2 a3 k, LeO (laws_FnExactSameProgram.f k a0 a1 a2 a3) (laws_FnExactSameProgram.f (k + 1) a0 a1 a2 a3) := by
 intro a0 a1 a2 a3 k
 unfold laws_FnExactSameProgram.f
 with_reducible repeat' first | exact impl_SameProgram.mono _ _ _ _ _ | exact laws_eqProgram.mono _ _ _ _ _ | exact laws_szProgram.mono _ _ _ _ | exact laws_toProgram.mono _ _ _ | exact spec_SameProgram.mono _ _ _ _ _ | exact LeO.refl _ | exact LeO.none _ | refine LeO.ite ?_ ?_ | refine LeO.bind ?_ (fun _ => ?_)
set_option maxHeartbeats 8000000 in
set_option maxRecDepth 100000 in
theorem laws_FnExactSameProgram.calls (k : Nat) (A0_0 : Option Addr) (c0_0 : Nat) (l0_0 : List (S62)) (A0_1 : Option Addr) (c0_1 : Nat) (l0_1 : List (S114)) (A1_0 : Option Addr) (c1_0 : Nat) (l1_0 : List (S62)) (A1_1 : Option Addr) (c1_1 : Nat) (l1_1 : List (S114)) (r : Bool) (w : World) (hr0_0 : Kd.C k62 w A0_0 l0_0.length l0_0) (hc0_0 : l0_0.length ≤ c0_0) (hr0_1 : Kd.C k114 w A0_1 l0_1.length l0_1) (hc0_1 : l0_1.length ≤ c0_1) (hr1_0 : Kd.C k62 w A1_0 l1_0.length l1_0) (hc1_0 : l1_0.length ≤ c1_0) (hr1_1 : Kd.C k114 w A1_1 l1_1.length l1_1) (hc1_1 : l1_1.length ≤ c1_1) (hrt : As (r = true)) (h : laws_FnExactSameProgram.f k l0_0 l0_1 l1_0 l1_1 = some r) :
  Calls Tryd.prog 8 #[.agg #[.slice A0_0 l0_0.length c0_0, .slice A0_1 l0_1.length c0_1], .agg #[.slice A1_0 l1_0.length c1_0, .slice A1_1 l1_1.length c1_1]] w fun e w' => e = .returned (.bool r) ∧ Below w.heap.size w w' := by
 have hu47 := Tryd.underlying47
 have hu52 := Tryd.underlying52
 have HR0_0 := As.mk hr0_0
 have HC0_0 := As.mk hc0_0
 clear hr0_0 hc0_0
 have HR0_1 := As.mk hr0_1
 have HC0_1 := As.mk hc0_1
 clear hr0_1 hc0_1
 have HR1_0 := As.mk hr1_0
 have HC1_0 := As.mk hc1_0
 clear hr1_0 hc1_0
 have HR1_1 := As.mk hr1_1
 have HC1_1 := As.mk hc1_1
 clear hr1_1 hc1_1
 have HB := As.mk (Below.refl w.heap.size w)
 have H : ((laws_szProgram.f k l0_0 l0_1 1048576).bind fun t355 => (if t355 < 0 then (some true) else ((laws_szProgram.f k l1_0 l1_1 t355).bind fun t356 => (if t356 < 0 then (some true) else ((laws_toProgram.f k l0_0 l0_1).bind fun bt357 => ((laws_toProgram.f k l1_0 l1_1).bind fun bt363 => ((spec_SameProgram.f k bt357.1 bt357.2 bt363.1 bt363.2).bind fun t369 => ((laws_toProgram.f k l0_0 l0_1).bind fun bt370 => ((laws_toProgram.f k l1_0 l1_1).bind fun bt377 => ((impl_SameProgram.f k bt370.1 bt370.2 bt377.1 bt377.2).bind fun t384 => (if (t384 != t369) = true then (some false) else ((laws_toProgram.f k l0_0 l0_1).bind fun bt385 => ((laws_eqProgram.f k bt370.1 bt370.2 bt385.1 bt385.2).bind fun t391 => (if t391 = true then ((laws_toProgram.f k l1_0 l1_1).bind fun bt392 => ((laws_eqProgram.f k bt377.1 bt377.2 bt392.1 bt392.2).bind fun t398 => (if t398 = true then (some true) else (some false)))) else (some false))))))))))))))) = some r := h
 clear h
 obtain ⟨t355, A30, H⟩ := Option.bind_eq_some_iff.mp H
 try dsimp only at H
 have A3 := As.mk A30
 clear A30
 by_cases c4 : t355 < 0
 ·
  rw [if_pos c4] at H
  have c4b0 : decide (t355 < 0) = true := decide_eq_true c4
  clear c4
  obtain rfl := Option.some.inj H
  go_enter Tryd.func8, Tryd.ntmps8
  go_wp2_with (first | ((with_reducible refine gate_dst (N := 2) rfl ?_); refine box_event ?hg (N := 2) ?hd (cs := #[.slice A0_0 l0_0.length c0_0, .slice A0_1 l0_1.length c0_1]) (t := 47) ?hr ?_; (case hd => rfl); (case hg => rfl); (case hr => first | (go_simp; done) | (go_simp; rfl)); intro gb353 hg w5 hbox hb; have BK353 := As.mk (hbox); have GW353 := As.mk (gs w hg); have GE353 := As.mk (gs w hg); replace HB := As.mk (below_step (be w) hb); clear hb hbox hg) | ((with_reducible refine gate_dst (N := 3) rfl ?_); refine box_event ?hg (N := 3) ?hd (cs := #[.slice A1_0 l1_0.length c1_0, .slice A1_1 l1_1.length c1_1]) (t := 47) ?hr ?_; (case hd => rfl); (case hg => rfl); (case hr => first | (go_simp; done) | (go_simp; rfl)); intro gb354 hg w6 hbox hb; have BK354 := As.mk (hbox); have GW354 := As.mk (gs w hg); have GE354 := As.mk (gs w hg); replace HB := As.mk (below_step (be w) hb); have NB353_354 := As.mk (nl hg (bx BK353.out)); have NB354_353 := As.mk (ng hg (bx BK353.out)); replace BK353 := As.mk (blk_below (bx BK353.out) hb); clear hb hbox hg; obtain ⟨hcz7_0, hcz7_1, hfz7_0, hfz7_1⟩ := cl2 BK353.out) | ((with_reducible refine gate_callee (f := 29) rfl ?_); refine goesL_ (some 12) rfl rfl Tryd.func29 (by kernel_rfl) rfl #[.agg #[.slice A0_0 l0_0.length c0_0, .slice A0_1 l0_1.length c0_1], .int .i64 1048576] rfl (by (try simp only [lm]); first | done | rfl | (simp only [List.length_drop, List.length_take]; rfl)) ?_; (with_reducible refine (laws_szProgram.calls k _ _ l0_0 _ _ l0_1 1048576 t355 _ ?side1 ?side2 ?side3 ?side4 A3.out).mono ?_); (case side1 => exact Kd.C_below HR0_0.out (be w)); (case side2 => exact HC0_0.out); (case side3 => exact Kd.C_below HR0_1.out (be w)); (case side4 => exact HC0_1.out); rintro e w8 ⟨rfl, hb⟩; refine ⟨_, rfl, ?_⟩; replace HB := As.mk (below_step (be w) hb); (try clear hb); (try clear hb2); (try clear hk); (try clear hi)))
  go_ret
  exact ⟨by first | rfl | (simp [errW_none, errW_some] <;> rfl) | (simp [*, errW_none, errW_some] <;> rfl), be w⟩
 rw [if_neg c4] at H
 have c4b0 : decide (t355 < 0) = false := decide_eq_false c4
 clear c4
 obtain ⟨t356, A90, H⟩ := Option.bind_eq_some_iff.mp H
 try dsimp only at H
 have A9 := As.mk A90
 clear A90
 by_cases c10 : t356 < 0
 ·
  rw [if_pos c10] at H
  have c10b0 : decide (t356 < 0) = true := decide_eq_true c10
  clear c10
  obtain rfl := Option.some.inj H
  go_enter Tryd.func8, Tryd.ntmps8
  go_wp2_with (first | ((with_reducible refine gate_dst (N := 2) rfl ?_); refine box_event ?hg (N := 2) ?hd (cs := #[.slice A0_0 l0_0.length c0_0, .slice A0_1 l0_1.length c0_1]) (t := 47) ?hr ?_; (case hd => rfl); (case hg => rfl); (case hr => first | (go_simp; done) | (go_simp; rfl)); intro gb353 hg w11 hbox hb; have BK353 := As.mk (hbox); have GW353 := As.mk (gs w hg); have GE353 := As.mk (gs w hg); replace HB := As.mk (below_step (be w) hb); clear hb hbox hg) | ((with_reducible refine gate_dst (N := 3) rfl ?_); refine box_event ?hg (N := 3) ?hd (cs := #[.slice A1_0 l1_0.length c1_0, .slice A1_1 l1_1.length c1_1]) (t := 47) ?hr ?_; (case hd => rfl); (case hg => rfl); (case hr => first | (go_simp; done) | (go_simp; rfl)); intro gb354 hg w12 hbox hb; have BK354 := As.mk (hbox); have GW354 := As.mk (gs w hg); have GE354 := As.mk (gs w hg); replace HB := As.mk (below_step (be w) hb); have NB353_354 := As.mk (nl hg (bx BK353.out)); have NB354_353 := As.mk (ng hg (bx BK353.out)); replace BK353 := As.mk (blk_below (bx BK353.out) hb); clear hb hbox hg; have hnb13 := NB353_354.out; have hnc13 := NB354_353.out; obtain ⟨hcz14_0, hcz14_1, hfz14_0, hfz14_1⟩ := cl2 BK353.out) | ((with_reducible refine gate_callee (f := 29) rfl ?_); refine goesL_ (some 12) rfl rfl Tryd.func29 (by kernel_rfl) rfl #[.agg #[.slice A0_0 l0_0.length c0_0, .slice A0_1 l0_1.length c0_1], .int .i64 1048576] rfl (by (try simp only [lm]); first | done | rfl | (simp only [List.length_drop, List.length_take]; rfl)) ?_; (with_reducible refine (laws_szProgram.calls k _ _ l0_0 _ _ l0_1 1048576 t355 _ ?side1 ?side2 ?side3 ?side4 A3.out).mono ?_); (case side1 => exact Kd.C_below HR0_0.out (be w)); (case side2 => exact HC0_0.out); (case side3 => exact Kd.C_below HR0_1.out (be w)); (case side4 => exact HC0_1.out); rintro e w15 ⟨rfl, hb⟩; refine ⟨_, rfl, ?_⟩; replace BK354 := As.mk (blk_below (bx BK354.out) hb); replace HB := As.mk (below_step (be w) hb); (try clear hb); (try clear hb2); (try clear hk); (try clear hi); obtain ⟨hcz16_0, hcz16_1, hfz16_0, hfz16_1⟩ := cl2 BK354.out) | ((with_reducible refine gate_callee (f := 29) rfl ?_); refine goesL_ (some 17) rfl rfl Tryd.func29 (by kernel_rfl) rfl #[.agg #[.slice A1_0 l1_0.length c1_0, .slice A1_1 l1_1.length c1_1], .int .i64 t355] rfl (by (try simp only [lm]); first | done | rfl | (simp only [List.length_drop, List.length_take]; rfl)) ?_; (with_reducible refine (laws_szProgram.calls k _ _ l1_0 _ _ l1_1 t355 t356 _ ?side1 ?side2 ?side3 ?side4 A9.out).mono ?_); (case side1 => exact Kd.C_below HR1_0.out (be w)); (case side2 => exact HC1_0.out); (case side3 => exact Kd.C_below HR1_1.out (be w)); (case side4 => exact HC1_1.out); rintro e w17 ⟨rfl, hb⟩; refine ⟨_, rfl, ?_⟩; replace HB := As.mk (below_step (be w) hb); (try clear hb); (try clear hb2); (try clear hk); (try clear hi)))
  go_ret
  exact ⟨by first | rfl | (simp [errW_none, errW_some] <;> rfl) | (simp [*, errW_none, errW_some] <;> rfl), be w⟩
 rw [if_neg c10] at H
 have c10b0 : decide (t356 < 0) = false := decide_eq_false c10
 clear c10
 obtain ⟨⟨t357, t360⟩, A180, H⟩ := Option.bind_eq_some_iff.mp H
 try dsimp only at H
 have A18 := As.mk A180
 clear A180
 obtain ⟨⟨t363, t366⟩, A190, H⟩ := Option.bind_eq_some_iff.mp H
 try dsimp only at H
 have A19 := As.mk A190
 clear A190
 obtain ⟨t369, A200, H⟩ := Option.bind_eq_some_iff.mp H
 try dsimp only at H
 have A20 := As.mk A200
 clear A200
 obtain ⟨⟨t370, t373⟩, A210, H⟩ := Option.bind_eq_some_iff.mp H
 try dsimp only at H
 have A21 := As.mk A210
 clear A210
 obtain ⟨⟨t377, t380⟩, A220, H⟩ := Option.bind_eq_some_iff.mp H
 try dsimp only at H
 have A22 := As.mk A220
 clear A220
 obtain ⟨t384, A230, H⟩ := Option.bind_eq_some_iff.mp H
 try dsimp only at H
 have A23 := As.mk A230
 clear A230
 by_cases c24 : (t384 != t369) = true
 ·
  rw [if_pos c24] at H
  have c24b0 : (t384 != t369) = true := c24
  (try (have c24b1 : decide (t384 = t369) = false := by simpa using c24))
  (try (have c24b2 : (t384 == t369) = false := by simpa using c24))
  (try (have c24b3 : ¬ (t384 = t369) := by simpa using c24))
  clear c24
  exact absurd H (by rw [hrt.out]; simp)
 rw [if_neg c24] at H
 have c24b0 : (t384 != t369) = false := by simpa using c24
 (try (have c24b1 : decide (t384 = t369) = true := by simpa using c24))
 (try (have c24b2 : (t384 == t369) = true := by simpa using c24))
 clear c24
 obtain ⟨⟨t385, t388⟩, A250, H⟩ := Option.bind_eq_some_iff.mp H
 try dsimp only at H
 have A25 := As.mk A250
 clear A250
 obtain ⟨t391, A260, H⟩ := Option.bind_eq_some_iff.mp H
 try dsimp only at H
 have A26 := As.mk A260
 clear A260
 by_cases c27 : t391 = true
 rotate_left
 ·
  replace c27 := Bool.eq_false_iff.mpr c27
  subst c27
  rw [if_neg (show ¬ (false = true) by decide)] at H
  exact absurd H (by rw [hrt.out]; simp)

 subst c27
 rw [if_pos rfl] at H
 obtain ⟨⟨t392, t395⟩, A280, H⟩ := Option.bind_eq_some_iff.mp H
 try dsimp only at H
 have A28 := As.mk A280
 clear A280
 obtain ⟨t398, A290, H⟩ := Option.bind_eq_some_iff.mp H
 try dsimp only at H
 have A29 := As.mk A290
 clear A290
 by_cases c30 : t398 = true
 rotate_left
 ·
  replace c30 := Bool.eq_false_iff.mpr c30
  subst c30
  rw [if_neg (show ¬ (false = true) by decide)] at H
  exact absurd H (by rw [hrt.out]; simp)
 subst c30
 rw [if_pos rfl] at H
 obtain rfl := Option.some.inj H
 go_enter Tryd.func8, Tryd.ntmps8
 try go_wp2_with (first | ((with_reducible refine gate_dst (N := 2) rfl ?_); refine box_event ?hg (N := 2) ?hd (cs := #[.slice A0_0 l0_0.length c0_0, .slice A0_1 l0_1.length c0_1]) (t := 47) ?hr ?_; (case hd => rfl); (case hg => rfl); (case hr => first | (go_simp; done) | (go_simp; rfl)); intro gb353 hg w31 hbox hb; have BK353 := As.mk (hbox); have GW353 := As.mk (gs w hg); have GE353 := As.mk (gs w hg); replace HB := As.mk (below_step (be w) hb); clear hb hbox hg) | ((with_reducible refine gate_dst (N := 3) rfl ?_); refine box_event ?hg (N := 3) ?hd (cs := #[.slice A1_0 l1_0.length c1_0, .slice A1_1 l1_1.length c1_1]) (t := 47) ?hr ?_; (case hd => rfl); (case hg => rfl); (case hr => first | (go_simp; done) | (go_simp; rfl)); intro gb354 hg w32 hbox hb; have BK354 := As.mk (hbox); have GW354 := As.mk (gs w hg); have GE354 := As.mk (gs w hg); replace HB := As.mk (below_step (be w) hb); have NB353_354 := As.mk (nl hg (bx BK353.out)); have NB354_353 := As.mk (ng hg (bx BK353.out)); replace BK353 := As.mk (blk_below (bx BK353.out) hb); clear hb hbox hg; have hnb33 := NB353_354.out; have hnc33 := NB354_353.out; obtain ⟨hcz34_0, hcz34_1, hfz34_0, hfz34_1⟩ := cl2 BK353.out) | ((with_reducible refine gate_callee (f := 29) rfl ?_); refine goesL_ (some 12) rfl rfl Tryd.func29 (by kernel_rfl) rfl #[.agg #[.slice A0_0 l0_0.length c0_0, .slice A0_1 l0_1.length c0_1], .int .i64 1048576] rfl (by (try simp only [lm]); first | done | rfl | (simp only [List.length_drop, List.length_take]; rfl)) ?_; (with_reducible refine (laws_szProgram.calls k _ _ l0_0 _ _ l0_1 1048576 t355 _ ?side1 ?side2 ?side3 ?side4 A3.out).mono ?_); (case side1 => exact Kd.C_below HR0_0.out (be w)); (case side2 => exact HC0_0.out); (case side3 => exact Kd.C_below HR0_1.out (be w)); (case side4 => exact HC0_1.out); rintro e w35 ⟨rfl, hb⟩; refine ⟨_, rfl, ?_⟩; replace BK353 := As.mk (blk_below (bx BK353.out) hb); replace BK354 := As.mk (blk_below (bx BK354.out) hb); replace HB := As.mk (below_step (be w) hb); (try clear hb); (try clear hb2); (try clear hk); (try clear hi); obtain ⟨hcz36_0, hcz36_1, hfz36_0, hfz36_1⟩ := cl2 BK354.out) | ((with_reducible refine gate_callee (f := 29) rfl ?_); refine goesL_ (some 17) rfl rfl Tryd.func29 (by kernel_rfl) rfl #[.agg #[.slice A1_0 l1_0.length c1_0, .slice A1_1 l1_1.length c1_1], .int .i64 t355] rfl (by (try simp only [lm]); first | done | rfl | (simp only [List.length_drop, List.length_take]; rfl)) ?_; (with_reducible refine (laws_szProgram.calls k _ _ l1_0 _ _ l1_1 t355 t356 _ ?side1 ?side2 ?side3 ?side4 A9.out).mono ?_); (case side1 => exact Kd.C_below HR1_0.out (be w)); (case side2 => exact HC1_0.out); (case side3 => exact Kd.C_below HR1_1.out (be w)); (case side4 => exact HC1_1.out); rintro e w37 ⟨rfl, hb⟩; refine ⟨_, rfl, ?_⟩; replace BK353 := As.mk (blk_below (bx BK353.out) hb); replace BK354 := As.mk (blk_below (bx BK354.out) hb); replace HB := As.mk (below_step (be w) hb); (try clear hb); (try clear hb2); (try clear hk); (try clear hi)))
 replace BK353 := As.mk (blk_drew BK353.out)
 replace BK354 := As.mk (blk_drew BK354.out)
 replace HB := As.mk (below_drew1 HB.out)
 refine start_ (n := 6) (S := fun w' => w'.cell? ⟨gb353, 0, none⟩ = some (.slice A0_0 l0_0.length c0_0) ∧ w'.cell? ⟨gb353, 1, none⟩ = some (.slice A0_1 l0_1.length c0_1) ∧ w'.cell? ⟨gb354, 0, none⟩ = some (.slice A1_0 l1_0.length c1_0) ∧ w'.cell? ⟨gb354, 1, none⟩ = some (.slice A1_1 l1_1.length c1_1)) (ds := []) #[O, O, O, O, O, O] (by kernel_rfl) rfl rfl ⟨(blk_cell BK353.out 0).trans rfl, (blk_cell BK353.out 1).trans rfl, (blk_cell BK354.out 0).trans rfl, (blk_cell BK354.out 1).trans rfl⟩ (fun hHeld => ?_)
 generalize w37.drew = w38 at BK353 BK354 HB hHeld ⊢
 refine take_ (i := 0) (N := some 20) (v := ?_) (a' := ?_) #[I, O, O, O, O, O] rfl rfl (by kernel_rfl) (fun _ _ _ h => h) (Or.inl ⟨by rfl, ?_⟩) hHeld ?_ ?_
 rotate_left
 ·
  rintro w' ⟨s0, s1, s2, s3⟩
  go_simp
  with_reducible rfl
 rotate_left
 ·
  simp only [pk, i64_w, i32_w]
  rfl
 refine take_ (i := 2) (N := some 22) (v := ?_) (a' := ?_) #[I, O, I, O, O, O] rfl rfl (by kernel_rfl) (fun _ _ _ h => h) (Or.inl ⟨by rfl, ?_⟩) hHeld ?_ ?_
 rotate_left
 ·
  rintro w' ⟨s0, s1, s2, s3⟩
  go_simp
  with_reducible rfl
 rotate_left
 ·
  simp only [pk, i64_w, i32_w]
  rfl
 refine one_ (i := 1) (N := some 21) #[I, I, I, O, O, O] rfl rfl (by kernel_rfl) (by decide) (fun K hK => ?_)
 refine goes_ Tryd.func31 (by kernel_rfl) rfl #[.agg #[.slice A0_0 l0_0.length c0_0, .slice A0_1 l0_1.length c0_1]] (by rfl) rfl rfl (by (try simp only [lm]); first | done | rfl | (simp only [List.length_drop, List.length_take]; rfl)) ?_
 with_reducible refine (laws_toProgram.calls k _ _ l0_0 _ _ l0_1 t357 t360 _ ?side1 ?side2 ?side3 ?side4 A18.out).mono ?_
 (case side1 => exact Kd.C_below HR0_0.out (be w))
 (case side2 => exact HC0_0.out)
 (case side3 => exact Kd.C_below HR0_1.out (be w))
 (case side4 => exact HC0_1.out)
 rintro e w39 ⟨v358, v361, rfl, ho0, ho1, hb⟩
 refine ⟨_, rfl, ?_⟩
 have HO359 := As.mk (Kd.S_lower ho0 (below_size (be w)))
 have HO362 := As.mk (Kd.S_lower ho1 (below_size (be w)))
 replace BK353 := As.mk (blk_below (bx BK353.out) hb)
 replace BK354 := As.mk (blk_below (bx BK354.out) hb)
 replace HB := As.mk (below_step (be w) hb)
 (try clear hb)
 (try clear hb2)
 (try clear hk)
 (try clear hi)
 (try clear ho0)
 (try clear ho1)
 refine hK.out _ _ ⟨(blk_cell BK353.out 0).trans rfl, (blk_cell BK353.out 1).trans rfl, (blk_cell BK354.out 0).trans rfl, (blk_cell BK354.out 1).trans rfl⟩ (fun hHeld => ?_)
 clear hK K
 refine norm_ (a' := ?_) ?_ ?_
 rotate_left
 ·
  show Act.put _ (some 21) _ = _
  simp only [pk, i64_w, i32_w]
  rfl
 refine one_ (i := 3) (N := some 23) #[I, I, I, I, O, O] rfl rfl (by kernel_rfl) (by decide) (fun K hK => ?_)
 refine goes_ Tryd.func31 (by kernel_rfl) rfl #[.agg #[.slice A1_0 l1_0.length c1_0, .slice A1_1 l1_1.length c1_1]] (by rfl) rfl rfl (by (try simp only [lm]); first | done | rfl | (simp only [List.length_drop, List.length_take]; rfl)) ?_
 with_reducible refine (laws_toProgram.calls k _ _ l1_0 _ _ l1_1 t363 t366 _ ?side1 ?side2 ?side3 ?side4 A19.out).mono ?_
 (case side1 => exact Kd.C_below HR1_0.out (be w))
 (case side2 => exact HC1_0.out)
 (case side3 => exact Kd.C_below HR1_1.out (be w))
 (case side4 => exact HC1_1.out)
 rintro e w40 ⟨v364, v367, rfl, ho0, ho1, hb⟩
 refine ⟨_, rfl, ?_⟩
 have HO365 := As.mk (Kd.S_lower (Kd.S_new' ho0 (Kd.S_lt (by (with_reducible repeat (first | apply Kd.S_alloc | apply Kd.S_drewN | apply Kd.S_drew)); exact HO359.out))) (below_size (be w)))
 replace HO359 := As.mk (Kd.S_elder' (by (with_reducible repeat (first | apply Kd.S_alloc | apply Kd.S_drewN | apply Kd.S_drew)); exact HO359.out) (Kd.S_base ho0) hb)
 have HO368 := As.mk (Kd.S_lower (Kd.S_new' ho1 (Kd.S_lt (by (with_reducible repeat (first | apply Kd.S_alloc | apply Kd.S_drewN | apply Kd.S_drew)); exact HO362.out))) (below_size (be w)))
 replace HO362 := As.mk (Kd.S_elder' (by (with_reducible repeat (first | apply Kd.S_alloc | apply Kd.S_drewN | apply Kd.S_drew)); exact HO362.out) (Kd.S_base ho1) hb)
 replace BK353 := As.mk (blk_below (bx BK353.out) hb)
 replace BK354 := As.mk (blk_below (bx BK354.out) hb)
 replace HB := As.mk (below_step (be w) hb)
 (try clear hb)
 (try clear hb2)
 (try clear hk)
 (try clear hi)
 (try clear ho0)
 (try clear ho1)
 obtain ⟨Ao41, co41, eo41⟩ := Kd.S_slice HO359.out
 (first | subst eo41 | (injection eo41 with f1_ f2_ f3_; have f4_ := f1_.symm; have f5_ := f3_.symm; clear f1_ f2_ f3_; subst f4_; subst f5_))
 obtain ⟨Ao42, co42, eo42⟩ := Kd.S_slice HO362.out
 (first | subst eo42 | (injection eo42 with f1_ f2_ f3_; have f4_ := f1_.symm; have f5_ := f3_.symm; clear f1_ f2_ f3_; subst f4_; subst f5_))
 obtain ⟨Ao43, co43, eo43⟩ := Kd.S_slice HO365.out
 (first | subst eo43 | (injection eo43 with f1_ f2_ f3_; have f4_ := f1_.symm; have f5_ := f3_.symm; clear f1_ f2_ f3_; subst f4_; subst f5_))
 obtain ⟨Ao44, co44, eo44⟩ := Kd.S_slice HO368.out
 (first | subst eo44 | (injection eo44 with f1_ f2_ f3_; have f4_ := f1_.symm; have f5_ := f3_.symm; clear f1_ f2_ f3_; subst f4_; subst f5_))
 refine hK.out _ _ ⟨(blk_cell BK353.out 0).trans rfl, (blk_cell BK353.out 1).trans rfl, (blk_cell BK354.out 0).trans rfl, (blk_cell BK354.out 1).trans rfl⟩ (fun hHeld => ?_)
 clear hK K
 refine norm_ (a' := ?_) ?_ ?_
 rotate_left
 ·
  show Act.put _ (some 23) _ = _
  simp only [pk, i64_w, i32_w]
  rfl
 refine one_ (i := 4) (N := some 24) #[I, I, I, I, I, O] rfl rfl (by kernel_rfl) (by decide) (fun K hK => ?_)
 refine goes_ Tryd.func34 (by kernel_rfl) rfl #[.agg #[.slice Ao41 t357.length co41, .slice Ao42 t360.length co42], .agg #[.slice Ao43 t363.length co43, .slice Ao44 t366.length co44]] (by rfl) rfl rfl (by (try simp only [lm]); first | done | rfl | (simp only [List.length_drop, List.length_take]; rfl)) ?_
 with_reducible refine (spec_SameProgram.calls k _ _ t357 _ _ t360 _ _ t363 _ _ t366 t369 _ ?side1 ?side2 ?side3 ?side4 ?side5 ?side6 ?side7 ?side8 A20.out).mono ?_
 (case side1 => repeat (first | exact (Kd.S_reads' HO359.out).2.2 | (with_reducible refine Kd.C_alloc ?_ _) | (with_reducible refine Kd.C_drewN ?_ _) | (with_reducible refine Kd.C_drew ?_)))
 (case side2 => exact (Kd.S_reads' HO359.out).2.1)
 (case side3 => repeat (first | exact (Kd.S_reads' HO362.out).2.2 | (with_reducible refine Kd.C_alloc ?_ _) | (with_reducible refine Kd.C_drewN ?_ _) | (with_reducible refine Kd.C_drew ?_)))
 (case side4 => exact (Kd.S_reads' HO362.out).2.1)
 (case side5 => repeat (first | exact (Kd.S_reads' HO365.out).2.2 | (with_reducible refine Kd.C_alloc ?_ _) | (with_reducible refine Kd.C_drewN ?_ _) | (with_reducible refine Kd.C_drew ?_)))
 (case side6 => exact (Kd.S_reads' HO365.out).2.1)
 (case side7 => repeat (first | exact (Kd.S_reads' HO368.out).2.2 | (with_reducible refine Kd.C_alloc ?_ _) | (with_reducible refine Kd.C_drewN ?_ _) | (with_reducible refine Kd.C_drew ?_)))
 (case side8 => exact (Kd.S_reads' HO368.out).2.1)
 rintro e w45 ⟨rfl, hb⟩
 refine ⟨_, rfl, ?_⟩
 replace HO359 := As.mk (Kd.S_below (by (with_reducible repeat (first | apply Kd.S_alloc | apply Kd.S_drewN | apply Kd.S_drew)); exact HO359.out) hb)
 replace HO362 := As.mk (Kd.S_below (by (with_reducible repeat (first | apply Kd.S_alloc | apply Kd.S_drewN | apply Kd.S_drew)); exact HO362.out) hb)
 replace HO365 := As.mk (Kd.S_below (by (with_reducible repeat (first | apply Kd.S_alloc | apply Kd.S_drewN | apply Kd.S_drew)); exact HO365.out) hb)
 replace HO368 := As.mk (Kd.S_below (by (with_reducible repeat (first | apply Kd.S_alloc | apply Kd.S_drewN | apply Kd.S_drew)); exact HO368.out) hb)
 replace BK353 := As.mk (blk_below (bx BK353.out) hb)
 replace BK354 := As.mk (blk_below (bx BK354.out) hb)
 replace HB := As.mk (below_step (be w) hb)
 (try clear hb)
 (try clear hb2)
 (try clear hk)
 (try clear hi)
 refine hK.out _ _ ⟨(blk_cell BK353.out 0).trans rfl, (blk_cell BK353.out 1).trans rfl, (blk_cell BK354.out 0).trans rfl, (blk_cell BK354.out 1).trans rfl⟩ (fun hHeld => ?_)
 clear hK K
 refine norm_ (a' := ?_) ?_ ?_
 rotate_left
 ·
  show Act.put _ (some 24) _ = _
  simp only [pk, i64_w, i32_w]
  rfl
 refine pure_ (i := 5) (N := some 6) (v := ?_) (a' := ?_) #[I, I, I, I, I, I] rfl rfl (by kernel_rfl) (fun _ _ _ h => h) (Or.inl ⟨by rfl, ?_⟩) ?_ ?_
 rotate_left
 ·
  intro w'
  go_simp
  with_reducible rfl
 rotate_left
 ·
  simp only [pk, i64_w, i32_w]
  rfl
 refine done_ (by kernel_rfl) ?_
 obtain ⟨hcz46_0, hcz46_1, hfz46_0, hfz46_1⟩ := cl2 BK353.out
 try go_wp2_with (first | ((with_reducible refine gate_callee (f := 31) rfl ?_); refine goesL_ (some 26) rfl rfl Tryd.func31 (by kernel_rfl) rfl #[.agg #[.slice A0_0 l0_0.length c0_0, .slice A0_1 l0_1.length c0_1]] rfl (by (try simp only [lm]); first | done | rfl | (simp only [List.length_drop, List.length_take]; rfl)) ?_; (with_reducible refine (laws_toProgram.calls k _ _ l0_0 _ _ l0_1 t370 t373 _ ?side1 ?side2 ?side3 ?side4 A21.out).mono ?_); (case side1 => exact Kd.C_below HR0_0.out (be w)); (case side2 => exact HC0_0.out); (case side3 => exact Kd.C_below HR0_1.out (be w)); (case side4 => exact HC0_1.out); rintro e w47 ⟨v371, v374, rfl, ho0, ho1, hb⟩; refine ⟨_, rfl, ?_⟩; have HO372 := As.mk (Kd.S_lower (Kd.S_new' (Kd.S_new' ho0 (Kd.S_lt (by (with_reducible repeat (first | apply Kd.S_alloc | apply Kd.S_drewN | apply Kd.S_drew)); exact HO359.out))) (Kd.S_lt (by (with_reducible repeat (first | apply Kd.S_alloc | apply Kd.S_drewN | apply Kd.S_drew)); exact HO365.out))) (below_size (be w))); replace HO359 := As.mk (Kd.S_elder' (by (with_reducible repeat (first | apply Kd.S_alloc | apply Kd.S_drewN | apply Kd.S_drew)); exact HO359.out) (Kd.S_base ho0) hb); replace HO365 := As.mk (Kd.S_elder' (by (with_reducible repeat (first | apply Kd.S_alloc | apply Kd.S_drewN | apply Kd.S_drew)); exact HO365.out) (Kd.S_base ho0) hb); have HO375 := As.mk (Kd.S_lower (Kd.S_new' (Kd.S_new' ho1 (Kd.S_lt (by (with_reducible repeat (first | apply Kd.S_alloc | apply Kd.S_drewN | apply Kd.S_drew)); exact HO362.out))) (Kd.S_lt (by (with_reducible repeat (first | apply Kd.S_alloc | apply Kd.S_drewN | apply Kd.S_drew)); exact HO368.out))) (below_size (be w))); replace HO362 := As.mk (Kd.S_elder' (by (with_reducible repeat (first | apply Kd.S_alloc | apply Kd.S_drewN | apply Kd.S_drew)); exact HO362.out) (Kd.S_base ho1) hb); replace HO368 := As.mk (Kd.S_elder' (by (with_reducible repeat (first | apply Kd.S_alloc | apply Kd.S_drewN | apply Kd.S_drew)); exact HO368.out) (Kd.S_base ho1) hb); replace BK353 := As.mk (blk_below (bx BK353.out) hb); replace BK354 := As.mk (blk_below (bx BK354.out) hb); replace HB := As.mk (below_step (be w) hb); (try clear hb); (try clear hb2); (try clear hk); (try clear hi); (try clear ho0); (try clear ho1)) | ((with_reducible refine gate_dst (N := 7) rfl ?_); refine box_event ?hg (N := 7) ?hd (cs := #[.slice none 0 0, .slice none 0 0]) (t := 52) ?hr ?_; (case hd => rfl); (case hg => rfl); (case hr => first | (go_simp; done) | (go_simp; rfl)); intro gb376 hg w48 hbox hb; replace HO359 := As.mk (Kd.S_below (by (with_reducible repeat (first | apply Kd.S_alloc | apply Kd.S_drewN | apply Kd.S_drew)); exact HO359.out) hb); replace HO362 := As.mk (Kd.S_below (by (with_reducible repeat (first | apply Kd.S_alloc | apply Kd.S_drewN | apply Kd.S_drew)); exact HO362.out) hb); replace HO365 := As.mk (Kd.S_below (by (with_reducible repeat (first | apply Kd.S_alloc | apply Kd.S_drewN | apply Kd.S_drew)); exact HO365.out) hb); replace HO368 := As.mk (Kd.S_below (by (with_reducible repeat (first | apply Kd.S_alloc | apply Kd.S_drewN | apply Kd.S_drew)); exact HO368.out) hb); replace HO372 := As.mk (Kd.S_below (by (with_reducible repeat (first | apply Kd.S_alloc | apply Kd.S_drewN | apply Kd.S_drew)); exact HO372.out) hb); replace HO375 := As.mk (Kd.S_below (by (with_reducible repeat (first | apply Kd.S_alloc | apply Kd.S_drewN | apply Kd.S_drew)); exact HO375.out) hb); have BK376 := As.mk (hbox); have GW376 := As.mk (gs w hg); have GE376 := As.mk (gs w hg); replace HB := As.mk (below_step (be w) hb); have NB353_376 := As.mk (nl hg (bx BK353.out)); have NB376_353 := As.mk (ng hg (bx BK353.out)); replace BK353 := As.mk (blk_below (bx BK353.out) hb); have NB354_376 := As.mk (nl hg (bx BK354.out)); have NB376_354 := As.mk (ng hg (bx BK354.out)); replace BK354 := As.mk (blk_below (bx BK354.out) hb); clear hb hbox hg; obtain ⟨Ao49, co49, eo49⟩ := Kd.S_slice HO372.out; subst eo49; have hnb50 := NB376_353.out; have hnc50 := NB353_376.out; have hnb51 := NB376_354.out; have hnc51 := NB354_376.out; obtain ⟨hcz52_0, hcz52_1, hfz52_0, hfz52_1⟩ := cl2 BK376.out; obtain ⟨Ao53, co53, eo53⟩ := Kd.S_slice HO375.out; subst eo53; obtain ⟨hcz54_0, hcz54_1, hfz54_0, hfz54_1⟩ := cl2 BK354.out) | ((with_reducible refine gate_callee (f := 31) rfl ?_); refine goesL_ (some 28) rfl rfl Tryd.func31 (by kernel_rfl) rfl #[.agg #[.slice A1_0 l1_0.length c1_0, .slice A1_1 l1_1.length c1_1]] rfl (by (try simp only [lm]); first | done | rfl | (simp only [List.length_drop, List.length_take]; rfl)) ?_; (with_reducible refine (laws_toProgram.calls k _ _ l1_0 _ _ l1_1 t377 t380 _ ?side1 ?side2 ?side3 ?side4 A22.out).mono ?_); (case side1 => exact Kd.C_below HR1_0.out (be w)); (case side2 => exact HC1_0.out); (case side3 => exact Kd.C_below HR1_1.out (be w)); (case side4 => exact HC1_1.out); rintro e w55 ⟨v378, v381, rfl, ho0, ho1, hb⟩; refine ⟨_, rfl, ?_⟩; have HO379 := As.mk (Kd.S_lower (Kd.S_new' (Kd.S_new' (Kd.S_new' ho0 (Kd.S_lt (by (with_reducible repeat (first | apply Kd.S_alloc | apply Kd.S_drewN | apply Kd.S_drew)); exact (Kd.S_mono (Kd.S_far (p := ⟨gb376, 1, none⟩) (Kd.S_far (p := ⟨gb376, 0, none⟩) (Kd.S_types HO359.out BK376.out (by decide)) (fun _ hk => hk.2) (.slice Ao49 t370.length co49)) (fun _ hk => hk.2) (.slice Ao53 t373.length co53)) (fun _ h_ => h_.1))))) (Kd.S_lt (by (with_reducible repeat (first | apply Kd.S_alloc | apply Kd.S_drewN | apply Kd.S_drew)); exact (Kd.S_mono (Kd.S_far (p := ⟨gb376, 1, none⟩) (Kd.S_far (p := ⟨gb376, 0, none⟩) (Kd.S_types HO365.out BK376.out (by decide)) (fun _ hk => hk.2) (.slice Ao49 t370.length co49)) (fun _ hk => hk.2) (.slice Ao53 t373.length co53)) (fun _ h_ => h_.1))))) (Kd.S_lt (by (with_reducible repeat (first | apply Kd.S_alloc | apply Kd.S_drewN | apply Kd.S_drew)); exact (Kd.S_mono (Kd.S_far (p := ⟨gb376, 1, none⟩) (Kd.S_far (p := ⟨gb376, 0, none⟩) (Kd.S_types HO372.out BK376.out (by decide)) (fun _ hk => hk.2) (.slice Ao49 t370.length co49)) (fun _ hk => hk.2) (.slice Ao53 t373.length co53)) (fun _ h_ => h_.1))))) (below_size (be w))); replace HO359 := As.mk (Kd.S_elder' (by (with_reducible repeat (first | apply Kd.S_alloc | apply Kd.S_drewN | apply Kd.S_drew)); exact (Kd.S_mono (Kd.S_far (p := ⟨gb376, 1, none⟩) (Kd.S_far (p := ⟨gb376, 0, none⟩) (Kd.S_types HO359.out BK376.out (by decide)) (fun _ hk => hk.2) (.slice Ao49 t370.length co49)) (fun _ hk => hk.2) (.slice Ao53 t373.length co53)) (fun _ h_ => h_.1))) (Kd.S_base ho0) hb); replace HO365 := As.mk (Kd.S_elder' (by (with_reducible repeat (first | apply Kd.S_alloc | apply Kd.S_drewN | apply Kd.S_drew)); exact (Kd.S_mono (Kd.S_far (p := ⟨gb376, 1, none⟩) (Kd.S_far (p := ⟨gb376, 0, none⟩) (Kd.S_types HO365.out BK376.out (by decide)) (fun _ hk => hk.2) (.slice Ao49 t370.length co49)) (fun _ hk => hk.2) (.slice Ao53 t373.length co53)) (fun _ h_ => h_.1))) (Kd.S_base ho0) hb); replace HO372 := As.mk (Kd.S_elder' (by (with_reducible repeat (first | apply Kd.S_alloc | apply Kd.S_drewN | apply Kd.S_drew)); exact (Kd.S_mono (Kd.S_far (p := ⟨gb376, 1, none⟩) (Kd.S_far (p := ⟨gb376, 0, none⟩) (Kd.S_types HO372.out BK376.out (by decide)) (fun _ hk => hk.2) (.slice Ao49 t370.length co49)) (fun _ hk => hk.2) (.slice Ao53 t373.length co53)) (fun _ h_ => h_.1))) (Kd.S_base ho0) hb); have HO382 := As.mk (Kd.S_lower (Kd.S_new' (Kd.S_new' (Kd.S_new' ho1 (Kd.S_lt (by (with_reducible repeat (first | apply Kd.S_alloc | apply Kd.S_drewN | apply Kd.S_drew)); exact (Kd.S_mono (Kd.S_far (p := ⟨gb376, 1, none⟩) (Kd.S_far (p := ⟨gb376, 0, none⟩) (Kd.S_types HO362.out BK376.out (by decide)) (fun _ hk => hk.2) (.slice Ao49 t370.length co49)) (fun _ hk => hk.2) (.slice Ao53 t373.length co53)) (fun _ h_ => h_.1))))) (Kd.S_lt (by (with_reducible repeat (first | apply Kd.S_alloc | apply Kd.S_drewN | apply Kd.S_drew)); exact (Kd.S_mono (Kd.S_far (p := ⟨gb376, 1, none⟩) (Kd.S_far (p := ⟨gb376, 0, none⟩) (Kd.S_types HO368.out BK376.out (by decide)) (fun _ hk => hk.2) (.slice Ao49 t370.length co49)) (fun _ hk => hk.2) (.slice Ao53 t373.length co53)) (fun _ h_ => h_.1))))) (Kd.S_lt (by (with_reducible repeat (first | apply Kd.S_alloc | apply Kd.S_drewN | apply Kd.S_drew)); exact (Kd.S_mono (Kd.S_far (p := ⟨gb376, 1, none⟩) (Kd.S_far (p := ⟨gb376, 0, none⟩) (Kd.S_types HO375.out BK376.out (by decide)) (fun _ hk => hk.2) (.slice Ao49 t370.length co49)) (fun _ hk => hk.2) (.slice Ao53 t373.length co53)) (fun _ h_ => h_.1))))) (below_size (be w))); replace HO362 := As.mk (Kd.S_elder' (by (with_reducible repeat (first | apply Kd.S_alloc | apply Kd.S_drewN | apply Kd.S_drew)); exact (Kd.S_mono (Kd.S_far (p := ⟨gb376, 1, none⟩) (Kd.S_far (p := ⟨gb376, 0, none⟩) (Kd.S_types HO362.out BK376.out (by decide)) (fun _ hk => hk.2) (.slice Ao49 t370.length co49)) (fun _ hk => hk.2) (.slice Ao53 t373.length co53)) (fun _ h_ => h_.1))) (Kd.S_base ho1) hb); replace HO368 := As.mk (Kd.S_elder' (by (with_reducible repeat (first | apply Kd.S_alloc | apply Kd.S_drewN | apply Kd.S_drew)); exact (Kd.S_mono (Kd.S_far (p := ⟨gb376, 1, none⟩) (Kd.S_far (p := ⟨gb376, 0, none⟩) (Kd.S_types HO368.out BK376.out (by decide)) (fun _ hk => hk.2) (.slice Ao49 t370.length co49)) (fun _ hk => hk.2) (.slice Ao53 t373.length co53)) (fun _ h_ => h_.1))) (Kd.S_base ho1) hb); replace HO375 := As.mk (Kd.S_elder' (by (with_reducible repeat (first | apply Kd.S_alloc | apply Kd.S_drewN | apply Kd.S_drew)); exact (Kd.S_mono (Kd.S_far (p := ⟨gb376, 1, none⟩) (Kd.S_far (p := ⟨gb376, 0, none⟩) (Kd.S_types HO375.out BK376.out (by decide)) (fun _ hk => hk.2) (.slice Ao49 t370.length co49)) (fun _ hk => hk.2) (.slice Ao53 t373.length co53)) (fun _ h_ => h_.1))) (Kd.S_base ho1) hb); replace BK353 := As.mk (blk_below (g := gb353) (o := .cells #[.slice A0_0 l0_0.length c0_0, .slice A0_1 l0_1.length c0_1] 47 (0, 0)) (by refine pl ?_; refine blk_far ?_ NB353_376.out _; refine pl ?_; refine blk_far ?_ NB353_376.out _; exact bx BK353.out) hb); replace BK354 := As.mk (blk_below (g := gb354) (o := .cells #[.slice A1_0 l1_0.length c1_0, .slice A1_1 l1_1.length c1_1] 47 (0, 0)) (by refine pl ?_; refine blk_far ?_ NB354_376.out _; refine pl ?_; refine blk_far ?_ NB354_376.out _; exact bx BK354.out) hb); replace BK376 := As.mk (blk_below (g := gb376) (o := .cells #[.slice Ao49 t370.length co49, .slice Ao53 t373.length co53] 52 (0, 0)) (by refine pl ?_; refine blk_put (cs := #[.slice Ao49 t370.length co49, .slice none 0 0]) ?_ 1 _ rfl; refine pl ?_; refine blk_put (cs := #[.slice none 0 0, .slice none 0 0]) ?_ 0 _ rfl; exact bx BK376.out) hb); replace HB := As.mk (below_step (be w) hb); (try clear hb); (try clear hb2); (try clear hk); (try clear hi); (try clear ho0); (try clear ho1)) | ((with_reducible refine gate_dst (N := 8) rfl ?_); refine box_event ?hg (N := 8) ?hd (cs := #[.slice none 0 0, .slice none 0 0]) (t := 52) ?hr ?_; (case hd => rfl); (case hg => rfl); (case hr => first | (go_simp; done) | (go_simp; rfl)); intro gb383 hg w56 hbox hb; replace HO359 := As.mk (Kd.S_below (by (with_reducible repeat (first | apply Kd.S_alloc | apply Kd.S_drewN | apply Kd.S_drew)); exact HO359.out) hb); replace HO362 := As.mk (Kd.S_below (by (with_reducible repeat (first | apply Kd.S_alloc | apply Kd.S_drewN | apply Kd.S_drew)); exact HO362.out) hb); replace HO365 := As.mk (Kd.S_below (by (with_reducible repeat (first | apply Kd.S_alloc | apply Kd.S_drewN | apply Kd.S_drew)); exact HO365.out) hb); replace HO368 := As.mk (Kd.S_below (by (with_reducible repeat (first | apply Kd.S_alloc | apply Kd.S_drewN | apply Kd.S_drew)); exact HO368.out) hb); replace HO372 := As.mk (Kd.S_below (by (with_reducible repeat (first | apply Kd.S_alloc | apply Kd.S_drewN | apply Kd.S_drew)); exact HO372.out) hb); replace HO375 := As.mk (Kd.S_below (by (with_reducible repeat (first | apply Kd.S_alloc | apply Kd.S_drewN | apply Kd.S_drew)); exact HO375.out) hb); replace HO379 := As.mk (Kd.S_below (by (with_reducible repeat (first | apply Kd.S_alloc | apply Kd.S_drewN | apply Kd.S_drew)); exact HO379.out) hb); replace HO382 := As.mk (Kd.S_below (by (with_reducible repeat (first | apply Kd.S_alloc | apply Kd.S_drewN | apply Kd.S_drew)); exact HO382.out) hb); have BK383 := As.mk (hbox); have GW383 := As.mk (gs w hg); have GE383 := As.mk (gs w hg); replace HB := As.mk (below_step (be w) hb); have NB353_383 := As.mk (nl hg (bx BK353.out)); have NB383_353 := As.mk (ng hg (bx BK353.out)); replace BK353 := As.mk (blk_below (bx BK353.out) hb); have NB354_383 := As.mk (nl hg (bx BK354.out)); have NB383_354 := As.mk (ng hg (bx BK354.out)); replace BK354 := As.mk (blk_below (bx BK354.out) hb); have NB376_383 := As.mk (nl hg (bx BK376.out)); have NB383_376 := As.mk (ng hg (bx BK376.out)); replace BK376 := As.mk (blk_below (bx BK376.out) hb); clear hb hbox hg; obtain ⟨Ao57, co57, eo57⟩ := Kd.S_slice HO379.out; subst eo57; have hnb58 := NB383_353.out; have hnc58 := NB353_383.out; have hnb59 := NB383_354.out; have hnc59 := NB354_383.out; have hnb60 := NB383_376.out; have hnc60 := NB376_383.out; obtain ⟨hcz61_0, hcz61_1, hfz61_0, hfz61_1⟩ := cl2 BK383.out; obtain ⟨Ao62, co62, eo62⟩ := Kd.S_slice HO382.out; subst eo62; obtain ⟨hcz63_0, hcz63_1, hfz63_0, hfz63_1⟩ := cl2 BK376.out) | ((with_reducible refine gate_callee (f := 35) rfl ?_); refine goesL_ (some 31) rfl rfl Tryd.func35 (by kernel_rfl) rfl #[.agg #[.slice Ao49 t370.length co49, .slice Ao53 t373.length co53], .agg #[.slice Ao57 t377.length co57, .slice Ao62 t380.length co62]] rfl (by (try simp only [lm]); first | done | rfl | (simp only [List.length_drop, List.length_take]; rfl)) ?_; (with_reducible refine (impl_SameProgram.calls k _ _ t370 _ _ t373 _ _ t377 _ _ t380 t384 _ ?side1 ?side2 ?side3 ?side4 ?side5 ?side6 ?side7 ?side8 A23.out).mono ?_); (case side1 => refine (Kd.S_reads' (e := 64) (base := w.heap.size) (ok := fun k_ => (((True ∧ some k_ ≠ (.slice Ao41 t357.length co41 : Value).ownBlock) ∧ some k_ ≠ (.slice Ao43 t363.length co43 : Value).ownBlock) ∧ some k_ ≠ (.slice Ao57 t377.length co57 : Value).ownBlock)) (n := t370.length) (c := co49) ?_).2.2; exact (by (with_reducible repeat (first | apply Kd.S_alloc | apply Kd.S_drewN | apply Kd.S_drew)); exact (Kd.S_mono (Kd.S_far (p := ⟨gb383, 1, none⟩) (Kd.S_far (p := ⟨gb383, 0, none⟩) (Kd.S_types HO372.out BK383.out (by decide)) (fun _ hk => hk.2) (.slice Ao57 t377.length co57)) (fun _ hk => hk.2) (.slice Ao62 t380.length co62)) (fun _ h_ => h_.1)))); (case side2 => exact (Kd.S_reads' HO372.out).2.1); (case side3 => refine (Kd.S_reads' (e := 93) (base := w.heap.size) (ok := fun k_ => (((True ∧ some k_ ≠ (.slice Ao42 t360.length co42 : Value).ownBlock) ∧ some k_ ≠ (.slice Ao44 t366.length co44 : Value).ownBlock) ∧ some k_ ≠ (.slice Ao62 t380.length co62 : Value).ownBlock)) (n := t373.length) (c := co53) ?_).2.2; exact (by (with_reducible repeat (first | apply Kd.S_alloc | apply Kd.S_drewN | apply Kd.S_drew)); exact (Kd.S_mono (Kd.S_far (p := ⟨gb383, 1, none⟩) (Kd.S_far (p := ⟨gb383, 0, none⟩) (Kd.S_types HO375.out BK383.out (by decide)) (fun _ hk => hk.2) (.slice Ao57 t377.length co57)) (fun _ hk => hk.2) (.slice Ao62 t380.length co62)) (fun _ h_ => h_.1)))); (case side4 => exact (Kd.S_reads' HO375.out).2.1); (case side5 => refine (Kd.S_reads' (e := 64) (base := w.heap.size) (ok := fun k_ => (((True ∧ some k_ ≠ (.slice Ao41 t357.length co41 : Value).ownBlock) ∧ some k_ ≠ (.slice Ao43 t363.length co43 : Value).ownBlock) ∧ some k_ ≠ (.slice Ao49 t370.length co49 : Value).ownBlock)) (n := t377.length) (c := co57) ?_).2.2; exact (by (with_reducible repeat (first | apply Kd.S_alloc | apply Kd.S_drewN | apply Kd.S_drew)); exact (Kd.S_mono (Kd.S_far (p := ⟨gb383, 1, none⟩) (Kd.S_far (p := ⟨gb383, 0, none⟩) (Kd.S_types HO379.out BK383.out (by decide)) (fun _ hk => hk.2) (.slice Ao57 t377.length co57)) (fun _ hk => hk.2) (.slice Ao62 t380.length co62)) (fun _ h_ => h_.1)))); (case side6 => exact (Kd.S_reads' HO379.out).2.1); (case side7 => refine (Kd.S_reads' (e := 93) (base := w.heap.size) (ok := fun k_ => (((True ∧ some k_ ≠ (.slice Ao42 t360.length co42 : Value).ownBlock) ∧ some k_ ≠ (.slice Ao44 t366.length co44 : Value).ownBlock) ∧ some k_ ≠ (.slice Ao53 t373.length co53 : Value).ownBlock)) (n := t380.length) (c := co62) ?_).2.2; exact (by (with_reducible repeat (first | apply Kd.S_alloc | apply Kd.S_drewN | apply Kd.S_drew)); exact (Kd.S_mono (Kd.S_far (p := ⟨gb383, 1, none⟩) (Kd.S_far (p := ⟨gb383, 0, none⟩) (Kd.S_types HO382.out BK383.out (by decide)) (fun _ hk => hk.2) (.slice Ao57 t377.length co57)) (fun _ hk => hk.2) (.slice Ao62 t380.length co62)) (fun _ h_ => h_.1)))); (case side8 => exact (Kd.S_reads' HO382.out).2.1); rintro e w64 ⟨rfl, hb⟩; refine ⟨_, rfl, ?_⟩; replace HO359 := As.mk (Kd.S_below (by (with_reducible repeat (first | apply Kd.S_alloc | apply Kd.S_drewN | apply Kd.S_drew)); exact (Kd.S_mono (Kd.S_far (p := ⟨gb383, 1, none⟩) (Kd.S_far (p := ⟨gb383, 0, none⟩) (Kd.S_types HO359.out BK383.out (by decide)) (fun _ hk => hk.2) (.slice Ao57 t377.length co57)) (fun _ hk => hk.2) (.slice Ao62 t380.length co62)) (fun _ h_ => h_.1))) hb); replace HO362 := As.mk (Kd.S_below (by (with_reducible repeat (first | apply Kd.S_alloc | apply Kd.S_drewN | apply Kd.S_drew)); exact (Kd.S_mono (Kd.S_far (p := ⟨gb383, 1, none⟩) (Kd.S_far (p := ⟨gb383, 0, none⟩) (Kd.S_types HO362.out BK383.out (by decide)) (fun _ hk => hk.2) (.slice Ao57 t377.length co57)) (fun _ hk => hk.2) (.slice Ao62 t380.length co62)) (fun _ h_ => h_.1))) hb); replace HO365 := As.mk (Kd.S_below (by (with_reducible repeat (first | apply Kd.S_alloc | apply Kd.S_drewN | apply Kd.S_drew)); exact (Kd.S_mono (Kd.S_far (p := ⟨gb383, 1, none⟩) (Kd.S_far (p := ⟨gb383, 0, none⟩) (Kd.S_types HO365.out BK383.out (by decide)) (fun _ hk => hk.2) (.slice Ao57 t377.length co57)) (fun _ hk => hk.2) (.slice Ao62 t380.length co62)) (fun _ h_ => h_.1))) hb); replace HO368 := As.mk (Kd.S_below (by (with_reducible repeat (first | apply Kd.S_alloc | apply Kd.S_drewN | apply Kd.S_drew)); exact (Kd.S_mono (Kd.S_far (p := ⟨gb383, 1, none⟩) (Kd.S_far (p := ⟨gb383, 0, none⟩) (Kd.S_types HO368.out BK383.out (by decide)) (fun _ hk => hk.2) (.slice Ao57 t377.length co57)) (fun _ hk => hk.2) (.slice Ao62 t380.length co62)) (fun _ h_ => h_.1))) hb); replace HO372 := As.mk (Kd.S_below (by (with_reducible repeat (first | apply Kd.S_alloc | apply Kd.S_drewN | apply Kd.S_drew)); exact (Kd.S_mono (Kd.S_far (p := ⟨gb383, 1, none⟩) (Kd.S_far (p := ⟨gb383, 0, none⟩) (Kd.S_types HO372.out BK383.out (by decide)) (fun _ hk => hk.2) (.slice Ao57 t377.length co57)) (fun _ hk => hk.2) (.slice Ao62 t380.length co62)) (fun _ h_ => h_.1))) hb); replace HO375 := As.mk (Kd.S_below (by (with_reducible repeat (first | apply Kd.S_alloc | apply Kd.S_drewN | apply Kd.S_drew)); exact (Kd.S_mono (Kd.S_far (p := ⟨gb383, 1, none⟩) (Kd.S_far (p := ⟨gb383, 0, none⟩) (Kd.S_types HO375.out BK383.out (by decide)) (fun _ hk => hk.2) (.slice Ao57 t377.length co57)) (fun _ hk => hk.2) (.slice Ao62 t380.length co62)) (fun _ h_ => h_.1))) hb); replace HO379 := As.mk (Kd.S_below (by (with_reducible repeat (first | apply Kd.S_alloc | apply Kd.S_drewN | apply Kd.S_drew)); exact (Kd.S_mono (Kd.S_far (p := ⟨gb383, 1, none⟩) (Kd.S_far (p := ⟨gb383, 0, none⟩) (Kd.S_types HO379.out BK383.out (by decide)) (fun _ hk => hk.2) (.slice Ao57 t377.length co57)) (fun _ hk => hk.2) (.slice Ao62 t380.length co62)) (fun _ h_ => h_.1))) hb); replace HO382 := As.mk (Kd.S_below (by (with_reducible repeat (first | apply Kd.S_alloc | apply Kd.S_drewN | apply Kd.S_drew)); exact (Kd.S_mono (Kd.S_far (p := ⟨gb383, 1, none⟩) (Kd.S_far (p := ⟨gb383, 0, none⟩) (Kd.S_types HO382.out BK383.out (by decide)) (fun _ hk => hk.2) (.slice Ao57 t377.length co57)) (fun _ hk => hk.2) (.slice Ao62 t380.length co62)) (fun _ h_ => h_.1))) hb); replace BK353 := As.mk (blk_below (g := gb353) (o := .cells #[.slice A0_0 l0_0.length c0_0, .slice A0_1 l0_1.length c0_1] 47 (0, 0)) (by refine pl ?_; refine blk_far ?_ NB353_383.out _; refine pl ?_; refine blk_far ?_ NB353_383.out _; exact bx BK353.out) hb); replace BK354 := As.mk (blk_below (g := gb354) (o := .cells #[.slice A1_0 l1_0.length c1_0, .slice A1_1 l1_1.length c1_1] 47 (0, 0)) (by refine pl ?_; refine blk_far ?_ NB354_383.out _; refine pl ?_; refine blk_far ?_ NB354_383.out _; exact bx BK354.out) hb); replace BK376 := As.mk (blk_below (g := gb376) (o := .cells #[.slice Ao49 t370.length co49, .slice Ao53 t373.length co53] 52 (0, 0)) (by refine pl ?_; refine blk_far ?_ NB376_383.out _; refine pl ?_; refine blk_far ?_ NB376_383.out _; exact bx BK376.out) hb); replace BK383 := As.mk (blk_below (g := gb383) (o := .cells #[.slice Ao57 t377.length co57, .slice Ao62 t380.length co62] 52 (0, 0)) (by refine pl ?_; refine blk_put (cs := #[.slice Ao57 t377.length co57, .slice none 0 0]) ?_ 1 _ rfl; refine pl ?_; refine blk_put (cs := #[.slice none 0 0, .slice none 0 0]) ?_ 0 _ rfl; exact bx BK383.out) hb); replace HB := As.mk (below_step (be w) hb); (try clear hb); (try clear hb2); (try clear hk); (try clear hi)))
 replace HO359 := As.mk (Kd.S_drew HO359.out)
 replace HO362 := As.mk (Kd.S_drew HO362.out)
 replace HO365 := As.mk (Kd.S_drew HO365.out)
 replace HO368 := As.mk (Kd.S_drew HO368.out)
 replace HO372 := As.mk (Kd.S_drew HO372.out)
 replace HO375 := As.mk (Kd.S_drew HO375.out)
 replace HO379 := As.mk (Kd.S_drew HO379.out)
 replace HO382 := As.mk (Kd.S_drew HO382.out)
 replace BK353 := As.mk (blk_drew BK353.out)
 replace BK354 := As.mk (blk_drew BK354.out)
 replace BK376 := As.mk (blk_drew BK376.out)
 replace BK383 := As.mk (blk_drew BK383.out)
 replace HB := As.mk (below_drew1 HB.out)
 refine start_ (n := 5) (S := fun w' => w'.cell? ⟨gb376, 0, none⟩ = some (.slice Ao49 t370.length co49) ∧ w'.cell? ⟨gb376, 1, none⟩ = some (.slice Ao53 t373.length co53) ∧ w'.cell? ⟨gb353, 0, none⟩ = some (.slice A0_0 l0_0.length c0_0) ∧ w'.cell? ⟨gb353, 1, none⟩ = some (.slice A0_1 l0_1.length c0_1)) (ds := []) #[O, O, O, O, O] (by kernel_rfl) rfl rfl ⟨(blk_cell BK376.out 0).trans rfl, (blk_cell BK376.out 1).trans rfl, (blk_cell BK353.out 0).trans rfl, (blk_cell BK353.out 1).trans rfl⟩ (fun hHeld => ?_)
 generalize w64.drew = w65 at HO359 HO362 HO365 HO368 HO372 HO375 HO379 HO382 BK353 BK354 BK376 BK383 HB hHeld ⊢
 refine take_ (i := 0) (N := some 35) (v := ?_) (a' := ?_) #[I, O, O, O, O] rfl rfl (by kernel_rfl) (fun _ _ _ h => h) (Or.inl ⟨by rfl, ?_⟩) hHeld ?_ ?_
 rotate_left
 ·
  rintro w' ⟨s0, s1, s2, s3⟩
  go_simp
  with_reducible rfl
 rotate_left
 ·
  simp only [pk, i64_w, i32_w]
  rfl
 refine take_ (i := 1) (N := some 36) (v := ?_) (a' := ?_) #[I, I, O, O, O] rfl rfl (by kernel_rfl) (fun _ _ _ h => h) (Or.inl ⟨by rfl, ?_⟩) hHeld ?_ ?_
 rotate_left
 ·
  rintro w' ⟨s0, s1, s2, s3⟩
  go_simp
  with_reducible rfl
 rotate_left
 ·
  simp only [pk, i64_w, i32_w]
  rfl
 refine one_ (i := 2) (N := some 37) #[I, I, I, O, O] rfl rfl (by kernel_rfl) (by decide) (fun K hK => ?_)
 refine goes_ Tryd.func31 (by kernel_rfl) rfl #[.agg #[.slice A0_0 l0_0.length c0_0, .slice A0_1 l0_1.length c0_1]] (by rfl) rfl rfl (by (try simp only [lm]); first | done | rfl | (simp only [List.length_drop, List.length_take]; rfl)) ?_
 with_reducible refine (laws_toProgram.calls k _ _ l0_0 _ _ l0_1 t385 t388 _ ?side1 ?side2 ?side3 ?side4 A25.out).mono ?_
 (case side1 => exact Kd.C_below HR0_0.out (be w))
 (case side2 => exact HC0_0.out)
 (case side3 => exact Kd.C_below HR0_1.out (be w))
 (case side4 => exact HC0_1.out)
 rintro e w66 ⟨v386, v389, rfl, ho0, ho1, hb⟩
 refine ⟨_, rfl, ?_⟩
 have HO387 := As.mk (Kd.S_lower (Kd.S_new' (Kd.S_new' (Kd.S_new' (Kd.S_new' ho0 (Kd.S_lt (by (with_reducible repeat (first | apply Kd.S_alloc | apply Kd.S_drewN | apply Kd.S_drew)); exact HO359.out))) (Kd.S_lt (by (with_reducible repeat (first | apply Kd.S_alloc | apply Kd.S_drewN | apply Kd.S_drew)); exact HO365.out))) (Kd.S_lt (by (with_reducible repeat (first | apply Kd.S_alloc | apply Kd.S_drewN | apply Kd.S_drew)); exact HO372.out))) (Kd.S_lt (by (with_reducible repeat (first | apply Kd.S_alloc | apply Kd.S_drewN | apply Kd.S_drew)); exact HO379.out))) (below_size (be w)))
 replace HO359 := As.mk (Kd.S_elder' (by (with_reducible repeat (first | apply Kd.S_alloc | apply Kd.S_drewN | apply Kd.S_drew)); exact HO359.out) (Kd.S_base ho0) hb)
 replace HO365 := As.mk (Kd.S_elder' (by (with_reducible repeat (first | apply Kd.S_alloc | apply Kd.S_drewN | apply Kd.S_drew)); exact HO365.out) (Kd.S_base ho0) hb)
 replace HO372 := As.mk (Kd.S_elder' (by (with_reducible repeat (first | apply Kd.S_alloc | apply Kd.S_drewN | apply Kd.S_drew)); exact HO372.out) (Kd.S_base ho0) hb)
 replace HO379 := As.mk (Kd.S_elder' (by (with_reducible repeat (first | apply Kd.S_alloc | apply Kd.S_drewN | apply Kd.S_drew)); exact HO379.out) (Kd.S_base ho0) hb)
 have HO390 := As.mk (Kd.S_lower (Kd.S_new' (Kd.S_new' (Kd.S_new' (Kd.S_new' ho1 (Kd.S_lt (by (with_reducible repeat (first | apply Kd.S_alloc | apply Kd.S_drewN | apply Kd.S_drew)); exact HO362.out))) (Kd.S_lt (by (with_reducible repeat (first | apply Kd.S_alloc | apply Kd.S_drewN | apply Kd.S_drew)); exact HO368.out))) (Kd.S_lt (by (with_reducible repeat (first | apply Kd.S_alloc | apply Kd.S_drewN | apply Kd.S_drew)); exact HO375.out))) (Kd.S_lt (by (with_reducible repeat (first | apply Kd.S_alloc | apply Kd.S_drewN | apply Kd.S_drew)); exact HO382.out))) (below_size (be w)))
 replace HO362 := As.mk (Kd.S_elder' (by (with_reducible repeat (first | apply Kd.S_alloc | apply Kd.S_drewN | apply Kd.S_drew)); exact HO362.out) (Kd.S_base ho1) hb)
 replace HO368 := As.mk (Kd.S_elder' (by (with_reducible repeat (first | apply Kd.S_alloc | apply Kd.S_drewN | apply Kd.S_drew)); exact HO368.out) (Kd.S_base ho1) hb)
 replace HO375 := As.mk (Kd.S_elder' (by (with_reducible repeat (first | apply Kd.S_alloc | apply Kd.S_drewN | apply Kd.S_drew)); exact HO375.out) (Kd.S_base ho1) hb)
 replace HO382 := As.mk (Kd.S_elder' (by (with_reducible repeat (first | apply Kd.S_alloc | apply Kd.S_drewN | apply Kd.S_drew)); exact HO382.out) (Kd.S_base ho1) hb)
 replace BK353 := As.mk (blk_below (bx BK353.out) hb)
 replace BK354 := As.mk (blk_below (bx BK354.out) hb)
 replace BK376 := As.mk (blk_below (bx BK376.out) hb)
 replace BK383 := As.mk (blk_below (bx BK383.out) hb)
 replace HB := As.mk (below_step (be w) hb)
 (try clear hb)
 (try clear hb2)
 (try clear hk)
 (try clear hi)
 (try clear ho0)
 (try clear ho1)
 obtain ⟨Ao67, co67, eo67⟩ := Kd.S_slice HO387.out
 (first | subst eo67 | (injection eo67 with f1_ f2_ f3_; have f4_ := f1_.symm; have f5_ := f3_.symm; clear f1_ f2_ f3_; subst f4_; subst f5_))
 obtain ⟨Ao68, co68, eo68⟩ := Kd.S_slice HO390.out
 (first | subst eo68 | (injection eo68 with f1_ f2_ f3_; have f4_ := f1_.symm; have f5_ := f3_.symm; clear f1_ f2_ f3_; subst f4_; subst f5_))
 refine hK.out _ _ ⟨(blk_cell BK376.out 0).trans rfl, (blk_cell BK376.out 1).trans rfl, (blk_cell BK353.out 0).trans rfl, (blk_cell BK353.out 1).trans rfl⟩ (fun hHeld => ?_)
 clear hK K
 refine norm_ (a' := ?_) ?_ ?_
 rotate_left
 ·
  show Act.put _ (some 37) _ = _
  simp only [pk, i64_w, i32_w]
  rfl
 refine one_ (i := 3) (N := some 38) #[I, I, I, I, O] rfl rfl (by kernel_rfl) (by decide) (fun K hK => ?_)
 refine goes_ Tryd.func33 (by kernel_rfl) rfl #[.agg #[.slice Ao49 t370.length co49, .slice Ao53 t373.length co53], .agg #[.slice Ao67 t385.length co67, .slice Ao68 t388.length co68]] (by rfl) rfl rfl (by (try simp only [lm]); first | done | rfl | (simp only [List.length_drop, List.length_take]; rfl)) ?_
 with_reducible refine (laws_eqProgram.calls k _ _ t370 _ _ t373 _ _ t385 _ _ t388 true _ ?side1 ?side2 ?side3 ?side4 ?side5 ?side6 ?side7 ?side8 A26.out).mono ?_
 (case side1 => repeat (first | exact (Kd.S_reads' HO372.out).2.2 | (with_reducible refine Kd.C_alloc ?_ _) | (with_reducible refine Kd.C_drewN ?_ _) | (with_reducible refine Kd.C_drew ?_)))
 (case side2 => exact (Kd.S_reads' HO372.out).2.1)
 (case side3 => repeat (first | exact (Kd.S_reads' HO375.out).2.2 | (with_reducible refine Kd.C_alloc ?_ _) | (with_reducible refine Kd.C_drewN ?_ _) | (with_reducible refine Kd.C_drew ?_)))
 (case side4 => exact (Kd.S_reads' HO375.out).2.1)
 (case side5 => repeat (first | exact (Kd.S_reads' HO387.out).2.2 | (with_reducible refine Kd.C_alloc ?_ _) | (with_reducible refine Kd.C_drewN ?_ _) | (with_reducible refine Kd.C_drew ?_)))
 (case side6 => exact (Kd.S_reads' HO387.out).2.1)
 (case side7 => repeat (first | exact (Kd.S_reads' HO390.out).2.2 | (with_reducible refine Kd.C_alloc ?_ _) | (with_reducible refine Kd.C_drewN ?_ _) | (with_reducible refine Kd.C_drew ?_)))
 (case side8 => exact (Kd.S_reads' HO390.out).2.1)
 rintro e w69 ⟨rfl, hb⟩
 refine ⟨_, rfl, ?_⟩
 replace HO359 := As.mk (Kd.S_below (by (with_reducible repeat (first | apply Kd.S_alloc | apply Kd.S_drewN | apply Kd.S_drew)); exact HO359.out) hb)
 replace HO362 := As.mk (Kd.S_below (by (with_reducible repeat (first | apply Kd.S_alloc | apply Kd.S_drewN | apply Kd.S_drew)); exact HO362.out) hb)
 replace HO365 := As.mk (Kd.S_below (by (with_reducible repeat (first | apply Kd.S_alloc | apply Kd.S_drewN | apply Kd.S_drew)); exact HO365.out) hb)
 replace HO368 := As.mk (Kd.S_below (by (with_reducible repeat (first | apply Kd.S_alloc | apply Kd.S_drewN | apply Kd.S_drew)); exact HO368.out) hb)
 replace HO372 := As.mk (Kd.S_below (by (with_reducible repeat (first | apply Kd.S_alloc | apply Kd.S_drewN | apply Kd.S_drew)); exact HO372.out) hb)
 replace HO375 := As.mk (Kd.S_below (by (with_reducible repeat (first | apply Kd.S_alloc | apply Kd.S_drewN | apply Kd.S_drew)); exact HO375.out) hb)
 replace HO379 := As.mk (Kd.S_below (by (with_reducible repeat (first | apply Kd.S_alloc | apply Kd.S_drewN | apply Kd.S_drew)); exact HO379.out) hb)
 replace HO382 := As.mk (Kd.S_below (by (with_reducible repeat (first | apply Kd.S_alloc | apply Kd.S_drewN | apply Kd.S_drew)); exact HO382.out) hb)
 replace HO387 := As.mk (Kd.S_below (by (with_reducible repeat (first | apply Kd.S_alloc | apply Kd.S_drewN | apply Kd.S_drew)); exact HO387.out) hb)
 replace HO390 := As.mk (Kd.S_below (by (with_reducible repeat (first | apply Kd.S_alloc | apply Kd.S_drewN | apply Kd.S_drew)); exact HO390.out) hb)
 replace BK353 := As.mk (blk_below (bx BK353.out) hb)
 replace BK354 := As.mk (blk_below (bx BK354.out) hb)
 replace BK376 := As.mk (blk_below (bx BK376.out) hb)
 replace BK383 := As.mk (blk_below (bx BK383.out) hb)
 replace HB := As.mk (below_step (be w) hb)
 (try clear hb)
 (try clear hb2)
 (try clear hk)
 (try clear hi)
 refine hK.out _ _ ⟨(blk_cell BK376.out 0).trans rfl, (blk_cell BK376.out 1).trans rfl, (blk_cell BK353.out 0).trans rfl, (blk_cell BK353.out 1).trans rfl⟩ (fun hHeld => ?_)
 clear hK K
 refine norm_ (a' := ?_) ?_ ?_
 rotate_left
 ·
  show Act.put _ (some 38) _ = _
  simp only [pk, i64_w, i32_w]
  rfl
 refine pure_ (i := 4) (N := some 39) (v := ?_) (a' := ?_) #[I, I, I, I, I] rfl rfl (by kernel_rfl) (fun _ _ _ h => h) (Or.inl ⟨by rfl, ?_⟩) ?_ ?_
 rotate_left
 ·
  intro w'
  go_simp
  with_reducible rfl
 rotate_left
 ·
  simp only [pk, i64_w, i32_w]
  rfl
 refine done_ (by kernel_rfl) ?_
 try go_wp2
 replace HO359 := As.mk (Kd.S_drew HO359.out)
 replace HO362 := As.mk (Kd.S_drew HO362.out)
 replace HO365 := As.mk (Kd.S_drew HO365.out)
 replace HO368 := As.mk (Kd.S_drew HO368.out)
 replace HO372 := As.mk (Kd.S_drew HO372.out)
 replace HO375 := As.mk (Kd.S_drew HO375.out)
 replace HO379 := As.mk (Kd.S_drew HO379.out)
 replace HO382 := As.mk (Kd.S_drew HO382.out)
 replace HO387 := As.mk (Kd.S_drew HO387.out)
 replace HO390 := As.mk (Kd.S_drew HO390.out)
 replace BK353 := As.mk (blk_drew BK353.out)
 replace BK354 := As.mk (blk_drew BK354.out)
 replace BK376 := As.mk (blk_drew BK376.out)
 replace BK383 := As.mk (blk_drew BK383.out)
 replace HB := As.mk (below_drew1 HB.out)
 refine start_ (n := 5) (S := fun w' => w'.cell? ⟨gb383, 0, none⟩ = some (.slice Ao57 t377.length co57) ∧ w'.cell? ⟨gb383, 1, none⟩ = some (.slice Ao62 t380.length co62) ∧ w'.cell? ⟨gb354, 0, none⟩ = some (.slice A1_0 l1_0.length c1_0) ∧ w'.cell? ⟨gb354, 1, none⟩ = some (.slice A1_1 l1_1.length c1_1)) (ds := []) #[O, O, O, O, O] (by kernel_rfl) rfl rfl ⟨(blk_cell BK383.out 0).trans rfl, (blk_cell BK383.out 1).trans rfl, (blk_cell BK354.out 0).trans rfl, (blk_cell BK354.out 1).trans rfl⟩ (fun hHeld => ?_)
 generalize w69.drew = w70 at HO359 HO362 HO365 HO368 HO372 HO375 HO379 HO382 HO387 HO390 BK353 BK354 BK376 BK383 HB hHeld ⊢
 refine take_ (i := 0) (N := some 40) (v := ?_) (a' := ?_) #[I, O, O, O, O] rfl rfl (by kernel_rfl) (fun _ _ _ h => h) (Or.inl ⟨by rfl, ?_⟩) hHeld ?_ ?_
 rotate_left
 ·
  rintro w' ⟨s0, s1, s2, s3⟩
  go_simp
  with_reducible rfl
 rotate_left
 ·
  simp only [pk, i64_w, i32_w]
  rfl
 refine take_ (i := 1) (N := some 41) (v := ?_) (a' := ?_) #[I, I, O, O, O] rfl rfl (by kernel_rfl) (fun _ _ _ h => h) (Or.inl ⟨by rfl, ?_⟩) hHeld ?_ ?_
 rotate_left
 ·
  rintro w' ⟨s0, s1, s2, s3⟩
  go_simp
  with_reducible rfl
 rotate_left
 ·
  simp only [pk, i64_w, i32_w]
  rfl
 refine one_ (i := 2) (N := some 42) #[I, I, I, O, O] rfl rfl (by kernel_rfl) (by decide) (fun K hK => ?_)
 refine goes_ Tryd.func31 (by kernel_rfl) rfl #[.agg #[.slice A1_0 l1_0.length c1_0, .slice A1_1 l1_1.length c1_1]] (by rfl) rfl rfl (by (try simp only [lm]); first | done | rfl | (simp only [List.length_drop, List.length_take]; rfl)) ?_
 with_reducible refine (laws_toProgram.calls k _ _ l1_0 _ _ l1_1 t392 t395 _ ?side1 ?side2 ?side3 ?side4 A28.out).mono ?_
 (case side1 => exact Kd.C_below HR1_0.out (be w))
 (case side2 => exact HC1_0.out)
 (case side3 => exact Kd.C_below HR1_1.out (be w))
 (case side4 => exact HC1_1.out)
 rintro e w71 ⟨v393, v396, rfl, ho0, ho1, hb⟩
 refine ⟨_, rfl, ?_⟩
 have HO394 := As.mk (Kd.S_lower (Kd.S_new' (Kd.S_new' (Kd.S_new' (Kd.S_new' (Kd.S_new' ho0 (Kd.S_lt (by (with_reducible repeat (first | apply Kd.S_alloc | apply Kd.S_drewN | apply Kd.S_drew)); exact HO359.out))) (Kd.S_lt (by (with_reducible repeat (first | apply Kd.S_alloc | apply Kd.S_drewN | apply Kd.S_drew)); exact HO365.out))) (Kd.S_lt (by (with_reducible repeat (first | apply Kd.S_alloc | apply Kd.S_drewN | apply Kd.S_drew)); exact HO372.out))) (Kd.S_lt (by (with_reducible repeat (first | apply Kd.S_alloc | apply Kd.S_drewN | apply Kd.S_drew)); exact HO379.out))) (Kd.S_lt (by (with_reducible repeat (first | apply Kd.S_alloc | apply Kd.S_drewN | apply Kd.S_drew)); exact HO387.out))) (below_size (be w)))
 replace HO359 := As.mk (Kd.S_elder' (by (with_reducible repeat (first | apply Kd.S_alloc | apply Kd.S_drewN | apply Kd.S_drew)); exact HO359.out) (Kd.S_base ho0) hb)
 replace HO365 := As.mk (Kd.S_elder' (by (with_reducible repeat (first | apply Kd.S_alloc | apply Kd.S_drewN | apply Kd.S_drew)); exact HO365.out) (Kd.S_base ho0) hb)
 replace HO372 := As.mk (Kd.S_elder' (by (with_reducible repeat (first | apply Kd.S_alloc | apply Kd.S_drewN | apply Kd.S_drew)); exact HO372.out) (Kd.S_base ho0) hb)
 replace HO379 := As.mk (Kd.S_elder' (by (with_reducible repeat (first | apply Kd.S_alloc | apply Kd.S_drewN | apply Kd.S_drew)); exact HO379.out) (Kd.S_base ho0) hb)
 replace HO387 := As.mk (Kd.S_elder' (by (with_reducible repeat (first | apply Kd.S_alloc | apply Kd.S_drewN | apply Kd.S_drew)); exact HO387.out) (Kd.S_base ho0) hb)
 have HO397 := As.mk (Kd.S_lower (Kd.S_new' (Kd.S_new' (Kd.S_new' (Kd.S_new' (Kd.S_new' ho1 (Kd.S_lt (by (with_reducible repeat (first | apply Kd.S_alloc | apply Kd.S_drewN | apply Kd.S_drew)); exact HO362.out))) (Kd.S_lt (by (with_reducible repeat (first | apply Kd.S_alloc | apply Kd.S_drewN | apply Kd.S_drew)); exact HO368.out))) (Kd.S_lt (by (with_reducible repeat (first | apply Kd.S_alloc | apply Kd.S_drewN | apply Kd.S_drew)); exact HO375.out))) (Kd.S_lt (by (with_reducible repeat (first | apply Kd.S_alloc | apply Kd.S_drewN | apply Kd.S_drew)); exact HO382.out))) (Kd.S_lt (by (with_reducible repeat (first | apply Kd.S_alloc | apply Kd.S_drewN | apply Kd.S_drew)); exact HO390.out))) (below_size (be w)))
 replace HO362 := As.mk (Kd.S_elder' (by (with_reducible repeat (first | apply Kd.S_alloc | apply Kd.S_drewN | apply Kd.S_drew)); exact HO362.out) (Kd.S_base ho1) hb)
 replace HO368 := As.mk (Kd.S_elder' (by (with_reducible repeat (first | apply Kd.S_alloc | apply Kd.S_drewN | apply Kd.S_drew)); exact HO368.out) (Kd.S_base ho1) hb)
 replace HO375 := As.mk (Kd.S_elder' (by (with_reducible repeat (first | apply Kd.S_alloc | apply Kd.S_drewN | apply Kd.S_drew)); exact HO375.out) (Kd.S_base ho1) hb)
 replace HO382 := As.mk (Kd.S_elder' (by (with_reducible repeat (first | apply Kd.S_alloc | apply Kd.S_drewN | apply Kd.S_drew)); exact HO382.out) (Kd.S_base ho1) hb)
 replace HO390 := As.mk (Kd.S_elder' (by (with_reducible repeat (first | apply Kd.S_alloc | apply Kd.S_drewN | apply Kd.S_drew)); exact HO390.out) (Kd.S_base ho1) hb)
 replace BK353 := As.mk (blk_below (bx BK353.out) hb)
 replace BK354 := As.mk (blk_below (bx BK354.out) hb)
 replace BK376 := As.mk (blk_below (bx BK376.out) hb)
 replace BK383 := As.mk (blk_below (bx BK383.out) hb)
 replace HB := As.mk (below_step (be w) hb)
 (try clear hb)
 (try clear hb2)
 (try clear hk)
 (try clear hi)
 (try clear ho0)
 (try clear ho1)
 obtain ⟨Ao72, co72, eo72⟩ := Kd.S_slice HO394.out
 (first | subst eo72 | (injection eo72 with f1_ f2_ f3_; have f4_ := f1_.symm; have f5_ := f3_.symm; clear f1_ f2_ f3_; subst f4_; subst f5_))
 obtain ⟨Ao73, co73, eo73⟩ := Kd.S_slice HO397.out
 (first | subst eo73 | (injection eo73 with f1_ f2_ f3_; have f4_ := f1_.symm; have f5_ := f3_.symm; clear f1_ f2_ f3_; subst f4_; subst f5_))
 refine hK.out _ _ ⟨(blk_cell BK383.out 0).trans rfl, (blk_cell BK383.out 1).trans rfl, (blk_cell BK354.out 0).trans rfl, (blk_cell BK354.out 1).trans rfl⟩ (fun hHeld => ?_)
 clear hK K
 refine norm_ (a' := ?_) ?_ ?_
 rotate_left
 ·
  show Act.put _ (some 42) _ = _
  simp only [pk, i64_w, i32_w]
  rfl
 refine one_ (i := 3) (N := some 43) #[I, I, I, I, O] rfl rfl (by kernel_rfl) (by decide) (fun K hK => ?_)
 refine goes_ Tryd.func33 (by kernel_rfl) rfl #[.agg #[.slice Ao57 t377.length co57, .slice Ao62 t380.length co62], .agg #[.slice Ao72 t392.length co72, .slice Ao73 t395.length co73]] (by rfl) rfl rfl (by (try simp only [lm]); first | done | rfl | (simp only [List.length_drop, List.length_take]; rfl)) ?_
 with_reducible refine (laws_eqProgram.calls k _ _ t377 _ _ t380 _ _ t392 _ _ t395 true _ ?side1 ?side2 ?side3 ?side4 ?side5 ?side6 ?side7 ?side8 A29.out).mono ?_
 (case side1 => repeat (first | exact (Kd.S_reads' HO379.out).2.2 | (with_reducible refine Kd.C_alloc ?_ _) | (with_reducible refine Kd.C_drewN ?_ _) | (with_reducible refine Kd.C_drew ?_)))
 (case side2 => exact (Kd.S_reads' HO379.out).2.1)
 (case side3 => repeat (first | exact (Kd.S_reads' HO382.out).2.2 | (with_reducible refine Kd.C_alloc ?_ _) | (with_reducible refine Kd.C_drewN ?_ _) | (with_reducible refine Kd.C_drew ?_)))
 (case side4 => exact (Kd.S_reads' HO382.out).2.1)
 (case side5 => repeat (first | exact (Kd.S_reads' HO394.out).2.2 | (with_reducible refine Kd.C_alloc ?_ _) | (with_reducible refine Kd.C_drewN ?_ _) | (with_reducible refine Kd.C_drew ?_)))
 (case side6 => exact (Kd.S_reads' HO394.out).2.1)
 (case side7 => repeat (first | exact (Kd.S_reads' HO397.out).2.2 | (with_reducible refine Kd.C_alloc ?_ _) | (with_reducible refine Kd.C_drewN ?_ _) | (with_reducible refine Kd.C_drew ?_)))
 (case side8 => exact (Kd.S_reads' HO397.out).2.1)
 rintro e w74 ⟨rfl, hb⟩
 refine ⟨_, rfl, ?_⟩
 replace HO359 := As.mk (Kd.S_below (by (with_reducible repeat (first | apply Kd.S_alloc | apply Kd.S_drewN | apply Kd.S_drew)); exact HO359.out) hb)
 replace HO362 := As.mk (Kd.S_below (by (with_reducible repeat (first | apply Kd.S_alloc | apply Kd.S_drewN | apply Kd.S_drew)); exact HO362.out) hb)
 replace HO365 := As.mk (Kd.S_below (by (with_reducible repeat (first | apply Kd.S_alloc | apply Kd.S_drewN | apply Kd.S_drew)); exact HO365.out) hb)
 replace HO368 := As.mk (Kd.S_below (by (with_reducible repeat (first | apply Kd.S_alloc | apply Kd.S_drewN | apply Kd.S_drew)); exact HO368.out) hb)
 replace HO372 := As.mk (Kd.S_below (by (with_reducible repeat (first | apply Kd.S_alloc | apply Kd.S_drewN | apply Kd.S_drew)); exact HO372.out) hb)
 replace HO375 := As.mk (Kd.S_below (by (with_reducible repeat (first | apply Kd.S_alloc | apply Kd.S_drewN | apply Kd.S_drew)); exact HO375.out) hb)
 replace HO379 := As.mk (Kd.S_below (by (with_reducible repeat (first | apply Kd.S_alloc | apply Kd.S_drewN | apply Kd.S_drew)); exact HO379.out) hb)
 replace HO382 := As.mk (Kd.S_below (by (with_reducible repeat (first | apply Kd.S_alloc | apply Kd.S_drewN | apply Kd.S_drew)); exact HO382.out) hb)
 replace HO387 := As.mk (Kd.S_below (by (with_reducible repeat (first | apply Kd.S_alloc | apply Kd.S_drewN | apply Kd.S_drew)); exact HO387.out) hb)
 replace HO390 := As.mk (Kd.S_below (by (with_reducible repeat (first | apply Kd.S_alloc | apply Kd.S_drewN | apply Kd.S_drew)); exact HO390.out) hb)
 replace HO394 := As.mk (Kd.S_below (by (with_reducible repeat (first | apply Kd.S_alloc | apply Kd.S_drewN | apply Kd.S_drew)); exact HO394.out) hb)
 replace HO397 := As.mk (Kd.S_below (by (with_reducible repeat (first | apply Kd.S_alloc | apply Kd.S_drewN | apply Kd.S_drew)); exact HO397.out) hb)
 replace BK353 := As.mk (blk_below (bx BK353.out) hb)
 replace BK354 := As.mk (blk_below (bx BK354.out) hb)
 replace BK376 := As.mk (blk_below (bx BK376.out) hb)
 replace BK383 := As.mk (blk_below (bx BK383.out) hb)
 replace HB := As.mk (below_step (be w) hb)
 (try clear hb)
 (try clear hb2)
 (try clear hk)
 (try clear hi)
 refine hK.out _ _ ⟨(blk_cell BK383.out 0).trans rfl, (blk_cell BK383.out 1).trans rfl, (blk_cell BK354.out 0).trans rfl, (blk_cell BK354.out 1).trans rfl⟩ (fun hHeld => ?_)
 clear hK K
 refine norm_ (a' := ?_) ?_ ?_
 rotate_left
 ·
  show Act.put _ (some 43) _ = _
  simp only [pk, i64_w, i32_w]
  rfl
 refine pure_ (i := 4) (N := some 44) (v := ?_) (a' := ?_) #[I, I, I, I, I] rfl rfl (by kernel_rfl) (fun _ _ _ h => h) (Or.inl ⟨by rfl, ?_⟩) ?_ ?_
 rotate_left
 ·
  intro w'
  go_simp
  with_reducible rfl
 rotate_left
 ·
  simp only [pk, i64_w, i32_w]
  rfl
 refine done_ (by kernel_rfl) ?_
 try go_wp2
 go_ret
 exact ⟨by first | rfl | (simp [errW_none, errW_some] <;> rfl) | (simp [*, errW_none, errW_some] <;> rfl), be w⟩
end Go.Proofs.YtmdpggibcjkfoaaDoor.PFnExactSameProgram
