/- Written by a program of this session (a turned copy of the kit's print): a contract for each Go function. No condition beside those in each statement. -/
import Derived.Test.YtmdpggibcjkfoaaDoorPFnExactSameTreex0
import Derived.Test.YtmdpggibcjkfoaaDoorPFnExactSameTreex1
import Derived.Test.YtmdpggibcjkfoaaDoorPFnExactSameTreex5
import Derived.Test.YtmdpggibcjkfoaaDoorPFnExactSameTreex6
import Derived.Test.YtmdpggibcjkfoaaDoorPFnExactSameTreex11
import Derived.Test.YtmdpggibcjkfoaaDoorPFnExactSameTreex13
namespace Go.Proofs.YtmdpggibcjkfoaaDoor.PFnExactSameTree
open Go.RowKit Go.Proofs.YtmdpggibcjkfoaaDoor.Given Go.Proofs.YtmdpggibcjkfoaaDoorW.PrintWords Go.Proofs.YtmdpggibcjkfoaaDoorW.PrintLast Go.Proofs.YtmdpggibcjkfoaaDoorW.PrintMore
attribute [local go_sem] max2_int min2_int max_two min_two max_three min_three max_four min_four   -- for this text's walks alone
set_option linter.unusedVariables false
set_option linter.unusedSimpArgs false

/-! ### laws_FnExactSameTree: function 7 -/
def laws_FnExactSameTree.f (k : Nat) (l0_0 : List (S62)) (l0_1 : List (S114)) (a1 : Int) (l2_0 : List (S62)) (l2_1 : List (S114)) (a3 : Int) : Option (Bool) := (laws_szProgram.f k l0_0 l0_1 1048576).bind fun t329 => (if t329 < 0 then (some true) else ((laws_szProgram.f k l2_0 l2_1 t329).bind fun t330 => (if t330 < 0 then (some true) else ((laws_toProgram.f k l0_0 l0_1).bind fun bt331 => ((laws_toProgram.f k l2_0 l2_1).bind fun bt337 => ((spec_SameTree.f k bt331.1 bt331.2 a1 bt337.1 bt337.2 a3).bind fun t343 => ((laws_toProgram.f k l0_0 l0_1).bind fun bt344 => ((laws_toProgram.f k l2_0 l2_1).bind fun bt351 => ((impl_SameTree.f k bt344.1 bt344.2 a1 bt351.1 bt351.2 a3).bind fun t358 => (if (t358 != t343) = true then (some false) else ((laws_toProgram.f k l0_0 l0_1).bind fun bt359 => ((laws_eqProgram.f k bt344.1 bt344.2 bt359.1 bt359.2).bind fun t365 => (if t365 = true then ((laws_toProgram.f k l2_0 l2_1).bind fun bt366 => ((laws_eqProgram.f k bt351.1 bt351.2 bt366.1 bt366.2).bind fun t372 => (if t372 = true then (some true) else (some false)))) else (some false))))))))))))))
theorem laws_FnExactSameTree.mono : ∀ a0 a1 a2 a3 a4 a5 k, LeO (laws_FnExactSameTree.f k a0 a1 a2 a3 a4 a5) (laws_FnExactSameTree.f (k + 1) a0 a1 a2 a3 a4 a5) := by
 intro a0 a1 a2 a3 a4 a5 k
 unfold laws_FnExactSameTree.f
 with_reducible repeat' first | exact impl_SameTree.mono _ _ _ _ _ _ _ | exact laws_eqProgram.mono _ _ _ _ _ | exact laws_szProgram.mono _ _ _ _ | exact laws_toProgram.mono _ _ _ | exact spec_SameTree.mono _ _ _ _ _ _ _ | exact LeO.refl _ | exact LeO.none _ | refine LeO.ite ?_ ?_ | refine LeO.bind ?_ (fun _ => ?_)
def laws_FnExactSameTree.T8 : Bool × List (List Nat × List Nat) := (true, [([], []), ([0], [0]), ([], []), ([], []), ([3, 1], [3]), ([], []), ([1, 2, 4, 5, 4], [1, 2, 4, 5]), ([6, 6, 0, 1, 2, 3, 4, 5, 6], [6])])
def laws_FnExactSameTree.B8 : List Nat := [0, 1, 0, 0, 11, 0, 63, 127]
theorem laws_FnExactSameTree.tab8 : rtab .any (opsOf Tryd.f7 8) = laws_FnExactSameTree.T8 := by kernel_rfl
theorem laws_FnExactSameTree.bits8 : waitsOk laws_FnExactSameTree.T8.2 laws_FnExactSameTree.B8 = true := by kernel_rfl
set_option maxHeartbeats 8000000 in
set_option maxRecDepth 100000 in
theorem laws_FnExactSameTree.calls (k : Nat) (A0_0 : Option Addr) (c0_0 : Nat) (l0_0 : List (S62)) (A0_1 : Option Addr) (c0_1 : Nat) (l0_1 : List (S114)) (a1 : Int) (A2_0 : Option Addr) (c2_0 : Nat) (l2_0 : List (S62)) (A2_1 : Option Addr) (c2_1 : Nat) (l2_1 : List (S114)) (a3 : Int) (r : Bool) (w : World) (hr0_0 : Kd.C k62 w A0_0 l0_0.length l0_0) (hc0_0 : l0_0.length ≤ c0_0) (hr0_1 : Kd.C k114 w A0_1 l0_1.length l0_1) (hc0_1 : l0_1.length ≤ c0_1) (hr2_0 : Kd.C k62 w A2_0 l2_0.length l2_0) (hc2_0 : l2_0.length ≤ c2_0) (hr2_1 : Kd.C k114 w A2_1 l2_1.length l2_1) (hc2_1 : l2_1.length ≤ c2_1) (hrt : As (r = true)) (h : laws_FnExactSameTree.f k l0_0 l0_1 a1 l2_0 l2_1 a3 = some r) :
  Calls Tryd.prog 7 #[.agg #[.slice A0_0 l0_0.length c0_0, .slice A0_1 l0_1.length c0_1], .int .i64 a1, .agg #[.slice A2_0 l2_0.length c2_0, .slice A2_1 l2_1.length c2_1], .int .i64 a3] w fun e w' => e = .returned (.bool r) ∧ Below w.heap.size w w' := by
 have hu47 := Tryd.underlying47
 have hu52 := Tryd.underlying52
 have HR0_0 := As.mk hr0_0
 have HC0_0 := As.mk hc0_0
 clear hr0_0 hc0_0
 have HR0_1 := As.mk hr0_1
 have HC0_1 := As.mk hc0_1
 clear hr0_1 hc0_1
 have HR2_0 := As.mk hr2_0
 have HC2_0 := As.mk hc2_0
 clear hr2_0 hc2_0
 have HR2_1 := As.mk hr2_1
 have HC2_1 := As.mk hc2_1
 clear hr2_1 hc2_1
 have HB := As.mk (Below.refl w.heap.size w)
 have H : ((laws_szProgram.f k l0_0 l0_1 1048576).bind fun t329 => (if t329 < 0 then (some true) else ((laws_szProgram.f k l2_0 l2_1 t329).bind fun t330 => (if t330 < 0 then (some true) else ((laws_toProgram.f k l0_0 l0_1).bind fun bt331 => ((laws_toProgram.f k l2_0 l2_1).bind fun bt337 => ((spec_SameTree.f k bt331.1 bt331.2 a1 bt337.1 bt337.2 a3).bind fun t343 => ((laws_toProgram.f k l0_0 l0_1).bind fun bt344 => ((laws_toProgram.f k l2_0 l2_1).bind fun bt351 => ((impl_SameTree.f k bt344.1 bt344.2 a1 bt351.1 bt351.2 a3).bind fun t358 => (if (t358 != t343) = true then (some false) else ((laws_toProgram.f k l0_0 l0_1).bind fun bt359 => ((laws_eqProgram.f k bt344.1 bt344.2 bt359.1 bt359.2).bind fun t365 => (if t365 = true then ((laws_toProgram.f k l2_0 l2_1).bind fun bt366 => ((laws_eqProgram.f k bt351.1 bt351.2 bt366.1 bt366.2).bind fun t372 => (if t372 = true then (some true) else (some false)))) else (some false))))))))))))))) = some r := h
 clear h
 obtain ⟨t329, A50, H⟩ := Option.bind_eq_some_iff.mp H
 try dsimp only at H
 have A5 := As.mk A50
 clear A50
 by_cases c6 : t329 < 0
 ·
  rw [if_pos c6] at H
  have c6b0 : decide (t329 < 0) = true := decide_eq_true c6
  clear c6
  obtain rfl := Option.some.inj H
  go_enter Tryd.func7, Tryd.ntmps7
  go_wp2_with (first | ((with_reducible refine gate_dst (N := 4) rfl ?_); refine box_event ?hg (N := 4) ?hd (cs := #[.slice A0_0 l0_0.length c0_0, .slice A0_1 l0_1.length c0_1]) (t := 47) ?hr ?_; (case hd => rfl); (case hg => rfl); (case hr => first | (go_simp; done) | (go_simp; rfl)); intro gb327 hg w7 hbox hb; have BK327 := As.mk (hbox); have GW327 := As.mk (gs w hg); have GE327 := As.mk (gs w hg); replace HB := As.mk (below_step (be w) hb); clear hb hbox hg) | ((with_reducible refine gate_dst (N := 6) rfl ?_); refine box_event ?hg (N := 6) ?hd (cs := #[.slice A2_0 l2_0.length c2_0, .slice A2_1 l2_1.length c2_1]) (t := 47) ?hr ?_; (case hd => rfl); (case hg => rfl); (case hr => first | (go_simp; done) | (go_simp; rfl)); intro gb328 hg w8 hbox hb; have BK328 := As.mk (hbox); have GW328 := As.mk (gs w hg); have GE328 := As.mk (gs w hg); replace HB := As.mk (below_step (be w) hb); have NB327_328 := As.mk (nl hg (bx BK327.out)); have NB328_327 := As.mk (ng hg (bx BK327.out)); replace BK327 := As.mk (blk_below (bx BK327.out) hb); clear hb hbox hg; obtain ⟨hcz9_0, hcz9_1, hfz9_0, hfz9_1⟩ := cl2 BK327.out) | ((with_reducible refine gate_callee (f := 29) rfl ?_); refine goesL_ (some 16) rfl rfl Tryd.func29 (by kernel_rfl) rfl #[.agg #[.slice A0_0 l0_0.length c0_0, .slice A0_1 l0_1.length c0_1], .int .i64 1048576] rfl (by (try simp only [lm]); first | done | rfl | (simp only [List.length_drop, List.length_take]; rfl)) ?_; (with_reducible refine (laws_szProgram.calls k _ _ l0_0 _ _ l0_1 1048576 t329 _ ?side1 ?side2 ?side3 ?side4 A5.out).mono ?_); (case side1 => exact Kd.C_below HR0_0.out (be w)); (case side2 => exact HC0_0.out); (case side3 => exact Kd.C_below HR0_1.out (be w)); (case side4 => exact HC0_1.out); rintro e w10 ⟨rfl, hb⟩; refine ⟨_, rfl, ?_⟩; replace HB := As.mk (below_step (be w) hb); (try clear hb); (try clear hb2); (try clear hk); (try clear hi)))
  go_ret
  exact ⟨by first | rfl | (simp [errW_none, errW_some] <;> rfl) | (simp [*, errW_none, errW_some] <;> rfl), be w⟩
 rw [if_neg c6] at H
 have c6b0 : decide (t329 < 0) = false := decide_eq_false c6
 clear c6
 obtain ⟨t330, A110, H⟩ := Option.bind_eq_some_iff.mp H
 try dsimp only at H
 have A11 := As.mk A110
 clear A110
 by_cases c12 : t330 < 0
 ·
  rw [if_pos c12] at H
  have c12b0 : decide (t330 < 0) = true := decide_eq_true c12
  clear c12
  obtain rfl := Option.some.inj H
  go_enter Tryd.func7, Tryd.ntmps7
  go_wp2_with (first | ((with_reducible refine gate_dst (N := 4) rfl ?_); refine box_event ?hg (N := 4) ?hd (cs := #[.slice A0_0 l0_0.length c0_0, .slice A0_1 l0_1.length c0_1]) (t := 47) ?hr ?_; (case hd => rfl); (case hg => rfl); (case hr => first | (go_simp; done) | (go_simp; rfl)); intro gb327 hg w13 hbox hb; have BK327 := As.mk (hbox); have GW327 := As.mk (gs w hg); have GE327 := As.mk (gs w hg); replace HB := As.mk (below_step (be w) hb); clear hb hbox hg) | ((with_reducible refine gate_dst (N := 6) rfl ?_); refine box_event ?hg (N := 6) ?hd (cs := #[.slice A2_0 l2_0.length c2_0, .slice A2_1 l2_1.length c2_1]) (t := 47) ?hr ?_; (case hd => rfl); (case hg => rfl); (case hr => first | (go_simp; done) | (go_simp; rfl)); intro gb328 hg w14 hbox hb; have BK328 := As.mk (hbox); have GW328 := As.mk (gs w hg); have GE328 := As.mk (gs w hg); replace HB := As.mk (below_step (be w) hb); have NB327_328 := As.mk (nl hg (bx BK327.out)); have NB328_327 := As.mk (ng hg (bx BK327.out)); replace BK327 := As.mk (blk_below (bx BK327.out) hb); clear hb hbox hg; have hnb15 := NB327_328.out; have hnc15 := NB328_327.out; obtain ⟨hcz16_0, hcz16_1, hfz16_0, hfz16_1⟩ := cl2 BK327.out) | ((with_reducible refine gate_callee (f := 29) rfl ?_); refine goesL_ (some 16) rfl rfl Tryd.func29 (by kernel_rfl) rfl #[.agg #[.slice A0_0 l0_0.length c0_0, .slice A0_1 l0_1.length c0_1], .int .i64 1048576] rfl (by (try simp only [lm]); first | done | rfl | (simp only [List.length_drop, List.length_take]; rfl)) ?_; (with_reducible refine (laws_szProgram.calls k _ _ l0_0 _ _ l0_1 1048576 t329 _ ?side1 ?side2 ?side3 ?side4 A5.out).mono ?_); (case side1 => exact Kd.C_below HR0_0.out (be w)); (case side2 => exact HC0_0.out); (case side3 => exact Kd.C_below HR0_1.out (be w)); (case side4 => exact HC0_1.out); rintro e w17 ⟨rfl, hb⟩; refine ⟨_, rfl, ?_⟩; replace BK328 := As.mk (blk_below (bx BK328.out) hb); replace HB := As.mk (below_step (be w) hb); (try clear hb); (try clear hb2); (try clear hk); (try clear hi); obtain ⟨hcz18_0, hcz18_1, hfz18_0, hfz18_1⟩ := cl2 BK328.out) | ((with_reducible refine gate_callee (f := 29) rfl ?_); refine goesL_ (some 21) rfl rfl Tryd.func29 (by kernel_rfl) rfl #[.agg #[.slice A2_0 l2_0.length c2_0, .slice A2_1 l2_1.length c2_1], .int .i64 t329] rfl (by (try simp only [lm]); first | done | rfl | (simp only [List.length_drop, List.length_take]; rfl)) ?_; (with_reducible refine (laws_szProgram.calls k _ _ l2_0 _ _ l2_1 t329 t330 _ ?side1 ?side2 ?side3 ?side4 A11.out).mono ?_); (case side1 => exact Kd.C_below HR2_0.out (be w)); (case side2 => exact HC2_0.out); (case side3 => exact Kd.C_below HR2_1.out (be w)); (case side4 => exact HC2_1.out); rintro e w19 ⟨rfl, hb⟩; refine ⟨_, rfl, ?_⟩; replace HB := As.mk (below_step (be w) hb); (try clear hb); (try clear hb2); (try clear hk); (try clear hi)))
  go_ret
  exact ⟨by first | rfl | (simp [errW_none, errW_some] <;> rfl) | (simp [*, errW_none, errW_some] <;> rfl), be w⟩
 rw [if_neg c12] at H
 have c12b0 : decide (t330 < 0) = false := decide_eq_false c12
 clear c12
 obtain ⟨⟨t331, t334⟩, A200, H⟩ := Option.bind_eq_some_iff.mp H
 try dsimp only at H
 have A20 := As.mk A200
 clear A200
 obtain ⟨⟨t337, t340⟩, A210, H⟩ := Option.bind_eq_some_iff.mp H
 try dsimp only at H
 have A21 := As.mk A210
 clear A210
 obtain ⟨t343, A220, H⟩ := Option.bind_eq_some_iff.mp H
 try dsimp only at H
 have A22 := As.mk A220
 clear A220
 obtain ⟨⟨t344, t347⟩, A230, H⟩ := Option.bind_eq_some_iff.mp H
 try dsimp only at H
 have A23 := As.mk A230
 clear A230
 obtain ⟨⟨t351, t354⟩, A240, H⟩ := Option.bind_eq_some_iff.mp H
 try dsimp only at H
 have A24 := As.mk A240
 clear A240
 obtain ⟨t358, A250, H⟩ := Option.bind_eq_some_iff.mp H
 try dsimp only at H
 have A25 := As.mk A250
 clear A250
 by_cases c26 : (t358 != t343) = true
 ·
  rw [if_pos c26] at H
  have c26b0 : (t358 != t343) = true := c26
  (try (have c26b1 : decide (t358 = t343) = false := by simpa using c26))
  (try (have c26b2 : (t358 == t343) = false := by simpa using c26))
  (try (have c26b3 : ¬ (t358 = t343) := by simpa using c26))
  clear c26
  exact absurd H (by rw [hrt.out]; simp)
 rw [if_neg c26] at H
 have c26b0 : (t358 != t343) = false := by simpa using c26
 (try (have c26b1 : decide (t358 = t343) = true := by simpa using c26))
 (try (have c26b2 : (t358 == t343) = true := by simpa using c26))
 clear c26
 obtain ⟨⟨t359, t362⟩, A270, H⟩ := Option.bind_eq_some_iff.mp H
 try dsimp only at H
 have A27 := As.mk A270
 clear A270
 obtain ⟨t365, A280, H⟩ := Option.bind_eq_some_iff.mp H
 try dsimp only at H
 have A28 := As.mk A280
 clear A280
 by_cases c29 : t365 = true
 rotate_left
 ·
  replace c29 := Bool.eq_false_iff.mpr c29
  subst c29
  rw [if_neg (show ¬ (false = true) by decide)] at H
  exact absurd H (by rw [hrt.out]; simp)

 subst c29
 rw [if_pos rfl] at H
 obtain ⟨⟨t366, t369⟩, A300, H⟩ := Option.bind_eq_some_iff.mp H
 try dsimp only at H
 have A30 := As.mk A300
 clear A300
 obtain ⟨t372, A310, H⟩ := Option.bind_eq_some_iff.mp H
 try dsimp only at H
 have A31 := As.mk A310
 clear A310
 by_cases c32 : t372 = true
 rotate_left
 ·
  replace c32 := Bool.eq_false_iff.mpr c32
  subst c32
  rw [if_neg (show ¬ (false = true) by decide)] at H
  exact absurd H (by rw [hrt.out]; simp)
 subst c32
 rw [if_pos rfl] at H
 obtain rfl := Option.some.inj H
 go_enter Tryd.func7, Tryd.ntmps7
 try go_wp2_with (first | ((with_reducible refine gate_dst (N := 4) rfl ?_); refine box_event ?hg (N := 4) ?hd (cs := #[.slice A0_0 l0_0.length c0_0, .slice A0_1 l0_1.length c0_1]) (t := 47) ?hr ?_; (case hd => rfl); (case hg => rfl); (case hr => first | (go_simp; done) | (go_simp; rfl)); intro gb327 hg w33 hbox hb; have BK327 := As.mk (hbox); have GW327 := As.mk (gs w hg); have GE327 := As.mk (gs w hg); replace HB := As.mk (below_step (be w) hb); clear hb hbox hg) | ((with_reducible refine gate_dst (N := 6) rfl ?_); refine box_event ?hg (N := 6) ?hd (cs := #[.slice A2_0 l2_0.length c2_0, .slice A2_1 l2_1.length c2_1]) (t := 47) ?hr ?_; (case hd => rfl); (case hg => rfl); (case hr => first | (go_simp; done) | (go_simp; rfl)); intro gb328 hg w34 hbox hb; have BK328 := As.mk (hbox); have GW328 := As.mk (gs w hg); have GE328 := As.mk (gs w hg); replace HB := As.mk (below_step (be w) hb); have NB327_328 := As.mk (nl hg (bx BK327.out)); have NB328_327 := As.mk (ng hg (bx BK327.out)); replace BK327 := As.mk (blk_below (bx BK327.out) hb); clear hb hbox hg; have hnb35 := NB327_328.out; have hnc35 := NB328_327.out; obtain ⟨hcz36_0, hcz36_1, hfz36_0, hfz36_1⟩ := cl2 BK327.out) | ((with_reducible refine gate_callee (f := 29) rfl ?_); refine goesL_ (some 16) rfl rfl Tryd.func29 (by kernel_rfl) rfl #[.agg #[.slice A0_0 l0_0.length c0_0, .slice A0_1 l0_1.length c0_1], .int .i64 1048576] rfl (by (try simp only [lm]); first | done | rfl | (simp only [List.length_drop, List.length_take]; rfl)) ?_; (with_reducible refine (laws_szProgram.calls k _ _ l0_0 _ _ l0_1 1048576 t329 _ ?side1 ?side2 ?side3 ?side4 A5.out).mono ?_); (case side1 => exact Kd.C_below HR0_0.out (be w)); (case side2 => exact HC0_0.out); (case side3 => exact Kd.C_below HR0_1.out (be w)); (case side4 => exact HC0_1.out); rintro e w37 ⟨rfl, hb⟩; refine ⟨_, rfl, ?_⟩; replace BK327 := As.mk (blk_below (bx BK327.out) hb); replace BK328 := As.mk (blk_below (bx BK328.out) hb); replace HB := As.mk (below_step (be w) hb); (try clear hb); (try clear hb2); (try clear hk); (try clear hi); obtain ⟨hcz38_0, hcz38_1, hfz38_0, hfz38_1⟩ := cl2 BK328.out) | ((with_reducible refine gate_callee (f := 29) rfl ?_); refine goesL_ (some 21) rfl rfl Tryd.func29 (by kernel_rfl) rfl #[.agg #[.slice A2_0 l2_0.length c2_0, .slice A2_1 l2_1.length c2_1], .int .i64 t329] rfl (by (try simp only [lm]); first | done | rfl | (simp only [List.length_drop, List.length_take]; rfl)) ?_; (with_reducible refine (laws_szProgram.calls k _ _ l2_0 _ _ l2_1 t329 t330 _ ?side1 ?side2 ?side3 ?side4 A11.out).mono ?_); (case side1 => exact Kd.C_below HR2_0.out (be w)); (case side2 => exact HC2_0.out); (case side3 => exact Kd.C_below HR2_1.out (be w)); (case side4 => exact HC2_1.out); rintro e w39 ⟨rfl, hb⟩; refine ⟨_, rfl, ?_⟩; replace BK327 := As.mk (blk_below (bx BK327.out) hb); replace BK328 := As.mk (blk_below (bx BK328.out) hb); replace HB := As.mk (below_step (be w) hb); (try clear hb); (try clear hb2); (try clear hk); (try clear hi)))
 replace BK327 := As.mk (blk_drew BK327.out)
 replace BK328 := As.mk (blk_drew BK328.out)
 replace HB := As.mk (below_drew1 HB.out)
 refine start_ (n := 8) (S := fun w' => w'.cell? ⟨gb327, 0, none⟩ = some (.slice A0_0 l0_0.length c0_0) ∧ w'.cell? ⟨gb327, 1, none⟩ = some (.slice A0_1 l0_1.length c0_1) ∧ w'.cell? ⟨gb328, 0, none⟩ = some (.slice A2_0 l2_0.length c2_0) ∧ w'.cell? ⟨gb328, 1, none⟩ = some (.slice A2_1 l2_1.length c2_1)) (ds := []) #[O, O, O, O, O, O, O, O] (by kernel_rfl) rfl rfl ⟨(blk_cell BK327.out 0).trans rfl, (blk_cell BK327.out 1).trans rfl, (blk_cell BK328.out 0).trans rfl, (blk_cell BK328.out 1).trans rfl⟩ (fun hHeld => ?_); refine with_tabW laws_FnExactSameTree.tab8 laws_FnExactSameTree.bits8 (fun HT_ HW_ => ?_)
 generalize w39.drew = w40 at BK327 BK328 HB hHeld ⊢
 refine pure_ (i := 2) (N := some 26) (v := ?_) (a' := ?_) #[O, O, I, O, O, O, O, O] rfl rfl (any_of HT_.out (by kernel_rfl)) (fun _ _ _ h => h) (Or.inl ⟨by rfl, ?_⟩) ?_ ?_
 rotate_left
 ·
  intro w'
  go_simp
  with_reducible rfl
 rotate_left
 ·
  simp only [pk, i64_w, i32_w]
  rfl
 refine pure_ (i := 5) (N := some 29) (v := ?_) (a' := ?_) #[O, O, I, O, O, I, O, O] rfl rfl (any_of HT_.out (by kernel_rfl)) (fun _ _ _ h => h) (Or.inl ⟨by rfl, ?_⟩) ?_ ?_
 rotate_left
 ·
  intro w'
  go_simp
  with_reducible rfl
 rotate_left
 ·
  simp only [pk, i64_w, i32_w]
  rfl
 refine take_ (i := 0) (N := some 24) (v := ?_) (a' := ?_) #[I, O, I, O, O, I, O, O] rfl rfl (take_ofW HT_.out HW_.out (by kernel_rfl)) (fun _ _ _ h => h) (Or.inl ⟨by rfl, ?_⟩) hHeld ?_ ?_
 rotate_left
 ·
  rintro w' ⟨s0, s1, s2, s3⟩
  go_simp
  with_reducible rfl
 rotate_left
 ·
  simp only [pk, i64_w, i32_w]
  rfl
 refine take_ (i := 3) (N := some 27) (v := ?_) (a' := ?_) #[I, O, I, I, O, I, O, O] rfl rfl (take_ofW HT_.out HW_.out (by kernel_rfl)) (fun _ _ _ h => h) (Or.inl ⟨by rfl, ?_⟩) hHeld ?_ ?_
 rotate_left
 ·
  rintro w' ⟨s0, s1, s2, s3⟩
  go_simp
  with_reducible rfl
 rotate_left
 ·
  simp only [pk, i64_w, i32_w]
  rfl
 refine one_ (i := 1) (N := some 25) #[I, I, I, I, O, I, O, O] rfl rfl (one_of HT_.out (by kernel_rfl)) (by decide) (fun K hK => ?_)
 refine goes_ Tryd.func31 (by kernel_rfl) rfl #[.agg #[.slice A0_0 l0_0.length c0_0, .slice A0_1 l0_1.length c0_1]] (by rfl) rfl rfl (by (try simp only [lm]); first | done | rfl | (simp only [List.length_drop, List.length_take]; rfl)) ?_
 with_reducible refine (laws_toProgram.calls k _ _ l0_0 _ _ l0_1 t331 t334 _ ?side1 ?side2 ?side3 ?side4 A20.out).mono ?_
 (case side1 => exact Kd.C_below HR0_0.out (be w))
 (case side2 => exact HC0_0.out)
 (case side3 => exact Kd.C_below HR0_1.out (be w))
 (case side4 => exact HC0_1.out)
 rintro e w41 ⟨v332, v335, rfl, ho0, ho1, hb⟩
 refine ⟨_, rfl, ?_⟩
 have HO333 := As.mk (Kd.S_lower ho0 (below_size (be w)))
 have HO336 := As.mk (Kd.S_lower ho1 (below_size (be w)))
 replace BK327 := As.mk (blk_below (bx BK327.out) hb)
 replace BK328 := As.mk (blk_below (bx BK328.out) hb)
 replace HB := As.mk (below_step (be w) hb)
 (try clear hb)
 (try clear hb2)
 (try clear hk)
 (try clear hi)
 (try clear ho0)
 (try clear ho1)
 refine hK.out _ _ ⟨(blk_cell BK327.out 0).trans rfl, (blk_cell BK327.out 1).trans rfl, (blk_cell BK328.out 0).trans rfl, (blk_cell BK328.out 1).trans rfl⟩ (fun hHeld => ?_)
 clear hK K
 refine norm_ (a' := ?_) ?_ ?_
 rotate_left
 ·
  show Act.put _ (some 25) _ = _
  simp only [pk, i64_w, i32_w]
  rfl
 refine one_ (i := 4) (N := some 28) #[I, I, I, I, I, I, O, O] rfl rfl (one_of HT_.out (by kernel_rfl)) (by decide) (fun K hK => ?_)
 refine goes_ Tryd.func31 (by kernel_rfl) rfl #[.agg #[.slice A2_0 l2_0.length c2_0, .slice A2_1 l2_1.length c2_1]] (by rfl) rfl rfl (by (try simp only [lm]); first | done | rfl | (simp only [List.length_drop, List.length_take]; rfl)) ?_
 with_reducible refine (laws_toProgram.calls k _ _ l2_0 _ _ l2_1 t337 t340 _ ?side1 ?side2 ?side3 ?side4 A21.out).mono ?_
 (case side1 => exact Kd.C_below HR2_0.out (be w))
 (case side2 => exact HC2_0.out)
 (case side3 => exact Kd.C_below HR2_1.out (be w))
 (case side4 => exact HC2_1.out)
 rintro e w42 ⟨v338, v341, rfl, ho0, ho1, hb⟩
 refine ⟨_, rfl, ?_⟩
 have HO339 := As.mk (Kd.S_lower (Kd.S_new' ho0 (Kd.S_lt (by (with_reducible repeat (first | apply Kd.S_alloc | apply Kd.S_drewN | apply Kd.S_drew)); exact HO333.out))) (below_size (be w)))
 replace HO333 := As.mk (Kd.S_elder' (by (with_reducible repeat (first | apply Kd.S_alloc | apply Kd.S_drewN | apply Kd.S_drew)); exact HO333.out) (Kd.S_base ho0) hb)
 have HO342 := As.mk (Kd.S_lower (Kd.S_new' ho1 (Kd.S_lt (by (with_reducible repeat (first | apply Kd.S_alloc | apply Kd.S_drewN | apply Kd.S_drew)); exact HO336.out))) (below_size (be w)))
 replace HO336 := As.mk (Kd.S_elder' (by (with_reducible repeat (first | apply Kd.S_alloc | apply Kd.S_drewN | apply Kd.S_drew)); exact HO336.out) (Kd.S_base ho1) hb)
 replace BK327 := As.mk (blk_below (bx BK327.out) hb)
 replace BK328 := As.mk (blk_below (bx BK328.out) hb)
 replace HB := As.mk (below_step (be w) hb)
 (try clear hb)
 (try clear hb2)
 (try clear hk)
 (try clear hi)
 (try clear ho0)
 (try clear ho1)
 obtain ⟨Ao43, co43, eo43⟩ := Kd.S_slice HO333.out
 (first | subst eo43 | (injection eo43 with f1_ f2_ f3_; have f4_ := f1_.symm; have f5_ := f3_.symm; clear f1_ f2_ f3_; subst f4_; subst f5_))
 obtain ⟨Ao44, co44, eo44⟩ := Kd.S_slice HO336.out
 (first | subst eo44 | (injection eo44 with f1_ f2_ f3_; have f4_ := f1_.symm; have f5_ := f3_.symm; clear f1_ f2_ f3_; subst f4_; subst f5_))
 obtain ⟨Ao45, co45, eo45⟩ := Kd.S_slice HO339.out
 (first | subst eo45 | (injection eo45 with f1_ f2_ f3_; have f4_ := f1_.symm; have f5_ := f3_.symm; clear f1_ f2_ f3_; subst f4_; subst f5_))
 obtain ⟨Ao46, co46, eo46⟩ := Kd.S_slice HO342.out
 (first | subst eo46 | (injection eo46 with f1_ f2_ f3_; have f4_ := f1_.symm; have f5_ := f3_.symm; clear f1_ f2_ f3_; subst f4_; subst f5_))
 refine hK.out _ _ ⟨(blk_cell BK327.out 0).trans rfl, (blk_cell BK327.out 1).trans rfl, (blk_cell BK328.out 0).trans rfl, (blk_cell BK328.out 1).trans rfl⟩ (fun hHeld => ?_)
 clear hK K
 refine norm_ (a' := ?_) ?_ ?_
 rotate_left
 ·
  show Act.put _ (some 28) _ = _
  simp only [pk, i64_w, i32_w]
  rfl
 refine one_ (i := 6) (N := some 30) #[I, I, I, I, I, I, I, O] rfl rfl (one_of HT_.out (by kernel_rfl)) (by decide) (fun K hK => ?_)
 refine goes_ Tryd.func30 (by kernel_rfl) rfl #[.agg #[.slice Ao43 t331.length co43, .slice Ao44 t334.length co44], .int .i64 a1, .agg #[.slice Ao45 t337.length co45, .slice Ao46 t340.length co46], .int .i64 a3] (by rfl) rfl rfl (by (try simp only [lm]); first | done | rfl | (simp only [List.length_drop, List.length_take]; rfl)) ?_
 with_reducible refine (spec_SameTree.calls k _ _ t331 _ _ t334 a1 _ _ t337 _ _ t340 a3 t343 _ ?side1 ?side2 ?side3 ?side4 ?side5 ?side6 ?side7 ?side8 A22.out).mono ?_
 (case side1 => repeat (first | exact (Kd.S_reads' HO333.out).2.2 | (with_reducible refine Kd.C_alloc ?_ _) | (with_reducible refine Kd.C_drewN ?_ _) | (with_reducible refine Kd.C_drew ?_)))
 (case side2 => exact (Kd.S_reads' HO333.out).2.1)
 (case side3 => repeat (first | exact (Kd.S_reads' HO336.out).2.2 | (with_reducible refine Kd.C_alloc ?_ _) | (with_reducible refine Kd.C_drewN ?_ _) | (with_reducible refine Kd.C_drew ?_)))
 (case side4 => exact (Kd.S_reads' HO336.out).2.1)
 (case side5 => repeat (first | exact (Kd.S_reads' HO339.out).2.2 | (with_reducible refine Kd.C_alloc ?_ _) | (with_reducible refine Kd.C_drewN ?_ _) | (with_reducible refine Kd.C_drew ?_)))
 (case side6 => exact (Kd.S_reads' HO339.out).2.1)
 (case side7 => repeat (first | exact (Kd.S_reads' HO342.out).2.2 | (with_reducible refine Kd.C_alloc ?_ _) | (with_reducible refine Kd.C_drewN ?_ _) | (with_reducible refine Kd.C_drew ?_)))
 (case side8 => exact (Kd.S_reads' HO342.out).2.1)
 rintro e w47 ⟨rfl, hb⟩
 refine ⟨_, rfl, ?_⟩
 replace HO333 := As.mk (Kd.S_below (by (with_reducible repeat (first | apply Kd.S_alloc | apply Kd.S_drewN | apply Kd.S_drew)); exact HO333.out) hb)
 replace HO336 := As.mk (Kd.S_below (by (with_reducible repeat (first | apply Kd.S_alloc | apply Kd.S_drewN | apply Kd.S_drew)); exact HO336.out) hb)
 replace HO339 := As.mk (Kd.S_below (by (with_reducible repeat (first | apply Kd.S_alloc | apply Kd.S_drewN | apply Kd.S_drew)); exact HO339.out) hb)
 replace HO342 := As.mk (Kd.S_below (by (with_reducible repeat (first | apply Kd.S_alloc | apply Kd.S_drewN | apply Kd.S_drew)); exact HO342.out) hb)
 replace BK327 := As.mk (blk_below (bx BK327.out) hb)
 replace BK328 := As.mk (blk_below (bx BK328.out) hb)
 replace HB := As.mk (below_step (be w) hb)
 (try clear hb)
 (try clear hb2)
 (try clear hk)
 (try clear hi)
 refine hK.out _ _ ⟨(blk_cell BK327.out 0).trans rfl, (blk_cell BK327.out 1).trans rfl, (blk_cell BK328.out 0).trans rfl, (blk_cell BK328.out 1).trans rfl⟩ (fun hHeld => ?_)
 clear hK K
 refine norm_ (a' := ?_) ?_ ?_
 rotate_left
 ·
  show Act.put _ (some 30) _ = _
  simp only [pk, i64_w, i32_w]
  rfl
 refine pure_ (i := 7) (N := some 10) (v := ?_) (a' := ?_) #[I, I, I, I, I, I, I, I] rfl rfl (any_of HT_.out (by kernel_rfl)) (fun _ _ _ h => h) (Or.inl ⟨by rfl, ?_⟩) ?_ ?_
 rotate_left
 ·
  intro w'
  go_simp
  with_reducible rfl
 rotate_left
 ·
  simp only [pk, i64_w, i32_w]
  rfl
 refine done_ (done_of HT_.out (by kernel_rfl)) ?_
 obtain ⟨hcz48_0, hcz48_1, hfz48_0, hfz48_1⟩ := cl2 BK327.out
 try go_wp2_with (first | ((with_reducible refine gate_callee (f := 31) rfl ?_); refine goesL_ (some 32) rfl rfl Tryd.func31 (by kernel_rfl) rfl #[.agg #[.slice A0_0 l0_0.length c0_0, .slice A0_1 l0_1.length c0_1]] rfl (by (try simp only [lm]); first | done | rfl | (simp only [List.length_drop, List.length_take]; rfl)) ?_; (with_reducible refine (laws_toProgram.calls k _ _ l0_0 _ _ l0_1 t344 t347 _ ?side1 ?side2 ?side3 ?side4 A23.out).mono ?_); (case side1 => exact Kd.C_below HR0_0.out (be w)); (case side2 => exact HC0_0.out); (case side3 => exact Kd.C_below HR0_1.out (be w)); (case side4 => exact HC0_1.out); rintro e w49 ⟨v345, v348, rfl, ho0, ho1, hb⟩; refine ⟨_, rfl, ?_⟩; have HO346 := As.mk (Kd.S_lower (Kd.S_new' (Kd.S_new' ho0 (Kd.S_lt (by (with_reducible repeat (first | apply Kd.S_alloc | apply Kd.S_drewN | apply Kd.S_drew)); exact HO333.out))) (Kd.S_lt (by (with_reducible repeat (first | apply Kd.S_alloc | apply Kd.S_drewN | apply Kd.S_drew)); exact HO339.out))) (below_size (be w))); replace HO333 := As.mk (Kd.S_elder' (by (with_reducible repeat (first | apply Kd.S_alloc | apply Kd.S_drewN | apply Kd.S_drew)); exact HO333.out) (Kd.S_base ho0) hb); replace HO339 := As.mk (Kd.S_elder' (by (with_reducible repeat (first | apply Kd.S_alloc | apply Kd.S_drewN | apply Kd.S_drew)); exact HO339.out) (Kd.S_base ho0) hb); have HO349 := As.mk (Kd.S_lower (Kd.S_new' (Kd.S_new' ho1 (Kd.S_lt (by (with_reducible repeat (first | apply Kd.S_alloc | apply Kd.S_drewN | apply Kd.S_drew)); exact HO336.out))) (Kd.S_lt (by (with_reducible repeat (first | apply Kd.S_alloc | apply Kd.S_drewN | apply Kd.S_drew)); exact HO342.out))) (below_size (be w))); replace HO336 := As.mk (Kd.S_elder' (by (with_reducible repeat (first | apply Kd.S_alloc | apply Kd.S_drewN | apply Kd.S_drew)); exact HO336.out) (Kd.S_base ho1) hb); replace HO342 := As.mk (Kd.S_elder' (by (with_reducible repeat (first | apply Kd.S_alloc | apply Kd.S_drewN | apply Kd.S_drew)); exact HO342.out) (Kd.S_base ho1) hb); replace BK327 := As.mk (blk_below (bx BK327.out) hb); replace BK328 := As.mk (blk_below (bx BK328.out) hb); replace HB := As.mk (below_step (be w) hb); (try clear hb); (try clear hb2); (try clear hk); (try clear hi); (try clear ho0); (try clear ho1)) | ((with_reducible refine gate_dst (N := 11) rfl ?_); refine box_event ?hg (N := 11) ?hd (cs := #[.slice none 0 0, .slice none 0 0]) (t := 52) ?hr ?_; (case hd => rfl); (case hg => rfl); (case hr => first | (go_simp; done) | (go_simp; rfl)); intro gb350 hg w50 hbox hb; replace HO333 := As.mk (Kd.S_below (by (with_reducible repeat (first | apply Kd.S_alloc | apply Kd.S_drewN | apply Kd.S_drew)); exact HO333.out) hb); replace HO336 := As.mk (Kd.S_below (by (with_reducible repeat (first | apply Kd.S_alloc | apply Kd.S_drewN | apply Kd.S_drew)); exact HO336.out) hb); replace HO339 := As.mk (Kd.S_below (by (with_reducible repeat (first | apply Kd.S_alloc | apply Kd.S_drewN | apply Kd.S_drew)); exact HO339.out) hb); replace HO342 := As.mk (Kd.S_below (by (with_reducible repeat (first | apply Kd.S_alloc | apply Kd.S_drewN | apply Kd.S_drew)); exact HO342.out) hb); replace HO346 := As.mk (Kd.S_below (by (with_reducible repeat (first | apply Kd.S_alloc | apply Kd.S_drewN | apply Kd.S_drew)); exact HO346.out) hb); replace HO349 := As.mk (Kd.S_below (by (with_reducible repeat (first | apply Kd.S_alloc | apply Kd.S_drewN | apply Kd.S_drew)); exact HO349.out) hb); have BK350 := As.mk (hbox); have GW350 := As.mk (gs w hg); have GE350 := As.mk (gs w hg); replace HB := As.mk (below_step (be w) hb); have NB327_350 := As.mk (nl hg (bx BK327.out)); have NB350_327 := As.mk (ng hg (bx BK327.out)); replace BK327 := As.mk (blk_below (bx BK327.out) hb); have NB328_350 := As.mk (nl hg (bx BK328.out)); have NB350_328 := As.mk (ng hg (bx BK328.out)); replace BK328 := As.mk (blk_below (bx BK328.out) hb); clear hb hbox hg; obtain ⟨Ao51, co51, eo51⟩ := Kd.S_slice HO346.out; subst eo51; have hnb52 := NB350_327.out; have hnc52 := NB327_350.out; have hnb53 := NB350_328.out; have hnc53 := NB328_350.out; obtain ⟨hcz54_0, hcz54_1, hfz54_0, hfz54_1⟩ := cl2 BK350.out; obtain ⟨Ao55, co55, eo55⟩ := Kd.S_slice HO349.out; subst eo55; obtain ⟨hcz56_0, hcz56_1, hfz56_0, hfz56_1⟩ := cl2 BK328.out) | ((with_reducible refine gate_callee (f := 31) rfl ?_); refine goesL_ (some 34) rfl rfl Tryd.func31 (by kernel_rfl) rfl #[.agg #[.slice A2_0 l2_0.length c2_0, .slice A2_1 l2_1.length c2_1]] rfl (by (try simp only [lm]); first | done | rfl | (simp only [List.length_drop, List.length_take]; rfl)) ?_; (with_reducible refine (laws_toProgram.calls k _ _ l2_0 _ _ l2_1 t351 t354 _ ?side1 ?side2 ?side3 ?side4 A24.out).mono ?_); (case side1 => exact Kd.C_below HR2_0.out (be w)); (case side2 => exact HC2_0.out); (case side3 => exact Kd.C_below HR2_1.out (be w)); (case side4 => exact HC2_1.out); rintro e w57 ⟨v352, v355, rfl, ho0, ho1, hb⟩; refine ⟨_, rfl, ?_⟩; have HO353 := As.mk (Kd.S_lower (Kd.S_new' (Kd.S_new' (Kd.S_new' ho0 (Kd.S_lt (by (with_reducible repeat (first | apply Kd.S_alloc | apply Kd.S_drewN | apply Kd.S_drew)); exact (Kd.S_mono (Kd.S_far (p := ⟨gb350, 1, none⟩) (Kd.S_far (p := ⟨gb350, 0, none⟩) (Kd.S_types HO333.out BK350.out (by decide)) (fun _ hk => hk.2) (.slice Ao51 t344.length co51)) (fun _ hk => hk.2) (.slice Ao55 t347.length co55)) (fun _ h_ => h_.1))))) (Kd.S_lt (by (with_reducible repeat (first | apply Kd.S_alloc | apply Kd.S_drewN | apply Kd.S_drew)); exact (Kd.S_mono (Kd.S_far (p := ⟨gb350, 1, none⟩) (Kd.S_far (p := ⟨gb350, 0, none⟩) (Kd.S_types HO339.out BK350.out (by decide)) (fun _ hk => hk.2) (.slice Ao51 t344.length co51)) (fun _ hk => hk.2) (.slice Ao55 t347.length co55)) (fun _ h_ => h_.1))))) (Kd.S_lt (by (with_reducible repeat (first | apply Kd.S_alloc | apply Kd.S_drewN | apply Kd.S_drew)); exact (Kd.S_mono (Kd.S_far (p := ⟨gb350, 1, none⟩) (Kd.S_far (p := ⟨gb350, 0, none⟩) (Kd.S_types HO346.out BK350.out (by decide)) (fun _ hk => hk.2) (.slice Ao51 t344.length co51)) (fun _ hk => hk.2) (.slice Ao55 t347.length co55)) (fun _ h_ => h_.1))))) (below_size (be w))); replace HO333 := As.mk (Kd.S_elder' (by (with_reducible repeat (first | apply Kd.S_alloc | apply Kd.S_drewN | apply Kd.S_drew)); exact (Kd.S_mono (Kd.S_far (p := ⟨gb350, 1, none⟩) (Kd.S_far (p := ⟨gb350, 0, none⟩) (Kd.S_types HO333.out BK350.out (by decide)) (fun _ hk => hk.2) (.slice Ao51 t344.length co51)) (fun _ hk => hk.2) (.slice Ao55 t347.length co55)) (fun _ h_ => h_.1))) (Kd.S_base ho0) hb); replace HO339 := As.mk (Kd.S_elder' (by (with_reducible repeat (first | apply Kd.S_alloc | apply Kd.S_drewN | apply Kd.S_drew)); exact (Kd.S_mono (Kd.S_far (p := ⟨gb350, 1, none⟩) (Kd.S_far (p := ⟨gb350, 0, none⟩) (Kd.S_types HO339.out BK350.out (by decide)) (fun _ hk => hk.2) (.slice Ao51 t344.length co51)) (fun _ hk => hk.2) (.slice Ao55 t347.length co55)) (fun _ h_ => h_.1))) (Kd.S_base ho0) hb); replace HO346 := As.mk (Kd.S_elder' (by (with_reducible repeat (first | apply Kd.S_alloc | apply Kd.S_drewN | apply Kd.S_drew)); exact (Kd.S_mono (Kd.S_far (p := ⟨gb350, 1, none⟩) (Kd.S_far (p := ⟨gb350, 0, none⟩) (Kd.S_types HO346.out BK350.out (by decide)) (fun _ hk => hk.2) (.slice Ao51 t344.length co51)) (fun _ hk => hk.2) (.slice Ao55 t347.length co55)) (fun _ h_ => h_.1))) (Kd.S_base ho0) hb); have HO356 := As.mk (Kd.S_lower (Kd.S_new' (Kd.S_new' (Kd.S_new' ho1 (Kd.S_lt (by (with_reducible repeat (first | apply Kd.S_alloc | apply Kd.S_drewN | apply Kd.S_drew)); exact (Kd.S_mono (Kd.S_far (p := ⟨gb350, 1, none⟩) (Kd.S_far (p := ⟨gb350, 0, none⟩) (Kd.S_types HO336.out BK350.out (by decide)) (fun _ hk => hk.2) (.slice Ao51 t344.length co51)) (fun _ hk => hk.2) (.slice Ao55 t347.length co55)) (fun _ h_ => h_.1))))) (Kd.S_lt (by (with_reducible repeat (first | apply Kd.S_alloc | apply Kd.S_drewN | apply Kd.S_drew)); exact (Kd.S_mono (Kd.S_far (p := ⟨gb350, 1, none⟩) (Kd.S_far (p := ⟨gb350, 0, none⟩) (Kd.S_types HO342.out BK350.out (by decide)) (fun _ hk => hk.2) (.slice Ao51 t344.length co51)) (fun _ hk => hk.2) (.slice Ao55 t347.length co55)) (fun _ h_ => h_.1))))) (Kd.S_lt (by (with_reducible repeat (first | apply Kd.S_alloc | apply Kd.S_drewN | apply Kd.S_drew)); exact (Kd.S_mono (Kd.S_far (p := ⟨gb350, 1, none⟩) (Kd.S_far (p := ⟨gb350, 0, none⟩) (Kd.S_types HO349.out BK350.out (by decide)) (fun _ hk => hk.2) (.slice Ao51 t344.length co51)) (fun _ hk => hk.2) (.slice Ao55 t347.length co55)) (fun _ h_ => h_.1))))) (below_size (be w))); replace HO336 := As.mk (Kd.S_elder' (by (with_reducible repeat (first | apply Kd.S_alloc | apply Kd.S_drewN | apply Kd.S_drew)); exact (Kd.S_mono (Kd.S_far (p := ⟨gb350, 1, none⟩) (Kd.S_far (p := ⟨gb350, 0, none⟩) (Kd.S_types HO336.out BK350.out (by decide)) (fun _ hk => hk.2) (.slice Ao51 t344.length co51)) (fun _ hk => hk.2) (.slice Ao55 t347.length co55)) (fun _ h_ => h_.1))) (Kd.S_base ho1) hb); replace HO342 := As.mk (Kd.S_elder' (by (with_reducible repeat (first | apply Kd.S_alloc | apply Kd.S_drewN | apply Kd.S_drew)); exact (Kd.S_mono (Kd.S_far (p := ⟨gb350, 1, none⟩) (Kd.S_far (p := ⟨gb350, 0, none⟩) (Kd.S_types HO342.out BK350.out (by decide)) (fun _ hk => hk.2) (.slice Ao51 t344.length co51)) (fun _ hk => hk.2) (.slice Ao55 t347.length co55)) (fun _ h_ => h_.1))) (Kd.S_base ho1) hb); replace HO349 := As.mk (Kd.S_elder' (by (with_reducible repeat (first | apply Kd.S_alloc | apply Kd.S_drewN | apply Kd.S_drew)); exact (Kd.S_mono (Kd.S_far (p := ⟨gb350, 1, none⟩) (Kd.S_far (p := ⟨gb350, 0, none⟩) (Kd.S_types HO349.out BK350.out (by decide)) (fun _ hk => hk.2) (.slice Ao51 t344.length co51)) (fun _ hk => hk.2) (.slice Ao55 t347.length co55)) (fun _ h_ => h_.1))) (Kd.S_base ho1) hb); replace BK327 := As.mk (blk_below (g := gb327) (o := .cells #[.slice A0_0 l0_0.length c0_0, .slice A0_1 l0_1.length c0_1] 47 (0, 0)) (by refine pl ?_; refine blk_far ?_ NB327_350.out _; refine pl ?_; refine blk_far ?_ NB327_350.out _; exact bx BK327.out) hb); replace BK328 := As.mk (blk_below (g := gb328) (o := .cells #[.slice A2_0 l2_0.length c2_0, .slice A2_1 l2_1.length c2_1] 47 (0, 0)) (by refine pl ?_; refine blk_far ?_ NB328_350.out _; refine pl ?_; refine blk_far ?_ NB328_350.out _; exact bx BK328.out) hb); replace BK350 := As.mk (blk_below (g := gb350) (o := .cells #[.slice Ao51 t344.length co51, .slice Ao55 t347.length co55] 52 (0, 0)) (by refine pl ?_; refine blk_put (cs := #[.slice Ao51 t344.length co51, .slice none 0 0]) ?_ 1 _ rfl; refine pl ?_; refine blk_put (cs := #[.slice none 0 0, .slice none 0 0]) ?_ 0 _ rfl; exact bx BK350.out) hb); replace HB := As.mk (below_step (be w) hb); (try clear hb); (try clear hb2); (try clear hk); (try clear hi); (try clear ho0); (try clear ho1)) | ((with_reducible refine gate_dst (N := 12) rfl ?_); refine box_event ?hg (N := 12) ?hd (cs := #[.slice none 0 0, .slice none 0 0]) (t := 52) ?hr ?_; (case hd => rfl); (case hg => rfl); (case hr => first | (go_simp; done) | (go_simp; rfl)); intro gb357 hg w58 hbox hb; replace HO333 := As.mk (Kd.S_below (by (with_reducible repeat (first | apply Kd.S_alloc | apply Kd.S_drewN | apply Kd.S_drew)); exact HO333.out) hb); replace HO336 := As.mk (Kd.S_below (by (with_reducible repeat (first | apply Kd.S_alloc | apply Kd.S_drewN | apply Kd.S_drew)); exact HO336.out) hb); replace HO339 := As.mk (Kd.S_below (by (with_reducible repeat (first | apply Kd.S_alloc | apply Kd.S_drewN | apply Kd.S_drew)); exact HO339.out) hb); replace HO342 := As.mk (Kd.S_below (by (with_reducible repeat (first | apply Kd.S_alloc | apply Kd.S_drewN | apply Kd.S_drew)); exact HO342.out) hb); replace HO346 := As.mk (Kd.S_below (by (with_reducible repeat (first | apply Kd.S_alloc | apply Kd.S_drewN | apply Kd.S_drew)); exact HO346.out) hb); replace HO349 := As.mk (Kd.S_below (by (with_reducible repeat (first | apply Kd.S_alloc | apply Kd.S_drewN | apply Kd.S_drew)); exact HO349.out) hb); replace HO353 := As.mk (Kd.S_below (by (with_reducible repeat (first | apply Kd.S_alloc | apply Kd.S_drewN | apply Kd.S_drew)); exact HO353.out) hb); replace HO356 := As.mk (Kd.S_below (by (with_reducible repeat (first | apply Kd.S_alloc | apply Kd.S_drewN | apply Kd.S_drew)); exact HO356.out) hb); have BK357 := As.mk (hbox); have GW357 := As.mk (gs w hg); have GE357 := As.mk (gs w hg); replace HB := As.mk (below_step (be w) hb); have NB327_357 := As.mk (nl hg (bx BK327.out)); have NB357_327 := As.mk (ng hg (bx BK327.out)); replace BK327 := As.mk (blk_below (bx BK327.out) hb); have NB328_357 := As.mk (nl hg (bx BK328.out)); have NB357_328 := As.mk (ng hg (bx BK328.out)); replace BK328 := As.mk (blk_below (bx BK328.out) hb); have NB350_357 := As.mk (nl hg (bx BK350.out)); have NB357_350 := As.mk (ng hg (bx BK350.out)); replace BK350 := As.mk (blk_below (bx BK350.out) hb); clear hb hbox hg; obtain ⟨Ao59, co59, eo59⟩ := Kd.S_slice HO353.out; subst eo59; have hnb60 := NB357_327.out; have hnc60 := NB327_357.out; have hnb61 := NB357_328.out; have hnc61 := NB328_357.out; have hnb62 := NB357_350.out; have hnc62 := NB350_357.out; obtain ⟨hcz63_0, hcz63_1, hfz63_0, hfz63_1⟩ := cl2 BK357.out; obtain ⟨Ao64, co64, eo64⟩ := Kd.S_slice HO356.out; subst eo64; obtain ⟨hcz65_0, hcz65_1, hfz65_0, hfz65_1⟩ := cl2 BK350.out) | ((with_reducible refine gate_callee (f := 32) rfl ?_); refine goesL_ (some 39) rfl rfl Tryd.func32 (by kernel_rfl) rfl #[.agg #[.slice Ao51 t344.length co51, .slice Ao55 t347.length co55], .int .i64 a1, .agg #[.slice Ao59 t351.length co59, .slice Ao64 t354.length co64], .int .i64 a3] rfl (by (try simp only [lm]); first | done | rfl | (simp only [List.length_drop, List.length_take]; rfl)) ?_; (with_reducible refine (impl_SameTree.calls k _ _ t344 _ _ t347 a1 _ _ t351 _ _ t354 a3 t358 _ ?side1 ?side2 ?side3 ?side4 ?side5 ?side6 ?side7 ?side8 A25.out).mono ?_); (case side1 => refine (Kd.S_reads' (e := 64) (base := w.heap.size) (ok := fun k_ => (((True ∧ some k_ ≠ (.slice Ao43 t331.length co43 : Value).ownBlock) ∧ some k_ ≠ (.slice Ao45 t337.length co45 : Value).ownBlock) ∧ some k_ ≠ (.slice Ao59 t351.length co59 : Value).ownBlock)) (n := t344.length) (c := co51) ?_).2.2; exact (by (with_reducible repeat (first | apply Kd.S_alloc | apply Kd.S_drewN | apply Kd.S_drew)); exact (Kd.S_mono (Kd.S_far (p := ⟨gb357, 1, none⟩) (Kd.S_far (p := ⟨gb357, 0, none⟩) (Kd.S_types HO346.out BK357.out (by decide)) (fun _ hk => hk.2) (.slice Ao59 t351.length co59)) (fun _ hk => hk.2) (.slice Ao64 t354.length co64)) (fun _ h_ => h_.1)))); (case side2 => exact (Kd.S_reads' HO346.out).2.1); (case side3 => refine (Kd.S_reads' (e := 93) (base := w.heap.size) (ok := fun k_ => (((True ∧ some k_ ≠ (.slice Ao44 t334.length co44 : Value).ownBlock) ∧ some k_ ≠ (.slice Ao46 t340.length co46 : Value).ownBlock) ∧ some k_ ≠ (.slice Ao64 t354.length co64 : Value).ownBlock)) (n := t347.length) (c := co55) ?_).2.2; exact (by (with_reducible repeat (first | apply Kd.S_alloc | apply Kd.S_drewN | apply Kd.S_drew)); exact (Kd.S_mono (Kd.S_far (p := ⟨gb357, 1, none⟩) (Kd.S_far (p := ⟨gb357, 0, none⟩) (Kd.S_types HO349.out BK357.out (by decide)) (fun _ hk => hk.2) (.slice Ao59 t351.length co59)) (fun _ hk => hk.2) (.slice Ao64 t354.length co64)) (fun _ h_ => h_.1)))); (case side4 => exact (Kd.S_reads' HO349.out).2.1); (case side5 => refine (Kd.S_reads' (e := 64) (base := w.heap.size) (ok := fun k_ => (((True ∧ some k_ ≠ (.slice Ao43 t331.length co43 : Value).ownBlock) ∧ some k_ ≠ (.slice Ao45 t337.length co45 : Value).ownBlock) ∧ some k_ ≠ (.slice Ao51 t344.length co51 : Value).ownBlock)) (n := t351.length) (c := co59) ?_).2.2; exact (by (with_reducible repeat (first | apply Kd.S_alloc | apply Kd.S_drewN | apply Kd.S_drew)); exact (Kd.S_mono (Kd.S_far (p := ⟨gb357, 1, none⟩) (Kd.S_far (p := ⟨gb357, 0, none⟩) (Kd.S_types HO353.out BK357.out (by decide)) (fun _ hk => hk.2) (.slice Ao59 t351.length co59)) (fun _ hk => hk.2) (.slice Ao64 t354.length co64)) (fun _ h_ => h_.1)))); (case side6 => exact (Kd.S_reads' HO353.out).2.1); (case side7 => refine (Kd.S_reads' (e := 93) (base := w.heap.size) (ok := fun k_ => (((True ∧ some k_ ≠ (.slice Ao44 t334.length co44 : Value).ownBlock) ∧ some k_ ≠ (.slice Ao46 t340.length co46 : Value).ownBlock) ∧ some k_ ≠ (.slice Ao55 t347.length co55 : Value).ownBlock)) (n := t354.length) (c := co64) ?_).2.2; exact (by (with_reducible repeat (first | apply Kd.S_alloc | apply Kd.S_drewN | apply Kd.S_drew)); exact (Kd.S_mono (Kd.S_far (p := ⟨gb357, 1, none⟩) (Kd.S_far (p := ⟨gb357, 0, none⟩) (Kd.S_types HO356.out BK357.out (by decide)) (fun _ hk => hk.2) (.slice Ao59 t351.length co59)) (fun _ hk => hk.2) (.slice Ao64 t354.length co64)) (fun _ h_ => h_.1)))); (case side8 => exact (Kd.S_reads' HO356.out).2.1); rintro e w66 ⟨rfl, hb⟩; refine ⟨_, rfl, ?_⟩; replace HO333 := As.mk (Kd.S_below (by (with_reducible repeat (first | apply Kd.S_alloc | apply Kd.S_drewN | apply Kd.S_drew)); exact (Kd.S_mono (Kd.S_far (p := ⟨gb357, 1, none⟩) (Kd.S_far (p := ⟨gb357, 0, none⟩) (Kd.S_types HO333.out BK357.out (by decide)) (fun _ hk => hk.2) (.slice Ao59 t351.length co59)) (fun _ hk => hk.2) (.slice Ao64 t354.length co64)) (fun _ h_ => h_.1))) hb); replace HO336 := As.mk (Kd.S_below (by (with_reducible repeat (first | apply Kd.S_alloc | apply Kd.S_drewN | apply Kd.S_drew)); exact (Kd.S_mono (Kd.S_far (p := ⟨gb357, 1, none⟩) (Kd.S_far (p := ⟨gb357, 0, none⟩) (Kd.S_types HO336.out BK357.out (by decide)) (fun _ hk => hk.2) (.slice Ao59 t351.length co59)) (fun _ hk => hk.2) (.slice Ao64 t354.length co64)) (fun _ h_ => h_.1))) hb); replace HO339 := As.mk (Kd.S_below (by (with_reducible repeat (first | apply Kd.S_alloc | apply Kd.S_drewN | apply Kd.S_drew)); exact (Kd.S_mono (Kd.S_far (p := ⟨gb357, 1, none⟩) (Kd.S_far (p := ⟨gb357, 0, none⟩) (Kd.S_types HO339.out BK357.out (by decide)) (fun _ hk => hk.2) (.slice Ao59 t351.length co59)) (fun _ hk => hk.2) (.slice Ao64 t354.length co64)) (fun _ h_ => h_.1))) hb); replace HO342 := As.mk (Kd.S_below (by (with_reducible repeat (first | apply Kd.S_alloc | apply Kd.S_drewN | apply Kd.S_drew)); exact (Kd.S_mono (Kd.S_far (p := ⟨gb357, 1, none⟩) (Kd.S_far (p := ⟨gb357, 0, none⟩) (Kd.S_types HO342.out BK357.out (by decide)) (fun _ hk => hk.2) (.slice Ao59 t351.length co59)) (fun _ hk => hk.2) (.slice Ao64 t354.length co64)) (fun _ h_ => h_.1))) hb); replace HO346 := As.mk (Kd.S_below (by (with_reducible repeat (first | apply Kd.S_alloc | apply Kd.S_drewN | apply Kd.S_drew)); exact (Kd.S_mono (Kd.S_far (p := ⟨gb357, 1, none⟩) (Kd.S_far (p := ⟨gb357, 0, none⟩) (Kd.S_types HO346.out BK357.out (by decide)) (fun _ hk => hk.2) (.slice Ao59 t351.length co59)) (fun _ hk => hk.2) (.slice Ao64 t354.length co64)) (fun _ h_ => h_.1))) hb); replace HO349 := As.mk (Kd.S_below (by (with_reducible repeat (first | apply Kd.S_alloc | apply Kd.S_drewN | apply Kd.S_drew)); exact (Kd.S_mono (Kd.S_far (p := ⟨gb357, 1, none⟩) (Kd.S_far (p := ⟨gb357, 0, none⟩) (Kd.S_types HO349.out BK357.out (by decide)) (fun _ hk => hk.2) (.slice Ao59 t351.length co59)) (fun _ hk => hk.2) (.slice Ao64 t354.length co64)) (fun _ h_ => h_.1))) hb); replace HO353 := As.mk (Kd.S_below (by (with_reducible repeat (first | apply Kd.S_alloc | apply Kd.S_drewN | apply Kd.S_drew)); exact (Kd.S_mono (Kd.S_far (p := ⟨gb357, 1, none⟩) (Kd.S_far (p := ⟨gb357, 0, none⟩) (Kd.S_types HO353.out BK357.out (by decide)) (fun _ hk => hk.2) (.slice Ao59 t351.length co59)) (fun _ hk => hk.2) (.slice Ao64 t354.length co64)) (fun _ h_ => h_.1))) hb); replace HO356 := As.mk (Kd.S_below (by (with_reducible repeat (first | apply Kd.S_alloc | apply Kd.S_drewN | apply Kd.S_drew)); exact (Kd.S_mono (Kd.S_far (p := ⟨gb357, 1, none⟩) (Kd.S_far (p := ⟨gb357, 0, none⟩) (Kd.S_types HO356.out BK357.out (by decide)) (fun _ hk => hk.2) (.slice Ao59 t351.length co59)) (fun _ hk => hk.2) (.slice Ao64 t354.length co64)) (fun _ h_ => h_.1))) hb); replace BK327 := As.mk (blk_below (g := gb327) (o := .cells #[.slice A0_0 l0_0.length c0_0, .slice A0_1 l0_1.length c0_1] 47 (0, 0)) (by refine pl ?_; refine blk_far ?_ NB327_357.out _; refine pl ?_; refine blk_far ?_ NB327_357.out _; exact bx BK327.out) hb); replace BK328 := As.mk (blk_below (g := gb328) (o := .cells #[.slice A2_0 l2_0.length c2_0, .slice A2_1 l2_1.length c2_1] 47 (0, 0)) (by refine pl ?_; refine blk_far ?_ NB328_357.out _; refine pl ?_; refine blk_far ?_ NB328_357.out _; exact bx BK328.out) hb); replace BK350 := As.mk (blk_below (g := gb350) (o := .cells #[.slice Ao51 t344.length co51, .slice Ao55 t347.length co55] 52 (0, 0)) (by refine pl ?_; refine blk_far ?_ NB350_357.out _; refine pl ?_; refine blk_far ?_ NB350_357.out _; exact bx BK350.out) hb); replace BK357 := As.mk (blk_below (g := gb357) (o := .cells #[.slice Ao59 t351.length co59, .slice Ao64 t354.length co64] 52 (0, 0)) (by refine pl ?_; refine blk_put (cs := #[.slice Ao59 t351.length co59, .slice none 0 0]) ?_ 1 _ rfl; refine pl ?_; refine blk_put (cs := #[.slice none 0 0, .slice none 0 0]) ?_ 0 _ rfl; exact bx BK357.out) hb); replace HB := As.mk (below_step (be w) hb); (try clear hb); (try clear hb2); (try clear hk); (try clear hi)))
 replace HO333 := As.mk (Kd.S_drew HO333.out)
 replace HO336 := As.mk (Kd.S_drew HO336.out)
 replace HO339 := As.mk (Kd.S_drew HO339.out)
 replace HO342 := As.mk (Kd.S_drew HO342.out)
 replace HO346 := As.mk (Kd.S_drew HO346.out)
 replace HO349 := As.mk (Kd.S_drew HO349.out)
 replace HO353 := As.mk (Kd.S_drew HO353.out)
 replace HO356 := As.mk (Kd.S_drew HO356.out)
 replace BK327 := As.mk (blk_drew BK327.out)
 replace BK328 := As.mk (blk_drew BK328.out)
 replace BK350 := As.mk (blk_drew BK350.out)
 replace BK357 := As.mk (blk_drew BK357.out)
 replace HB := As.mk (below_drew1 HB.out)
 refine start_ (n := 5) (S := fun w' => w'.cell? ⟨gb350, 0, none⟩ = some (.slice Ao51 t344.length co51) ∧ w'.cell? ⟨gb350, 1, none⟩ = some (.slice Ao55 t347.length co55) ∧ w'.cell? ⟨gb327, 0, none⟩ = some (.slice A0_0 l0_0.length c0_0) ∧ w'.cell? ⟨gb327, 1, none⟩ = some (.slice A0_1 l0_1.length c0_1)) (ds := []) #[O, O, O, O, O] (by kernel_rfl) rfl rfl ⟨(blk_cell BK350.out 0).trans rfl, (blk_cell BK350.out 1).trans rfl, (blk_cell BK327.out 0).trans rfl, (blk_cell BK327.out 1).trans rfl⟩ (fun hHeld => ?_)
 generalize w66.drew = w67 at HO333 HO336 HO339 HO342 HO346 HO349 HO353 HO356 BK327 BK328 BK350 BK357 HB hHeld ⊢
 refine take_ (i := 0) (N := some 43) (v := ?_) (a' := ?_) #[I, O, O, O, O] rfl rfl (by kernel_rfl) (fun _ _ _ h => h) (Or.inl ⟨by rfl, ?_⟩) hHeld ?_ ?_
 rotate_left
 ·
  rintro w' ⟨s0, s1, s2, s3⟩
  go_simp
  with_reducible rfl
 rotate_left
 ·
  simp only [pk, i64_w, i32_w]
  rfl
 refine take_ (i := 1) (N := some 44) (v := ?_) (a' := ?_) #[I, I, O, O, O] rfl rfl (by kernel_rfl) (fun _ _ _ h => h) (Or.inl ⟨by rfl, ?_⟩) hHeld ?_ ?_
 rotate_left
 ·
  rintro w' ⟨s0, s1, s2, s3⟩
  go_simp
  with_reducible rfl
 rotate_left
 ·
  simp only [pk, i64_w, i32_w]
  rfl
 refine one_ (i := 2) (N := some 45) #[I, I, I, O, O] rfl rfl (by kernel_rfl) (by decide) (fun K hK => ?_)
 refine goes_ Tryd.func31 (by kernel_rfl) rfl #[.agg #[.slice A0_0 l0_0.length c0_0, .slice A0_1 l0_1.length c0_1]] (by rfl) rfl rfl (by (try simp only [lm]); first | done | rfl | (simp only [List.length_drop, List.length_take]; rfl)) ?_
 with_reducible refine (laws_toProgram.calls k _ _ l0_0 _ _ l0_1 t359 t362 _ ?side1 ?side2 ?side3 ?side4 A27.out).mono ?_
 (case side1 => exact Kd.C_below HR0_0.out (be w))
 (case side2 => exact HC0_0.out)
 (case side3 => exact Kd.C_below HR0_1.out (be w))
 (case side4 => exact HC0_1.out)
 rintro e w68 ⟨v360, v363, rfl, ho0, ho1, hb⟩
 refine ⟨_, rfl, ?_⟩
 have HO361 := As.mk (Kd.S_lower (Kd.S_new' (Kd.S_new' (Kd.S_new' (Kd.S_new' ho0 (Kd.S_lt (by (with_reducible repeat (first | apply Kd.S_alloc | apply Kd.S_drewN | apply Kd.S_drew)); exact HO333.out))) (Kd.S_lt (by (with_reducible repeat (first | apply Kd.S_alloc | apply Kd.S_drewN | apply Kd.S_drew)); exact HO339.out))) (Kd.S_lt (by (with_reducible repeat (first | apply Kd.S_alloc | apply Kd.S_drewN | apply Kd.S_drew)); exact HO346.out))) (Kd.S_lt (by (with_reducible repeat (first | apply Kd.S_alloc | apply Kd.S_drewN | apply Kd.S_drew)); exact HO353.out))) (below_size (be w)))
 replace HO333 := As.mk (Kd.S_elder' (by (with_reducible repeat (first | apply Kd.S_alloc | apply Kd.S_drewN | apply Kd.S_drew)); exact HO333.out) (Kd.S_base ho0) hb)
 replace HO339 := As.mk (Kd.S_elder' (by (with_reducible repeat (first | apply Kd.S_alloc | apply Kd.S_drewN | apply Kd.S_drew)); exact HO339.out) (Kd.S_base ho0) hb)
 replace HO346 := As.mk (Kd.S_elder' (by (with_reducible repeat (first | apply Kd.S_alloc | apply Kd.S_drewN | apply Kd.S_drew)); exact HO346.out) (Kd.S_base ho0) hb)
 replace HO353 := As.mk (Kd.S_elder' (by (with_reducible repeat (first | apply Kd.S_alloc | apply Kd.S_drewN | apply Kd.S_drew)); exact HO353.out) (Kd.S_base ho0) hb)
 have HO364 := As.mk (Kd.S_lower (Kd.S_new' (Kd.S_new' (Kd.S_new' (Kd.S_new' ho1 (Kd.S_lt (by (with_reducible repeat (first | apply Kd.S_alloc | apply Kd.S_drewN | apply Kd.S_drew)); exact HO336.out))) (Kd.S_lt (by (with_reducible repeat (first | apply Kd.S_alloc | apply Kd.S_drewN | apply Kd.S_drew)); exact HO342.out))) (Kd.S_lt (by (with_reducible repeat (first | apply Kd.S_alloc | apply Kd.S_drewN | apply Kd.S_drew)); exact HO349.out))) (Kd.S_lt (by (with_reducible repeat (first | apply Kd.S_alloc | apply Kd.S_drewN | apply Kd.S_drew)); exact HO356.out))) (below_size (be w)))
 replace HO336 := As.mk (Kd.S_elder' (by (with_reducible repeat (first | apply Kd.S_alloc | apply Kd.S_drewN | apply Kd.S_drew)); exact HO336.out) (Kd.S_base ho1) hb)
 replace HO342 := As.mk (Kd.S_elder' (by (with_reducible repeat (first | apply Kd.S_alloc | apply Kd.S_drewN | apply Kd.S_drew)); exact HO342.out) (Kd.S_base ho1) hb)
 replace HO349 := As.mk (Kd.S_elder' (by (with_reducible repeat (first | apply Kd.S_alloc | apply Kd.S_drewN | apply Kd.S_drew)); exact HO349.out) (Kd.S_base ho1) hb)
 replace HO356 := As.mk (Kd.S_elder' (by (with_reducible repeat (first | apply Kd.S_alloc | apply Kd.S_drewN | apply Kd.S_drew)); exact HO356.out) (Kd.S_base ho1) hb)
 replace BK327 := As.mk (blk_below (bx BK327.out) hb)
 replace BK328 := As.mk (blk_below (bx BK328.out) hb)
 replace BK350 := As.mk (blk_below (bx BK350.out) hb)
 replace BK357 := As.mk (blk_below (bx BK357.out) hb)
 replace HB := As.mk (below_step (be w) hb)
 (try clear hb)
 (try clear hb2)
 (try clear hk)
 (try clear hi)
 (try clear ho0)
 (try clear ho1)
 obtain ⟨Ao69, co69, eo69⟩ := Kd.S_slice HO361.out
 (first | subst eo69 | (injection eo69 with f1_ f2_ f3_; have f4_ := f1_.symm; have f5_ := f3_.symm; clear f1_ f2_ f3_; subst f4_; subst f5_))
 obtain ⟨Ao70, co70, eo70⟩ := Kd.S_slice HO364.out
 (first | subst eo70 | (injection eo70 with f1_ f2_ f3_; have f4_ := f1_.symm; have f5_ := f3_.symm; clear f1_ f2_ f3_; subst f4_; subst f5_))
 refine hK.out _ _ ⟨(blk_cell BK350.out 0).trans rfl, (blk_cell BK350.out 1).trans rfl, (blk_cell BK327.out 0).trans rfl, (blk_cell BK327.out 1).trans rfl⟩ (fun hHeld => ?_)
 clear hK K
 refine norm_ (a' := ?_) ?_ ?_
 rotate_left
 ·
  show Act.put _ (some 45) _ = _
  simp only [pk, i64_w, i32_w]
  rfl
 refine one_ (i := 3) (N := some 46) #[I, I, I, I, O] rfl rfl (by kernel_rfl) (by decide) (fun K hK => ?_)
 refine goes_ Tryd.func33 (by kernel_rfl) rfl #[.agg #[.slice Ao51 t344.length co51, .slice Ao55 t347.length co55], .agg #[.slice Ao69 t359.length co69, .slice Ao70 t362.length co70]] (by rfl) rfl rfl (by (try simp only [lm]); first | done | rfl | (simp only [List.length_drop, List.length_take]; rfl)) ?_
 with_reducible refine (laws_eqProgram.calls k _ _ t344 _ _ t347 _ _ t359 _ _ t362 true _ ?side1 ?side2 ?side3 ?side4 ?side5 ?side6 ?side7 ?side8 A28.out).mono ?_
 (case side1 => repeat (first | exact (Kd.S_reads' HO346.out).2.2 | (with_reducible refine Kd.C_alloc ?_ _) | (with_reducible refine Kd.C_drewN ?_ _) | (with_reducible refine Kd.C_drew ?_)))
 (case side2 => exact (Kd.S_reads' HO346.out).2.1)
 (case side3 => repeat (first | exact (Kd.S_reads' HO349.out).2.2 | (with_reducible refine Kd.C_alloc ?_ _) | (with_reducible refine Kd.C_drewN ?_ _) | (with_reducible refine Kd.C_drew ?_)))
 (case side4 => exact (Kd.S_reads' HO349.out).2.1)
 (case side5 => repeat (first | exact (Kd.S_reads' HO361.out).2.2 | (with_reducible refine Kd.C_alloc ?_ _) | (with_reducible refine Kd.C_drewN ?_ _) | (with_reducible refine Kd.C_drew ?_)))
 (case side6 => exact (Kd.S_reads' HO361.out).2.1)
 (case side7 => repeat (first | exact (Kd.S_reads' HO364.out).2.2 | (with_reducible refine Kd.C_alloc ?_ _) | (with_reducible refine Kd.C_drewN ?_ _) | (with_reducible refine Kd.C_drew ?_)))
 (case side8 => exact (Kd.S_reads' HO364.out).2.1)
 rintro e w71 ⟨rfl, hb⟩
 refine ⟨_, rfl, ?_⟩
 replace HO333 := As.mk (Kd.S_below (by (with_reducible repeat (first | apply Kd.S_alloc | apply Kd.S_drewN | apply Kd.S_drew)); exact HO333.out) hb)
 replace HO336 := As.mk (Kd.S_below (by (with_reducible repeat (first | apply Kd.S_alloc | apply Kd.S_drewN | apply Kd.S_drew)); exact HO336.out) hb)
 replace HO339 := As.mk (Kd.S_below (by (with_reducible repeat (first | apply Kd.S_alloc | apply Kd.S_drewN | apply Kd.S_drew)); exact HO339.out) hb)
 replace HO342 := As.mk (Kd.S_below (by (with_reducible repeat (first | apply Kd.S_alloc | apply Kd.S_drewN | apply Kd.S_drew)); exact HO342.out) hb)
 replace HO346 := As.mk (Kd.S_below (by (with_reducible repeat (first | apply Kd.S_alloc | apply Kd.S_drewN | apply Kd.S_drew)); exact HO346.out) hb)
 replace HO349 := As.mk (Kd.S_below (by (with_reducible repeat (first | apply Kd.S_alloc | apply Kd.S_drewN | apply Kd.S_drew)); exact HO349.out) hb)
 replace HO353 := As.mk (Kd.S_below (by (with_reducible repeat (first | apply Kd.S_alloc | apply Kd.S_drewN | apply Kd.S_drew)); exact HO353.out) hb)
 replace HO356 := As.mk (Kd.S_below (by (with_reducible repeat (first | apply Kd.S_alloc | apply Kd.S_drewN | apply Kd.S_drew)); exact HO356.out) hb)
 replace HO361 := As.mk (Kd.S_below (by (with_reducible repeat (first | apply Kd.S_alloc | apply Kd.S_drewN | apply Kd.S_drew)); exact HO361.out) hb)
 replace HO364 := As.mk (Kd.S_below (by (with_reducible repeat (first | apply Kd.S_alloc | apply Kd.S_drewN | apply Kd.S_drew)); exact HO364.out) hb)
 replace BK327 := As.mk (blk_below (bx BK327.out) hb)
 replace BK328 := As.mk (blk_below (bx BK328.out) hb)
 replace BK350 := As.mk (blk_below (bx BK350.out) hb)
 replace BK357 := As.mk (blk_below (bx BK357.out) hb)
 replace HB := As.mk (below_step (be w) hb)
 (try clear hb)
 (try clear hb2)
 (try clear hk)
 (try clear hi)
 refine hK.out _ _ ⟨(blk_cell BK350.out 0).trans rfl, (blk_cell BK350.out 1).trans rfl, (blk_cell BK327.out 0).trans rfl, (blk_cell BK327.out 1).trans rfl⟩ (fun hHeld => ?_)
 clear hK K
 refine norm_ (a' := ?_) ?_ ?_
 rotate_left
 ·
  show Act.put _ (some 46) _ = _
  simp only [pk, i64_w, i32_w]
  rfl
 refine pure_ (i := 4) (N := some 47) (v := ?_) (a' := ?_) #[I, I, I, I, I] rfl rfl (by kernel_rfl) (fun _ _ _ h => h) (Or.inl ⟨by rfl, ?_⟩) ?_ ?_
 rotate_left
 ·
  intro w'
  go_simp
  with_reducible rfl
 rotate_left
 ·
  simp only [pk, i64_w, i32_w]
  rfl
 refine done_ (by kernel_rfl) ?_
 try go_wp2
 replace HO333 := As.mk (Kd.S_drew HO333.out)
 replace HO336 := As.mk (Kd.S_drew HO336.out)
 replace HO339 := As.mk (Kd.S_drew HO339.out)
 replace HO342 := As.mk (Kd.S_drew HO342.out)
 replace HO346 := As.mk (Kd.S_drew HO346.out)
 replace HO349 := As.mk (Kd.S_drew HO349.out)
 replace HO353 := As.mk (Kd.S_drew HO353.out)
 replace HO356 := As.mk (Kd.S_drew HO356.out)
 replace HO361 := As.mk (Kd.S_drew HO361.out)
 replace HO364 := As.mk (Kd.S_drew HO364.out)
 replace BK327 := As.mk (blk_drew BK327.out)
 replace BK328 := As.mk (blk_drew BK328.out)
 replace BK350 := As.mk (blk_drew BK350.out)
 replace BK357 := As.mk (blk_drew BK357.out)
 replace HB := As.mk (below_drew1 HB.out)
 refine start_ (n := 5) (S := fun w' => w'.cell? ⟨gb357, 0, none⟩ = some (.slice Ao59 t351.length co59) ∧ w'.cell? ⟨gb357, 1, none⟩ = some (.slice Ao64 t354.length co64) ∧ w'.cell? ⟨gb328, 0, none⟩ = some (.slice A2_0 l2_0.length c2_0) ∧ w'.cell? ⟨gb328, 1, none⟩ = some (.slice A2_1 l2_1.length c2_1)) (ds := []) #[O, O, O, O, O] (by kernel_rfl) rfl rfl ⟨(blk_cell BK357.out 0).trans rfl, (blk_cell BK357.out 1).trans rfl, (blk_cell BK328.out 0).trans rfl, (blk_cell BK328.out 1).trans rfl⟩ (fun hHeld => ?_)
 generalize w71.drew = w72 at HO333 HO336 HO339 HO342 HO346 HO349 HO353 HO356 HO361 HO364 BK327 BK328 BK350 BK357 HB hHeld ⊢
 refine take_ (i := 0) (N := some 48) (v := ?_) (a' := ?_) #[I, O, O, O, O] rfl rfl (by kernel_rfl) (fun _ _ _ h => h) (Or.inl ⟨by rfl, ?_⟩) hHeld ?_ ?_
 rotate_left
 ·
  rintro w' ⟨s0, s1, s2, s3⟩
  go_simp
  with_reducible rfl
 rotate_left
 ·
  simp only [pk, i64_w, i32_w]
  rfl
 refine take_ (i := 1) (N := some 49) (v := ?_) (a' := ?_) #[I, I, O, O, O] rfl rfl (by kernel_rfl) (fun _ _ _ h => h) (Or.inl ⟨by rfl, ?_⟩) hHeld ?_ ?_
 rotate_left
 ·
  rintro w' ⟨s0, s1, s2, s3⟩
  go_simp
  with_reducible rfl
 rotate_left
 ·
  simp only [pk, i64_w, i32_w]
  rfl
 refine one_ (i := 2) (N := some 50) #[I, I, I, O, O] rfl rfl (by kernel_rfl) (by decide) (fun K hK => ?_)
 refine goes_ Tryd.func31 (by kernel_rfl) rfl #[.agg #[.slice A2_0 l2_0.length c2_0, .slice A2_1 l2_1.length c2_1]] (by rfl) rfl rfl (by (try simp only [lm]); first | done | rfl | (simp only [List.length_drop, List.length_take]; rfl)) ?_
 with_reducible refine (laws_toProgram.calls k _ _ l2_0 _ _ l2_1 t366 t369 _ ?side1 ?side2 ?side3 ?side4 A30.out).mono ?_
 (case side1 => exact Kd.C_below HR2_0.out (be w))
 (case side2 => exact HC2_0.out)
 (case side3 => exact Kd.C_below HR2_1.out (be w))
 (case side4 => exact HC2_1.out)
 rintro e w73 ⟨v367, v370, rfl, ho0, ho1, hb⟩
 refine ⟨_, rfl, ?_⟩
 have HO368 := As.mk (Kd.S_lower (Kd.S_new' (Kd.S_new' (Kd.S_new' (Kd.S_new' (Kd.S_new' ho0 (Kd.S_lt (by (with_reducible repeat (first | apply Kd.S_alloc | apply Kd.S_drewN | apply Kd.S_drew)); exact HO333.out))) (Kd.S_lt (by (with_reducible repeat (first | apply Kd.S_alloc | apply Kd.S_drewN | apply Kd.S_drew)); exact HO339.out))) (Kd.S_lt (by (with_reducible repeat (first | apply Kd.S_alloc | apply Kd.S_drewN | apply Kd.S_drew)); exact HO346.out))) (Kd.S_lt (by (with_reducible repeat (first | apply Kd.S_alloc | apply Kd.S_drewN | apply Kd.S_drew)); exact HO353.out))) (Kd.S_lt (by (with_reducible repeat (first | apply Kd.S_alloc | apply Kd.S_drewN | apply Kd.S_drew)); exact HO361.out))) (below_size (be w)))
 replace HO333 := As.mk (Kd.S_elder' (by (with_reducible repeat (first | apply Kd.S_alloc | apply Kd.S_drewN | apply Kd.S_drew)); exact HO333.out) (Kd.S_base ho0) hb)
 replace HO339 := As.mk (Kd.S_elder' (by (with_reducible repeat (first | apply Kd.S_alloc | apply Kd.S_drewN | apply Kd.S_drew)); exact HO339.out) (Kd.S_base ho0) hb)
 replace HO346 := As.mk (Kd.S_elder' (by (with_reducible repeat (first | apply Kd.S_alloc | apply Kd.S_drewN | apply Kd.S_drew)); exact HO346.out) (Kd.S_base ho0) hb)
 replace HO353 := As.mk (Kd.S_elder' (by (with_reducible repeat (first | apply Kd.S_alloc | apply Kd.S_drewN | apply Kd.S_drew)); exact HO353.out) (Kd.S_base ho0) hb)
 replace HO361 := As.mk (Kd.S_elder' (by (with_reducible repeat (first | apply Kd.S_alloc | apply Kd.S_drewN | apply Kd.S_drew)); exact HO361.out) (Kd.S_base ho0) hb)
 have HO371 := As.mk (Kd.S_lower (Kd.S_new' (Kd.S_new' (Kd.S_new' (Kd.S_new' (Kd.S_new' ho1 (Kd.S_lt (by (with_reducible repeat (first | apply Kd.S_alloc | apply Kd.S_drewN | apply Kd.S_drew)); exact HO336.out))) (Kd.S_lt (by (with_reducible repeat (first | apply Kd.S_alloc | apply Kd.S_drewN | apply Kd.S_drew)); exact HO342.out))) (Kd.S_lt (by (with_reducible repeat (first | apply Kd.S_alloc | apply Kd.S_drewN | apply Kd.S_drew)); exact HO349.out))) (Kd.S_lt (by (with_reducible repeat (first | apply Kd.S_alloc | apply Kd.S_drewN | apply Kd.S_drew)); exact HO356.out))) (Kd.S_lt (by (with_reducible repeat (first | apply Kd.S_alloc | apply Kd.S_drewN | apply Kd.S_drew)); exact HO364.out))) (below_size (be w)))
 replace HO336 := As.mk (Kd.S_elder' (by (with_reducible repeat (first | apply Kd.S_alloc | apply Kd.S_drewN | apply Kd.S_drew)); exact HO336.out) (Kd.S_base ho1) hb)
 replace HO342 := As.mk (Kd.S_elder' (by (with_reducible repeat (first | apply Kd.S_alloc | apply Kd.S_drewN | apply Kd.S_drew)); exact HO342.out) (Kd.S_base ho1) hb)
 replace HO349 := As.mk (Kd.S_elder' (by (with_reducible repeat (first | apply Kd.S_alloc | apply Kd.S_drewN | apply Kd.S_drew)); exact HO349.out) (Kd.S_base ho1) hb)
 replace HO356 := As.mk (Kd.S_elder' (by (with_reducible repeat (first | apply Kd.S_alloc | apply Kd.S_drewN | apply Kd.S_drew)); exact HO356.out) (Kd.S_base ho1) hb)
 replace HO364 := As.mk (Kd.S_elder' (by (with_reducible repeat (first | apply Kd.S_alloc | apply Kd.S_drewN | apply Kd.S_drew)); exact HO364.out) (Kd.S_base ho1) hb)
 replace BK327 := As.mk (blk_below (bx BK327.out) hb)
 replace BK328 := As.mk (blk_below (bx BK328.out) hb)
 replace BK350 := As.mk (blk_below (bx BK350.out) hb)
 replace BK357 := As.mk (blk_below (bx BK357.out) hb)
 replace HB := As.mk (below_step (be w) hb)
 (try clear hb)
 (try clear hb2)
 (try clear hk)
 (try clear hi)
 (try clear ho0)
 (try clear ho1)
 obtain ⟨Ao74, co74, eo74⟩ := Kd.S_slice HO368.out
 (first | subst eo74 | (injection eo74 with f1_ f2_ f3_; have f4_ := f1_.symm; have f5_ := f3_.symm; clear f1_ f2_ f3_; subst f4_; subst f5_))
 obtain ⟨Ao75, co75, eo75⟩ := Kd.S_slice HO371.out
 (first | subst eo75 | (injection eo75 with f1_ f2_ f3_; have f4_ := f1_.symm; have f5_ := f3_.symm; clear f1_ f2_ f3_; subst f4_; subst f5_))
 refine hK.out _ _ ⟨(blk_cell BK357.out 0).trans rfl, (blk_cell BK357.out 1).trans rfl, (blk_cell BK328.out 0).trans rfl, (blk_cell BK328.out 1).trans rfl⟩ (fun hHeld => ?_)
 clear hK K
 refine norm_ (a' := ?_) ?_ ?_
 rotate_left
 ·
  show Act.put _ (some 50) _ = _
  simp only [pk, i64_w, i32_w]
  rfl
 refine one_ (i := 3) (N := some 51) #[I, I, I, I, O] rfl rfl (by kernel_rfl) (by decide) (fun K hK => ?_)
 refine goes_ Tryd.func33 (by kernel_rfl) rfl #[.agg #[.slice Ao59 t351.length co59, .slice Ao64 t354.length co64], .agg #[.slice Ao74 t366.length co74, .slice Ao75 t369.length co75]] (by rfl) rfl rfl (by (try simp only [lm]); first | done | rfl | (simp only [List.length_drop, List.length_take]; rfl)) ?_
 with_reducible refine (laws_eqProgram.calls k _ _ t351 _ _ t354 _ _ t366 _ _ t369 true _ ?side1 ?side2 ?side3 ?side4 ?side5 ?side6 ?side7 ?side8 A31.out).mono ?_
 (case side1 => repeat (first | exact (Kd.S_reads' HO353.out).2.2 | (with_reducible refine Kd.C_alloc ?_ _) | (with_reducible refine Kd.C_drewN ?_ _) | (with_reducible refine Kd.C_drew ?_)))
 (case side2 => exact (Kd.S_reads' HO353.out).2.1)
 (case side3 => repeat (first | exact (Kd.S_reads' HO356.out).2.2 | (with_reducible refine Kd.C_alloc ?_ _) | (with_reducible refine Kd.C_drewN ?_ _) | (with_reducible refine Kd.C_drew ?_)))
 (case side4 => exact (Kd.S_reads' HO356.out).2.1)
 (case side5 => repeat (first | exact (Kd.S_reads' HO368.out).2.2 | (with_reducible refine Kd.C_alloc ?_ _) | (with_reducible refine Kd.C_drewN ?_ _) | (with_reducible refine Kd.C_drew ?_)))
 (case side6 => exact (Kd.S_reads' HO368.out).2.1)
 (case side7 => repeat (first | exact (Kd.S_reads' HO371.out).2.2 | (with_reducible refine Kd.C_alloc ?_ _) | (with_reducible refine Kd.C_drewN ?_ _) | (with_reducible refine Kd.C_drew ?_)))
 (case side8 => exact (Kd.S_reads' HO371.out).2.1)
 rintro e w76 ⟨rfl, hb⟩
 refine ⟨_, rfl, ?_⟩
 replace HO333 := As.mk (Kd.S_below (by (with_reducible repeat (first | apply Kd.S_alloc | apply Kd.S_drewN | apply Kd.S_drew)); exact HO333.out) hb)
 replace HO336 := As.mk (Kd.S_below (by (with_reducible repeat (first | apply Kd.S_alloc | apply Kd.S_drewN | apply Kd.S_drew)); exact HO336.out) hb)
 replace HO339 := As.mk (Kd.S_below (by (with_reducible repeat (first | apply Kd.S_alloc | apply Kd.S_drewN | apply Kd.S_drew)); exact HO339.out) hb)
 replace HO342 := As.mk (Kd.S_below (by (with_reducible repeat (first | apply Kd.S_alloc | apply Kd.S_drewN | apply Kd.S_drew)); exact HO342.out) hb)
 replace HO346 := As.mk (Kd.S_below (by (with_reducible repeat (first | apply Kd.S_alloc | apply Kd.S_drewN | apply Kd.S_drew)); exact HO346.out) hb)
 replace HO349 := As.mk (Kd.S_below (by (with_reducible repeat (first | apply Kd.S_alloc | apply Kd.S_drewN | apply Kd.S_drew)); exact HO349.out) hb)
 replace HO353 := As.mk (Kd.S_below (by (with_reducible repeat (first | apply Kd.S_alloc | apply Kd.S_drewN | apply Kd.S_drew)); exact HO353.out) hb)
 replace HO356 := As.mk (Kd.S_below (by (with_reducible repeat (first | apply Kd.S_alloc | apply Kd.S_drewN | apply Kd.S_drew)); exact HO356.out) hb)
 replace HO361 := As.mk (Kd.S_below (by (with_reducible repeat (first | apply Kd.S_alloc | apply Kd.S_drewN | apply Kd.S_drew)); exact HO361.out) hb)
 replace HO364 := As.mk (Kd.S_below (by (with_reducible repeat (first | apply Kd.S_alloc | apply Kd.S_drewN | apply Kd.S_drew)); exact HO364.out) hb)
 replace HO368 := As.mk (Kd.S_below (by (with_reducible repeat (first | apply Kd.S_alloc | apply Kd.S_drewN | apply Kd.S_drew)); exact HO368.out) hb)
 replace HO371 := As.mk (Kd.S_below (by (with_reducible repeat (first | apply Kd.S_alloc | apply Kd.S_drewN | apply Kd.S_drew)); exact HO371.out) hb)
 replace BK327 := As.mk (blk_below (bx BK327.out) hb)
 replace BK328 := As.mk (blk_below (bx BK328.out) hb)
 replace BK350 := As.mk (blk_below (bx BK350.out) hb)
 replace BK357 := As.mk (blk_below (bx BK357.out) hb)
 replace HB := As.mk (below_step (be w) hb)
 (try clear hb)
 (try clear hb2)
 (try clear hk)
 (try clear hi)
 refine hK.out _ _ ⟨(blk_cell BK357.out 0).trans rfl, (blk_cell BK357.out 1).trans rfl, (blk_cell BK328.out 0).trans rfl, (blk_cell BK328.out 1).trans rfl⟩ (fun hHeld => ?_)
 clear hK K
 refine norm_ (a' := ?_) ?_ ?_
 rotate_left
 ·
  show Act.put _ (some 51) _ = _
  simp only [pk, i64_w, i32_w]
  rfl
 refine pure_ (i := 4) (N := some 52) (v := ?_) (a' := ?_) #[I, I, I, I, I] rfl rfl (by kernel_rfl) (fun _ _ _ h => h) (Or.inl ⟨by rfl, ?_⟩) ?_ ?_
 rotate_left
 ·
  intro w'
  go_simp
  with_reducible rfl
 rotate_left
 ·
  simp only [pk, i64_w, i32_w]
  rfl
 refine done_ (by kernel_rfl) ?_
 try go_wp2
 go_ret
 exact ⟨by first | rfl | (simp [errW_none, errW_some] <;> rfl) | (simp [*, errW_none, errW_some] <;> rfl), be w⟩
end Go.Proofs.YtmdpggibcjkfoaaDoor.PFnExactSameTree
