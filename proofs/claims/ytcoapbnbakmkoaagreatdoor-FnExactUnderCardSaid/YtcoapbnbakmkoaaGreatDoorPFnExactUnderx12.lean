/- Written by a program of this session (a turned copy of the kit's print): a contract for each Go function. No condition beside those in each statement. -/
import Derived.Test.YtcoapbnbakmkoaaGreatDoorPFnExactUnderx0
import Derived.Test.YtcoapbnbakmkoaaGreatDoorPFnExactUnderx11
import Derived.Test.YtcoapbnbakmkoaaGreatDoorPFnExactUnderx1
import Derived.Test.YtcoapbnbakmkoaaGreatDoorPFnExactUnderx2
import Derived.Test.YtcoapbnbakmkoaaGreatDoorPFnExactUnderx3
import Derived.Test.YtcoapbnbakmkoaaGreatDoorPFnExactUnderx7
import Derived.Test.YtcoapbnbakmkoaaGreatDoorPFnExactUnderx10
namespace Go.Proofs.YtcoapbnbakmkoaaGreatDoor.PFnExactUnder
open Go.RowKit Go.Proofs.YtcoapbnbakmkoaaGreatDoor.Given Go.Proofs.YtcoapbnbakmkoaaGreatDoorW.PrintWords Go.Proofs.YtcoapbnbakmkoaaGreatDoorW.PrintLast Go.Proofs.YtcoapbnbakmkoaaGreatDoorW.PrintMore
attribute [local go_sem] max2_int min2_int max_two min_two max_three min_three max_four min_four   -- for this text's walks alone
set_option linter.unusedVariables false
set_option linter.unusedSimpArgs false

/-! ### laws_FnExactUnder: function 7 -/
def laws_FnExactUnder.j0 : Nat → Int → List Int → List Int → Bool → List (S80) → List (S84) → Option (Bool)
 | 0, _, _, _, _, _, _ => none
 | k + 1, x1, x6, x8, x46, x339000, x339001 => if x46 = true then (some false) else ((laws_markIntS.f k x8 1).bind fun bt369 => ((laws_heldIntS.f k bt369.2 1).bind fun t371 => (if t371 < 0 then (some false) else (if t371 = bt369.1 then ((laws_toProgram.f k x339000 x339001).bind fun bt372 => ((impl_Under.f k bt372.1 bt372.2 x1).bind fun t378 => ((laws_eqIntS.f k t378 x6).bind fun t381 => (if t381 = true then ((laws_heldIntS.f k bt369.2 1).bind fun t382 => (if t382 < 0 then (some false) else (if t382 = bt369.1 then (some true) else (some false)))) else (some false))))) else (some false)))))
def laws_FnExactUnder.f (k : Nat) (l0_0 : List (S80)) (l0_1 : List (S84)) (a1 : Int) : Option (Bool) := (laws_szProgram.f k l0_0 l0_1 1048576).bind fun t339 => (if t339 < 0 then (some true) else ((laws_toProgram.f k l0_0 l0_1).bind fun bt340 => ((spec_Under.f k bt340.1 bt340.2 a1).bind fun t346 => ((laws_toProgram.f k l0_0 l0_1).bind fun bt349 => ((impl_Under.f k bt349.1 bt349.2 a1).bind fun t356 => ((laws_eqIntS.f k t356 t346).bind fun t359 => (if t359 = true then ((laws_toProgram.f k l0_0 l0_1).bind fun bt360 => ((laws_eqProgram.f k bt349.1 bt349.2 bt360.1 bt360.2).bind fun t366 => (if t366 = true then ((laws_markProgram.f bt349.1 bt349.2 1).bind fun t367 => (if t367 < 0 then (laws_FnExactUnder.j0 k a1 t346 t356 true l0_0 l0_1) else ((laws_eqIntS.f k t356 t346).bind fun t368 => (laws_FnExactUnder.j0 k a1 t346 t356 (!t368) l0_0 l0_1)))) else (some false)))) else (some false))))))))
theorem laws_FnExactUnder.mono_l : ∀ k, (∀ y0 y1 y2 y3 y4 y5, LeO (laws_FnExactUnder.j0 k y0 y1 y2 y3 y4 y5) (laws_FnExactUnder.j0 (k + 1) y0 y1 y2 y3 y4 y5))
 | 0 => fun _ _ _ _ _ _ r h => by simp [laws_FnExactUnder.j0] at h
 | k + 1 => by
  have ih0 := laws_FnExactUnder.mono_l k
  ·
   intro y0 y1 y2 y3 y4 y5
   unfold laws_FnExactUnder.j0
   with_reducible repeat' first | exact ih0 _ _ _ _ _ _ | exact impl_Under.mono _ _ _ _ | exact laws_eqIntS.mono _ _ _ | exact laws_eqProgram.mono _ _ _ _ _ | exact laws_heldIntS.mono _ _ _ | exact laws_markIntS.mono _ _ _ | exact laws_szProgram.mono _ _ _ _ | exact laws_toProgram.mono _ _ _ | exact spec_Under.mono _ _ _ _ | exact LeO.refl _ | exact LeO.none _ | refine LeO.ite ?_ ?_ | refine LeO.bind ?_ (fun _ => ?_)
theorem laws_FnExactUnder.mono : ∀ a0 a1 a2 k, LeO (laws_FnExactUnder.f k a0 a1 a2) (laws_FnExactUnder.f (k + 1) a0 a1 a2) := by
 intro a0 a1 a2 k
 have ih0 := laws_FnExactUnder.mono_l k
 unfold laws_FnExactUnder.f
 with_reducible repeat' first | exact ih0 _ _ _ _ _ _ | exact impl_Under.mono _ _ _ _ | exact laws_eqIntS.mono _ _ _ | exact laws_eqProgram.mono _ _ _ _ _ | exact laws_heldIntS.mono _ _ _ | exact laws_markIntS.mono _ _ _ | exact laws_szProgram.mono _ _ _ _ | exact laws_toProgram.mono _ _ _ | exact spec_Under.mono _ _ _ _ | exact LeO.refl _ | exact LeO.none _ | refine LeO.ite ?_ ?_ | refine LeO.bind ?_ (fun _ => ?_)
set_option maxHeartbeats 8000000 in
set_option maxRecDepth 100000 in
theorem laws_FnExactUnder.calls (k : Nat) (A0_0 : Option Addr) (c0_0 : Nat) (l0_0 : List (S80)) (A0_1 : Option Addr) (c0_1 : Nat) (l0_1 : List (S84)) (a1 : Int) (r : Bool) (w : World) (hr0_0 : Kd.C k80 w A0_0 l0_0.length l0_0) (hc0_0 : l0_0.length ≤ c0_0) (hr0_1 : Kd.C k84 w A0_1 l0_1.length l0_1) (hc0_1 : l0_1.length ≤ c0_1) (hrt : As (r = true)) (h : laws_FnExactUnder.f k l0_0 l0_1 a1 = some r) :
  Calls Tryz.prog 7 #[.agg #[.slice A0_0 l0_0.length c0_0, .slice A0_1 l0_1.length c0_1], .int .i64 a1] w fun e w' => e = .returned (.bool r) ∧ Below w.heap.size w w' := by
 have hu25 := Tryz.underlying25
 have hu32 := Tryz.underlying32
 have HR0_0 := As.mk hr0_0
 have HC0_0 := As.mk hc0_0
 clear hr0_0 hc0_0
 have HR0_1 := As.mk hr0_1
 have HC0_1 := As.mk hc0_1
 clear hr0_1 hc0_1
 have HB := As.mk (Below.refl w.heap.size w)
 have H : ((laws_szProgram.f k l0_0 l0_1 1048576).bind fun t339 => (if t339 < 0 then (some true) else ((laws_toProgram.f k l0_0 l0_1).bind fun bt340 => ((spec_Under.f k bt340.1 bt340.2 a1).bind fun t346 => ((laws_toProgram.f k l0_0 l0_1).bind fun bt349 => ((impl_Under.f k bt349.1 bt349.2 a1).bind fun t356 => ((laws_eqIntS.f k t356 t346).bind fun t359 => (if t359 = true then ((laws_toProgram.f k l0_0 l0_1).bind fun bt360 => ((laws_eqProgram.f k bt349.1 bt349.2 bt360.1 bt360.2).bind fun t366 => (if t366 = true then ((laws_markProgram.f bt349.1 bt349.2 1).bind fun t367 => (if t367 < 0 then (laws_FnExactUnder.j0 k a1 t346 t356 true l0_0 l0_1) else ((laws_eqIntS.f k t356 t346).bind fun t368 => (laws_FnExactUnder.j0 k a1 t346 t356 (!t368) l0_0 l0_1)))) else (some false)))) else (some false))))))))) = some r := h
 clear h
 obtain ⟨t339, A30, H⟩ := Option.bind_eq_some_iff.mp H
 try dsimp only at H
 have A3 := As.mk A30
 clear A30
 by_cases c4 : t339 < 0
 ·
  rw [if_pos c4] at H
  have c4b0 : decide (t339 < 0) = true := decide_eq_true c4
  clear c4
  obtain rfl := Option.some.inj H
  go_enter Tryz.func7, Tryz.ntmps7
  go_wp2_with (first | ((with_reducible refine gate_dst (N := 2) rfl ?_); refine box_event ?hg (N := 2) ?hd (cs := #[.slice A0_0 l0_0.length c0_0, .slice A0_1 l0_1.length c0_1]) (t := 25) ?hr ?_; (case hd => rfl); (case hg => rfl); (case hr => first | (go_simp; done) | (go_simp; rfl)); intro gb338 hg w5 hbox hb; have BK338 := As.mk (hbox); have GW338 := As.mk (gs w hg); have GE338 := As.mk (gs w hg); replace HB := As.mk (below_step (be w) hb); clear hb hbox hg; obtain ⟨hcz6_0, hcz6_1, hfz6_0, hfz6_1⟩ := cl2 BK338.out) | ((with_reducible refine gate_callee (f := 9) rfl ?_); refine goesL_ (some 15) rfl rfl Tryz.func9 (by kernel_rfl) rfl #[.agg #[.slice A0_0 l0_0.length c0_0, .slice A0_1 l0_1.length c0_1], .int .i64 1048576] rfl (by (try simp only [lm]); first | done | rfl | (simp only [List.length_drop, List.length_take]; rfl)) ?_; (with_reducible refine (laws_szProgram.calls k _ _ l0_0 _ _ l0_1 1048576 t339 _ ?side1 ?side2 ?side3 ?side4 A3.out).mono ?_); (case side1 => exact Kd.C_below HR0_0.out (be w)); (case side2 => exact HC0_0.out); (case side3 => exact Kd.C_below HR0_1.out (be w)); (case side4 => exact HC0_1.out); rintro e w7 ⟨rfl, hb⟩; refine ⟨_, rfl, ?_⟩; replace HB := As.mk (below_step (be w) hb); (try clear hb); (try clear hb2); (try clear hk); (try clear hi)))
  go_ret
  exact ⟨ez, be w⟩
 rw [if_neg c4] at H
 have c4b0 : decide (t339 < 0) = false := decide_eq_false c4
 clear c4
 obtain ⟨⟨t340, t343⟩, A80, H⟩ := Option.bind_eq_some_iff.mp H
 try dsimp only at H
 have A8 := As.mk A80
 clear A80
 obtain ⟨t346, A90, H⟩ := Option.bind_eq_some_iff.mp H
 try dsimp only at H
 have A9 := As.mk A90
 clear A90
 obtain ⟨⟨t349, t352⟩, A100, H⟩ := Option.bind_eq_some_iff.mp H
 try dsimp only at H
 have A10 := As.mk A100
 clear A100
 obtain ⟨t356, A110, H⟩ := Option.bind_eq_some_iff.mp H
 try dsimp only at H
 have A11 := As.mk A110
 clear A110
 obtain ⟨t359, A120, H⟩ := Option.bind_eq_some_iff.mp H
 try dsimp only at H
 have A12 := As.mk A120
 clear A120
 by_cases c13 : t359 = true
 rotate_left
 ·
  replace c13 := Bool.eq_false_iff.mpr c13
  subst c13
  rw [if_neg (show ¬ (false = true) by decide)] at H
  exact absurd H (by rw [hrt.out]; simp)

 subst c13
 rw [if_pos rfl] at H
 obtain ⟨⟨t360, t363⟩, A140, H⟩ := Option.bind_eq_some_iff.mp H
 try dsimp only at H
 have A14 := As.mk A140
 clear A140
 obtain ⟨t366, A150, H⟩ := Option.bind_eq_some_iff.mp H
 try dsimp only at H
 have A15 := As.mk A150
 clear A150
 by_cases c16 : t366 = true
 rotate_left
 ·
  replace c16 := Bool.eq_false_iff.mpr c16
  subst c16
  rw [if_neg (show ¬ (false = true) by decide)] at H
  exact absurd H (by rw [hrt.out]; simp)
 subst c16
 rw [if_pos rfl] at H
 obtain ⟨t367, A170, H⟩ := Option.bind_eq_some_iff.mp H
 try dsimp only at H
 have A17 := As.mk A170
 clear A170
 have HC18 := As.mk H
 clear H
 go_enter Tryz.func7, Tryz.ntmps7
 try go_wp2_with (first | ((with_reducible refine gate_dst (N := 2) rfl ?_); refine box_event ?hg (N := 2) ?hd (cs := #[.slice A0_0 l0_0.length c0_0, .slice A0_1 l0_1.length c0_1]) (t := 25) ?hr ?_; (case hd => rfl); (case hg => rfl); (case hr => first | (go_simp; done) | (go_simp; rfl)); intro gb338 hg w19 hbox hb; have BK338 := As.mk (hbox); have GW338 := As.mk (gs w hg); have GE338 := As.mk (gs w hg); replace HB := As.mk (below_step (be w) hb); clear hb hbox hg; obtain ⟨hcz20_0, hcz20_1, hfz20_0, hfz20_1⟩ := cl2 BK338.out) | ((with_reducible refine gate_callee (f := 9) rfl ?_); refine goesL_ (some 15) rfl rfl Tryz.func9 (by kernel_rfl) rfl #[.agg #[.slice A0_0 l0_0.length c0_0, .slice A0_1 l0_1.length c0_1], .int .i64 1048576] rfl (by (try simp only [lm]); first | done | rfl | (simp only [List.length_drop, List.length_take]; rfl)) ?_; (with_reducible refine (laws_szProgram.calls k _ _ l0_0 _ _ l0_1 1048576 t339 _ ?side1 ?side2 ?side3 ?side4 A3.out).mono ?_); (case side1 => exact Kd.C_below HR0_0.out (be w)); (case side2 => exact HC0_0.out); (case side3 => exact Kd.C_below HR0_1.out (be w)); (case side4 => exact HC0_1.out); rintro e w21 ⟨rfl, hb⟩; refine ⟨_, rfl, ?_⟩; replace BK338 := As.mk (blk_below (bx BK338.out) hb); replace HB := As.mk (below_step (be w) hb); (try clear hb); (try clear hb2); (try clear hk); (try clear hi); obtain ⟨hcz22_0, hcz22_1, hfz22_0, hfz22_1⟩ := cl2 BK338.out) | ((with_reducible refine gate_callee (f := 11) rfl ?_); refine goesL_ (some 19) rfl rfl Tryz.func11 (by kernel_rfl) rfl #[.agg #[.slice A0_0 l0_0.length c0_0, .slice A0_1 l0_1.length c0_1]] rfl (by (try simp only [lm]); first | done | rfl | (simp only [List.length_drop, List.length_take]; rfl)) ?_; (with_reducible refine (laws_toProgram.calls k _ _ l0_0 _ _ l0_1 t340 t343 _ ?side1 ?side2 ?side3 ?side4 A8.out).mono ?_); (case side1 => exact Kd.C_below HR0_0.out (be w)); (case side2 => exact HC0_0.out); (case side3 => exact Kd.C_below HR0_1.out (be w)); (case side4 => exact HC0_1.out); rintro e w23 ⟨v341, v344, rfl, ho0, ho1, hb⟩; refine ⟨_, rfl, ?_⟩; have HO342 := As.mk (Kd.S_lower ho0 (below_size (be w))); have HO345 := As.mk (Kd.S_lower ho1 (below_size (be w))); replace BK338 := As.mk (blk_below (bx BK338.out) hb); replace HB := As.mk (below_step (be w) hb); (try clear hb); (try clear hb2); (try clear hk); (try clear hi); (try clear ho0); (try clear ho1); obtain ⟨Ao24, co24, eo24⟩ := Kd.S_slice HO342.out; subst eo24; obtain ⟨Ao25, co25, eo25⟩ := Kd.S_slice HO345.out; subst eo25) | ((with_reducible refine gate_callee (f := 24) rfl ?_); refine goesL_ (some 21) rfl rfl Tryz.func24 (by kernel_rfl) rfl #[.agg #[.slice Ao24 t340.length co24, .slice Ao25 t343.length co25], .int .i64 a1] rfl (by (try simp only [lm]); first | done | rfl | (simp only [List.length_drop, List.length_take]; rfl)) ?_; (with_reducible refine (spec_Under.calls k _ _ t340 _ _ t343 a1 t346 _ ?side1 ?side2 ?side3 ?side4 A9.out).mono ?_); (case side1 => repeat (first | exact (Kd.S_reads' HO342.out).2.2 | (with_reducible refine Kd.C_alloc ?_ _) | (with_reducible refine Kd.C_drewN ?_ _) | (with_reducible refine Kd.C_drew ?_))); (case side2 => exact (Kd.S_reads' HO342.out).2.1); (case side3 => repeat (first | exact (Kd.S_reads' HO345.out).2.2 | (with_reducible refine Kd.C_alloc ?_ _) | (with_reducible refine Kd.C_drewN ?_ _) | (with_reducible refine Kd.C_drew ?_))); (case side4 => exact (Kd.S_reads' HO345.out).2.1); rintro e w26 ⟨v347, rfl, ho0, hb⟩; refine ⟨_, rfl, ?_⟩; replace HO342 := As.mk (Kd.S_elder' (by (with_reducible repeat (first | apply Kd.S_alloc | apply Kd.S_drewN | apply Kd.S_drew)); exact HO342.out) (Kd.R_base ho0) hb); replace HO345 := As.mk (Kd.S_below (by (with_reducible repeat (first | apply Kd.S_alloc | apply Kd.S_drewN | apply Kd.S_drew)); exact HO345.out) hb); have HO348 := As.mk (Kd.R_lower ho0 (below_size (be w))); replace BK338 := As.mk (blk_below (bx BK338.out) hb); replace HB := As.mk (below_step (be w) hb); (try clear hb); (try clear hb2); (try clear hk); (try clear hi); (try clear ho0); obtain ⟨hcz27_0, hcz27_1, hfz27_0, hfz27_1⟩ := cl2 BK338.out) | ((with_reducible refine gate_callee (f := 11) rfl ?_); refine goesL_ (some 23) rfl rfl Tryz.func11 (by kernel_rfl) rfl #[.agg #[.slice A0_0 l0_0.length c0_0, .slice A0_1 l0_1.length c0_1]] rfl (by (try simp only [lm]); first | done | rfl | (simp only [List.length_drop, List.length_take]; rfl)) ?_; (with_reducible refine (laws_toProgram.calls k _ _ l0_0 _ _ l0_1 t349 t352 _ ?side1 ?side2 ?side3 ?side4 A10.out).mono ?_); (case side1 => exact Kd.C_below HR0_0.out (be w)); (case side2 => exact HC0_0.out); (case side3 => exact Kd.C_below HR0_1.out (be w)); (case side4 => exact HC0_1.out); rintro e w28 ⟨v350, v353, rfl, ho0, ho1, hb⟩; refine ⟨_, rfl, ?_⟩; have HO351 := As.mk (Kd.S_lower (Kd.S_new' (Kd.S_new' ho0 (Kd.S_lt (by (with_reducible repeat (first | apply Kd.S_alloc | apply Kd.S_drewN | apply Kd.S_drew)); exact HO342.out))) (Kd.R_lt (by (with_reducible repeat (first | apply Kd.R_alloc | apply Kd.R_drewN | apply Kd.R_drew)); exact HO348.out))) (below_size (be w))); replace HO342 := As.mk (Kd.S_elder' (by (with_reducible repeat (first | apply Kd.S_alloc | apply Kd.S_drewN | apply Kd.S_drew)); exact HO342.out) (Kd.S_base ho0) hb); replace HO348 := As.mk (Kd.R_below (by (with_reducible repeat (first | apply Kd.R_alloc | apply Kd.R_drewN | apply Kd.R_drew)); exact HO348.out) hb); have HO354 := As.mk (Kd.S_lower (Kd.S_new' ho1 (Kd.S_lt (by (with_reducible repeat (first | apply Kd.S_alloc | apply Kd.S_drewN | apply Kd.S_drew)); exact HO345.out))) (below_size (be w))); replace HO345 := As.mk (Kd.S_elder' (by (with_reducible repeat (first | apply Kd.S_alloc | apply Kd.S_drewN | apply Kd.S_drew)); exact HO345.out) (Kd.S_base ho1) hb); replace BK338 := As.mk (blk_below (bx BK338.out) hb); replace HB := As.mk (below_step (be w) hb); (try clear hb); (try clear hb2); (try clear hk); (try clear hi); (try clear ho0); (try clear ho1)) | ((with_reducible refine gate_dst (N := 7) rfl ?_); refine box_event ?hg (N := 7) ?hd (cs := #[.slice none 0 0, .slice none 0 0]) (t := 32) ?hr ?_; (case hd => rfl); (case hg => rfl); (case hr => first | (go_simp; done) | (go_simp; rfl)); intro gb355 hg w29 hbox hb; replace HO342 := As.mk (Kd.S_below (by (with_reducible repeat (first | apply Kd.S_alloc | apply Kd.S_drewN | apply Kd.S_drew)); exact HO342.out) hb); replace HO345 := As.mk (Kd.S_below (by (with_reducible repeat (first | apply Kd.S_alloc | apply Kd.S_drewN | apply Kd.S_drew)); exact HO345.out) hb); replace HO348 := As.mk (Kd.R_below (by (with_reducible repeat (first | apply Kd.R_alloc | apply Kd.R_drewN | apply Kd.R_drew)); exact HO348.out) hb); replace HO351 := As.mk (Kd.S_below (by (with_reducible repeat (first | apply Kd.S_alloc | apply Kd.S_drewN | apply Kd.S_drew)); exact HO351.out) hb); replace HO354 := As.mk (Kd.S_below (by (with_reducible repeat (first | apply Kd.S_alloc | apply Kd.S_drewN | apply Kd.S_drew)); exact HO354.out) hb); have BK355 := As.mk (hbox); have GW355 := As.mk (gs w hg); have GE355 := As.mk (gs w hg); replace HB := As.mk (below_step (be w) hb); have NB338_355 := As.mk (nl hg (bx BK338.out)); have NB355_338 := As.mk (ng hg (bx BK338.out)); replace BK338 := As.mk (blk_below (bx BK338.out) hb); clear hb hbox hg; obtain ⟨Ao30, co30, eo30⟩ := Kd.S_slice HO351.out; subst eo30; have hnb31 := NB355_338.out; have hnc31 := NB338_355.out; obtain ⟨hcz32_0, hcz32_1, hfz32_0, hfz32_1⟩ := cl2 BK355.out; obtain ⟨Ao33, co33, eo33⟩ := Kd.S_slice HO354.out; subst eo33) | ((with_reducible refine gate_callee (f := 25) rfl ?_); refine goesL_ (some 26) rfl rfl Tryz.func25 (by kernel_rfl) rfl #[.agg #[.slice Ao30 t349.length co30, .slice Ao33 t352.length co33], .int .i64 a1] rfl (by (try simp only [lm]); first | done | rfl | (simp only [List.length_drop, List.length_take]; rfl)) ?_; (with_reducible refine (impl_Under.calls k _ _ t349 _ _ t352 a1 t356 _ ?side1 ?side2 ?side3 ?side4 A11.out).mono ?_); (case side1 => refine (Kd.S_reads' (e := 62) (base := w.heap.size) (ok := fun k_ => ((True ∧ some k_ ≠ (.slice Ao24 t340.length co24 : Value).ownBlock) ∧ some k_ ≠ (v347 : Value).ownBlock)) (n := t349.length) (c := co30) ?_).2.2; exact (by (with_reducible repeat (first | apply Kd.S_alloc | apply Kd.S_drewN | apply Kd.S_drew)); exact (Kd.S_mono (Kd.S_far (p := ⟨gb355, 1, none⟩) (Kd.S_far (p := ⟨gb355, 0, none⟩) (Kd.S_types HO351.out BK355.out (by decide)) (fun _ hk => hk.2) (.slice Ao30 t349.length co30)) (fun _ hk => hk.2) (.slice Ao33 t352.length co33)) (fun _ h_ => h_.1)))); (case side2 => exact (Kd.S_reads' HO351.out).2.1); (case side3 => refine (Kd.S_reads' (e := 56) (base := w.heap.size) (ok := fun k_ => (True ∧ some k_ ≠ (.slice Ao25 t343.length co25 : Value).ownBlock)) (n := t352.length) (c := co33) ?_).2.2; exact (by (with_reducible repeat (first | apply Kd.S_alloc | apply Kd.S_drewN | apply Kd.S_drew)); exact (Kd.S_mono (Kd.S_far (p := ⟨gb355, 1, none⟩) (Kd.S_far (p := ⟨gb355, 0, none⟩) (Kd.S_types HO354.out BK355.out (by decide)) (fun _ hk => hk.2) (.slice Ao30 t349.length co30)) (fun _ hk => hk.2) (.slice Ao33 t352.length co33)) (fun _ h_ => h_.1)))); (case side4 => exact (Kd.S_reads' HO354.out).2.1); rintro e w34 ⟨v357, rfl, ho0, hb⟩; refine ⟨_, rfl, ?_⟩; replace HO342 := As.mk (Kd.S_elder' (by (with_reducible repeat (first | apply Kd.S_alloc | apply Kd.S_drewN | apply Kd.S_drew)); exact (Kd.S_mono (Kd.S_far (p := ⟨gb355, 1, none⟩) (Kd.S_far (p := ⟨gb355, 0, none⟩) (Kd.S_types HO342.out BK355.out (by decide)) (fun _ hk => hk.2) (.slice Ao30 t349.length co30)) (fun _ hk => hk.2) (.slice Ao33 t352.length co33)) (fun _ h_ => h_.1))) (Kd.R_base ho0) hb); replace HO345 := As.mk (Kd.S_below (by (with_reducible repeat (first | apply Kd.S_alloc | apply Kd.S_drewN | apply Kd.S_drew)); exact (Kd.S_mono (Kd.S_far (p := ⟨gb355, 1, none⟩) (Kd.S_far (p := ⟨gb355, 0, none⟩) (Kd.S_types HO345.out BK355.out (by decide)) (fun _ hk => hk.2) (.slice Ao30 t349.length co30)) (fun _ hk => hk.2) (.slice Ao33 t352.length co33)) (fun _ h_ => h_.1))) hb); replace HO351 := As.mk (Kd.S_elder' (by (with_reducible repeat (first | apply Kd.S_alloc | apply Kd.S_drewN | apply Kd.S_drew)); exact (Kd.S_mono (Kd.S_far (p := ⟨gb355, 1, none⟩) (Kd.S_far (p := ⟨gb355, 0, none⟩) (Kd.S_types HO351.out BK355.out (by decide)) (fun _ hk => hk.2) (.slice Ao30 t349.length co30)) (fun _ hk => hk.2) (.slice Ao33 t352.length co33)) (fun _ h_ => h_.1))) (Kd.R_base ho0) hb); replace HO354 := As.mk (Kd.S_below (by (with_reducible repeat (first | apply Kd.S_alloc | apply Kd.S_drewN | apply Kd.S_drew)); exact (Kd.S_mono (Kd.S_far (p := ⟨gb355, 1, none⟩) (Kd.S_far (p := ⟨gb355, 0, none⟩) (Kd.S_types HO354.out BK355.out (by decide)) (fun _ hk => hk.2) (.slice Ao30 t349.length co30)) (fun _ hk => hk.2) (.slice Ao33 t352.length co33)) (fun _ h_ => h_.1))) hb); have HO358 := As.mk (Kd.R_lower (Kd.R_new' ho0 (Kd.R_lt (by (with_reducible repeat (first | apply Kd.R_alloc | apply Kd.R_drewN | apply Kd.R_drew)); (have z_ := R_far2 HO348.out BK355.out (by decide)); with_reducible exact z_ _ _))) (below_size (be w))); replace HO348 := As.mk (Kd.R_elder' (by (with_reducible repeat (first | apply Kd.R_alloc | apply Kd.R_drewN | apply Kd.R_drew)); (have z_ := R_far2 HO348.out BK355.out (by decide)); with_reducible exact z_ _ _) (Kd.R_base ho0) hb); replace BK338 := As.mk (blk_below (g := gb338) (o := .cells #[.slice A0_0 l0_0.length c0_0, .slice A0_1 l0_1.length c0_1] 25 (0, 0)) (by refine pl ?_; refine blk_far ?_ NB338_355.out _; refine pl ?_; refine blk_far ?_ NB338_355.out _; exact bx BK338.out) hb); replace BK355 := As.mk (blk_below (g := gb355) (o := .cells #[.slice Ao30 t349.length co30, .slice Ao33 t352.length co33] 32 (0, 0)) (by refine pl ?_; refine blk_put (cs := #[.slice Ao30 t349.length co30, .slice none 0 0]) ?_ 1 _ rfl; refine pl ?_; refine blk_put (cs := #[.slice none 0 0, .slice none 0 0]) ?_ 0 _ rfl; exact bx BK355.out) hb); replace HB := As.mk (below_step (be w) hb); (try clear hb); (try clear hb2); (try clear hk); (try clear hi); (try clear ho0); obtain ⟨Ao35, co35, eo35⟩ := Kd.R_slice HO358.out; subst eo35; obtain ⟨Ao36, co36, eo36⟩ := Kd.R_slice HO348.out; subst eo36) | ((with_reducible refine gate_callee (f := 26) rfl ?_); refine goesL_ (some 29) rfl rfl Tryz.func26 (by kernel_rfl) rfl #[.slice Ao35 t356.length co35, .slice Ao36 t346.length co36] rfl (by (try simp only [lm]); first | done | rfl | (simp only [List.length_drop, List.length_take]; rfl)) ?_; (with_reducible refine (laws_eqIntS.calls k _ _ t356 _ _ t346 true _ ?side1 ?side2 ?side3 ?side4 A12.out).mono ?_); (case side1 => repeat (first | exact (Kd.R_reads' HO358.out).2.2 | (with_reducible refine Kd.C_alloc ?_ _) | (with_reducible refine Kd.C_drewN ?_ _) | (with_reducible refine Kd.C_drew ?_))); (case side2 => exact (Kd.R_reads' HO358.out).2.1); (case side3 => repeat (first | exact (Kd.R_reads' HO348.out).2.2 | (with_reducible refine Kd.C_alloc ?_ _) | (with_reducible refine Kd.C_drewN ?_ _) | (with_reducible refine Kd.C_drew ?_))); (case side4 => exact (Kd.R_reads' HO348.out).2.1); rintro e w' ⟨rfl, ⟨nd, rfl⟩⟩; refine ⟨_, rfl, ?_⟩))
 (try (rw [drewN_self w34]; generalize hq_ : World.drewN w34 _ = w34; have n0_ : As (Kd.S k62 62 w34 w.heap.size (fun k_ => some k_ ≠ (.slice Ao36 t346.length co36 : Value).ownBlock ∧ some k_ ≠ (.slice Ao30 t349.length co30 : Value).ownBlock ∧ some k_ ≠ (.slice Ao35 t356.length co35 : Value).ownBlock) (.slice Ao24 t340.length co24) t340) := ⟨by rw [← hq_]; exact (by (with_reducible repeat (first | apply Kd.S_alloc | apply Kd.S_drewN | apply Kd.S_drew)); exact Kd.S_mono HO342.out (fun _ hk => ⟨hk.1.1.2, ⟨hk.1.2, hk.2⟩⟩))⟩; have n1_ : As (Kd.S k56 56 w34 w.heap.size (fun k_ => some k_ ≠ (.slice Ao33 t352.length co33 : Value).ownBlock) (.slice Ao25 t343.length co25) t343) := ⟨by rw [← hq_]; exact (by (with_reducible repeat (first | apply Kd.S_alloc | apply Kd.S_drewN | apply Kd.S_drew)); exact Kd.S_mono HO345.out (fun _ hk => hk.2))⟩; have n2_ : As (Kd.R (Kd.int .i64) 3 w34 w.heap.size (fun k_ => some k_ ≠ (.slice Ao35 t356.length co35 : Value).ownBlock) (.slice Ao36 t346.length co36) t346) := ⟨by rw [← hq_]; exact (by (with_reducible repeat (first | apply Kd.R_alloc | apply Kd.R_drewN | apply Kd.R_drew)); exact Kd.R_mono HO348.out (fun _ hk => hk.2))⟩; have n3_ : As (Kd.S k62 62 w34 w.heap.size (fun k_ => some k_ ≠ (.slice Ao24 t340.length co24 : Value).ownBlock ∧ some k_ ≠ (.slice Ao36 t346.length co36 : Value).ownBlock ∧ some k_ ≠ (.slice Ao35 t356.length co35 : Value).ownBlock) (.slice Ao30 t349.length co30) t349) := ⟨by rw [← hq_]; exact (by (with_reducible repeat (first | apply Kd.S_alloc | apply Kd.S_drewN | apply Kd.S_drew)); exact Kd.S_mono HO351.out (fun _ hk => ⟨hk.1.1.2, ⟨hk.1.2, hk.2⟩⟩))⟩; have n4_ : As (Kd.S k56 56 w34 w.heap.size (fun k_ => some k_ ≠ (.slice Ao25 t343.length co25 : Value).ownBlock) (.slice Ao33 t352.length co33) t352) := ⟨by rw [← hq_]; exact (by (with_reducible repeat (first | apply Kd.S_alloc | apply Kd.S_drewN | apply Kd.S_drew)); exact Kd.S_mono HO354.out (fun _ hk => hk.2))⟩; have n5_ : As (Kd.R (Kd.int .i64) 3 w34 w.heap.size (fun k_ => some k_ ≠ (.slice Ao36 t346.length co36 : Value).ownBlock) (.slice Ao35 t356.length co35) t356) := ⟨by rw [← hq_]; exact (by (with_reducible repeat (first | apply Kd.R_alloc | apply Kd.R_drewN | apply Kd.R_drew)); exact Kd.R_mono HO358.out (fun _ hk => hk.2))⟩; have n6_ : As (w34.heap[gb338]? = some (.cells #[.slice A0_0 l0_0.length c0_0, .slice A0_1 l0_1.length c0_1] 25 (0, 0))) := ⟨by rw [← hq_]; exact (bx BK338.out)⟩; have n7_ : As (w34.heap[gb355]? = some (.cells #[.slice Ao30 t349.length co30, .slice Ao33 t352.length co33] 32 (0, 0))) := ⟨by rw [← hq_]; exact (bx BK355.out)⟩; have n8_ : As (Below w.heap.size w w34) := ⟨by rw [← hq_]; exact (be w)⟩; clear HO342 HO345 HO348 HO351 HO354 HO358 BK338 BK355 HB hq_; have HO342 := n0_; have HO345 := n1_; have HO348 := n2_; have HO351 := n3_; have HO354 := n4_; have HO358 := n5_; have BK338 := n6_; have BK355 := n7_; have HB := n8_; clear n0_ n1_ n2_ n3_ n4_ n5_ n6_ n7_ n8_))
 replace HO342 := As.mk (Kd.S_drew HO342.out)
 replace HO345 := As.mk (Kd.S_drew HO345.out)
 replace HO348 := As.mk (Kd.R_drew HO348.out)
 replace HO351 := As.mk (Kd.S_drew HO351.out)
 replace HO354 := As.mk (Kd.S_drew HO354.out)
 replace HO358 := As.mk (Kd.R_drew HO358.out)
 replace BK338 := As.mk (blk_drew BK338.out)
 replace BK355 := As.mk (blk_drew BK355.out)
 replace HB := As.mk (below_drew1 HB.out)
 refine start_ (n := 5) (S := fun w' => w'.cell? ⟨gb355, 0, none⟩ = some (.slice Ao30 t349.length co30) ∧ w'.cell? ⟨gb355, 1, none⟩ = some (.slice Ao33 t352.length co33) ∧ w'.cell? ⟨gb338, 0, none⟩ = some (.slice A0_0 l0_0.length c0_0) ∧ w'.cell? ⟨gb338, 1, none⟩ = some (.slice A0_1 l0_1.length c0_1)) (ds := []) #[O, O, O, O, O] (by kernel_rfl) rfl rfl ⟨(blk_cell BK355.out 0).trans rfl, (blk_cell BK355.out 1).trans rfl, (blk_cell BK338.out 0).trans rfl, (blk_cell BK338.out 1).trans rfl⟩ (fun hHeld => ?_)
 generalize w34.drew = w37 at HO342 HO345 HO348 HO351 HO354 HO358 BK338 BK355 HB hHeld ⊢
 refine take_ (i := 0) (N := some 31) (v := ?_) (a' := ?_) #[I, O, O, O, O] rfl rfl (by kernel_rfl) (fun _ _ _ h => h) (Or.inl ⟨by rfl, ?_⟩) hHeld ?_ ?_
 rotate_left; · rintro w' ⟨s0, s1, s2, s3⟩; go_simp; with_reducible rfl
 rotate_left; · simp only [pk, i64_w, i32_w]; rfl
 refine take_ (i := 1) (N := some 32) (v := ?_) (a' := ?_) #[I, I, O, O, O] rfl rfl (by kernel_rfl) (fun _ _ _ h => h) (Or.inl ⟨by rfl, ?_⟩) hHeld ?_ ?_
 rotate_left; · rintro w' ⟨s0, s1, s2, s3⟩; go_simp; with_reducible rfl
 rotate_left; · simp only [pk, i64_w, i32_w]; rfl
 refine one_ (i := 2) (N := some 33) #[I, I, I, O, O] rfl rfl (by kernel_rfl) (by decide) (fun K hK => ?_)
 refine goes_ Tryz.func11 (by kernel_rfl) rfl #[.agg #[.slice A0_0 l0_0.length c0_0, .slice A0_1 l0_1.length c0_1]] (by rfl) rfl rfl (by (try simp only [lm]); first | done | rfl | (simp only [List.length_drop, List.length_take]; rfl)) ?_
 with_reducible refine (laws_toProgram.calls k _ _ l0_0 _ _ l0_1 t360 t363 _ ?side1 ?side2 ?side3 ?side4 A14.out).mono ?_
 (case side1 => exact Kd.C_below HR0_0.out (be w))
 (case side2 => exact HC0_0.out)
 (case side3 => exact Kd.C_below HR0_1.out (be w))
 (case side4 => exact HC0_1.out)
 rintro e w38 ⟨v361, v364, rfl, ho0, ho1, hb⟩
 refine ⟨_, rfl, ?_⟩
 have HO362 := As.mk (Kd.S_lower (Kd.S_new' (Kd.S_new' (Kd.S_new' (Kd.S_new' ho0 (Kd.S_lt (by (with_reducible repeat (first | apply Kd.S_alloc | apply Kd.S_drewN | apply Kd.S_drew)); exact HO342.out))) (Kd.R_lt (by (with_reducible repeat (first | apply Kd.R_alloc | apply Kd.R_drewN | apply Kd.R_drew)); exact HO348.out))) (Kd.S_lt (by (with_reducible repeat (first | apply Kd.S_alloc | apply Kd.S_drewN | apply Kd.S_drew)); exact HO351.out))) (Kd.R_lt (by (with_reducible repeat (first | apply Kd.R_alloc | apply Kd.R_drewN | apply Kd.R_drew)); exact HO358.out))) (below_size (be w)))
 replace HO342 := As.mk (Kd.S_elder' (by (with_reducible repeat (first | apply Kd.S_alloc | apply Kd.S_drewN | apply Kd.S_drew)); exact HO342.out) (Kd.S_base ho0) hb)
 replace HO348 := As.mk (Kd.R_below (by (with_reducible repeat (first | apply Kd.R_alloc | apply Kd.R_drewN | apply Kd.R_drew)); exact HO348.out) hb)
 replace HO351 := As.mk (Kd.S_elder' (by (with_reducible repeat (first | apply Kd.S_alloc | apply Kd.S_drewN | apply Kd.S_drew)); exact HO351.out) (Kd.S_base ho0) hb)
 replace HO358 := As.mk (Kd.R_below (by (with_reducible repeat (first | apply Kd.R_alloc | apply Kd.R_drewN | apply Kd.R_drew)); exact HO358.out) hb)
 have HO365 := As.mk (Kd.S_lower (Kd.S_new' (Kd.S_new' ho1 (Kd.S_lt (by (with_reducible repeat (first | apply Kd.S_alloc | apply Kd.S_drewN | apply Kd.S_drew)); exact HO345.out))) (Kd.S_lt (by (with_reducible repeat (first | apply Kd.S_alloc | apply Kd.S_drewN | apply Kd.S_drew)); exact HO354.out))) (below_size (be w)))
 replace HO345 := As.mk (Kd.S_elder' (by (with_reducible repeat (first | apply Kd.S_alloc | apply Kd.S_drewN | apply Kd.S_drew)); exact HO345.out) (Kd.S_base ho1) hb)
 replace HO354 := As.mk (Kd.S_elder' (by (with_reducible repeat (first | apply Kd.S_alloc | apply Kd.S_drewN | apply Kd.S_drew)); exact HO354.out) (Kd.S_base ho1) hb)
 replace BK338 := As.mk (blk_below (bx BK338.out) hb)
 replace BK355 := As.mk (blk_below (bx BK355.out) hb)
 replace HB := As.mk (below_step (be w) hb)
 (try clear hb)
 (try clear hb2)
 (try clear hk)
 (try clear hi)
 (try clear ho0)
 (try clear ho1)
 obtain ⟨Ao39, co39, eo39⟩ := Kd.S_slice HO362.out
 (first | subst eo39 | (injection eo39 with f1_ f2_ f3_; have f4_ := f1_.symm; have f5_ := f3_.symm; clear f1_ f2_ f3_; subst f4_; subst f5_))
 obtain ⟨Ao40, co40, eo40⟩ := Kd.S_slice HO365.out
 (first | subst eo40 | (injection eo40 with f1_ f2_ f3_; have f4_ := f1_.symm; have f5_ := f3_.symm; clear f1_ f2_ f3_; subst f4_; subst f5_))
 refine hK.out _ _ ⟨(blk_cell BK355.out 0).trans rfl, (blk_cell BK355.out 1).trans rfl, (blk_cell BK338.out 0).trans rfl, (blk_cell BK338.out 1).trans rfl⟩ (fun hHeld => ?_)
 clear hK K
 refine norm_ (a' := ?_) ?_ ?_
 rotate_left
 ·
  show Act.put _ (some 33) _ = _
  simp only [pk, i64_w, i32_w]
  rfl
 refine one_ (i := 3) (N := some 34) #[I, I, I, I, O] rfl rfl (by kernel_rfl) (by decide) (fun K hK => ?_)
 refine goes_ Tryz.func14 (by kernel_rfl) rfl #[.agg #[.slice Ao30 t349.length co30, .slice Ao33 t352.length co33], .agg #[.slice Ao39 t360.length co39, .slice Ao40 t363.length co40]] (by rfl) rfl rfl (by (try simp only [lm]); first | done | rfl | (simp only [List.length_drop, List.length_take]; rfl)) ?_
 with_reducible refine (laws_eqProgram.calls k _ _ t349 _ _ t352 _ _ t360 _ _ t363 true _ ?side1 ?side2 ?side3 ?side4 ?side5 ?side6 ?side7 ?side8 A15.out).mono ?_
 (case side1 => repeat (first | exact (Kd.S_reads' HO351.out).2.2 | (with_reducible refine Kd.C_alloc ?_ _) | (with_reducible refine Kd.C_drewN ?_ _) | (with_reducible refine Kd.C_drew ?_)))
 (case side2 => exact (Kd.S_reads' HO351.out).2.1)
 (case side3 => repeat (first | exact (Kd.S_reads' HO354.out).2.2 | (with_reducible refine Kd.C_alloc ?_ _) | (with_reducible refine Kd.C_drewN ?_ _) | (with_reducible refine Kd.C_drew ?_)))
 (case side4 => exact (Kd.S_reads' HO354.out).2.1)
 (case side5 => repeat (first | exact (Kd.S_reads' HO362.out).2.2 | (with_reducible refine Kd.C_alloc ?_ _) | (with_reducible refine Kd.C_drewN ?_ _) | (with_reducible refine Kd.C_drew ?_)))
 (case side6 => exact (Kd.S_reads' HO362.out).2.1)
 (case side7 => repeat (first | exact (Kd.S_reads' HO365.out).2.2 | (with_reducible refine Kd.C_alloc ?_ _) | (with_reducible refine Kd.C_drewN ?_ _) | (with_reducible refine Kd.C_drew ?_)))
 (case side8 => exact (Kd.S_reads' HO365.out).2.1)
 rintro e w41 ⟨rfl, hb⟩
 refine ⟨_, rfl, ?_⟩
 replace HO342 := As.mk (Kd.S_below (by (with_reducible repeat (first | apply Kd.S_alloc | apply Kd.S_drewN | apply Kd.S_drew)); exact HO342.out) hb)
 replace HO345 := As.mk (Kd.S_below (by (with_reducible repeat (first | apply Kd.S_alloc | apply Kd.S_drewN | apply Kd.S_drew)); exact HO345.out) hb)
 replace HO348 := As.mk (Kd.R_below (by (with_reducible repeat (first | apply Kd.R_alloc | apply Kd.R_drewN | apply Kd.R_drew)); exact HO348.out) hb)
 replace HO351 := As.mk (Kd.S_below (by (with_reducible repeat (first | apply Kd.S_alloc | apply Kd.S_drewN | apply Kd.S_drew)); exact HO351.out) hb)
 replace HO354 := As.mk (Kd.S_below (by (with_reducible repeat (first | apply Kd.S_alloc | apply Kd.S_drewN | apply Kd.S_drew)); exact HO354.out) hb)
 replace HO358 := As.mk (Kd.R_below (by (with_reducible repeat (first | apply Kd.R_alloc | apply Kd.R_drewN | apply Kd.R_drew)); exact HO358.out) hb)
 replace HO362 := As.mk (Kd.S_below (by (with_reducible repeat (first | apply Kd.S_alloc | apply Kd.S_drewN | apply Kd.S_drew)); exact HO362.out) hb)
 replace HO365 := As.mk (Kd.S_below (by (with_reducible repeat (first | apply Kd.S_alloc | apply Kd.S_drewN | apply Kd.S_drew)); exact HO365.out) hb)
 replace BK338 := As.mk (blk_below (bx BK338.out) hb)
 replace BK355 := As.mk (blk_below (bx BK355.out) hb)
 replace HB := As.mk (below_step (be w) hb)
 (try clear hb)
 (try clear hb2)
 (try clear hk)
 (try clear hi)
 refine hK.out _ _ ⟨(blk_cell BK355.out 0).trans rfl, (blk_cell BK355.out 1).trans rfl, (blk_cell BK338.out 0).trans rfl, (blk_cell BK338.out 1).trans rfl⟩ (fun hHeld => ?_)
 clear hK K
 refine norm_ (a' := ?_) ?_ ?_
 rotate_left
 ·
  show Act.put _ (some 34) _ = _
  simp only [pk, i64_w, i32_w]
  rfl
 refine pure_ (i := 4) (N := some 35) (v := ?_) (a' := ?_) #[I, I, I, I, I] rfl rfl (by kernel_rfl) (fun _ _ _ h => h) (Or.inl ⟨by rfl, ?_⟩) ?_ ?_
 rotate_left; · intro w'; go_simp; with_reducible rfl
 rotate_left; · simp only [pk, i64_w, i32_w]; rfl
 refine done_ (by kernel_rfl) ?_
 obtain ⟨hcz42_0, hcz42_1, hfz42_0, hfz42_1⟩ := cl2 BK355.out
 go_upto_region 14 with (first | ((with_reducible refine gate_callee (f := 15) rfl ?_); refine goesL_ (some 38) rfl rfl Tryz.func15 (by kernel_rfl) rfl #[.agg #[.slice Ao30 t349.length co30, .slice Ao33 t352.length co33], .int .i64 1] rfl (by (try simp only [lm]); first | done | rfl | (simp only [List.length_drop, List.length_take]; rfl)) ?_; (with_reducible refine (laws_markProgram.calls _ (.slice Ao30 t349.length co30) t349 _ (.slice Ao33 t352.length co33) t352 1 t367 w _ ?side1 (Kd.S_bound HO351.out) (Kd.S_bound HO354.out) A17.out).mono ?_); (case side1 => repeat (first | (with_reducible first | exact HB.out | apply below_alloc | apply pw_below_drewN | apply below_drew1 | refine below_set ?_ GE338.out | refine below_set ?_ GE355.out) | exact HB.out)); rintro e w43 ⟨rfl, hb, hkp⟩; refine ⟨_, rfl, ?_⟩; replace BK338 := As.mk (blk_kept (bx BK338.out) hkp (fun hs_ => Or.elim hs_ (fun e_ => mkk_tyb e_ (bx BK338.out) (by decide)) (fun e_ => mkk_tyb e_ (bx BK338.out) (by decide)))); replace HO348 := As.mk (Kd.R_mono (ok' := fun k_ => some k_ ≠ (.slice Ao35 t356.length co35 : Value).ownBlock) (mkk_keptT rfl HO348.out hkp (fun k_ hs_ e_ => Or.elim hs_ (fun h_ => by replace h_ := h_.1; revert h_; (try simp only [and_imp]); intros; exact absurd e_ (by assumption)) (fun h_ => by first | exact mkk_tyr h_ (Kd.R_typed HO348.out k_ e_.symm) (by decide) | (replace h_ := h_.1; revert h_; (try simp only [and_imp]); intros; exact absurd e_ (by assumption))))) (fun k_ hk_ => by first | exact hk_ | exact hk_.2 | exact hk_.1.2 | (revert hk_; (try simp only [and_imp]); intros; assumption))); replace BK355 := As.mk (blk_kept (bx BK355.out) hkp (fun hs_ => Or.elim hs_ (fun e_ => mkk_tyb e_ (bx BK355.out) (by decide)) (fun e_ => mkk_tyb e_ (bx BK355.out) (by decide)))); replace HO358 := As.mk (Kd.R_mono (ok' := fun k_ => some k_ ≠ (.slice Ao36 t346.length co36 : Value).ownBlock) (mkk_keptT rfl HO358.out hkp (fun k_ hs_ e_ => Or.elim hs_ (fun h_ => by replace h_ := h_.1; revert h_; (try simp only [and_imp]); intros; exact absurd e_ (by assumption)) (fun h_ => by first | exact mkk_tyr h_ (Kd.R_typed HO358.out k_ e_.symm) (by decide) | (replace h_ := h_.1; revert h_; (try simp only [and_imp]); intros; exact absurd e_ (by assumption))))) (fun k_ hk_ => by first | exact hk_ | exact hk_.2 | exact hk_.1.2 | (revert hk_; (try simp only [and_imp]); intros; assumption))); replace HB := As.mk (hb); clear HO351 HO354; (try clear hb); (try clear hkp)))
 (try simp only [pk])
 go_cut [46] (fun v46 wc => ∃ (kq : Nat) (x46_17 : Bool), v46 = .bool x46_17 ∧ As (laws_FnExactUnder.j0 kq a1 t346 t356 x46_17 l0_0 l0_1 = some r) ∧ As (kq ≤ k) ∧ As (Kd.R (Kd.int .i64) 3 wc w.heap.size (fun k_ => some k_ ≠ ((.slice Ao35 t356.length co35) : Value).ownBlock) (.slice Ao36 t346.length co36) t346) ∧ As (Kd.R (Kd.int .i64) 3 wc w.heap.size (fun k_ => some k_ ≠ ((.slice Ao36 t346.length co36) : Value).ownBlock) (.slice Ao35 t356.length co35) t356) ∧ As (wc.heap[gb338]? = some (.cells #[(.slice A0_0 l0_0.length c0_0), (.slice A0_1 l0_1.length c0_1)] 25 (0, 0))) ∧ As (Below w.heap.size w wc))
 case first =>
  have H := HC18.out
  clear HC18
  by_cases c44 : t367 < 0
  ·
   rw [if_pos c44] at H
   have c44b0 : decide (t367 < 0) = true := decide_eq_true c44
   clear c44
   (first | rw [c44b0] | (simp only [i64_w, i32_w]; rw [c44b0]) | skip)
   have H' := As.mk H
   clear H
   go_wp2
   go_meet
   case rel => exact ⟨_, (true), (by first | rfl | (simp; done) | (simp [*]; done)), H', ⟨by first | omega | exact Nat.le_refl _⟩, ⟨by (with_reducible repeat (first | apply Kd.R_alloc | apply Kd.R_drewN | apply Kd.R_drew)); exact HO348.out⟩, ⟨by (with_reducible repeat (first | apply Kd.R_alloc | apply Kd.R_drewN | apply Kd.R_drew)); exact HO358.out⟩, ⟨bx BK338.out⟩, ⟨be w⟩⟩
  rw [if_neg c44] at H
  have c44b0 : decide (t367 < 0) = false := decide_eq_false c44
  clear c44
  (first | rw [c44b0] | (simp only [i64_w, i32_w]; rw [c44b0]) | skip)
  obtain ⟨t368, A450, H⟩ := Option.bind_eq_some_iff.mp H
  try dsimp only at H
  have A45 := As.mk A450
  clear A450
  have H' := As.mk H
  clear H
  go_wp2_with (first | (go_at_call 26; (with_reducible refine (laws_eqIntS.calls k _ _ t356 _ _ t346 t368 _ ?side1 ?side2 ?side3 ?side4 A45.out).mono ?_); (case side1 => repeat (first | exact (Kd.R_reads' HO358.out).2.2 | (with_reducible refine Kd.C_alloc ?_ _) | (with_reducible refine Kd.C_drewN ?_ _) | (with_reducible refine Kd.C_drew ?_))); (case side2 => exact (Kd.R_reads' HO358.out).2.1); (case side3 => repeat (first | exact (Kd.R_reads' HO348.out).2.2 | (with_reducible refine Kd.C_alloc ?_ _) | (with_reducible refine Kd.C_drewN ?_ _) | (with_reducible refine Kd.C_drew ?_))); (case side4 => exact (Kd.R_reads' HO348.out).2.1); rintro e w' ⟨rfl, ⟨nd, rfl⟩⟩))
  go_meet
  case rel => exact ⟨_, (!t368), (by first | rfl | (simp; done) | (simp [*]; done)), H', ⟨by first | omega | exact Nat.le_refl _⟩, ⟨by (with_reducible repeat (first | apply Kd.R_alloc | apply Kd.R_drewN | apply Kd.R_drew)); exact HO348.out⟩, ⟨by (with_reducible repeat (first | apply Kd.R_alloc | apply Kd.R_drewN | apply Kd.R_drew)); exact HO358.out⟩, ⟨bx BK338.out⟩, ⟨be w⟩⟩
 case rest =>
  clear HC18
  (try clear c4); (try clear c4b0); (try clear c13); (try clear c16); (try clear hcz20_0); (try clear hcz20_1); (try clear hcz22_0); (try clear hcz22_1); (try clear hcz27_0); (try clear hcz27_1); (try clear hcz32_0); (try clear hcz32_1); (try clear hcz42_0); (try clear hcz42_1); (try clear hfz20_0); (try clear hfz20_1); (try clear hfz22_0); (try clear hfz22_1); (try clear hfz27_0); (try clear hfz27_1); (try clear hfz32_0); (try clear hfz32_1); (try clear hfz42_0); (try clear hfz42_1)
  obtain ⟨kq, x46_17, rfl, HA, HJ17, HO_6, HO_8, BK338, HB⟩ := hcut
  cases kq with
  | zero => exact absurd HA.out (by simp [laws_FnExactUnder.j0])
  | succ kj17 =>
   have H := HA.out
   clear HA
   simp only [laws_FnExactUnder.j0] at H
   by_cases c46 : x46_17 = true
   ·
    subst c46
    rw [if_pos rfl] at H
    exact absurd H (by rw [hrt.out]; simp)
   replace c46 := Bool.eq_false_iff.mpr c46
   subst c46
   rw [if_neg (show ¬ (false = true) by decide)] at H
   obtain ⟨⟨t369, t370⟩, A470, H⟩ := Option.bind_eq_some_iff.mp H
   try dsimp only at H
   have A47 := As.mk A470
   clear A470
   obtain ⟨t371, A480, H⟩ := Option.bind_eq_some_iff.mp H
   try dsimp only at H
   have A48 := As.mk A480
   clear A480
   by_cases c49 : t371 < 0
   ·
    rw [if_pos c49] at H
    have c49b0 : decide (t371 < 0) = true := decide_eq_true c49
    clear c49
    exact absurd H (by rw [hrt.out]; simp)
   rw [if_neg c49] at H
   have c49b0 : decide (t371 < 0) = false := decide_eq_false c49
   clear c49
   by_cases c50 : t371 = t369
   rotate_left
   ·
    rw [if_neg c50] at H
    have c50b0 : (t371 == t369) = false := beq_eq_false_iff_ne.mpr c50
    have c50b1 : (t371 != t369) = true := bne_iff_ne.mpr c50
    exact absurd H (by rw [hrt.out]; simp)
   rw [if_pos c50] at H
   have c50b0 : (t371 == t369) = true := beq_iff_eq.mpr c50
   have c50b1 : (t371 != t369) = false := bne_eq_false_iff_eq.mpr c50
   clear c50
   obtain ⟨⟨t372, t375⟩, A510, H⟩ := Option.bind_eq_some_iff.mp H
   try dsimp only at H
   have A51 := As.mk A510
   clear A510
   obtain ⟨t378, A520, H⟩ := Option.bind_eq_some_iff.mp H
   try dsimp only at H
   have A52 := As.mk A520
   clear A520
   obtain ⟨t381, A530, H⟩ := Option.bind_eq_some_iff.mp H
   try dsimp only at H
   have A53 := As.mk A530
   clear A530
   by_cases c54 : t381 = true
   rotate_left
   ·
    replace c54 := Bool.eq_false_iff.mpr c54
    subst c54
    rw [if_neg (show ¬ (false = true) by decide)] at H
    exact absurd H (by rw [hrt.out]; simp)
   subst c54
   rw [if_pos rfl] at H
   obtain ⟨t382, A550, H⟩ := Option.bind_eq_some_iff.mp H
   try dsimp only at H
   have A55 := As.mk A550
   clear A550
   by_cases c56 : t382 < 0
   ·
    rw [if_pos c56] at H
    have c56b0 : decide (t382 < 0) = true := decide_eq_true c56
    clear c56
    exact absurd H (by rw [hrt.out]; simp)
   rw [if_neg c56] at H
   have c56b0 : decide (t382 < 0) = false := decide_eq_false c56
   clear c56
   by_cases c57 : t382 = t369
   rotate_left
   ·
    rw [if_neg c57] at H
    have c57b0 : (t382 == t369) = false := beq_eq_false_iff_ne.mpr c57
    have c57b1 : (t382 != t369) = true := bne_iff_ne.mpr c57
    exact absurd H (by rw [hrt.out]; simp)
   rw [if_pos c57] at H
   have c57b0 : (t382 == t369) = true := beq_iff_eq.mpr c57
   have c57b1 : (t382 != t369) = false := bne_eq_false_iff_eq.mpr c57
   clear c57
   obtain rfl := Option.some.inj H
   go_wp2_with (first | ((with_reducible refine gate_callee (f := 27) rfl ?_); refine goesL_ (some 49) rfl rfl Tryz.func27 (by kernel_rfl) rfl #[.slice Ao35 t356.length co35, .int .i64 1] rfl (by (try simp only [lm]); first | done | rfl | (simp only [List.length_drop, List.length_take]; rfl)) ?_; (with_reducible refine (laws_markIntS.calls kj17 (fun k_ => some k_ = (.slice Ao35 t356.length co35 : Value).ownBlock) (.slice Ao35 t356.length co35) t356 1 t369 t370 w _ ?side1 ?side2 A47.out).mono ?_); (case side1 => repeat (first | (with_reducible first | exact HB.out | apply below_alloc | apply pw_below_drewN | apply below_drew1 | refine below_set ?_ GE338.out) | exact HB.out)); (case side2 => exact Kd.R_tight rfl HO_8.out); rintro e w58 ⟨rfl, hy0, hb, hkp⟩; refine ⟨_, rfl, ?_⟩; replace HO_6 := As.mk (Kd.R_mono (ok' := fun k_ => some k_ ≠ (.slice Ao35 t356.length co35 : Value).ownBlock) (Kd.R_keptB (HO_6.out) hkp (fun k_ hk_ hs_ => (hk_) hs_)) (fun k_ hk_ => hk_.1)); replace BK338 := As.mk (blk_kept (bx BK338.out) hkp (fun hs_ => (fun e_ => (Kd.R_ne HO_8.out BK338.out (by decide)) e_) hs_)); replace HO_8 := As.mk (Kd.R_reok rfl hy0 (fun k_ e_ => HO_8.out.1 k_ e_)); replace HB := As.mk (hb); (try clear hb); (try clear hkp); (try clear hy0)) | ((with_reducible refine gate_callee (f := 28) rfl ?_); refine goesL_ (some 52) rfl rfl Tryz.func28 (by kernel_rfl) rfl #[.slice Ao35 t370.length co35, .int .i64 1] rfl (by (try simp only [lm]); first | done | (rw [show t370.length = t356.length from (Kd.R_reads' HO_8.out).1.symm] <;> rfl) | rfl | (simp only [List.length_drop, List.length_take]; rfl)) ?_; (with_reducible refine (laws_heldIntS.calls kj17 _ _ t370 1 t371 _ ?side1 ?side2 A48.out).mono ?_); (case side1 => repeat (first | exact (Kd.R_reads' HO_8.out).2.2 | (with_reducible refine Kd.C_alloc ?_ _) | (with_reducible refine Kd.C_drewN ?_ _) | (with_reducible refine Kd.C_drew ?_))); (case side2 => rw [show t370.length = t356.length from (Kd.R_reads' HO_8.out).1.symm]; exact (Kd.R_reads' HO_8.out).2.1); rintro e w' ⟨rfl, ⟨nd, rfl⟩⟩; refine ⟨_, rfl, ?_⟩; obtain ⟨hcz59_0, hcz59_1, hfz59_0, hfz59_1⟩ := cl2 BK338.out) | ((with_reducible refine gate_callee (f := 11) rfl ?_); refine goesL_ (some 59) rfl rfl Tryz.func11 (by kernel_rfl) rfl #[.agg #[.slice A0_0 l0_0.length c0_0, .slice A0_1 l0_1.length c0_1]] rfl (by (try simp only [lm]); first | done | rfl | (simp only [List.length_drop, List.length_take]; rfl)) ?_; (with_reducible refine (laws_toProgram.calls kj17 _ _ l0_0 _ _ l0_1 t372 t375 _ ?side1 ?side2 ?side3 ?side4 A51.out).mono ?_); (case side1 => exact Kd.C_below HR0_0.out (be w)); (case side2 => exact HC0_0.out); (case side3 => exact Kd.C_below HR0_1.out (be w)); (case side4 => exact HC0_1.out); rintro e w60 ⟨v373, v376, rfl, ho0, ho1, hb⟩; refine ⟨_, rfl, ?_⟩; have HO374 := As.mk (Kd.S_lower (Kd.S_new' (Kd.S_new' ho0 (Kd.R_lt (by (with_reducible repeat (first | apply Kd.R_alloc | apply Kd.R_drewN | apply Kd.R_drew)); exact HO_6.out))) (Kd.R_lt (by (with_reducible repeat (first | apply Kd.R_alloc | apply Kd.R_drewN | apply Kd.R_drew)); exact HO_8.out))) (below_size (be w))); replace HO_6 := As.mk (Kd.R_below (by (with_reducible repeat (first | apply Kd.R_alloc | apply Kd.R_drewN | apply Kd.R_drew)); exact HO_6.out) hb); replace HO_8 := As.mk (Kd.R_below (by (with_reducible repeat (first | apply Kd.R_alloc | apply Kd.R_drewN | apply Kd.R_drew)); exact HO_8.out) hb); have HO377 := As.mk (Kd.S_lower ho1 (below_size (be w))); replace HB := As.mk (below_step (be w) hb); (try clear hb); (try clear hb2); (try clear hk); (try clear hi); (try clear ho0); (try clear ho1); obtain ⟨Ao61, co61, eo61⟩ := Kd.S_slice HO374.out; subst eo61; obtain ⟨Ao62, co62, eo62⟩ := Kd.S_slice HO377.out; subst eo62) | ((with_reducible refine gate_callee (f := 25) rfl ?_); refine goesL_ (some 61) rfl rfl Tryz.func25 (by kernel_rfl) rfl #[.agg #[.slice Ao61 t372.length co61, .slice Ao62 t375.length co62], .int .i64 a1] rfl (by (try simp only [lm]); first | done | rfl | (simp only [List.length_drop, List.length_take]; rfl)) ?_; (with_reducible refine (impl_Under.calls kj17 _ _ t372 _ _ t375 a1 t378 _ ?side1 ?side2 ?side3 ?side4 A52.out).mono ?_); (case side1 => repeat (first | exact (Kd.S_reads' HO374.out).2.2 | (with_reducible refine Kd.C_alloc ?_ _) | (with_reducible refine Kd.C_drewN ?_ _) | (with_reducible refine Kd.C_drew ?_))); (case side2 => exact (Kd.S_reads' HO374.out).2.1); (case side3 => repeat (first | exact (Kd.S_reads' HO377.out).2.2 | (with_reducible refine Kd.C_alloc ?_ _) | (with_reducible refine Kd.C_drewN ?_ _) | (with_reducible refine Kd.C_drew ?_))); (case side4 => exact (Kd.S_reads' HO377.out).2.1); rintro e w63 ⟨v379, rfl, ho0, hb⟩; refine ⟨_, rfl, ?_⟩; replace HO374 := As.mk (Kd.S_elder' (by (with_reducible repeat (first | apply Kd.S_alloc | apply Kd.S_drewN | apply Kd.S_drew)); exact HO374.out) (Kd.R_base ho0) hb); replace HO377 := As.mk (Kd.S_below (by (with_reducible repeat (first | apply Kd.S_alloc | apply Kd.S_drewN | apply Kd.S_drew)); exact HO377.out) hb); have HO380 := As.mk (Kd.R_lower (Kd.R_new' (Kd.R_new' ho0 (Kd.R_lt (by (with_reducible repeat (first | apply Kd.R_alloc | apply Kd.R_drewN | apply Kd.R_drew)); exact HO_6.out))) (Kd.R_lt (by (with_reducible repeat (first | apply Kd.R_alloc | apply Kd.R_drewN | apply Kd.R_drew)); exact HO_8.out))) (below_size (be w))); replace HO_6 := As.mk (Kd.R_elder' (by (with_reducible repeat (first | apply Kd.R_alloc | apply Kd.R_drewN | apply Kd.R_drew)); exact HO_6.out) (Kd.R_base ho0) hb); replace HO_8 := As.mk (Kd.R_elder' (by (with_reducible repeat (first | apply Kd.R_alloc | apply Kd.R_drewN | apply Kd.R_drew)); exact HO_8.out) (Kd.R_base ho0) hb); replace HB := As.mk (below_step (be w) hb); (try clear hb); (try clear hb2); (try clear hk); (try clear hi); (try clear ho0); obtain ⟨Ao64, co64, eo64⟩ := Kd.R_slice HO380.out; subst eo64) | ((with_reducible refine gate_callee (f := 26) rfl ?_); refine goesL_ (some 64) rfl rfl Tryz.func26 (by kernel_rfl) rfl #[.slice Ao64 t378.length co64, .slice Ao36 t346.length co36] rfl (by (try simp only [lm]); first | done | rfl | (simp only [List.length_drop, List.length_take]; rfl)) ?_; (with_reducible refine (laws_eqIntS.calls kj17 _ _ t378 _ _ t346 true _ ?side1 ?side2 ?side3 ?side4 A53.out).mono ?_); (case side1 => repeat (first | exact (Kd.R_reads' HO380.out).2.2 | (with_reducible refine Kd.C_alloc ?_ _) | (with_reducible refine Kd.C_drewN ?_ _) | (with_reducible refine Kd.C_drew ?_))); (case side2 => exact (Kd.R_reads' HO380.out).2.1); (case side3 => repeat (first | exact (Kd.R_reads' HO_6.out).2.2 | (with_reducible refine Kd.C_alloc ?_ _) | (with_reducible refine Kd.C_drewN ?_ _) | (with_reducible refine Kd.C_drew ?_))); (case side4 => exact (Kd.R_reads' HO_6.out).2.1); rintro e w' ⟨rfl, ⟨nd, rfl⟩⟩; refine ⟨_, rfl, ?_⟩) | ((with_reducible refine gate_callee (f := 28) rfl ?_); refine goesL_ (some 68) rfl rfl Tryz.func28 (by kernel_rfl) rfl #[.slice Ao35 t370.length co35, .int .i64 1] rfl (by (try simp only [lm]); first | done | (rw [show t370.length = t356.length from (Kd.R_reads' HO_8.out).1.symm] <;> rfl) | rfl | (simp only [List.length_drop, List.length_take]; rfl)) ?_; (with_reducible refine (laws_heldIntS.calls kj17 _ _ t370 1 t382 _ ?side1 ?side2 A55.out).mono ?_); (case side1 => repeat (first | exact (Kd.R_reads' HO_8.out).2.2 | (with_reducible refine Kd.C_alloc ?_ _) | (with_reducible refine Kd.C_drewN ?_ _) | (with_reducible refine Kd.C_drew ?_))); (case side2 => rw [show t370.length = t356.length from (Kd.R_reads' HO_8.out).1.symm]; exact (Kd.R_reads' HO_8.out).2.1); rintro e w' ⟨rfl, ⟨nd, rfl⟩⟩; refine ⟨_, rfl, ?_⟩))
   go_ret
   exact ⟨ez, be w⟩
end Go.Proofs.YtcoapbnbakmkoaaGreatDoor.PFnExactUnder
