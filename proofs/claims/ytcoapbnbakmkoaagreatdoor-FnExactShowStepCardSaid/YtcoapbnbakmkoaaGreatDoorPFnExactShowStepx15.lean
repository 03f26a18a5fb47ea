/- Written by a program of this session (a turned copy of the kit's print): a contract for each Go function. No condition beside those in each statement. -/
import Derived.Test.YtcoapbnbakmkoaaGreatDoorPFnExactShowStepx0
import Derived.Test.YtcoapbnbakmkoaaGreatDoorPFnExactShowStepx1
import Derived.Test.YtcoapbnbakmkoaaGreatDoorPFnExactShowStepx2
import Derived.Test.YtcoapbnbakmkoaaGreatDoorPFnExactShowStepx3
import Derived.Test.YtcoapbnbakmkoaaGreatDoorPFnExactShowStepx9
import Derived.Test.YtcoapbnbakmkoaaGreatDoorPFnExactShowStepx12
import Derived.Test.YtcoapbnbakmkoaaGreatDoorPFnExactShowStepx14
namespace Go.Proofs.YtcoapbnbakmkoaaGreatDoor.PFnExactShowStep
open Go.RowKit Go.Proofs.YtcoapbnbakmkoaaGreatDoor.Given Go.Proofs.YtcoapbnbakmkoaaGreatDoorW.PrintWords Go.Proofs.YtcoapbnbakmkoaaGreatDoorW.PrintLast Go.Proofs.YtcoapbnbakmkoaaGreatDoorW.PrintMore
attribute [local go_sem] max2_int min2_int max_two min_two max_three min_three max_four min_four   -- for this text's walks alone
set_option linter.unusedVariables false
set_option linter.unusedSimpArgs false

/-! ### impl_ShowStep: function 19 -/
def impl_ShowStep.f (k : Nat) (l0_0 : List (S62)) (l0_1 : List (S56)) (a1 : Int) (a2 : Int) : Option (ByteArray) := (impl_DeepOf.f k l0_0 a1).bind fun t407 => (if t407 = 0 then (some (⟨#[]⟩ : ByteArray)) else (if 0 ≤ a1 then (if a1 < (l0_0.length : Int) then ((impl_isStep.f ((rd_T62 l0_0 a1).f0)).bind fun t409 => (if t409 = true then ((impl_showStep.f k l0_0 l0_1 a1 a2).bind fun t410 => (some t410)) else (some (⟨#[]⟩ : ByteArray)))) else (none)) else (none)))
theorem impl_ShowStep.mono : ∀ a0 a1 a2 a3 k, LeO (impl_ShowStep.f k a0 a1 a2 a3) (impl_ShowStep.f (k + 1) a0 a1 a2 a3) := by
 intro a0 a1 a2 a3 k
 unfold impl_ShowStep.f
 with_reducible repeat' first | exact impl_DeepOf.mono _ _ _ | exact impl_showStep.mono _ _ _ _ _ | exact LeO.refl _ | exact LeO.none _ | refine LeO.ite ?_ ?_ | refine LeO.bind ?_ (fun _ => ?_)
set_option maxHeartbeats 8000000 in
set_option maxRecDepth 100000 in
theorem impl_ShowStep.calls (k : Nat) (A0_0 : Option Addr) (c0_0 : Nat) (l0_0 : List (S62)) (A0_1 : Option Addr) (c0_1 : Nat) (l0_1 : List (S56)) (a1 : Int) (a2 : Int) (r : ByteArray) (w : World) (hr0_0 : Kd.C k62 w A0_0 l0_0.length l0_0) (hc0_0 : l0_0.length ≤ c0_0) (hr0_1 : Kd.C k56 w A0_1 l0_1.length l0_1) (hc0_1 : l0_1.length ≤ c0_1) (hTab : TabW w) (h : impl_ShowStep.f k l0_0 l0_1 a1 a2 = some r) :
  Calls Tryz.prog 19 #[.agg #[.slice A0_0 l0_0.length c0_0, .slice A0_1 l0_1.length c0_1], .int .i64 a1, .int .i64 a2] w fun e w' => e = .returned (.string r) ∧ Below w.heap.size w w' := by
 have HTAB := As.mk hTab
 clear hTab
 have hu32 := Tryz.underlying32
 have HR0_0 := As.mk hr0_0
 have HC0_0 := As.mk hc0_0
 clear hr0_0 hc0_0
 have HR0_1 := As.mk hr0_1
 have HC0_1 := As.mk hc0_1
 clear hr0_1 hc0_1
 have HB := As.mk (Below.refl w.heap.size w)
 have H : ((impl_DeepOf.f k l0_0 a1).bind fun t407 => (if t407 = 0 then (some (⟨#[]⟩ : ByteArray)) else (if 0 ≤ a1 then (if a1 < (l0_0.length : Int) then ((impl_isStep.f ((rd_T62 l0_0 a1).f0)).bind fun t409 => (if t409 = true then ((impl_showStep.f k l0_0 l0_1 a1 a2).bind fun t410 => (some t410)) else (some (⟨#[]⟩ : ByteArray)))) else (none)) else (none)))) = some r := h
 clear h
 obtain ⟨t407, A40, H⟩ := Option.bind_eq_some_iff.mp H
 try dsimp only at H
 have A4 := As.mk A40
 clear A40
 by_cases c5 : t407 = 0
 ·
  rw [if_pos c5] at H
  have c5b0 : (t407 == 0) = true := beq_iff_eq.mpr c5
  have c5b1 : (t407 != 0) = false := bne_eq_false_iff_eq.mpr c5
  clear c5
  obtain rfl := Option.some.inj H
  go_enter Tryz.func19, Tryz.ntmps19
  go_wp2_with (first | ((with_reducible refine gate_dst (N := 3) rfl ?_); refine box_event ?hg (N := 3) ?hd (cs := #[.slice A0_0 l0_0.length c0_0, .slice A0_1 l0_1.length c0_1]) (t := 32) ?hr ?_; (case hd => rfl); (case hg => rfl); (case hr => first | (go_simp; done) | (go_simp; rfl)); intro gb406 hg w6 hbox hb; have BK406 := As.mk (hbox); have GW406 := As.mk (gs w hg); replace HB := As.mk (below_step (be w) hb); clear hb hbox hg; obtain ⟨hcz7_0, hcz7_1, hfz7_0, hfz7_1⟩ := cl2 BK406.out) | ((with_reducible refine gate_callee (f := 46) rfl ?_); refine goesL_ (some 10) rfl rfl Tryz.func46 (by kernel_rfl) rfl #[.slice A0_0 l0_0.length c0_0, .int .i64 a1] rfl gl ?_; (with_reducible refine (impl_DeepOf.calls k _ _ l0_0 a1 t407 _ ?side1 ?side2 A4.out).mono ?_); (case side1 => exact Kd.C_below HR0_0.out (be w)); (case side2 => exact HC0_0.out); rintro e w8 ⟨rfl, hb⟩; refine ⟨_, rfl, ?_⟩; replace HB := As.mk (below_step (be w) hb); (try clear hb)))
  go_ret
  exact ⟨ez, be w⟩
 rw [if_neg c5] at H
 have c5b0 : (t407 == 0) = false := beq_eq_false_iff_ne.mpr c5
 have c5b1 : (t407 != 0) = true := bne_iff_ne.mpr c5
 by_cases c9 : 0 ≤ a1
 rotate_left; · rw [if_neg c9] at H; exact absurd H (by simp)

 rw [if_pos c9] at H
 have c9b0 := decide_eq_true c9
 clear c9
 have c10 := i1 H; replace H := i2 H
 have c10b0 := decide_eq_true c10
 clear c10
 obtain ⟨t409, A110, H⟩ := Option.bind_eq_some_iff.mp H
 try dsimp only at H
 have A11 := As.mk A110
 clear A110
 by_cases c12 : t409 = true
 rotate_left
 ·
  replace c12 := Bool.eq_false_iff.mpr c12
  subst c12
  rw [if_neg (show ¬ (false = true) by decide)] at H
  obtain rfl := Option.some.inj H
  go_enter Tryz.func19, Tryz.ntmps19
  go_wp2_with (first | ((with_reducible refine gate_dst (N := 3) rfl ?_); refine box_event ?hg (N := 3) ?hd (cs := #[.slice A0_0 l0_0.length c0_0, .slice A0_1 l0_1.length c0_1]) (t := 32) ?hr ?_; (case hd => rfl); (case hg => rfl); (case hr => first | (go_simp; done) | (go_simp; rfl)); intro gb406 hg w19 hbox hb; have BK406 := As.mk (hbox); have GW406 := As.mk (gs w hg); replace HB := As.mk (below_step (be w) hb); clear hb hbox hg; obtain ⟨hcz20_0, hcz20_1, hfz20_0, hfz20_1⟩ := cl2 BK406.out) | ((with_reducible refine gate_callee (f := 46) rfl ?_); refine goesL_ (some 10) rfl rfl Tryz.func46 (by kernel_rfl) rfl #[.slice A0_0 l0_0.length c0_0, .int .i64 a1] rfl gl ?_; (with_reducible refine (impl_DeepOf.calls k _ _ l0_0 a1 t407 _ ?side1 ?side2 A4.out).mono ?_); (case side1 => exact Kd.C_below HR0_0.out (be w)); (case side2 => exact HC0_0.out); rintro e w21 ⟨rfl, hb⟩; refine ⟨_, rfl, ?_⟩; replace BK406 := As.mk (blk_below (bx BK406.out) hb); replace HB := As.mk (below_step (be w) hb); (try clear hb); obtain ⟨hcz22_0, hcz22_1, hfz22_0, hfz22_1⟩ := cl2 BK406.out; have p408 : 0 ≤ (a1 : Int) := od; have q408 : a1 < (l0_0.length : Int) := od; obtain ⟨ad408, A408_3, c408_3, e408, hx408_0, hx408_1, hx408_2, hx408_3, hl408_3, hi408_3⟩ := at_T62 HR0_0.out a1 p408 q408; cases e408; replace hx408_0 := ce HB.out hx408_0; replace hx408_1 := ce HB.out hx408_1; replace hx408_2 := ce HB.out hx408_2; replace hx408_3 := ce HB.out hx408_3; have HR408_3 := As.mk hi408_3; have HC408_3 := As.mk hl408_3; clear hi408_3 hl408_3; replace p408 := eq_true p408; replace q408 := eq_true q408) | (go_at_call 47; (with_reducible refine (impl_isStep.calls ((rd_T62 l0_0 a1).f0) false _ A11.out).mono ?_); rintro e w' ⟨rfl, ⟨nd, rfl⟩⟩))
  go_ret
  exact ⟨ez, be w⟩
 subst c12
 rw [if_pos rfl] at H
 obtain ⟨t410, A130, H⟩ := Option.bind_eq_some_iff.mp H
 try dsimp only at H
 have A13 := As.mk A130
 clear A130
 obtain rfl := Option.some.inj H
 go_enter Tryz.func19, Tryz.ntmps19
 go_wp2_with (first | ((with_reducible refine gate_dst (N := 3) rfl ?_); refine box_event ?hg (N := 3) ?hd (cs := #[.slice A0_0 l0_0.length c0_0, .slice A0_1 l0_1.length c0_1]) (t := 32) ?hr ?_; (case hd => rfl); (case hg => rfl); (case hr => first | (go_simp; done) | (go_simp; rfl)); intro gb406 hg w14 hbox hb; have BK406 := As.mk (hbox); have GW406 := As.mk (gs w hg); replace HB := As.mk (below_step (be w) hb); clear hb hbox hg; obtain ⟨hcz15_0, hcz15_1, hfz15_0, hfz15_1⟩ := cl2 BK406.out) | ((with_reducible refine gate_callee (f := 46) rfl ?_); refine goesL_ (some 10) rfl rfl Tryz.func46 (by kernel_rfl) rfl #[.slice A0_0 l0_0.length c0_0, .int .i64 a1] rfl gl ?_; (with_reducible refine (impl_DeepOf.calls k _ _ l0_0 a1 t407 _ ?side1 ?side2 A4.out).mono ?_); (case side1 => exact Kd.C_below HR0_0.out (be w)); (case side2 => exact HC0_0.out); rintro e w16 ⟨rfl, hb⟩; refine ⟨_, rfl, ?_⟩; replace BK406 := As.mk (blk_below (bx BK406.out) hb); replace HB := As.mk (below_step (be w) hb); (try clear hb); obtain ⟨hcz17_0, hcz17_1, hfz17_0, hfz17_1⟩ := cl2 BK406.out; have p408 : 0 ≤ (a1 : Int) := od; have q408 : a1 < (l0_0.length : Int) := od; obtain ⟨ad408, A408_3, c408_3, e408, hx408_0, hx408_1, hx408_2, hx408_3, hl408_3, hi408_3⟩ := at_T62 HR0_0.out a1 p408 q408; cases e408; replace hx408_0 := ce HB.out hx408_0; replace hx408_1 := ce HB.out hx408_1; replace hx408_2 := ce HB.out hx408_2; replace hx408_3 := ce HB.out hx408_3; have HR408_3 := As.mk hi408_3; have HC408_3 := As.mk hl408_3; clear hi408_3 hl408_3; replace p408 := eq_true p408; replace q408 := eq_true q408) | (go_at_call 47; (with_reducible refine (impl_isStep.calls ((rd_T62 l0_0 a1).f0) true _ A11.out).mono ?_); rintro e w' ⟨rfl, ⟨nd, rfl⟩⟩) | ((with_reducible refine gate_callee (f := 48) rfl ?_); refine goesL_ (some 25) rfl rfl Tryz.func48 (by kernel_rfl) rfl #[.agg #[.slice (some ad408) l0_0.length c0_0, .slice A0_1 l0_1.length c0_1], .int .i64 a1, .int .i64 a2] rfl gl ?_; (with_reducible refine (impl_showStep.calls k _ _ l0_0 _ _ l0_1 a1 a2 t410 _ ?side1 ?side2 ?side3 ?side4 (by first | (with_reducible exact HTAB.out) | exact tabW_below HTAB.out (be w)) A13.out).mono ?_); (case side1 => exact Kd.C_below HR0_0.out (be w)); (case side2 => exact HC0_0.out); (case side3 => exact Kd.C_below HR0_1.out (be w)); (case side4 => exact HC0_1.out); rintro e w18 ⟨rfl, hb⟩; refine ⟨_, rfl, ?_⟩; replace HB := As.mk (below_step (be w) hb); (try clear hb)))
 go_ret
 exact ⟨ez, be w⟩
/-! ### laws_FnExactShowStep: function 4 -/
def laws_FnExactShowStep.f (k : Nat) (l0_0 : List (S80)) (l0_1 : List (S84)) (a1 : Int) (a2 : Int) : Option (Bool) := (laws_szProgram.f k l0_0 l0_1 1048576).bind fun t412 => (if t412 < 0 then (some true) else ((laws_toProgram.f k l0_0 l0_1).bind fun bt413 => ((spec_ShowStep.f k bt413.1 bt413.2 a1 a2).bind fun t419 => ((laws_toProgram.f k l0_0 l0_1).bind fun bt420 => ((impl_ShowStep.f k bt420.1 bt420.2 a1 a2).bind fun t427 => (if t427.toList = t419.toList then ((laws_toProgram.f k l0_0 l0_1).bind fun bt428 => ((laws_eqProgram.f k bt420.1 bt420.2 bt428.1 bt428.2).bind fun t434 => (if t434 = true then (some true) else (some false)))) else (some false)))))))
theorem laws_FnExactShowStep.mono : ∀ a0 a1 a2 a3 k, LeO (laws_FnExactShowStep.f k a0 a1 a2 a3) (laws_FnExactShowStep.f (k + 1) a0 a1 a2 a3) := by
 intro a0 a1 a2 a3 k
 unfold laws_FnExactShowStep.f
 with_reducible repeat' first | exact impl_ShowStep.mono _ _ _ _ _ | exact laws_eqProgram.mono _ _ _ _ _ | exact laws_szProgram.mono _ _ _ _ | exact laws_toProgram.mono _ _ _ | exact spec_ShowStep.mono _ _ _ _ _ | exact LeO.refl _ | exact LeO.none _ | refine LeO.ite ?_ ?_ | refine LeO.bind ?_ (fun _ => ?_)
set_option maxHeartbeats 8000000 in
set_option maxRecDepth 100000 in
theorem laws_FnExactShowStep.calls (k : Nat) (A0_0 : Option Addr) (c0_0 : Nat) (l0_0 : List (S80)) (A0_1 : Option Addr) (c0_1 : Nat) (l0_1 : List (S84)) (a1 : Int) (a2 : Int) (r : Bool) (w : World) (hr0_0 : Kd.C k80 w A0_0 l0_0.length l0_0) (hc0_0 : l0_0.length ≤ c0_0) (hr0_1 : Kd.C k84 w A0_1 l0_1.length l0_1) (hc0_1 : l0_1.length ≤ c0_1) (hrt : As (r = true)) (hTab : TabW w) (h : laws_FnExactShowStep.f k l0_0 l0_1 a1 a2 = some r) :
  Calls Tryz.prog 4 #[.agg #[.slice A0_0 l0_0.length c0_0, .slice A0_1 l0_1.length c0_1], .int .i64 a1, .int .i64 a2] w fun e w' => e = .returned (.bool r) ∧ Below w.heap.size w w' := by
 have HTAB := As.mk hTab
 clear hTab
 have hu25 := Tryz.underlying25
 have hu32 := Tryz.underlying32
 have HR0_0 := As.mk hr0_0
 have HC0_0 := As.mk hc0_0
 clear hr0_0 hc0_0
 have HR0_1 := As.mk hr0_1
 have HC0_1 := As.mk hc0_1
 clear hr0_1 hc0_1
 have HB := As.mk (Below.refl w.heap.size w)
 have H : ((laws_szProgram.f k l0_0 l0_1 1048576).bind fun t412 => (if t412 < 0 then (some true) else ((laws_toProgram.f k l0_0 l0_1).bind fun bt413 => ((spec_ShowStep.f k bt413.1 bt413.2 a1 a2).bind fun t419 => ((laws_toProgram.f k l0_0 l0_1).bind fun bt420 => ((impl_ShowStep.f k bt420.1 bt420.2 a1 a2).bind fun t427 => (if t427.toList = t419.toList then ((laws_toProgram.f k l0_0 l0_1).bind fun bt428 => ((laws_eqProgram.f k bt420.1 bt420.2 bt428.1 bt428.2).bind fun t434 => (if t434 = true then (some true) else (some false)))) else (some false)))))))) = some r := h
 clear h
 obtain ⟨t412, A40, H⟩ := Option.bind_eq_some_iff.mp H
 try dsimp only at H
 have A4 := As.mk A40
 clear A40
 by_cases c5 : t412 < 0
 ·
  rw [if_pos c5] at H
  have c5b0 := decide_eq_true c5
  clear c5
  obtain rfl := Option.some.inj H
  go_enter Tryz.func4, Tryz.ntmps4
  go_wp2_with (first | ((with_reducible refine gate_dst (N := 3) rfl ?_); refine box_event ?hg (N := 3) ?hd (cs := #[.slice A0_0 l0_0.length c0_0, .slice A0_1 l0_1.length c0_1]) (t := 25) ?hr ?_; (case hd => rfl); (case hg => rfl); (case hr => first | (go_simp; done) | (go_simp; rfl)); intro gb411 hg w6 hbox hb; have BK411 := As.mk (hbox); have GW411 := As.mk (gs w hg); replace HB := As.mk (below_step (be w) hb); clear hb hbox hg; obtain ⟨hcz7_0, hcz7_1, hfz7_0, hfz7_1⟩ := cl2 BK411.out) | ((with_reducible refine gate_callee (f := 9) rfl ?_); refine goesL_ (some 13) rfl rfl Tryz.func9 (by kernel_rfl) rfl #[.agg #[.slice A0_0 l0_0.length c0_0, .slice A0_1 l0_1.length c0_1], .int .i64 1048576] rfl gl ?_; (with_reducible refine (laws_szProgram.calls k _ _ l0_0 _ _ l0_1 1048576 t412 _ ?side1 ?side2 ?side3 ?side4 A4.out).mono ?_); (case side1 => exact Kd.C_below HR0_0.out (be w)); (case side2 => exact HC0_0.out); (case side3 => exact Kd.C_below HR0_1.out (be w)); (case side4 => exact HC0_1.out); rintro e w8 ⟨rfl, hb⟩; refine ⟨_, rfl, ?_⟩; replace HB := As.mk (below_step (be w) hb); (try clear hb)))
  go_ret
  exact ⟨ez, be w⟩
 rw [if_neg c5] at H
 have c5b0 : decide (t412 < 0) = false := decide_eq_false c5
 clear c5
 obtain ⟨⟨t413, t416⟩, A90, H⟩ := Option.bind_eq_some_iff.mp H
 try dsimp only at H
 have A9 := As.mk A90
 clear A90
 obtain ⟨t419, A100, H⟩ := Option.bind_eq_some_iff.mp H
 try dsimp only at H
 have A10 := As.mk A100
 clear A100
 obtain ⟨⟨t420, t423⟩, A110, H⟩ := Option.bind_eq_some_iff.mp H
 try dsimp only at H
 have A11 := As.mk A110
 clear A110
 obtain ⟨t427, A120, H⟩ := Option.bind_eq_some_iff.mp H
 try dsimp only at H
 have A12 := As.mk A120
 clear A120
 by_cases c13 : t427.toList = t419.toList
 rotate_left
 ·
  rw [if_neg c13] at H
  have c13b0 : (t427.toList == t419.toList) = false := beq_eq_false_iff_ne.mpr c13
  have c13b1 : (t427.toList != t419.toList) = true := bne_iff_ne.mpr c13
  exact absurd H (by rw [hrt.out]; simp)

 rw [if_pos c13] at H
 have c13b0 : (t427.toList == t419.toList) = true := beq_iff_eq.mpr c13
 have c13b1 : (t427.toList != t419.toList) = false := bne_eq_false_iff_eq.mpr c13
 clear c13
 obtain ⟨⟨t428, t431⟩, A140, H⟩ := Option.bind_eq_some_iff.mp H
 try dsimp only at H
 have A14 := As.mk A140
 clear A140
 obtain ⟨t434, A150, H⟩ := Option.bind_eq_some_iff.mp H
 try dsimp only at H
 have A15 := As.mk A150
 clear A150
 by_cases c16 : t434 = true
 rotate_left
 ·
  replace c16 := Bool.eq_false_iff.mpr c16
  subst c16
  rw [if_neg (show ¬ (false = true) by decide)] at H
  exact absurd H (by rw [hrt.out]; simp)
 subst c16
 rw [if_pos rfl] at H
 obtain rfl := Option.some.inj H
 go_enter Tryz.func4, Tryz.ntmps4
 try go_wp2_with (first | ((with_reducible refine gate_dst (N := 3) rfl ?_); refine box_event ?hg (N := 3) ?hd (cs := #[.slice A0_0 l0_0.length c0_0, .slice A0_1 l0_1.length c0_1]) (t := 25) ?hr ?_; (case hd => rfl); (case hg => rfl); (case hr => first | (go_simp; done) | (go_simp; rfl)); intro gb411 hg w17 hbox hb; have BK411 := As.mk (hbox); have GW411 := As.mk (gs w hg); replace HB := As.mk (below_step (be w) hb); clear hb hbox hg; obtain ⟨hcz18_0, hcz18_1, hfz18_0, hfz18_1⟩ := cl2 BK411.out) | ((with_reducible refine gate_callee (f := 9) rfl ?_); refine goesL_ (some 13) rfl rfl Tryz.func9 (by kernel_rfl) rfl #[.agg #[.slice A0_0 l0_0.length c0_0, .slice A0_1 l0_1.length c0_1], .int .i64 1048576] rfl gl ?_; (with_reducible refine (laws_szProgram.calls k _ _ l0_0 _ _ l0_1 1048576 t412 _ ?side1 ?side2 ?side3 ?side4 A4.out).mono ?_); (case side1 => exact Kd.C_below HR0_0.out (be w)); (case side2 => exact HC0_0.out); (case side3 => exact Kd.C_below HR0_1.out (be w)); (case side4 => exact HC0_1.out); rintro e w19 ⟨rfl, hb⟩; refine ⟨_, rfl, ?_⟩; replace BK411 := As.mk (blk_below (bx BK411.out) hb); replace HB := As.mk (below_step (be w) hb); (try clear hb); (try clear hk); obtain ⟨hcz20_0, hcz20_1, hfz20_0, hfz20_1⟩ := cl2 BK411.out) | ((with_reducible refine gate_callee (f := 11) rfl ?_); refine goesL_ (some 17) rfl rfl Tryz.func11 (by kernel_rfl) rfl #[.agg #[.slice A0_0 l0_0.length c0_0, .slice A0_1 l0_1.length c0_1]] rfl gl ?_; (with_reducible refine (laws_toProgram.calls k _ _ l0_0 _ _ l0_1 t413 t416 _ ?side1 ?side2 ?side3 ?side4 A9.out).mono ?_); (case side1 => exact Kd.C_below HR0_0.out (be w)); (case side2 => exact HC0_0.out); (case side3 => exact Kd.C_below HR0_1.out (be w)); (case side4 => exact HC0_1.out); rintro e w21 ⟨v414, v417, rfl, ho0, ho1, hb⟩; refine ⟨_, rfl, ?_⟩; have HO415 := As.mk (Kd.S_lower ho0 (below_size (be w))); have HO418 := As.mk (Kd.S_lower ho1 (below_size (be w))); replace BK411 := As.mk (blk_below (bx BK411.out) hb); replace HB := As.mk (below_step (be w) hb); (try clear hb); (try clear hk); (try clear ho0); (try clear ho1); obtain ⟨Ao22, co22, eo22⟩ := Kd.S_slice HO415.out; subst eo22; obtain ⟨Ao23, co23, eo23⟩ := Kd.S_slice HO418.out; subst eo23) | ((with_reducible refine gate_callee (f := 18) rfl ?_); refine goesL_ (some 20) rfl rfl Tryz.func18 (by kernel_rfl) rfl #[.agg #[.slice Ao22 t413.length co22, .slice Ao23 t416.length co23], .int .i64 a1, .int .i64 a2] rfl gl ?_; (with_reducible refine (spec_ShowStep.calls k _ _ t413 _ _ t416 a1 a2 t419 _ ?side1 ?side2 ?side3 ?side4 A10.out).mono ?_); (case side1 => repeat (first | exact (Kd.S_reads' HO415.out).2.2 | (with_reducible refine Kd.C_alloc ?_ _) | (with_reducible refine Kd.C_drewN ?_ _) | (with_reducible refine Kd.C_drew ?_))); (case side2 => exact (Kd.S_reads' HO415.out).2.1); (case side3 => repeat (first | exact (Kd.S_reads' HO418.out).2.2 | (with_reducible refine Kd.C_alloc ?_ _) | (with_reducible refine Kd.C_drewN ?_ _) | (with_reducible refine Kd.C_drew ?_))); (case side4 => exact (Kd.S_reads' HO418.out).2.1); rintro e w24 ⟨rfl, hb⟩; refine ⟨_, rfl, ?_⟩; replace HO415 := As.mk (Kd.S_below (by (with_reducible repeat (first | apply Kd.S_alloc | apply Kd.S_drewN | apply Kd.S_drew)); exact HO415.out) hb); replace HO418 := As.mk (Kd.S_below (by (with_reducible repeat (first | apply Kd.S_alloc | apply Kd.S_drewN | apply Kd.S_drew)); exact HO418.out) hb); replace BK411 := As.mk (blk_below (bx BK411.out) hb); replace HB := As.mk (below_step (be w) hb); (try clear hb); (try clear hk); obtain ⟨hcz25_0, hcz25_1, hfz25_0, hfz25_1⟩ := cl2 BK411.out) | ((with_reducible refine gate_callee (f := 11) rfl ?_); refine goesL_ (some 22) rfl rfl Tryz.func11 (by kernel_rfl) rfl #[.agg #[.slice A0_0 l0_0.length c0_0, .slice A0_1 l0_1.length c0_1]] rfl gl ?_; (with_reducible refine (laws_toProgram.calls k _ _ l0_0 _ _ l0_1 t420 t423 _ ?side1 ?side2 ?side3 ?side4 A11.out).mono ?_); (case side1 => exact Kd.C_below HR0_0.out (be w)); (case side2 => exact HC0_0.out); (case side3 => exact Kd.C_below HR0_1.out (be w)); (case side4 => exact HC0_1.out); rintro e w26 ⟨v421, v424, rfl, ho0, ho1, hb⟩; refine ⟨_, rfl, ?_⟩; have HO422 := As.mk (Kd.S_lower (Kd.S_new' ho0 (Kd.S_lt (by (with_reducible repeat (first | apply Kd.S_alloc | apply Kd.S_drewN | apply Kd.S_drew)); exact HO415.out))) (below_size (be w))); replace HO415 := As.mk (Kd.S_elder' (by (with_reducible repeat (first | apply Kd.S_alloc | apply Kd.S_drewN | apply Kd.S_drew)); exact HO415.out) (Kd.S_base ho0) hb); have HO425 := As.mk (Kd.S_lower (Kd.S_new' ho1 (Kd.S_lt (by (with_reducible repeat (first | apply Kd.S_alloc | apply Kd.S_drewN | apply Kd.S_drew)); exact HO418.out))) (below_size (be w))); replace HO418 := As.mk (Kd.S_elder' (by (with_reducible repeat (first | apply Kd.S_alloc | apply Kd.S_drewN | apply Kd.S_drew)); exact HO418.out) (Kd.S_base ho1) hb); replace BK411 := As.mk (blk_below (bx BK411.out) hb); replace HB := As.mk (below_step (be w) hb); (try clear hb); (try clear hk); (try clear ho0); (try clear ho1)) | ((with_reducible refine gate_dst (N := 9) rfl ?_); refine box_event ?hg (N := 9) ?hd (cs := #[.slice none 0 0, .slice none 0 0]) (t := 32) ?hr ?_; (case hd => rfl); (case hg => rfl); (case hr => first | (go_simp; done) | (go_simp; rfl)); intro gb426 hg w27 hbox hb; replace HO415 := As.mk (Kd.S_below (by (with_reducible repeat (first | apply Kd.S_alloc | apply Kd.S_drewN | apply Kd.S_drew)); exact HO415.out) hb); replace HO418 := As.mk (Kd.S_below (by (with_reducible repeat (first | apply Kd.S_alloc | apply Kd.S_drewN | apply Kd.S_drew)); exact HO418.out) hb); replace HO422 := As.mk (Kd.S_below (by (with_reducible repeat (first | apply Kd.S_alloc | apply Kd.S_drewN | apply Kd.S_drew)); exact HO422.out) hb); replace HO425 := As.mk (Kd.S_below (by (with_reducible repeat (first | apply Kd.S_alloc | apply Kd.S_drewN | apply Kd.S_drew)); exact HO425.out) hb); have BK426 := As.mk (hbox); have GW426 := As.mk (gs w hg); replace HB := As.mk (below_step (be w) hb); have NB411_426 := As.mk (nl hg (bx BK411.out)); have NB426_411 := As.mk (ng hg (bx BK411.out)); replace BK411 := As.mk (blk_below (bx BK411.out) hb); clear hb hbox hg; obtain ⟨Ao28, co28, eo28⟩ := Kd.S_slice HO422.out; subst eo28; have hnb29 := NB426_411.out; have hnc29 := NB411_426.out; obtain ⟨hcz30_0, hcz30_1, hfz30_0, hfz30_1⟩ := cl2 BK426.out; obtain ⟨Ao31, co31, eo31⟩ := Kd.S_slice HO425.out; subst eo31) | ((with_reducible refine gate_callee (f := 19) rfl ?_); refine goesL_ (some 26) rfl rfl Tryz.func19 (by kernel_rfl) rfl #[.agg #[.slice Ao28 t420.length co28, .slice Ao31 t423.length co31], .int .i64 a1, .int .i64 a2] rfl gl ?_; (with_reducible refine (impl_ShowStep.calls k _ _ t420 _ _ t423 a1 a2 t427 _ ?side1 ?side2 ?side3 ?side4 (by first | (with_reducible exact HTAB.out) | exact tabW_below HTAB.out (be w)) A12.out).mono ?_); (case side1 => refine (Kd.S_reads' (e := 62) (base := w.heap.size) (ok := fun k_ => (True ∧ some k_ ≠ (.slice Ao22 t413.length co22 : Value).ownBlock)) (n := t420.length) (c := co28) ?_).2.2; exact (by (with_reducible repeat (first | apply Kd.S_alloc | apply Kd.S_drewN | apply Kd.S_drew)); exact (Kd.S_mono (Kd.S_far (p := ⟨gb426, 1, none⟩) (Kd.S_far (p := ⟨gb426, 0, none⟩) (Kd.S_types HO422.out BK426.out (by decide)) (fun _ hk => hk.2) (.slice Ao28 t420.length co28)) (fun _ hk => hk.2) (.slice Ao31 t423.length co31)) (fun _ h_ => h_.1)))); (case side2 => exact (Kd.S_reads' HO422.out).2.1); (case side3 => refine (Kd.S_reads' (e := 56) (base := w.heap.size) (ok := fun k_ => (True ∧ some k_ ≠ (.slice Ao23 t416.length co23 : Value).ownBlock)) (n := t423.length) (c := co31) ?_).2.2; exact (by (with_reducible repeat (first | apply Kd.S_alloc | apply Kd.S_drewN | apply Kd.S_drew)); exact (Kd.S_mono (Kd.S_far (p := ⟨gb426, 1, none⟩) (Kd.S_far (p := ⟨gb426, 0, none⟩) (Kd.S_types HO425.out BK426.out (by decide)) (fun _ hk => hk.2) (.slice Ao28 t420.length co28)) (fun _ hk => hk.2) (.slice Ao31 t423.length co31)) (fun _ h_ => h_.1)))); (case side4 => exact (Kd.S_reads' HO425.out).2.1); rintro e w32 ⟨rfl, hb⟩; refine ⟨_, rfl, ?_⟩; replace HO415 := As.mk (Kd.S_below (by (with_reducible repeat (first | apply Kd.S_alloc | apply Kd.S_drewN | apply Kd.S_drew)); exact (Kd.S_mono (Kd.S_far (p := ⟨gb426, 1, none⟩) (Kd.S_far (p := ⟨gb426, 0, none⟩) (Kd.S_types HO415.out BK426.out (by decide)) (fun _ hk => hk.2) (.slice Ao28 t420.length co28)) (fun _ hk => hk.2) (.slice Ao31 t423.length co31)) (fun _ h_ => h_.1))) hb); replace HO418 := As.mk (Kd.S_below (by (with_reducible repeat (first | apply Kd.S_alloc | apply Kd.S_drewN | apply Kd.S_drew)); exact (Kd.S_mono (Kd.S_far (p := ⟨gb426, 1, none⟩) (Kd.S_far (p := ⟨gb426, 0, none⟩) (Kd.S_types HO418.out BK426.out (by decide)) (fun _ hk => hk.2) (.slice Ao28 t420.length co28)) (fun _ hk => hk.2) (.slice Ao31 t423.length co31)) (fun _ h_ => h_.1))) hb); replace HO422 := As.mk (Kd.S_below (by (with_reducible repeat (first | apply Kd.S_alloc | apply Kd.S_drewN | apply Kd.S_drew)); exact (Kd.S_mono (Kd.S_far (p := ⟨gb426, 1, none⟩) (Kd.S_far (p := ⟨gb426, 0, none⟩) (Kd.S_types HO422.out BK426.out (by decide)) (fun _ hk => hk.2) (.slice Ao28 t420.length co28)) (fun _ hk => hk.2) (.slice Ao31 t423.length co31)) (fun _ h_ => h_.1))) hb); replace HO425 := As.mk (Kd.S_below (by (with_reducible repeat (first | apply Kd.S_alloc | apply Kd.S_drewN | apply Kd.S_drew)); exact (Kd.S_mono (Kd.S_far (p := ⟨gb426, 1, none⟩) (Kd.S_far (p := ⟨gb426, 0, none⟩) (Kd.S_types HO425.out BK426.out (by decide)) (fun _ hk => hk.2) (.slice Ao28 t420.length co28)) (fun _ hk => hk.2) (.slice Ao31 t423.length co31)) (fun _ h_ => h_.1))) hb); replace BK411 := As.mk (blk_below (g := gb411) (o := .cells #[.slice A0_0 l0_0.length c0_0, .slice A0_1 l0_1.length c0_1] 25 (0, 0)) (by refine pl ?_; refine blk_far ?_ NB411_426.out _; refine pl ?_; refine blk_far ?_ NB411_426.out _; exact bx BK411.out) hb); replace BK426 := As.mk (blk_below (g := gb426) (o := .cells #[.slice Ao28 t420.length co28, .slice Ao31 t423.length co31] 32 (0, 0)) (by refine pl ?_; refine blk_put (cs := #[.slice Ao28 t420.length co28, .slice none 0 0]) ?_ 1 _ rfl; refine pl ?_; refine blk_put (cs := #[.slice none 0 0, .slice none 0 0]) ?_ 0 _ rfl; exact bx BK426.out) hb); replace HB := As.mk (below_step (be w) hb); (try clear hb); (try clear hk)))
 replace HO415 := As.mk (Kd.S_drew HO415.out)
 replace HO418 := As.mk (Kd.S_drew HO418.out)
 replace HO422 := As.mk (Kd.S_drew HO422.out)
 replace HO425 := As.mk (Kd.S_drew HO425.out)
 replace BK411 := As.mk (blk_drew BK411.out)
 replace BK426 := As.mk (blk_drew BK426.out)
 replace HB := As.mk (below_drew1 HB.out)
 refine start_ (n := 5) (S := fun w' => w'.cell? ⟨gb426, 0, none⟩ = some (.slice Ao28 t420.length co28) ∧ w'.cell? ⟨gb426, 1, none⟩ = some (.slice Ao31 t423.length co31) ∧ w'.cell? ⟨gb411, 0, none⟩ = some (.slice A0_0 l0_0.length c0_0) ∧ w'.cell? ⟨gb411, 1, none⟩ = some (.slice A0_1 l0_1.length c0_1)) (ds := []) #[O,O,O,O,O] (by kernel_rfl) rfl rfl ⟨(blk_cell BK426.out 0).trans rfl, (blk_cell BK426.out 1).trans rfl, (blk_cell BK411.out 0).trans rfl, (blk_cell BK411.out 1).trans rfl⟩ (fun hHeld => ?_)
 generalize w32.drew = w33 at HO415 HO418 HO422 HO425 BK411 BK426 HB hHeld ⊢
 refine take_ (i := 0) (N := some 30) (v := ?_) (a' := ?_) #[I,O,O,O,O] rfl rfl (by kernel_rfl) (fun _ _ _ h => h) (Or.inl ⟨by rfl, ?_⟩) hHeld ?_ ?_
 rotate_left; · rintro w' ⟨s0, s1, s2, s3⟩; go_simp; with_reducible rfl
 rotate_left; · simp only [pk, i64_w, i32_w]; rfl
 refine take_ (i := 1) (N := some 31) (v := ?_) (a' := ?_) #[I,I,O,O,O] rfl rfl (by kernel_rfl) (fun _ _ _ h => h) (Or.inl ⟨by rfl, ?_⟩) hHeld ?_ ?_
 rotate_left; · rintro w' ⟨s0, s1, s2, s3⟩; go_simp; with_reducible rfl
 rotate_left; · simp only [pk, i64_w, i32_w]; rfl
 refine one_ (i := 2) (N := some 32) #[I,I,I,O,O] rfl rfl (by kernel_rfl) (by decide) (fun K hK => ?_)
 refine goes_ Tryz.func11 (by kernel_rfl) rfl #[.agg #[.slice A0_0 l0_0.length c0_0, .slice A0_1 l0_1.length c0_1]] (by rfl) rfl rfl gl ?_
 with_reducible refine (laws_toProgram.calls k _ _ l0_0 _ _ l0_1 t428 t431 _ ?side1 ?side2 ?side3 ?side4 A14.out).mono ?_
 (case side1 => exact Kd.C_below HR0_0.out (be w))
 (case side2 => exact HC0_0.out)
 (case side3 => exact Kd.C_below HR0_1.out (be w))
 (case side4 => exact HC0_1.out)
 rintro e w34 ⟨v429, v432, rfl, ho0, ho1, hb⟩
 refine ⟨_, rfl, ?_⟩
 have HO430 := As.mk (Kd.S_lower (Kd.S_new' (Kd.S_new' ho0 (Kd.S_lt (by (with_reducible repeat (first | apply Kd.S_alloc | apply Kd.S_drewN | apply Kd.S_drew)); exact HO415.out))) (Kd.S_lt (by (with_reducible repeat (first | apply Kd.S_alloc | apply Kd.S_drewN | apply Kd.S_drew)); exact HO422.out))) (below_size (be w)))
 replace HO415 := As.mk (Kd.S_elder' (by (with_reducible repeat (first | apply Kd.S_alloc | apply Kd.S_drewN | apply Kd.S_drew)); exact HO415.out) (Kd.S_base ho0) hb)
 replace HO422 := As.mk (Kd.S_elder' (by (with_reducible repeat (first | apply Kd.S_alloc | apply Kd.S_drewN | apply Kd.S_drew)); exact HO422.out) (Kd.S_base ho0) hb)
 have HO433 := As.mk (Kd.S_lower (Kd.S_new' (Kd.S_new' ho1 (Kd.S_lt (by (with_reducible repeat (first | apply Kd.S_alloc | apply Kd.S_drewN | apply Kd.S_drew)); exact HO418.out))) (Kd.S_lt (by (with_reducible repeat (first | apply Kd.S_alloc | apply Kd.S_drewN | apply Kd.S_drew)); exact HO425.out))) (below_size (be w)))
 replace HO418 := As.mk (Kd.S_elder' (by (with_reducible repeat (first | apply Kd.S_alloc | apply Kd.S_drewN | apply Kd.S_drew)); exact HO418.out) (Kd.S_base ho1) hb)
 replace HO425 := As.mk (Kd.S_elder' (by (with_reducible repeat (first | apply Kd.S_alloc | apply Kd.S_drewN | apply Kd.S_drew)); exact HO425.out) (Kd.S_base ho1) hb)
 replace BK411 := As.mk (blk_below (bx BK411.out) hb)
 replace BK426 := As.mk (blk_below (bx BK426.out) hb)
 replace HB := As.mk (below_step (be w) hb)
 (try clear hb)
 (try clear hb2)
 (try clear hk)
 (try clear hi)
 (try clear ho0)
 (try clear ho1)
 obtain ⟨Ao35, co35, eo35⟩ := Kd.S_slice HO430.out
 (first | subst eo35 | (injection eo35 with f1_ f2_ f3_; have f4_ := f1_.symm; have f5_ := f3_.symm; clear f1_ f2_ f3_; subst f4_; subst f5_))
 obtain ⟨Ao36, co36, eo36⟩ := Kd.S_slice HO433.out
 (first | subst eo36 | (injection eo36 with f1_ f2_ f3_; have f4_ := f1_.symm; have f5_ := f3_.symm; clear f1_ f2_ f3_; subst f4_; subst f5_))
 refine hK.out _ _ ⟨(blk_cell BK426.out 0).trans rfl, (blk_cell BK426.out 1).trans rfl, (blk_cell BK411.out 0).trans rfl, (blk_cell BK411.out 1).trans rfl⟩ (fun hHeld => ?_)
 clear hK K
 refine norm_ (a' := ?_) ?_ ?_
 rotate_left
 ·
  show Act.put _ (some 32) _ = _
  simp only [pk, i64_w, i32_w]
  rfl
 refine one_ (i := 3) (N := some 33) #[I,I,I,I,O] rfl rfl (by kernel_rfl) (by decide) (fun K hK => ?_)
 refine goes_ Tryz.func14 (by kernel_rfl) rfl #[.agg #[.slice Ao28 t420.length co28, .slice Ao31 t423.length co31], .agg #[.slice Ao35 t428.length co35, .slice Ao36 t431.length co36]] (by rfl) rfl rfl gl ?_
 with_reducible refine (laws_eqProgram.calls k _ _ t420 _ _ t423 _ _ t428 _ _ t431 true _ ?side1 ?side2 ?side3 ?side4 ?side5 ?side6 ?side7 ?side8 A15.out).mono ?_
 (case side1 => repeat (first | exact (Kd.S_reads' HO422.out).2.2 | (with_reducible refine Kd.C_alloc ?_ _) | (with_reducible refine Kd.C_drewN ?_ _) | (with_reducible refine Kd.C_drew ?_)))
 (case side2 => exact (Kd.S_reads' HO422.out).2.1)
 (case side3 => repeat (first | exact (Kd.S_reads' HO425.out).2.2 | (with_reducible refine Kd.C_alloc ?_ _) | (with_reducible refine Kd.C_drewN ?_ _) | (with_reducible refine Kd.C_drew ?_)))
 (case side4 => exact (Kd.S_reads' HO425.out).2.1)
 (case side5 => repeat (first | exact (Kd.S_reads' HO430.out).2.2 | (with_reducible refine Kd.C_alloc ?_ _) | (with_reducible refine Kd.C_drewN ?_ _) | (with_reducible refine Kd.C_drew ?_)))
 (case side6 => exact (Kd.S_reads' HO430.out).2.1)
 (case side7 => repeat (first | exact (Kd.S_reads' HO433.out).2.2 | (with_reducible refine Kd.C_alloc ?_ _) | (with_reducible refine Kd.C_drewN ?_ _) | (with_reducible refine Kd.C_drew ?_)))
 (case side8 => exact (Kd.S_reads' HO433.out).2.1)
 rintro e w37 ⟨rfl, hb⟩
 refine ⟨_, rfl, ?_⟩
 replace HO415 := As.mk (Kd.S_below (by (with_reducible repeat (first | apply Kd.S_alloc | apply Kd.S_drewN | apply Kd.S_drew)); exact HO415.out) hb)
 replace HO418 := As.mk (Kd.S_below (by (with_reducible repeat (first | apply Kd.S_alloc | apply Kd.S_drewN | apply Kd.S_drew)); exact HO418.out) hb)
 replace HO422 := As.mk (Kd.S_below (by (with_reducible repeat (first | apply Kd.S_alloc | apply Kd.S_drewN | apply Kd.S_drew)); exact HO422.out) hb)
 replace HO425 := As.mk (Kd.S_below (by (with_reducible repeat (first | apply Kd.S_alloc | apply Kd.S_drewN | apply Kd.S_drew)); exact HO425.out) hb)
 replace HO430 := As.mk (Kd.S_below (by (with_reducible repeat (first | apply Kd.S_alloc | apply Kd.S_drewN | apply Kd.S_drew)); exact HO430.out) hb)
 replace HO433 := As.mk (Kd.S_below (by (with_reducible repeat (first | apply Kd.S_alloc | apply Kd.S_drewN | apply Kd.S_drew)); exact HO433.out) hb)
 replace BK411 := As.mk (blk_below (bx BK411.out) hb)
 replace BK426 := As.mk (blk_below (bx BK426.out) hb)
 replace HB := As.mk (below_step (be w) hb)
 (try clear hb)
 (try clear hb2)
 (try clear hk)
 (try clear hi)
 refine hK.out _ _ ⟨(blk_cell BK426.out 0).trans rfl, (blk_cell BK426.out 1).trans rfl, (blk_cell BK411.out 0).trans rfl, (blk_cell BK411.out 1).trans rfl⟩ (fun hHeld => ?_)
 clear hK K
 refine norm_ (a' := ?_) ?_ ?_
 rotate_left
 ·
  show Act.put _ (some 33) _ = _
  simp only [pk, i64_w, i32_w]
  rfl
 refine pure_ (i := 4) (N := some 34) (v := ?_) (a' := ?_) #[I,I,I,I,I] rfl rfl (by kernel_rfl) (fun _ _ _ h => h) (Or.inl ⟨by rfl, ?_⟩) ?_ ?_
 rotate_left; · intro w'; go_simp; with_reducible rfl
 rotate_left; · simp only [pk, i64_w, i32_w]; rfl
 refine done_ (by kernel_rfl) ?_
 try go_wp2
 go_ret
 exact ⟨ez, be w⟩
end Go.Proofs.YtcoapbnbakmkoaaGreatDoor.PFnExactShowStep
