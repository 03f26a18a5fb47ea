/- Written by a program of this session (a turned copy of the kit's print): a contract for each Go function. No condition beside those in each statement. -/
import Derived.Test.YtcoapbnbakmkoaaGreatDoorPFnExactShowStepx0
import Derived.Test.YtcoapbnbakmkoaaGreatDoorPFnExactShowStepx9
namespace Go.Proofs.YtcoapbnbakmkoaaGreatDoor.PFnExactShowStep
open Go.RowKit Go.Proofs.YtcoapbnbakmkoaaGreatDoor.Given Go.Proofs.YtcoapbnbakmkoaaGreatDoorW.PrintWords Go.Proofs.YtcoapbnbakmkoaaGreatDoorW.PrintLast Go.Proofs.YtcoapbnbakmkoaaGreatDoorW.PrintMore
attribute [local go_sem] max2_int min2_int max_two min_two max_three min_three max_four min_four   -- for this text's walks alone
set_option linter.unusedVariables false
set_option linter.unusedSimpArgs false

/-! ### impl_kidFits: function 117 -/
def impl_kidFits.j0 : Nat → Int → Int → Bool → Option (Bool)
 | 0, _, _, _ => none
 | k + 1, x0, x2, x12 => if x12 = true then (some (x2 == 20)) else (if x0 = 19 then (some (x2 == 12)) else ((impl_isValue.f x2).bind fun t328 => (some t328)))
def impl_kidFits.f (k : Nat) (a0 : Int) (a1 : Int) (a2 : Int) : Option (Bool) := if a0 = 20 then ((impl_isStep.f a2).bind fun t327 => (some t327)) else (if a0 = 16 then (impl_kidFits.j0 k a0 a2 (decide (a1 > 0))) else (if a0 = 17 then (impl_kidFits.j0 k a0 a2 (decide (a1 > 0))) else (impl_kidFits.j0 k a0 a2 false)))
theorem impl_kidFits.mono_l : ∀ k, (∀ y0 y1 y2, LeO (impl_kidFits.j0 k y0 y1 y2) (impl_kidFits.j0 (k + 1) y0 y1 y2))
 | 0 => fun _ _ _ r h => by simp [impl_kidFits.j0] at h
 | k + 1 => by
  have ih0 := impl_kidFits.mono_l k
  ·
   intro y0 y1 y2
   unfold impl_kidFits.j0
   with_reducible repeat' first | exact ih0 _ _ _ | exact LeO.refl _ | exact LeO.none _ | refine LeO.ite ?_ ?_ | refine LeO.bind ?_ (fun _ => ?_)
theorem impl_kidFits.mono : ∀ a0 a1 a2 k, LeO (impl_kidFits.f k a0 a1 a2) (impl_kidFits.f (k + 1) a0 a1 a2) := by
 intro a0 a1 a2 k
 have ih0 := impl_kidFits.mono_l k
 unfold impl_kidFits.f
 with_reducible repeat' first | exact ih0 _ _ _ | exact LeO.refl _ | exact LeO.none _ | refine LeO.ite ?_ ?_ | refine LeO.bind ?_ (fun _ => ?_)
set_option maxHeartbeats 8000000 in
set_option maxRecDepth 100000 in
theorem impl_kidFits.calls (k : Nat) (a0 : Int) (a1 : Int) (a2 : Int) (r : Bool) (w : World) (h : impl_kidFits.f k a0 a1 a2 = some r) :
  Calls Tryz.prog 117 #[.int .i64 a0, .int .i64 a1, .int .i64 a2] w fun e w' => e = .returned (.bool r) ∧ Drawn0 w w' := by
 have H : (if a0 = 20 then ((impl_isStep.f a2).bind fun t327 => (some t327)) else (if a0 = 16 then (impl_kidFits.j0 k a0 a2 (decide (a1 > 0))) else (if a0 = 17 then (impl_kidFits.j0 k a0 a2 (decide (a1 > 0))) else (impl_kidFits.j0 k a0 a2 false)))) = some r := h
 clear h
 by_cases c4 : a0 = 20
 ·
  rw [if_pos c4] at H
  have c4b0 : (a0 == 20) = true := beq_iff_eq.mpr c4
  have c4b1 : (a0 != 20) = false := bne_eq_false_iff_eq.mpr c4
  clear c4
  obtain ⟨t327, A50, H⟩ := Option.bind_eq_some_iff.mp H
  try dsimp only at H
  have A5 := As.mk A50
  clear A50
  obtain rfl := Option.some.inj H
  go_enter Tryz.func117, Tryz.ntmps117
  go_wp2_with (first | ((with_reducible refine gate_callee (f := 47) rfl ?_); refine goesL_ (some 11) rfl rfl Tryz.func47 (by kernel_rfl) rfl #[.int .i64 a2] rfl gl ?_; (with_reducible refine (impl_isStep.calls a2 t327 _ A5.out).mono ?_); rintro e w' ⟨rfl, ⟨nd, rfl⟩⟩; refine ⟨_, rfl, ?_⟩))
  go_ret
  exact dw
 rw [if_neg c4] at H
 have c4b0 : (a0 == 20) = false := beq_eq_false_iff_ne.mpr c4
 have c4b1 : (a0 != 20) = true := bne_iff_ne.mpr c4
 have HC6 := As.mk H
 clear H
 go_enter Tryz.func117, Tryz.ntmps117
 go_upto_region 3 with (fail)
 go_cut [12] (fun v12 wc => ∃ (kq : Nat) (x12_5 : Bool), v12 = .bool x12_5 ∧ As (impl_kidFits.j0 kq a0 a2 x12_5 = some r) ∧ As (kq ≤ k) ∧ Drawn0 w wc)
 case first =>
  have H := HC6.out
  clear HC6
  by_cases c7 : a0 = 16
  ·
   rw [if_pos c7] at H
   have c7b0 : (a0 == 16) = true := beq_iff_eq.mpr c7
   have c7b1 : (a0 != 16) = false := bne_eq_false_iff_eq.mpr c7
   clear c7
   (first | rw [c7b0] | (simp only [i64_w, i32_w]; rw [c7b0]) | skip)
   have H' := As.mk H
   clear H
   go_wp2
   go_meet
   case rel => exact ⟨_, (decide (a1 > 0)), (by first | rfl | (simp; done) | (simp [*]; done)), H', ⟨by first | omega | exact Nat.le_refl _⟩, by repeat (first | exact Drawn0.refl _ | apply Drawn0.step)⟩
  rw [if_neg c7] at H
  have c7b0 : (a0 == 16) = false := beq_eq_false_iff_ne.mpr c7
  have c7b1 : (a0 != 16) = true := bne_iff_ne.mpr c7
  (first | rw [c7b0] | (simp only [i64_w, i32_w]; rw [c7b0]) | skip)
  by_cases c8 : a0 = 17
  rotate_left
  ·
   rw [if_neg c8] at H
   have c8b0 : (a0 == 17) = false := beq_eq_false_iff_ne.mpr c8
   have c8b1 : (a0 != 17) = true := bne_iff_ne.mpr c8
   have H' := As.mk H
   clear H
   go_wp2
   go_meet
   case rel => exact ⟨_, (false), (by first | rfl | (simp; done) | (simp [*]; done)), H', ⟨by first | omega | exact Nat.le_refl _⟩, by repeat (first | exact Drawn0.refl _ | apply Drawn0.step)⟩
  rw [if_pos c8] at H
  have c8b0 : (a0 == 17) = true := beq_iff_eq.mpr c8
  have c8b1 : (a0 != 17) = false := bne_eq_false_iff_eq.mpr c8
  clear c8
  have H' := As.mk H
  clear H
  go_wp2
  go_meet
  case rel => exact ⟨_, (decide (a1 > 0)), (by first | rfl | (simp; done) | (simp [*]; done)), H', ⟨by first | omega | exact Nat.le_refl _⟩, by repeat (first | exact Drawn0.refl _ | apply Drawn0.step)⟩
 case rest =>
  clear HC6
  (try clear c4); (try clear c4b0); (try clear c4b1)
  obtain ⟨kq, x12_5, rfl, HA, HJ5, ⟨mc5, rfl⟩⟩ := hcut
  cases kq with
  | zero => exact absurd HA.out (by simp [impl_kidFits.j0])
  | succ kj5 =>
   have H := HA.out
   clear HA
   simp only [impl_kidFits.j0] at H
   by_cases c9 : x12_5 = true
   ·
    subst c9
    rw [if_pos rfl] at H
    obtain rfl := Option.some.inj H
    go_wp2
    go_ret
    exact dw
   replace c9 := Bool.eq_false_iff.mpr c9
   subst c9
   rw [if_neg (show ¬ (false = true) by decide)] at H
   by_cases c10 : a0 = 19
   ·
    rw [if_pos c10] at H
    have c10b0 : (a0 == 19) = true := beq_iff_eq.mpr c10
    have c10b1 : (a0 != 19) = false := bne_eq_false_iff_eq.mpr c10
    clear c10
    obtain rfl := Option.some.inj H
    go_wp2
    go_ret
    exact dw
   rw [if_neg c10] at H
   have c10b0 : (a0 == 19) = false := beq_eq_false_iff_ne.mpr c10
   have c10b1 : (a0 != 19) = true := bne_iff_ne.mpr c10
   obtain ⟨t328, A110, H⟩ := Option.bind_eq_some_iff.mp H
   try dsimp only at H
   have A11 := As.mk A110
   clear A110
   obtain rfl := Option.some.inj H
   go_wp2_with (first | ((with_reducible refine gate_callee (f := 56) rfl ?_); refine goesL_ (some 31) rfl rfl Tryz.func56 (by kernel_rfl) rfl #[.int .i64 a2] rfl gl ?_; (with_reducible refine (impl_isValue.calls a2 t328 _ A11.out).mono ?_); rintro e w' ⟨rfl, ⟨nd, rfl⟩⟩; refine ⟨_, rfl, ?_⟩))
   go_ret
   exact dw

/-! ### impl_hasName: function 118 -/
def impl_hasName.f (a0 : Int) : Option (Bool) := (impl_in.f a0 2 6).bind fun t329 => (if t329 = true then (some true) else ((impl_in.f a0 12 15).bind fun t330 => (some t330)))
set_option maxHeartbeats 8000000 in
set_option maxRecDepth 100000 in
theorem impl_hasName.calls (a0 : Int) (r : Bool) (w : World) (h : impl_hasName.f a0 = some r) :
  Calls Tryz.prog 118 #[.int .i64 a0] w fun e w' => e = .returned (.bool r) ∧ Drawn0 w w' := by
 have H : ((impl_in.f a0 2 6).bind fun t329 => (if t329 = true then (some true) else ((impl_in.f a0 12 15).bind fun t330 => (some t330)))) = some r := h
 clear h
 obtain ⟨t329, A20, H⟩ := Option.bind_eq_some_iff.mp H
 try dsimp only at H
 have A2 := As.mk A20
 clear A20
 by_cases c3 : t329 = true
 ·
  subst c3
  rw [if_pos rfl] at H
  obtain rfl := Option.some.inj H
  go_enter Tryz.func118, Tryz.ntmps118
  go_wp2_with (first | ((with_reducible refine gate_callee (f := 36) rfl ?_); refine goesL_ (some 4) rfl rfl Tryz.func36 (by kernel_rfl) rfl #[.int .i64 a0, .int .i64 2, .int .i64 6] rfl gl ?_; (with_reducible refine (impl_in.calls a0 2 6 true _ A2.out).mono ?_); rintro e w' ⟨rfl, ⟨nd, rfl⟩⟩; refine ⟨_, rfl, ?_⟩))
  go_ret
  exact dw
 replace c3 := Bool.eq_false_iff.mpr c3
 subst c3
 rw [if_neg (show ¬ (false = true) by decide)] at H
 obtain ⟨t330, A40, H⟩ := Option.bind_eq_some_iff.mp H
 try dsimp only at H
 have A4 := As.mk A40
 clear A40
 obtain rfl := Option.some.inj H
 go_enter Tryz.func118, Tryz.ntmps118
 go_wp2_with (first | ((with_reducible refine gate_callee (f := 36) rfl ?_); refine goesL_ (some 4) rfl rfl Tryz.func36 (by kernel_rfl) rfl #[.int .i64 a0, .int .i64 2, .int .i64 6] rfl gl ?_; (with_reducible refine (impl_in.calls a0 2 6 false _ A2.out).mono ?_); rintro e w' ⟨rfl, ⟨nd, rfl⟩⟩; refine ⟨_, rfl, ?_⟩) | (go_at_call 36; (with_reducible refine (impl_in.calls a0 12 15 t330 _ A4.out).mono ?_); rintro e w' ⟨rfl, ⟨nd, rfl⟩⟩))
 go_ret
 exact dw

end Go.Proofs.YtcoapbnbakmkoaaGreatDoor.PFnExactShowStep
