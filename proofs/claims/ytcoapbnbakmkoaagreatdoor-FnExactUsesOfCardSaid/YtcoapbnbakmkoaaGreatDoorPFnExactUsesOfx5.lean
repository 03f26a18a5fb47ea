/- Written by a program of this session (a turned copy of the kit's print): a contract for each Go function. No condition beside those in each statement. -/
import Derived.Test.YtcoapbnbakmkoaaGreatDoorPFnExactUsesOfx0
import Derived.Test.YtcoapbnbakmkoaaGreatDoorPFnExactUsesOfx4
namespace Go.Proofs.YtcoapbnbakmkoaaGreatDoor.PFnExactUsesOf
open Go.RowKit Go.Proofs.YtcoapbnbakmkoaaGreatDoor.Given Go.Proofs.YtcoapbnbakmkoaaGreatDoorW.PrintWords Go.Proofs.YtcoapbnbakmkoaaGreatDoorW.PrintLast Go.Proofs.YtcoapbnbakmkoaaGreatDoorW.PrintMore
attribute [local go_sem] max2_int min2_int max_two min_two max_three min_three max_four min_four   -- for this text's walks alone
set_option linter.unusedVariables false
set_option linter.unusedSimpArgs false

/-! ### spec_l04Fits: function 115 -/
def spec_l04Fits.j0 : Nat → Int → Int → Int → Bool → Option (Bool)
 | 0, _, _, _, _ => none
 | k + 1, x1, x2, x7, x12 => if x12 = true then (if x1 > 0 then (some (x2 == 20)) else ((spec_l04Value.f x2).bind fun t214 => (some t214))) else (if x7 = 19 then (some (x2 == 12)) else ((spec_l04Value.f x2).bind fun t215 => (some t215)))
def spec_l04Fits.f (k : Nat) (a0 : Int) (a1 : Int) (a2 : Int) : Option (Bool) := if a0 = 20 then ((spec_l04Statement.f a2).bind fun t213 => (some t213)) else (if a0 = 16 then (spec_l04Fits.j0 k a1 a2 a0 (a0 == 16)) else (spec_l04Fits.j0 k a1 a2 a0 (a0 == 17)))
theorem spec_l04Fits.mono_l : ∀ k, (∀ y0 y1 y2 y3, LeO (spec_l04Fits.j0 k y0 y1 y2 y3) (spec_l04Fits.j0 (k + 1) y0 y1 y2 y3))
 | 0 => fun _ _ _ _ r h => by simp [spec_l04Fits.j0] at h
 | k + 1 => by
  have ih0 := spec_l04Fits.mono_l k
  ·
   intro y0 y1 y2 y3
   unfold spec_l04Fits.j0
   with_reducible repeat' first | exact ih0 _ _ _ _ | exact LeO.refl _ | exact LeO.none _ | refine LeO.ite ?_ ?_ | refine LeO.bind ?_ (fun _ => ?_)
theorem spec_l04Fits.mono : ∀ a0 a1 a2 k, LeO (spec_l04Fits.f k a0 a1 a2) (spec_l04Fits.f (k + 1) a0 a1 a2) := by
 intro a0 a1 a2 k
 have ih0 := spec_l04Fits.mono_l k
 unfold spec_l04Fits.f
 with_reducible repeat' first | exact ih0 _ _ _ _ | exact LeO.refl _ | exact LeO.none _ | refine LeO.ite ?_ ?_ | refine LeO.bind ?_ (fun _ => ?_)
set_option maxHeartbeats 8000000 in
set_option maxRecDepth 100000 in
theorem spec_l04Fits.calls (k : Nat) (a0 : Int) (a1 : Int) (a2 : Int) (r : Bool) (w : World) (h : spec_l04Fits.f k a0 a1 a2 = some r) :
  Calls Tryz.prog 115 #[.int .i64 a0, .int .i64 a1, .int .i64 a2] w fun e w' => e = .returned (.bool r) ∧ Drawn0 w w' := by
 have H : (if a0 = 20 then ((spec_l04Statement.f a2).bind fun t213 => (some t213)) else (if a0 = 16 then (spec_l04Fits.j0 k a1 a2 a0 (a0 == 16)) else (spec_l04Fits.j0 k a1 a2 a0 (a0 == 17)))) = some r := h
 clear h
 by_cases c4 : a0 = 20
 ·
  rw [if_pos c4] at H
  have c4b0 : (a0 == 20) = true := beq_iff_eq.mpr c4
  have c4b1 : (a0 != 20) = false := bne_eq_false_iff_eq.mpr c4
  clear c4
  obtain ⟨t213, A50, H⟩ := Option.bind_eq_some_iff.mp H
  try dsimp only at H
  have A5 := As.mk A50
  clear A50
  obtain rfl := Option.some.inj H
  go_enter Tryz.func115, Tryz.ntmps115
  go_wp2_with (first | ((with_reducible refine gate_callee (f := 44) rfl ?_); refine goesL_ (some 11) rfl rfl Tryz.func44 (by kernel_rfl) rfl #[.int .i64 a2] rfl (by (try simp only [lm]); first | done | rfl | (simp only [List.length_drop, List.length_take]; rfl)) ?_; (with_reducible refine (spec_l04Statement.calls a2 t213 _ A5.out).mono ?_); rintro e w' ⟨rfl, ⟨nd, rfl⟩⟩; refine ⟨_, rfl, ?_⟩))
  go_ret
  exact dw
 rw [if_neg c4] at H
 have c4b0 : (a0 == 20) = false := beq_eq_false_iff_ne.mpr c4
 have c4b1 : (a0 != 20) = true := bne_iff_ne.mpr c4
 have HC6 := As.mk H
 clear H
 go_enter Tryz.func115, Tryz.ntmps115
 go_upto_if 12 with (fail)
 go_cut [12] (fun v12 wc => ∃ (kq : Nat) (x12_5 : Bool), v12 = .bool x12_5 ∧ As (spec_l04Fits.j0 kq a1 a2 a0 x12_5 = some r) ∧ As (kq ≤ k) ∧ Drawn0 w wc)
 case first =>
  have H := HC6.out
  clear HC6
  by_cases c7 : a0 = 16
  rotate_left
  ·
   rw [if_neg c7] at H
   have c7b0 : (a0 == 16) = false := beq_eq_false_iff_ne.mpr c7
   have c7b1 : (a0 != 16) = true := bne_iff_ne.mpr c7
   (first | rw [c7b0] | (simp only [i64_w, i32_w]; rw [c7b0]) | skip)
   have H' := As.mk H
   clear H
   go_wp2
   go_meet
   case rel => exact ⟨_, ((a0 == 17)), (by first | rfl | (simp; done) | (simp [*]; done)), H', ⟨by first | omega | exact Nat.le_refl _⟩, by repeat (first | exact Drawn0.refl _ | apply Drawn0.step)⟩
  rw [if_pos c7] at H
  have c7b0 : (a0 == 16) = true := beq_iff_eq.mpr c7
  have c7b1 : (a0 != 16) = false := bne_eq_false_iff_eq.mpr c7
  clear c7
  (first | rw [c7b0] | (simp only [i64_w, i32_w]; rw [c7b0]) | skip)
  have H' := As.mk H
  clear H
  go_wp2
  go_meet
  case rel => exact ⟨_, ((a0 == 16)), (by first | rfl | (simp; done) | (simp [*]; done)), H', ⟨by first | omega | exact Nat.le_refl _⟩, by repeat (first | exact Drawn0.refl _ | apply Drawn0.step)⟩
 case rest =>
  clear HC6
  (try clear c4); (try clear c4b0); (try clear c4b1)
  obtain ⟨kq, x12_5, rfl, HA, HJ5, ⟨mc5, rfl⟩⟩ := hcut
  cases kq with
  | zero => exact absurd HA.out (by simp [spec_l04Fits.j0])
  | succ kj5 =>
   have H := HA.out
   clear HA
   simp only [spec_l04Fits.j0] at H
   by_cases c8 : x12_5 = true
   ·
    subst c8
    rw [if_pos rfl] at H
    by_cases c9 : a1 > 0
    ·
     rw [if_pos c9] at H
     have c9b0 : decide (0 < a1) = true := decide_eq_true c9
     clear c9
     obtain rfl := Option.some.inj H
     go_wp2
     go_ret
     exact dw
    rw [if_neg c9] at H
    have c9b0 : decide (0 < a1) = false := decide_eq_false c9
    clear c9
    obtain ⟨t214, A100, H⟩ := Option.bind_eq_some_iff.mp H
    try dsimp only at H
    have A10 := As.mk A100
    clear A100
    obtain rfl := Option.some.inj H
    go_wp2_with (first | ((with_reducible refine gate_callee (f := 55) rfl ?_); refine goesL_ (some 24) rfl rfl Tryz.func55 (by kernel_rfl) rfl #[.int .i64 a2] rfl (by (try simp only [lm]); first | done | rfl | (simp only [List.length_drop, List.length_take]; rfl)) ?_; (with_reducible refine (spec_l04Value.calls a2 t214 _ A10.out).mono ?_); rintro e w' ⟨rfl, ⟨nd, rfl⟩⟩; refine ⟨_, rfl, ?_⟩))
    go_ret
    exact dw
   replace c8 := Bool.eq_false_iff.mpr c8
   subst c8
   rw [if_neg (show ¬ (false = true) by decide)] at H
   by_cases c11 : a0 = 19
   ·
    rw [if_pos c11] at H
    have c11b0 : (a0 == 19) = true := beq_iff_eq.mpr c11
    have c11b1 : (a0 != 19) = false := bne_eq_false_iff_eq.mpr c11
    clear c11
    obtain rfl := Option.some.inj H
    go_wp2
    go_ret
    exact dw
   rw [if_neg c11] at H
   have c11b0 : (a0 == 19) = false := beq_eq_false_iff_ne.mpr c11
   have c11b1 : (a0 != 19) = true := bne_iff_ne.mpr c11
   obtain ⟨t215, A120, H⟩ := Option.bind_eq_some_iff.mp H
   try dsimp only at H
   have A12 := As.mk A120
   clear A120
   obtain rfl := Option.some.inj H
   go_wp2_with (first | ((with_reducible refine gate_callee (f := 55) rfl ?_); refine goesL_ (some 24) rfl rfl Tryz.func55 (by kernel_rfl) rfl #[.int .i64 a2] rfl (by (try simp only [lm]); first | done | rfl | (simp only [List.length_drop, List.length_take]; rfl)) ?_; (with_reducible refine (spec_l04Value.calls a2 t215 _ A12.out).mono ?_); rintro e w' ⟨rfl, ⟨nd, rfl⟩⟩; refine ⟨_, rfl, ?_⟩))
   go_ret
   exact dw

end Go.Proofs.YtcoapbnbakmkoaaGreatDoor.PFnExactUsesOf
