/- Written by a program of this session (a turned copy of the kit's print): a contract for each Go function. No condition beside those in each statement. -/
import Derived.Test.YtcoapbnbakmkoaaDoorPFnSignsx0
import Derived.Test.YtcoapbnbakmkoaaDoorPFnSignsx2
namespace Go.Proofs.YtcoapbnbakmkoaaDoor.PFnSigns
open Go.RowKit Go.Proofs.YtcoapbnbakmkoaaDoor.Given Go.Proofs.YtcoapbnbakmkoaaDoorW.PrintWords Go.Proofs.YtcoapbnbakmkoaaDoorW.PrintLast Go.Proofs.YtcoapbnbakmkoaaDoorW.PrintMore
attribute [local go_sem] max2_int min2_int max_two min_two max_three min_three max_four min_four   -- for this text's walks alone
set_option linter.unusedVariables false
set_option linter.unusedSimpArgs false

/-! ### impl_wordEnd: function 41 -/
def impl_wordEnd.l0 : Nat → ByteArray → Int → Bool → Option (Int)
 | 0, _, _, _ => none
 | k + 1, x0, x1, x2 => if x1 < (x0.size : Int) then (if 0 ≤ x1 then ((impl_isFigure.f (bt x0 x1)).bind fun t187 => (if t187 = true then (impl_wordEnd.l0 k x0 (wrap64 (x1 + 1)) x2) else (if x2 = true then ((impl_isLetter.f (bt x0 x1)).bind fun t188 => (if t188 = true then (impl_wordEnd.l0 k x0 (wrap64 (x1 + 1)) x2) else (some x1))) else (some x1)))) else (none)) else (some x1)
def impl_wordEnd.f (k : Nat) (a0 : ByteArray) (a1 : Int) (a2 : Bool) : Option (Int) := impl_wordEnd.l0 k a0 a1 a2
theorem impl_wordEnd.mono_l : ∀ k, (∀ y0 y1 y2, LeO (impl_wordEnd.l0 k y0 y1 y2) (impl_wordEnd.l0 (k + 1) y0 y1 y2))
 | 0 => fun _ _ _ r h => by simp [impl_wordEnd.l0] at h
 | k + 1 => by
  have ih0 := impl_wordEnd.mono_l k
  ·
   intro y0 y1 y2
   unfold impl_wordEnd.l0
   with_reducible repeat' first | exact ih0 _ _ _ | exact LeO.refl _ | exact LeO.none _ | refine LeO.ite ?_ ?_ | refine LeO.bind ?_ (fun _ => ?_)
theorem impl_wordEnd.mono : ∀ a0 a1 a2 k, LeO (impl_wordEnd.f k a0 a1 a2) (impl_wordEnd.f (k + 1) a0 a1 a2) := by
 intro a0 a1 a2 k
 have ih0 := impl_wordEnd.mono_l k
 unfold impl_wordEnd.f
 with_reducible repeat' first | exact ih0 _ _ _ | exact LeO.refl _ | exact LeO.none _ | refine LeO.ite ?_ ?_ | refine LeO.bind ?_ (fun _ => ?_)
set_option maxHeartbeats 8000000 in
set_option maxRecDepth 100000 in
theorem impl_wordEnd.calls (k : Nat) (a0 : ByteArray) (a1 : Int) (a2 : Bool) (r : Int) (w : World) (h : impl_wordEnd.f k a0 a1 a2 = some r) :
  Calls Tryd.prog 41 #[.string a0, .int .i64 a1, .bool a2] w fun e w' => e = .returned (.int .i64 r) ∧ Drawn0 w w' := by
 have H : (impl_wordEnd.l0 k a0 a1 a2) = some r := h
 clear h
 have H' := As.mk H
 clear H
 go_enter Tryd.func41, Tryd.ntmps41
 go_wp2
 go_loopg [1] k (fun kq v1 w' => ∃ (x1_1 : Int), v1 = .int .i64 x1_1 ∧ As (impl_wordEnd.l0 kq a0 x1_1 a2 = some r) ∧ As (kq ≤ k) ∧ Drawn0 w w')
 case atStart => exact ⟨(a1), (by first | rfl | (simp; done) | (simp [*]; done)), H', ⟨Nat.le_refl _⟩, by repeat (first | exact Drawn0.refl _ | apply Drawn0.step)⟩
 case round =>
  clear H'
  obtain ⟨x1_1, rfl, HA, HK1, ⟨m1, rfl⟩⟩ := hrel
  cases gk with
  | zero => exact absurd HA.out (by simp [impl_wordEnd.l0])
  | succ k1 =>
   have H := HA.out
   clear HA
   simp only [impl_wordEnd.l0] at H
   by_cases c4 : x1_1 < (a0.size : Int)
   rotate_left
   ·
    rw [if_neg c4] at H
    have c4b0 : decide (x1_1 < (a0.size : Int)) = false := decide_eq_false c4
    clear c4
    obtain rfl := Option.some.inj H
    go_wp2
    go_ret
    exact ⟨by first | rfl | (simp; done) | (simp [*]; done), by repeat (first | exact Drawn0.refl _ | apply Drawn0.step)⟩

   rw [if_pos c4] at H
   have c4b0 : decide (x1_1 < (a0.size : Int)) = true := decide_eq_true c4
   clear c4
   by_cases c5 : 0 ≤ x1_1
   rotate_left
   ·
    rw [if_neg c5] at H
    exact absurd H (by simp)
   rw [if_pos c5] at H
   have c5b0 : decide (0 ≤ x1_1) = true := decide_eq_true c5
   clear c5
   obtain ⟨t187, A70, H⟩ := Option.bind_eq_some_iff.mp H
   try dsimp only at H
   have A7 := As.mk A70
   clear A70
   by_cases c8 : t187 = true
   ·
    subst c8
    rw [if_pos rfl] at H
    have H' := As.mk H
    clear H
    have p6 : 0 ≤ (x1_1 : Int) := of_decide_eq_true (by first | (with_reducible assumption) | assumption)
    have q6 : x1_1 < (a0.size : Int) := of_decide_eq_true (by first | (with_reducible assumption) | assumption)
    have hx6 := bt_at a0 x1_1
    replace p6 := eq_true p6
    replace q6 := eq_true q6
    go_wp2_with (first | (go_at_call 42; (with_reducible refine (impl_isFigure.calls (bt a0 x1_1) true _ A7.out).mono ?_); rintro e w' ⟨rfl, ⟨nd, rfl⟩⟩))
    go_roundg k1
    case measure => have := HK1.out; omega
    case rel => exact ⟨(wrap64 (x1_1 + 1)), (by first | rfl | (simp; done) | (simp [*]; done)), H', ⟨by have := HK1.out; omega⟩, by repeat (first | exact Drawn0.refl _ | apply Drawn0.step)⟩
   replace c8 := Bool.eq_false_iff.mpr c8
   subst c8
   rw [if_neg (show ¬ (false = true) by decide)] at H
   by_cases c9 : a2 = true
   rotate_left
   ·
    replace c9 := Bool.eq_false_iff.mpr c9
    subst c9
    rw [if_neg (show ¬ (false = true) by decide)] at H
    obtain rfl := Option.some.inj H
    have p6 : 0 ≤ (x1_1 : Int) := of_decide_eq_true (by first | (with_reducible assumption) | assumption)
    have q6 : x1_1 < (a0.size : Int) := of_decide_eq_true (by first | (with_reducible assumption) | assumption)
    have hx6 := bt_at a0 x1_1
    replace p6 := eq_true p6
    replace q6 := eq_true q6
    go_wp2_with (first | (go_at_call 42; (with_reducible refine (impl_isFigure.calls (bt a0 x1_1) false _ A7.out).mono ?_); rintro e w' ⟨rfl, ⟨nd, rfl⟩⟩))
    go_ret
    exact ⟨by first | rfl | (simp; done) | (simp [*]; done), by repeat (first | exact Drawn0.refl _ | apply Drawn0.step)⟩
   subst c9
   rw [if_pos rfl] at H
   obtain ⟨t188, A110, H⟩ := Option.bind_eq_some_iff.mp H
   try dsimp only at H
   have A11 := As.mk A110
   clear A110
   by_cases c12 : t188 = true
   rotate_left
   ·
    replace c12 := Bool.eq_false_iff.mpr c12
    subst c12
    rw [if_neg (show ¬ (false = true) by decide)] at H
    obtain rfl := Option.some.inj H
    have p6 : 0 ≤ (x1_1 : Int) := of_decide_eq_true (by first | (with_reducible assumption) | assumption)
    have q6 : x1_1 < (a0.size : Int) := of_decide_eq_true (by first | (with_reducible assumption) | assumption)
    have hx6 := bt_at a0 x1_1
    replace p6 := eq_true p6
    replace q6 := eq_true q6
    go_wp2_with (first | (go_at_call 42; (with_reducible refine (impl_isFigure.calls (bt a0 x1_1) false _ A7.out).mono ?_); rintro e w' ⟨rfl, ⟨nd, rfl⟩⟩; have p10 : 0 ≤ (x1_1 : Int) := of_decide_eq_true (by first | (with_reducible assumption) | assumption); have q10 : x1_1 < (a0.size : Int) := of_decide_eq_true (by first | (with_reducible assumption) | assumption); have hx10 := bt_at a0 x1_1; replace p10 := eq_true p10; replace q10 := eq_true q10) | (go_at_call 40; (with_reducible refine (impl_isLetter.calls (bt a0 x1_1) false _ A11.out).mono ?_); rintro e w' ⟨rfl, ⟨nd, rfl⟩⟩))
    go_ret
    exact ⟨by first | rfl | (simp; done) | (simp [*]; done), by repeat (first | exact Drawn0.refl _ | apply Drawn0.step)⟩
   subst c12
   rw [if_pos rfl] at H
   have H' := As.mk H
   clear H
   have p6 : 0 ≤ (x1_1 : Int) := of_decide_eq_true (by first | (with_reducible assumption) | assumption)
   have q6 : x1_1 < (a0.size : Int) := of_decide_eq_true (by first | (with_reducible assumption) | assumption)
   have hx6 := bt_at a0 x1_1
   replace p6 := eq_true p6
   replace q6 := eq_true q6
   go_wp2_with (first | (go_at_call 42; (with_reducible refine (impl_isFigure.calls (bt a0 x1_1) false _ A7.out).mono ?_); rintro e w' ⟨rfl, ⟨nd, rfl⟩⟩; have p10 : 0 ≤ (x1_1 : Int) := of_decide_eq_true (by first | (with_reducible assumption) | assumption); have q10 : x1_1 < (a0.size : Int) := of_decide_eq_true (by first | (with_reducible assumption) | assumption); have hx10 := bt_at a0 x1_1; replace p10 := eq_true p10; replace q10 := eq_true q10) | (go_at_call 40; (with_reducible refine (impl_isLetter.calls (bt a0 x1_1) true _ A11.out).mono ?_); rintro e w' ⟨rfl, ⟨nd, rfl⟩⟩))
   go_roundg k1
   case measure => have := HK1.out; omega
   case rel => exact ⟨(wrap64 (x1_1 + 1)), (by first | rfl | (simp; done) | (simp [*]; done)), H', ⟨by have := HK1.out; omega⟩, by repeat (first | exact Drawn0.refl _ | apply Drawn0.step)⟩
/-! ### impl_in: function 53 -/
def impl_in.f (a0 : Int) (a1 : Int) (a2 : Int) : Option (Bool) := if a0 ≥ a1 then (some (decide (a0 ≤ a2))) else (some false)
set_option maxHeartbeats 8000000 in
set_option maxRecDepth 100000 in
theorem impl_in.calls (a0 : Int) (a1 : Int) (a2 : Int) (r : Bool) (w : World) (h : impl_in.f a0 a1 a2 = some r) :
  Calls Tryd.prog 53 #[.int .i64 a0, .int .i64 a1, .int .i64 a2] w fun e w' => e = .returned (.bool r) ∧ Drawn0 w w' := by
 have H : (if a0 ≥ a1 then (some (decide (a0 ≤ a2))) else (some false)) = some r := h
 clear h
 by_cases c4 : a0 ≥ a1
 ·
  rw [if_pos c4] at H
  have c4b0 : decide (a1 ≤ a0) = true := decide_eq_true c4
  clear c4
  obtain rfl := Option.some.inj H
  go_enter Tryd.func53, Tryd.ntmps53
  go_wp2
  go_ret
  exact ⟨by first | rfl | (simp; done) | (simp [*]; done), by repeat (first | exact Drawn0.refl _ | apply Drawn0.step)⟩
 rw [if_neg c4] at H
 have c4b0 : decide (a1 ≤ a0) = false := decide_eq_false c4
 clear c4
 obtain rfl := Option.some.inj H
 go_enter Tryd.func53, Tryd.ntmps53
 go_wp2
 go_ret
 exact ⟨by first | rfl | (simp; done) | (simp [*]; done), by repeat (first | exact Drawn0.refl _ | apply Drawn0.step)⟩

/-! ### impl_numberOf: function 43 -/
def impl_numberOf.l0 : Nat → ByteArray → Int → Int → Option (Int × Bool)
 | 0, _, _, _ => none
 | k + 1, x0, x4, x5 => if x5 < (x0.size : Int) then (if x5 < 10 then (if 0 ≤ x5 then (impl_numberOf.l0 k x0 (wrap64 ((wrap64 (10 * x4)) + (((bt x0 x5) - 48) % 256))) (wrap64 (x5 + 1))) else (none)) else ((impl_in.f (x0.size : Int) 1 10).bind fun t189 => (if t189 = true then (some (x4, decide (x4 ≤ 1000000000))) else (some (x4, false))))) else ((impl_in.f (x0.size : Int) 1 10).bind fun t190 => (if t190 = true then (some (x4, decide (x4 ≤ 1000000000))) else (some (x4, false))))
def impl_numberOf.f (k : Nat) (a0 : ByteArray) : Option (Int × Bool) := impl_numberOf.l0 k a0 0 0
theorem impl_numberOf.mono_l : ∀ k, (∀ y0 y1 y2, LeO (impl_numberOf.l0 k y0 y1 y2) (impl_numberOf.l0 (k + 1) y0 y1 y2))
 | 0 => fun _ _ _ r h => by simp [impl_numberOf.l0] at h
 | k + 1 => by
  have ih0 := impl_numberOf.mono_l k
  ·
   intro y0 y1 y2
   unfold impl_numberOf.l0
   with_reducible repeat' first | exact ih0 _ _ _ | exact LeO.refl _ | exact LeO.none _ | refine LeO.ite ?_ ?_ | refine LeO.bind ?_ (fun _ => ?_)
theorem impl_numberOf.mono : ∀ a0 k, LeO (impl_numberOf.f k a0) (impl_numberOf.f (k + 1) a0) := by
 intro a0 k
 have ih0 := impl_numberOf.mono_l k
 unfold impl_numberOf.f
 with_reducible repeat' first | exact ih0 _ _ _ | exact LeO.refl _ | exact LeO.none _ | refine LeO.ite ?_ ?_ | refine LeO.bind ?_ (fun _ => ?_)
set_option maxHeartbeats 8000000 in
set_option maxRecDepth 100000 in
theorem impl_numberOf.calls (k : Nat) (a0 : ByteArray) (r1 : Int) (r2 : Bool) (w : World) (h : impl_numberOf.f k a0 = some (r1, r2)) :
  Calls Tryd.prog 43 #[.string a0] w fun e w' => e = .returned (.tuple #[.int .i64 r1, .bool r2]) ∧ Drawn0 w w' := by
 have H : (impl_numberOf.l0 k a0 0 0) = some (r1, r2) := h
 clear h
 have H' := As.mk H
 clear H
 go_enter Tryd.func43, Tryd.ntmps43
 go_wp2
 go_loopg [4, 5] k (fun kq v4 v5 w' => ∃ (x4_1 : Int) (x5_1 : Int), v4 = .int .i64 x4_1 ∧ v5 = .int .i64 x5_1 ∧ As (impl_numberOf.l0 kq a0 x4_1 x5_1 = some (r1, r2)) ∧ As (kq ≤ k) ∧ Drawn0 w w')
 case atStart => exact ⟨(0), (0), (by first | rfl | (simp; done) | (simp [*]; done)), (by first | rfl | (simp; done) | (simp [*]; done)), H', ⟨Nat.le_refl _⟩, by repeat (first | exact Drawn0.refl _ | apply Drawn0.step)⟩
 case round =>
  clear H'
  obtain ⟨x4_1, x5_1, rfl, rfl, HA, HK1, ⟨m1, rfl⟩⟩ := hrel
  cases gk with
  | zero => exact absurd HA.out (by simp [impl_numberOf.l0])
  | succ k1 =>
   have H := HA.out
   clear HA
   simp only [impl_numberOf.l0] at H
   by_cases c2 : x5_1 < (a0.size : Int)
   rotate_left
   ·
    rw [if_neg c2] at H
    have c2b0 : decide (x5_1 < (a0.size : Int)) = false := decide_eq_false c2
    clear c2
    obtain ⟨t190, A80, H⟩ := Option.bind_eq_some_iff.mp H
    try dsimp only at H
    have A8 := As.mk A80
    clear A80
    by_cases c9 : t190 = true
    ·
     subst c9
     rw [if_pos rfl] at H
     simp only [Option.some.injEq, Prod.mk.injEq] at H
     obtain ⟨rfl, rfl⟩ := H
     go_wp2_with (first | ((with_reducible refine gate_callee (f := 53) rfl ?_); refine goesL_ (some 27) rfl rfl Tryd.func53 (by kernel_rfl) rfl #[.int .i64 (a0.size : Int), .int .i64 1, .int .i64 10] rfl (by (try simp only [lm]); first | done | rfl | (simp only [List.length_drop, List.length_take]; rfl)) ?_; (with_reducible refine (impl_in.calls (a0.size : Int) 1 10 true _ A8.out).mono ?_); rintro e w' ⟨rfl, ⟨nd, rfl⟩⟩; refine ⟨_, rfl, ?_⟩))
     go_ret2
     exact ⟨by first | rfl | (simp; done) | (simp [*]; done), by repeat (first | exact Drawn0.refl _ | apply Drawn0.step)⟩
    replace c9 := Bool.eq_false_iff.mpr c9
    subst c9
    rw [if_neg (show ¬ (false = true) by decide)] at H
    simp only [Option.some.injEq, Prod.mk.injEq] at H
    obtain ⟨rfl, rfl⟩ := H
    go_wp2_with (first | ((with_reducible refine gate_callee (f := 53) rfl ?_); refine goesL_ (some 27) rfl rfl Tryd.func53 (by kernel_rfl) rfl #[.int .i64 (a0.size : Int), .int .i64 1, .int .i64 10] rfl (by (try simp only [lm]); first | done | rfl | (simp only [List.length_drop, List.length_take]; rfl)) ?_; (with_reducible refine (impl_in.calls (a0.size : Int) 1 10 false _ A8.out).mono ?_); rintro e w' ⟨rfl, ⟨nd, rfl⟩⟩; refine ⟨_, rfl, ?_⟩))
    go_ret2
    exact ⟨by first | rfl | (simp; done) | (simp [*]; done), by repeat (first | exact Drawn0.refl _ | apply Drawn0.step)⟩

   rw [if_pos c2] at H
   have c2b0 : decide (x5_1 < (a0.size : Int)) = true := decide_eq_true c2
   clear c2
   by_cases c3 : x5_1 < 10
   ·
    rw [if_pos c3] at H
    have c3b0 : decide (x5_1 < 10) = true := decide_eq_true c3
    clear c3
    by_cases c4 : 0 ≤ x5_1
    rotate_left
    ·
     rw [if_neg c4] at H
     exact absurd H (by simp)
    rw [if_pos c4] at H
    have c4b0 : decide (0 ≤ x5_1) = true := decide_eq_true c4
    clear c4
    have H' := As.mk H
    clear H
    have p5 : 0 ≤ (x5_1 : Int) := of_decide_eq_true (by first | (with_reducible assumption) | assumption)
    have q5 : x5_1 < (a0.size : Int) := of_decide_eq_true (by first | (with_reducible assumption) | assumption)
    have hx5 := bt_at a0 x5_1
    replace p5 := eq_true p5
    replace q5 := eq_true q5
    go_wp2
    go_roundg k1
    case measure => have := HK1.out; omega
    case rel => exact ⟨(wrap64 ((wrap64 (10 * x4_1)) + (((bt a0 x5_1) - 48) % 256))), (wrap64 (x5_1 + 1)), (by first | rfl | (simp; done) | (simp [*]; done)), (by first | rfl | (simp; done) | (simp [*]; done)), H', ⟨by have := HK1.out; omega⟩, by repeat (first | exact Drawn0.refl _ | apply Drawn0.step)⟩
   rw [if_neg c3] at H
   have c3b0 : decide (x5_1 < 10) = false := decide_eq_false c3
   clear c3
   obtain ⟨t189, A60, H⟩ := Option.bind_eq_some_iff.mp H
   try dsimp only at H
   have A6 := As.mk A60
   clear A60
   by_cases c7 : t189 = true
   ·
    subst c7
    rw [if_pos rfl] at H
    simp only [Option.some.injEq, Prod.mk.injEq] at H
    obtain ⟨rfl, rfl⟩ := H
    go_wp2_with (first | ((with_reducible refine gate_callee (f := 53) rfl ?_); refine goesL_ (some 27) rfl rfl Tryd.func53 (by kernel_rfl) rfl #[.int .i64 (a0.size : Int), .int .i64 1, .int .i64 10] rfl (by (try simp only [lm]); first | done | rfl | (simp only [List.length_drop, List.length_take]; rfl)) ?_; (with_reducible refine (impl_in.calls (a0.size : Int) 1 10 true _ A6.out).mono ?_); rintro e w' ⟨rfl, ⟨nd, rfl⟩⟩; refine ⟨_, rfl, ?_⟩))
    go_ret2
    exact ⟨by first | rfl | (simp; done) | (simp [*]; done), by repeat (first | exact Drawn0.refl _ | apply Drawn0.step)⟩
   replace c7 := Bool.eq_false_iff.mpr c7
   subst c7
   rw [if_neg (show ¬ (false = true) by decide)] at H
   simp only [Option.some.injEq, Prod.mk.injEq] at H
   obtain ⟨rfl, rfl⟩ := H
   go_wp2_with (first | ((with_reducible refine gate_callee (f := 53) rfl ?_); refine goesL_ (some 27) rfl rfl Tryd.func53 (by kernel_rfl) rfl #[.int .i64 (a0.size : Int), .int .i64 1, .int .i64 10] rfl (by (try simp only [lm]); first | done | rfl | (simp only [List.length_drop, List.length_take]; rfl)) ?_; (with_reducible refine (impl_in.calls (a0.size : Int) 1 10 false _ A6.out).mono ?_); rintro e w' ⟨rfl, ⟨nd, rfl⟩⟩; refine ⟨_, rfl, ?_⟩))
   go_ret2
   exact ⟨by first | rfl | (simp; done) | (simp [*]; done), by repeat (first | exact Drawn0.refl _ | apply Drawn0.step)⟩
/-! ### impl_markAt: function 44 -/
def impl_markAt.l0 : Nat → ByteArray → Int → List ByteArray → Int → Int → Option (ByteArray)
 | 0, _, _, _, _, _ => none
 | k + 1, x0, x1, x7, x8, x9 => if x9 < x8 then (if 0 ≤ x9 then (if x9 < (x7.length : Int) then (if 0 ≤ x1 then (if x1 ≤ (x0.size : Int) then ((strings_HasPrefix.f (x0.extract (x1 : Int).toNat x0.size) (rdOf ByteArray.empty x7 x9)).bind fun t195 => (if t195 = true then (some (rdOf ByteArray.empty x7 x9)) else (impl_markAt.l0 k x0 x1 x7 x8 (wrap64 (x9 + 1))))) else (none)) else (none)) else (none)) else (none)) else (some (⟨#[]⟩ : ByteArray))
def impl_markAt.f (k : Nat) (a0 : ByteArray) (a1 : Int) : Option (ByteArray) := (strings_Split.f (⟨#[45, 62, 32, 61, 61, 32, 40, 32, 41, 32, 123, 32, 125, 32, 59, 32, 58, 32, 44, 32, 38, 32, 42, 32, 61, 32, 43, 32, 60]⟩ : ByteArray) (⟨#[32]⟩ : ByteArray)).bind fun t191 => (impl_markAt.l0 k a0 a1 t191 (t191.length : Int) 0)
theorem impl_markAt.mono_l : ∀ k, (∀ y0 y1 y2 y3 y4, LeO (impl_markAt.l0 k y0 y1 y2 y3 y4) (impl_markAt.l0 (k + 1) y0 y1 y2 y3 y4))
 | 0 => fun _ _ _ _ _ r h => by simp [impl_markAt.l0] at h
 | k + 1 => by
  have ih0 := impl_markAt.mono_l k
  ·
   intro y0 y1 y2 y3 y4
   unfold impl_markAt.l0
   with_reducible repeat' first | exact ih0 _ _ _ _ _ | exact LeO.refl _ | exact LeO.none _ | refine LeO.ite ?_ ?_ | refine LeO.bind ?_ (fun _ => ?_)
theorem impl_markAt.mono : ∀ a0 a1 k, LeO (impl_markAt.f k a0 a1) (impl_markAt.f (k + 1) a0 a1) := by
 intro a0 a1 k
 have ih0 := impl_markAt.mono_l k
 unfold impl_markAt.f
 with_reducible repeat' first | exact ih0 _ _ _ _ _ | exact LeO.refl _ | exact LeO.none _ | refine LeO.ite ?_ ?_ | refine LeO.bind ?_ (fun _ => ?_)
set_option maxHeartbeats 8000000 in
set_option maxRecDepth 100000 in
theorem impl_markAt.calls (k : Nat) (a0 : ByteArray) (a1 : Int) (r : ByteArray) (w : World) (h : impl_markAt.f k a0 a1 = some r) :
  Calls Tryd.prog 44 #[.string a0, .int .i64 a1] w fun e w' => e = .returned (.string r) ∧ Below w.heap.size w w' := by
 have HB := As.mk (Below.refl w.heap.size w)
 have H : ((strings_Split.f (⟨#[45, 62, 32, 61, 61, 32, 40, 32, 41, 32, 123, 32, 125, 32, 59, 32, 58, 32, 44, 32, 38, 32, 42, 32, 61, 32, 43, 32, 60]⟩ : ByteArray) (⟨#[32]⟩ : ByteArray)).bind fun t191 => (impl_markAt.l0 k a0 a1 t191 (t191.length : Int) 0)) = some r := h
 clear h
 obtain ⟨t191, A30, H⟩ := Option.bind_eq_some_iff.mp H
 try dsimp only at H
 have A3 := As.mk A30
 clear A30
 have H' := As.mk H
 clear H
 go_enter Tryd.func44, Tryd.ntmps44
 go_wp2_with (first | ((with_reducible refine gate_callee (f := 84) rfl ?_); refine goesL_ (some 7) rfl rfl Tryd.func84 (by kernel_rfl) rfl #[.string (⟨#[45, 62, 32, 61, 61, 32, 40, 32, 41, 32, 123, 32, 125, 32, 59, 32, 58, 32, 44, 32, 38, 32, 42, 32, 61, 32, 43, 32, 60]⟩ : ByteArray), .string (⟨#[32]⟩ : ByteArray)] rfl (by (try simp only [lm]); first | done | rfl | (simp only [List.length_drop, List.length_take]; rfl)) ?_; (with_reducible refine (strings_Split.calls (⟨#[45, 62, 32, 61, 61, 32, 40, 32, 41, 32, 123, 32, 125, 32, 59, 32, 58, 32, 44, 32, 38, 32, 42, 32, 61, 32, 43, 32, 60]⟩ : ByteArray) (⟨#[32]⟩ : ByteArray) t191 _ A3.out).mono ?_); rintro e w4 ⟨v192, rfl, ho0, hb⟩; refine ⟨_, rfl, ?_⟩; have HO193 := As.mk (Kd.R_lower ho0 (below_size (be w))); replace HB := As.mk (below_step (be w) hb); (try clear hb); (try clear hb2); (try clear hk); (try clear hi); (try clear ho0); obtain ⟨Ao5, co5, eo5⟩ := Kd.R_slice HO193.out; subst eo5))
 (try simp only [pk])
 go_loopg [9] k (fun kq v9 w' => ∃ (x9_1 : Int), v9 = .int .i64 x9_1 ∧ As (impl_markAt.l0 kq a0 a1 t191 (t191.length : Int) x9_1 = some r) ∧ As (kq ≤ k) ∧ As (Kd.R Kd.string 9 w' w.heap.size (fun _ => True) (.slice Ao5 t191.length co5) t191) ∧ As (Below w.heap.size w w'))
 case atStart => exact ⟨(0), (by first | rfl | (simp; done) | (simp [*]; done)), H', ⟨Nat.le_refl _⟩, ⟨by (with_reducible repeat (first | apply Kd.R_alloc | apply Kd.R_drewN | apply Kd.R_drew)); exact HO193.out⟩, ⟨be w⟩⟩
 case round =>
  clear H'
  obtain ⟨x9_1, rfl, HA, HK1, HO_7, HB⟩ := hrel
  cases gk with
  | zero => exact absurd HA.out (by simp [impl_markAt.l0])
  | succ k1 =>
   have H := HA.out
   clear HA
   simp only [impl_markAt.l0] at H
   by_cases c6 : x9_1 < (t191.length : Int)
   rotate_left
   ·
    rw [if_neg c6] at H
    have c6b0 : decide (x9_1 < (t191.length : Int)) = false := decide_eq_false c6
    clear c6
    obtain rfl := Option.some.inj H
    go_wp2
    go_ret
    exact ⟨by first | rfl | (simp [errW_none, errW_some] <;> rfl) | (simp [*, errW_none, errW_some] <;> rfl), be w⟩

   rw [if_pos c6] at H
   have c6b0 : decide (x9_1 < (t191.length : Int)) = true := decide_eq_true c6
   clear c6
   by_cases c7 : 0 ≤ x9_1
   rotate_left
   ·
    rw [if_neg c7] at H
    exact absurd H (by simp)
   rw [if_pos c7] at H
   have c7b0 : decide (0 ≤ x9_1) = true := decide_eq_true c7
   clear c7
   by_cases c8 : x9_1 < (t191.length : Int)
   rotate_left
   ·
    rw [if_neg c8] at H
    exact absurd H (by simp)
   rw [if_pos c8] at H
   have c8b0 : decide (x9_1 < (t191.length : Int)) = true := decide_eq_true c8
   clear c8
   by_cases c9 : 0 ≤ a1
   rotate_left
   ·
    rw [if_neg c9] at H
    exact absurd H (by simp)
   rw [if_pos c9] at H
   have c9b0 := eq_true c9
   have c9b1 : decide (0 ≤ a1) = true := decide_eq_true c9
   clear c9
   by_cases c10 : a1 ≤ (a0.size : Int)
   rotate_left
   ·
    rw [if_neg c10] at H
    exact absurd H (by simp)
   rw [if_pos c10] at H
   have c10b0 := eq_true c10
   have c10b1 : decide (a1 ≤ (a0.size : Int)) = true := decide_eq_true c10
   clear c10
   obtain ⟨t195, A110, H⟩ := Option.bind_eq_some_iff.mp H
   try dsimp only at H
   have A11 := As.mk A110
   clear A110
   by_cases c12 : t195 = true
   ·
    subst c12
    rw [if_pos rfl] at H
    obtain rfl := Option.some.inj H
    have p194 : 0 ≤ (x9_1 : Int) := of_decide_eq_true (by first | (with_reducible assumption) | assumption)
    have q194 : x9_1 < (t191.length : Int) := of_decide_eq_true (by first | (with_reducible assumption) | assumption)
    obtain ⟨ad194, e194, hx194_0⟩ := Kd.at_string (Kd.R_reads' HO_7.out).2.2 x9_1 p194 q194
    cases e194
    replace p194 := eq_true p194
    replace q194 := eq_true q194
    go_wp2_with (first | ((with_reducible refine gate_callee (f := 85) rfl ?_); refine goesL_ (some 17) rfl rfl Tryd.func85 (by kernel_rfl) rfl #[.string (a0.extract (a1 : Int).toNat a0.size), .string (rdOf ByteArray.empty t191 x9_1)] rfl (by (try simp only [lm]); first | done | rfl | (simp only [List.length_drop, List.length_take]; rfl)) ?_; (with_reducible refine (strings_HasPrefix.calls (a0.extract (a1 : Int).toNat a0.size) (rdOf ByteArray.empty t191 x9_1) true _ A11.out).mono ?_); rintro e w' ⟨rfl, ⟨nd, rfl⟩⟩; refine ⟨_, rfl, ?_⟩))
    go_ret
    exact ⟨by first | rfl | (simp [errW_none, errW_some] <;> rfl) | (simp [*, errW_none, errW_some] <;> rfl), be w⟩
   replace c12 := Bool.eq_false_iff.mpr c12
   subst c12
   rw [if_neg (show ¬ (false = true) by decide)] at H
   have H' := As.mk H
   clear H
   have p194 : 0 ≤ (x9_1 : Int) := of_decide_eq_true (by first | (with_reducible assumption) | assumption)
   have q194 : x9_1 < (t191.length : Int) := of_decide_eq_true (by first | (with_reducible assumption) | assumption)
   obtain ⟨ad194, e194, hx194_0⟩ := Kd.at_string (Kd.R_reads' HO_7.out).2.2 x9_1 p194 q194
   cases e194
   replace p194 := eq_true p194
   replace q194 := eq_true q194
   go_wp2_with (first | ((with_reducible refine gate_callee (f := 85) rfl ?_); refine goesL_ (some 17) rfl rfl Tryd.func85 (by kernel_rfl) rfl #[.string (a0.extract (a1 : Int).toNat a0.size), .string (rdOf ByteArray.empty t191 x9_1)] rfl (by (try simp only [lm]); first | done | rfl | (simp only [List.length_drop, List.length_take]; rfl)) ?_; (with_reducible refine (strings_HasPrefix.calls (a0.extract (a1 : Int).toNat a0.size) (rdOf ByteArray.empty t191 x9_1) false _ A11.out).mono ?_); rintro e w' ⟨rfl, ⟨nd, rfl⟩⟩; refine ⟨_, rfl, ?_⟩))
   go_roundg k1
   case measure => have := HK1.out; omega
   case rel => exact ⟨(wrap64 (x9_1 + 1)), (by first | rfl | (simp; done) | (simp [*]; done)), H', ⟨by have := HK1.out; omega⟩, ⟨by (with_reducible repeat (first | apply Kd.R_alloc | apply Kd.R_drewN | apply Kd.R_drew)); exact HO_7.out⟩, ⟨be w⟩⟩
/-! ### impl_SignsOf: function 9 -/
mutual
def impl_SignsOf.l0 : Nat → ByteArray → List (S63) → Int → Option ((List (S63)) × Bool)
 | 0, _, _, _ => none
 | k + 1, x0, x4, x5 => if x5 < (x0.size : Int) then (if 0 ≤ x5 then (if (bt x0 x5) = 32 then (impl_SignsOf.j1 k x0 x4 x5 (bt x0 x5) true) else (impl_SignsOf.j1 k x0 x4 x5 (bt x0 x5) ((bt x0 x5) == 10))) else (none)) else (some (x4, true))
def impl_SignsOf.j1 : Nat → ByteArray → List (S63) → Int → Int → Bool → Option ((List (S63)) × Bool)
 | 0, _, _, _, _, _ => none
 | k + 1, x0, x4, x5, x6, x36 => if x36 = true then (impl_SignsOf.l0 k x0 x4 (wrap64 (x5 + 1))) else ((impl_isLetter.f x6).bind fun t196 => (if t196 = true then ((impl_wordEnd.f k x0 x5 true).bind fun t197 => (if (wrap64 (t197 - x5)) > 8 then (some (([] : List (S63)), false)) else (if 0 ≤ x5 then (if x5 ≤ t197 then (if t197 ≤ (x0.size : Int) then (if x4.length < 4398046511104 then (impl_SignsOf.l0 k x0 (x4 ++ [(⟨1, x0.extract (x5 : Int).toNat (t197 : Int).toNat, 0⟩ : S63)]) t197) else (none)) else (none)) else (none)) else (none)))) else ((impl_isFigure.f x6).bind fun t201 => (if t201 = true then ((impl_wordEnd.f k x0 x5 false).bind fun t202 => (if 0 ≤ x5 then (if x5 ≤ t202 then (if t202 ≤ (x0.size : Int) then ((impl_numberOf.f k (x0.extract (x5 : Int).toNat (t202 : Int).toNat)).bind fun bt203 => (if bt203.2 = true then (if x4.length < 4398046511104 then (impl_SignsOf.l0 k x0 (x4 ++ [(⟨2, (⟨#[]⟩ : ByteArray), bt203.1⟩ : S63)]) t202) else (none)) else (some (([] : List (S63)), false)))) else (none)) else (none)) else (none))) else ((impl_markAt.f k x0 x5).bind fun t208 => (if t208.toList = ([] : List UInt8) then (some (([] : List (S63)), false)) else (if x4.length < 4398046511104 then (impl_SignsOf.l0 k x0 (x4 ++ [(⟨3, t208, 0⟩ : S63)]) (wrap64 (x5 + (t208.size : Int)))) else (none))))))))
end
def impl_SignsOf.f (k : Nat) (a0 : ByteArray) : Option ((List (S63)) × Bool) := if (a0.size : Int) > 3000 then (some (([] : List (S63)), false)) else (impl_SignsOf.l0 k a0 ([] : List (S63)) 0)
theorem impl_SignsOf.mono_l : ∀ k, (∀ y0 y1 y2, LeO (impl_SignsOf.l0 k y0 y1 y2) (impl_SignsOf.l0 (k + 1) y0 y1 y2)) ∧ (∀ y0 y1 y2 y3 y4, LeO (impl_SignsOf.j1 k y0 y1 y2 y3 y4) (impl_SignsOf.j1 (k + 1) y0 y1 y2 y3 y4))
 | 0 => ⟨fun _ _ _ r h => by simp [impl_SignsOf.l0] at h, fun _ _ _ _ _ r h => by simp [impl_SignsOf.j1] at h⟩
 | k + 1 => by
  obtain ⟨ih0, ih1⟩ := impl_SignsOf.mono_l k
  refine ⟨?_, ?_⟩
  ·
   intro y0 y1 y2
   unfold impl_SignsOf.l0
   with_reducible repeat' first | exact ih0 _ _ _ | exact ih1 _ _ _ _ _ | exact impl_markAt.mono _ _ _ | exact impl_numberOf.mono _ _ | exact impl_wordEnd.mono _ _ _ _ | exact LeO.refl _ | exact LeO.none _ | refine LeO.ite ?_ ?_ | refine LeO.bind ?_ (fun _ => ?_)
  ·
   intro y0 y1 y2 y3 y4
   unfold impl_SignsOf.j1
   with_reducible repeat' first | exact ih0 _ _ _ | exact ih1 _ _ _ _ _ | exact impl_markAt.mono _ _ _ | exact impl_numberOf.mono _ _ | exact impl_wordEnd.mono _ _ _ _ | exact LeO.refl _ | exact LeO.none _ | refine LeO.ite ?_ ?_ | refine LeO.bind ?_ (fun _ => ?_)
theorem impl_SignsOf.mono : ∀ a0 k, LeO (impl_SignsOf.f k a0) (impl_SignsOf.f (k + 1) a0) := by
 intro a0 k
 obtain ⟨ih0, ih1⟩ := impl_SignsOf.mono_l k
 unfold impl_SignsOf.f
 with_reducible repeat' first | exact ih0 _ _ _ | exact ih1 _ _ _ _ _ | exact impl_markAt.mono _ _ _ | exact impl_numberOf.mono _ _ | exact impl_wordEnd.mono _ _ _ _ | exact LeO.refl _ | exact LeO.none _ | refine LeO.ite ?_ ?_ | refine LeO.bind ?_ (fun _ => ?_)
set_option maxHeartbeats 8000000 in
set_option maxRecDepth 100000 in
theorem impl_SignsOf.calls (k : Nat) (a0 : ByteArray) (r1 : List (S63)) (r2 : Bool) (w : World) (h : impl_SignsOf.f k a0 = some (r1, r2)) :
  Calls Tryd.prog 9 #[.string a0] w fun e w' => ∃ v0_ : Value, e = .returned (.tuple #[v0_, .bool r2]) ∧ Kd.R k63 63 w' w.heap.size (fun _ => True) v0_ r1 ∧ Below w.heap.size w w' := by
 have hu63 := Tryd.underlying63
 have HB := As.mk (Below.refl w.heap.size w)
 have H : (if (a0.size : Int) > 3000 then (some (([] : List (S63)), false)) else (impl_SignsOf.l0 k a0 ([] : List (S63)) 0)) = some (r1, r2) := h
 clear h
 by_cases c2 : (a0.size : Int) > 3000
 ·
  rw [if_pos c2] at H
  have c2b0 : decide (3000 < (a0.size : Int)) = true := decide_eq_true c2
  have c2b1 : decide (3000 < a0.size) = true := decide_eq_true (by omega)
  clear c2
  simp only [Option.some.injEq, Prod.mk.injEq] at H
  obtain ⟨rfl, rfl⟩ := H
  go_enter Tryd.func9, Tryd.ntmps9
  go_wp2
  go_ret2
  exact ⟨_, by first | rfl | (simp [errW_none, errW_some] <;> rfl) | (simp [*, errW_none, errW_some] <;> rfl), by first | exact Kd.R_nil _ _ _ _ _ | exact Kd.N_nil _ _ _ _ _ | exact Kd.V_nil _ _ _ _ _ | exact Kd.Q_nil _ _ _ _ _ | exact Kd.S_nil _ _ _ _ _, be w⟩
 rw [if_neg c2] at H
 have c2b0 : decide (3000 < (a0.size : Int)) = false := decide_eq_false c2
 have c2b1 : decide (3000 < a0.size) = false := decide_eq_false (by omega)
 clear c2
 have H' := As.mk H
 clear H
 go_enter Tryd.func9, Tryd.ntmps9
 go_wp2
 go_loopg [4, 5] k (fun kq v4 v5 w' => ∃ (x4_1 : List (S63)) (x5_1 : Int), v5 = .int .i64 x5_1 ∧ As (impl_SignsOf.l0 kq a0 x4_1 x5_1 = some (r1, r2)) ∧ As (kq ≤ k) ∧ As (Kd.R k63 63 w' w.heap.size (fun _ => True) v4 x4_1) ∧ As (Below w.heap.size w w'))
 case atStart => exact ⟨(([] : List (S63))), (0), (by first | rfl | (simp; done) | (simp [*]; done)), H', ⟨Nat.le_refl _⟩, ⟨by first | exact Kd.R_nil _ _ _ _ _ | exact Kd.N_nil _ _ _ _ _ | exact Kd.V_nil _ _ _ _ _ | exact Kd.Q_nil _ _ _ _ _ | exact Kd.S_nil _ _ _ _ _⟩, ⟨be w⟩⟩
 case round =>
  clear H'
  (try clear c2); (try clear c2b0); (try clear c2b1)
  obtain ⟨x4_1, x5_1, rfl, HA, HK1, HO_4, HB⟩ := hrel
  cases gk with
  | zero => exact absurd HA.out (by simp [impl_SignsOf.l0])
  | succ k1 =>
   have H := HA.out
   clear HA
   simp only [impl_SignsOf.l0] at H
   by_cases c3 : x5_1 < (a0.size : Int)
   rotate_left
   ·
    rw [if_neg c3] at H
    have c3b0 : decide (x5_1 < (a0.size : Int)) = false := decide_eq_false c3
    clear c3
    simp only [Option.some.injEq, Prod.mk.injEq] at H
    obtain ⟨rfl, rfl⟩ := H
    go_wp2
    go_ret2
    exact ⟨_, by first | rfl | (simp [errW_none, errW_some] <;> rfl) | (simp [*, errW_none, errW_some] <;> rfl), by (with_reducible repeat (first | apply Kd.R_alloc | apply Kd.R_drewN | apply Kd.R_drew)); exact HO_4.out, be w⟩

   rw [if_pos c3] at H
   have c3b0 : decide (x5_1 < (a0.size : Int)) = true := decide_eq_true c3
   clear c3
   by_cases c4 : 0 ≤ x5_1
   rotate_left
   ·
    rw [if_neg c4] at H
    exact absurd H (by simp)
   rw [if_pos c4] at H
   have c4b0 : decide (0 ≤ x5_1) = true := decide_eq_true c4
   clear c4
   have HC6 := As.mk H
   clear H
   have p5 : 0 ≤ (x5_1 : Int) := of_decide_eq_true (by first | (with_reducible assumption) | assumption)
   have q5 : x5_1 < (a0.size : Int) := of_decide_eq_true (by first | (with_reducible assumption) | assumption)
   have hx5 := bt_at a0 x5_1
   replace p5 := eq_true p5
   replace q5 := eq_true q5
   go_upto_region 12 with (fail)
   go_cut [36] (fun v36 wc => ∃ (kq : Nat) (x36_5 : Bool), v36 = .bool x36_5 ∧ As (impl_SignsOf.j1 kq a0 x4_1 x5_1 (bt a0 x5_1) x36_5 = some (r1, r2)) ∧ As (kq ≤ k1) ∧ As (Kd.R k63 63 wc w.heap.size (fun _ => True) u4 x4_1) ∧ As (Below w.heap.size w wc))
   case first =>
    have H := HC6.out
    clear HC6
    by_cases c7 : (bt a0 x5_1) = 32
    ·
     rw [if_pos c7] at H
     have c7b0 : ((bt a0 x5_1) == 32) = true := beq_iff_eq.mpr c7
     have c7b1 : ((bt a0 x5_1) != 32) = false := bne_eq_false_iff_eq.mpr c7
     clear c7
     (first | rw [c7b0] | (simp only [i64_w, i32_w]; rw [c7b0]) | skip)
     have H' := As.mk H
     clear H
     go_wp2
     go_meet
     case rel => exact ⟨_, (true), (by first | rfl | (simp; done) | (simp [*]; done)), H', ⟨by have := HK1.out; first | omega | exact Nat.le_refl _⟩, ⟨by (with_reducible repeat (first | apply Kd.R_alloc | apply Kd.R_drewN | apply Kd.R_drew)); exact HO_4.out⟩, ⟨be w⟩⟩
    rw [if_neg c7] at H
    have c7b0 : ((bt a0 x5_1) == 32) = false := beq_eq_false_iff_ne.mpr c7
    have c7b1 : ((bt a0 x5_1) != 32) = true := bne_iff_ne.mpr c7
    (first | rw [c7b0] | (simp only [i64_w, i32_w]; rw [c7b0]) | skip)
    have H' := As.mk H
    clear H
    go_wp2
    go_meet
    case rel => exact ⟨_, (((bt a0 x5_1) == 10)), (by first | rfl | (simp; done) | (simp [*]; done)), H', ⟨by have := HK1.out; first | omega | exact Nat.le_refl _⟩, ⟨by (with_reducible repeat (first | apply Kd.R_alloc | apply Kd.R_drewN | apply Kd.R_drew)); exact HO_4.out⟩, ⟨be w⟩⟩
   case rest =>
    clear HC6
    (try clear c2); (try clear c2b0); (try clear c2b1); (try clear c3); (try clear c3b0); (try clear c4); (try clear c4b0); (try clear p5); (try clear q5); (try clear hx5)
    obtain ⟨kq, x36_5, rfl, HA, HJ5, HO_4, HB⟩ := hcut
    cases kq with
    | zero => exact absurd HA.out (by simp [impl_SignsOf.j1])
    | succ kj5 =>
     have H := HA.out
     clear HA
     simp only [impl_SignsOf.j1] at H
     by_cases c8 : x36_5 = true
     ·
      subst c8
      rw [if_pos rfl] at H
      have H' := As.mk H
      clear H
      go_wp2
      go_roundg kj5
      case measure => have := HK1.out; have := HJ5.out; omega
      case rel => exact ⟨(x4_1), (wrap64 (x5_1 + 1)), (by first | rfl | (simp; done) | (simp [*]; done)), H', ⟨by have := HK1.out; have := HJ5.out; omega⟩, ⟨by (with_reducible repeat (first | apply Kd.R_alloc | apply Kd.R_drewN | apply Kd.R_drew)); exact HO_4.out⟩, ⟨be w⟩⟩
     replace c8 := Bool.eq_false_iff.mpr c8
     subst c8
     rw [if_neg (show ¬ (false = true) by decide)] at H
     obtain ⟨t196, A90, H⟩ := Option.bind_eq_some_iff.mp H
     try dsimp only at H
     have A9 := As.mk A90
     clear A90
     by_cases c10 : t196 = true
     ·
      subst c10
      rw [if_pos rfl] at H
      obtain ⟨t197, A110, H⟩ := Option.bind_eq_some_iff.mp H
      try dsimp only at H
      have A11 := As.mk A110
      clear A110
      by_cases c12 : (wrap64 (t197 - x5_1)) > 8
      ·
       rw [if_pos c12] at H
       have c12b0 : decide (8 < (wrap64 (t197 - x5_1))) = true := decide_eq_true c12
       clear c12
       simp only [Option.some.injEq, Prod.mk.injEq] at H
       obtain ⟨rfl, rfl⟩ := H
       go_wp2_with (first | ((with_reducible refine gate_callee (f := 40) rfl ?_); refine goesL_ (some 47) rfl rfl Tryd.func40 (by kernel_rfl) rfl #[.int .u8 (bt a0 x5_1)] rfl (by (try simp only [lm]); first | done | rfl | (simp only [List.length_drop, List.length_take]; rfl)) ?_; (with_reducible refine (impl_isLetter.calls (bt a0 x5_1) true _ A9.out).mono ?_); rintro e w' ⟨rfl, ⟨nd, rfl⟩⟩; refine ⟨_, rfl, ?_⟩) | ((with_reducible refine gate_callee (f := 41) rfl ?_); refine goesL_ (some 50) rfl rfl Tryd.func41 (by kernel_rfl) rfl #[.string a0, .int .i64 x5_1, .bool true] rfl (by (try simp only [lm]); first | done | rfl | (simp only [List.length_drop, List.length_take]; rfl)) ?_; (with_reducible refine (impl_wordEnd.calls kj5 a0 x5_1 true t197 _ A11.out).mono ?_); rintro e w' ⟨rfl, ⟨nd, rfl⟩⟩; refine ⟨_, rfl, ?_⟩))
       go_ret2
       exact ⟨_, by first | rfl | (simp [errW_none, errW_some] <;> rfl) | (simp [*, errW_none, errW_some] <;> rfl), by first | exact Kd.R_nil _ _ _ _ _ | exact Kd.N_nil _ _ _ _ _ | exact Kd.V_nil _ _ _ _ _ | exact Kd.Q_nil _ _ _ _ _ | exact Kd.S_nil _ _ _ _ _, be w⟩
      rw [if_neg c12] at H
      have c12b0 : decide (8 < (wrap64 (t197 - x5_1))) = false := decide_eq_false c12
      clear c12
      by_cases c13 : 0 ≤ x5_1
      rotate_left
      ·
       rw [if_neg c13] at H
       exact absurd H (by simp)
      rw [if_pos c13] at H
      have c13b0 := eq_true c13
      have c13b1 : decide (0 ≤ x5_1) = true := decide_eq_true c13
      clear c13
      by_cases c14 : x5_1 ≤ t197
      rotate_left
      ·
       rw [if_neg c14] at H
       exact absurd H (by simp)
      rw [if_pos c14] at H
      have c14b0 := eq_true c14
      have c14b1 : decide (x5_1 ≤ t197) = true := decide_eq_true c14
      clear c14
      by_cases c15 : t197 ≤ (a0.size : Int)
      rotate_left
      ·
       rw [if_neg c15] at H
       exact absurd H (by simp)
      rw [if_pos c15] at H
      have c15b0 := eq_true c15
      have c15b1 : decide (t197 ≤ (a0.size : Int)) = true := decide_eq_true c15
      clear c15
      by_cases c16 : x4_1.length < 4398046511104
      rotate_left
      ·
       rw [if_neg c16] at H
       exact absurd H (by simp)
      rw [if_pos c16] at H
      have LMc16 := As.mk c16
      clear c16
      obtain ⟨y198, hy198⟩ : ∃ y_ : List (S63), y_ = (x4_1 ++ [(⟨1, a0.extract (x5_1 : Int).toNat (t197 : Int).toNat, 0⟩ : S63)]) := ⟨_, rfl⟩
      replace H : (impl_SignsOf.l0 kj5 a0 y198 t197) = some (r1, r2) := by first | (rw [hy198]; with_reducible exact H) | (have H2_ := (Option.bind_some _ _).symm.trans H; rw [hy198]; with_reducible exact H2_) | (have H2_ := (Option.bind_some _ _).symm.trans H; with_reducible exact H2_) | with_reducible exact H | (rw [hy198]; exact H) | exact H
      have Ny198 := As.mk hy198
      clear hy198
      have H' := As.mk H
      clear H
      go_wp2_with (first | ((with_reducible refine gate_callee (f := 40) rfl ?_); refine goesL_ (some 47) rfl rfl Tryd.func40 (by kernel_rfl) rfl #[.int .u8 (bt a0 x5_1)] rfl (by (try simp only [lm]); first | done | rfl | (simp only [List.length_drop, List.length_take]; rfl)) ?_; (with_reducible refine (impl_isLetter.calls (bt a0 x5_1) true _ A9.out).mono ?_); rintro e w' ⟨rfl, ⟨nd, rfl⟩⟩; refine ⟨_, rfl, ?_⟩) | ((with_reducible refine gate_callee (f := 41) rfl ?_); refine goesL_ (some 50) rfl rfl Tryd.func41 (by kernel_rfl) rfl #[.string a0, .int .i64 x5_1, .bool true] rfl (by (try simp only [lm]); first | done | rfl | (simp only [List.length_drop, List.length_take]; rfl)) ?_; (with_reducible refine (impl_wordEnd.calls kj5 a0 x5_1 true t197 _ A11.out).mono ?_); rintro e w' ⟨rfl, ⟨nd, rfl⟩⟩; refine ⟨_, rfl, ?_⟩) | ((with_reducible refine gate_builtin (b := .append) (xs := #[.tmp 55, .tmp 61]) rfl ?_); at_builtin; refine Kd.R_append k63 (w0 := w) w.heap.size rfl (.tmp 55) (.tmp 61) 24 63 (.agg #[(.int .i64 0), (.string ⟨#[]⟩), (.int .i64 0)]) 32 rfl Tryd.underlying24 info63 rfl (by decide) (by omega) u4 x4_1 (⟨1, a0.extract (x5_1 : Int).toNat (t197 : Int).toNat, 0⟩ : S63) [.int .i64 1, .string (a0.extract (x5_1 : Int).toNat (t197 : Int).toNat), .int .i64 0] (fun _ => True) (fun _ => False) rfl rfl ?aP (fun _ hk => hk.elim) ?aF ?aO ?aB ?aS ?aL ?_; (case aP => exact k63_mkM _ _ _ (⟨1, a0.extract (x5_1 : Int).toNat (t197 : Int).toNat, 0⟩ : S63)); (case aB => exact (be w)); (case aF => exact (fun _ _ => trivial)); (case aO => exact (by (with_reducible repeat (first | apply Kd.R_alloc | apply Kd.R_drewN | apply Kd.R_drew)); exact HO_4.out)); (case aS => exact (below_size (be w))); (case aL => have := LMc16.out; omega); intro v199 w17 ho hb hg hat; rw [← Ny198.out] at ho; replace HB := As.mk (hb); have HO200 := As.mk (ho); clear HO_4; clear ho hb hg hat))
      go_roundg kj5
      case measure => have := HK1.out; have := HJ5.out; omega
      case rel => exact ⟨(y198), (t197), (by first | rfl | (simp; done) | (simp [*]; done)), H', ⟨by have := HK1.out; have := HJ5.out; omega⟩, ⟨by (with_reducible repeat (first | apply Kd.R_alloc | apply Kd.R_drewN | apply Kd.R_drew)); exact HO200.out⟩, ⟨be w⟩⟩
     replace c10 := Bool.eq_false_iff.mpr c10
     subst c10
     rw [if_neg (show ¬ (false = true) by decide)] at H
     obtain ⟨t201, A180, H⟩ := Option.bind_eq_some_iff.mp H
     try dsimp only at H
     have A18 := As.mk A180
     clear A180
     by_cases c19 : t201 = true
     rotate_left
     ·
      replace c19 := Bool.eq_false_iff.mpr c19
      subst c19
      rw [if_neg (show ¬ (false = true) by decide)] at H
      obtain ⟨t208, A280, H⟩ := Option.bind_eq_some_iff.mp H
      try dsimp only at H
      have A28 := As.mk A280
      clear A280
      by_cases c29 : t208.toList = ([] : List UInt8)
      ·
       rw [if_pos c29] at H
       have c29b0 : (t208.toList == ([] : List UInt8)) = true := beq_iff_eq.mpr c29
       have c29b1 : (t208.toList != ([] : List UInt8)) = false := bne_eq_false_iff_eq.mpr c29
       clear c29
       simp only [Option.some.injEq, Prod.mk.injEq] at H
       obtain ⟨rfl, rfl⟩ := H
       go_wp2_with (first | ((with_reducible refine gate_callee (f := 40) rfl ?_); refine goesL_ (some 47) rfl rfl Tryd.func40 (by kernel_rfl) rfl #[.int .u8 (bt a0 x5_1)] rfl (by (try simp only [lm]); first | done | rfl | (simp only [List.length_drop, List.length_take]; rfl)) ?_; (with_reducible refine (impl_isLetter.calls (bt a0 x5_1) false _ A9.out).mono ?_); rintro e w' ⟨rfl, ⟨nd, rfl⟩⟩; refine ⟨_, rfl, ?_⟩) | ((with_reducible refine gate_callee (f := 42) rfl ?_); refine goesL_ (some 66) rfl rfl Tryd.func42 (by kernel_rfl) rfl #[.int .u8 (bt a0 x5_1)] rfl (by (try simp only [lm]); first | done | rfl | (simp only [List.length_drop, List.length_take]; rfl)) ?_; (with_reducible refine (impl_isFigure.calls (bt a0 x5_1) false _ A18.out).mono ?_); rintro e w' ⟨rfl, ⟨nd, rfl⟩⟩; refine ⟨_, rfl, ?_⟩) | ((with_reducible refine gate_callee (f := 44) rfl ?_); refine goesL_ (some 24) rfl rfl Tryd.func44 (by kernel_rfl) rfl #[.string a0, .int .i64 x5_1] rfl (by (try simp only [lm]); first | done | rfl | (simp only [List.length_drop, List.length_take]; rfl)) ?_; (with_reducible refine (impl_markAt.calls kj5 a0 x5_1 t208 _ A28.out).mono ?_); rintro e w30 ⟨rfl, hb⟩; refine ⟨_, rfl, ?_⟩; replace HB := As.mk (below_step (be w) hb); (try clear hb); (try clear hb2); (try clear hk); (try clear hi)))
       go_ret2
       exact ⟨_, by first | rfl | (simp [errW_none, errW_some] <;> rfl) | (simp [*, errW_none, errW_some] <;> rfl), by first | exact Kd.R_nil _ _ _ _ _ | exact Kd.N_nil _ _ _ _ _ | exact Kd.V_nil _ _ _ _ _ | exact Kd.Q_nil _ _ _ _ _ | exact Kd.S_nil _ _ _ _ _, be w⟩
      rw [if_neg c29] at H
      have c29b0 : (t208.toList == ([] : List UInt8)) = false := beq_eq_false_iff_ne.mpr c29
      have c29b1 : (t208.toList != ([] : List UInt8)) = true := bne_iff_ne.mpr c29
      by_cases c31 : x4_1.length < 4398046511104
      rotate_left
      ·
       rw [if_neg c31] at H
       exact absurd H (by simp)
      rw [if_pos c31] at H
      have LMc31 := As.mk c31
      clear c31
      obtain ⟨y209, hy209⟩ : ∃ y_ : List (S63), y_ = (x4_1 ++ [(⟨3, t208, 0⟩ : S63)]) := ⟨_, rfl⟩
      replace H : (impl_SignsOf.l0 kj5 a0 y209 (wrap64 (x5_1 + (t208.size : Int)))) = some (r1, r2) := by first | (rw [hy209]; with_reducible exact H) | (have H2_ := (Option.bind_some _ _).symm.trans H; rw [hy209]; with_reducible exact H2_) | (have H2_ := (Option.bind_some _ _).symm.trans H; with_reducible exact H2_) | with_reducible exact H | (rw [hy209]; exact H) | exact H
      have Ny209 := As.mk hy209
      clear hy209
      have H' := As.mk H
      clear H
      go_wp2_with (first | ((with_reducible refine gate_callee (f := 40) rfl ?_); refine goesL_ (some 47) rfl rfl Tryd.func40 (by kernel_rfl) rfl #[.int .u8 (bt a0 x5_1)] rfl (by (try simp only [lm]); first | done | rfl | (simp only [List.length_drop, List.length_take]; rfl)) ?_; (with_reducible refine (impl_isLetter.calls (bt a0 x5_1) false _ A9.out).mono ?_); rintro e w' ⟨rfl, ⟨nd, rfl⟩⟩; refine ⟨_, rfl, ?_⟩) | ((with_reducible refine gate_callee (f := 42) rfl ?_); refine goesL_ (some 66) rfl rfl Tryd.func42 (by kernel_rfl) rfl #[.int .u8 (bt a0 x5_1)] rfl (by (try simp only [lm]); first | done | rfl | (simp only [List.length_drop, List.length_take]; rfl)) ?_; (with_reducible refine (impl_isFigure.calls (bt a0 x5_1) false _ A18.out).mono ?_); rintro e w' ⟨rfl, ⟨nd, rfl⟩⟩; refine ⟨_, rfl, ?_⟩) | ((with_reducible refine gate_callee (f := 44) rfl ?_); refine goesL_ (some 24) rfl rfl Tryd.func44 (by kernel_rfl) rfl #[.string a0, .int .i64 x5_1] rfl (by (try simp only [lm]); first | done | rfl | (simp only [List.length_drop, List.length_take]; rfl)) ?_; (with_reducible refine (impl_markAt.calls kj5 a0 x5_1 t208 _ A28.out).mono ?_); rintro e w32 ⟨rfl, hb⟩; refine ⟨_, rfl, ?_⟩; replace HO_4 := As.mk (Kd.R_below (by (with_reducible repeat (first | apply Kd.R_alloc | apply Kd.R_drewN | apply Kd.R_drew)); exact HO_4.out) hb); replace HB := As.mk (below_step (be w) hb); (try clear hb); (try clear hb2); (try clear hk); (try clear hi)) | ((with_reducible refine gate_builtin (b := .append) (xs := #[.tmp 27, .tmp 30]) rfl ?_); at_builtin; refine Kd.R_append k63 (w0 := w) w.heap.size rfl (.tmp 27) (.tmp 30) 24 63 (.agg #[(.int .i64 0), (.string ⟨#[]⟩), (.int .i64 0)]) 32 rfl Tryd.underlying24 info63 rfl (by decide) (by omega) u4 x4_1 (⟨3, t208, 0⟩ : S63) [.int .i64 3, .string t208, .int .i64 0] (fun _ => True) (fun _ => False) rfl rfl ?aP (fun _ hk => hk.elim) ?aF ?aO ?aB ?aS ?aL ?_; (case aP => exact k63_mkM _ _ _ (⟨3, t208, 0⟩ : S63)); (case aB => exact (be w)); (case aF => exact (fun _ _ => trivial)); (case aO => exact (by (with_reducible repeat (first | apply Kd.R_alloc | apply Kd.R_drewN | apply Kd.R_drew)); exact HO_4.out)); (case aS => exact (below_size (be w))); (case aL => have := LMc31.out; omega); intro v210 w33 ho hb hg hat; rw [← Ny209.out] at ho; replace HB := As.mk (hb); have HO211 := As.mk (ho); clear HO_4; clear ho hb hg hat))
      go_roundg kj5
      case measure => have := HK1.out; have := HJ5.out; omega
      case rel => exact ⟨(y209), (wrap64 (x5_1 + (t208.size : Int))), (by first | rfl | (simp; done) | (simp [*]; done)), H', ⟨by have := HK1.out; have := HJ5.out; omega⟩, ⟨by (with_reducible repeat (first | apply Kd.R_alloc | apply Kd.R_drewN | apply Kd.R_drew)); exact HO211.out⟩, ⟨be w⟩⟩
     subst c19
     rw [if_pos rfl] at H
     obtain ⟨t202, A200, H⟩ := Option.bind_eq_some_iff.mp H
     try dsimp only at H
     have A20 := As.mk A200
     clear A200
     by_cases c21 : 0 ≤ x5_1
     rotate_left
     ·
      rw [if_neg c21] at H
      exact absurd H (by simp)
     rw [if_pos c21] at H
     have c21b0 := eq_true c21
     have c21b1 : decide (0 ≤ x5_1) = true := decide_eq_true c21
     clear c21
     by_cases c22 : x5_1 ≤ t202
     rotate_left
     ·
      rw [if_neg c22] at H
      exact absurd H (by simp)
     rw [if_pos c22] at H
     have c22b0 := eq_true c22
     have c22b1 : decide (x5_1 ≤ t202) = true := decide_eq_true c22
     clear c22
     by_cases c23 : t202 ≤ (a0.size : Int)
     rotate_left
     ·
      rw [if_neg c23] at H
      exact absurd H (by simp)
     rw [if_pos c23] at H
     have c23b0 := eq_true c23
     have c23b1 : decide (t202 ≤ (a0.size : Int)) = true := decide_eq_true c23
     clear c23
     obtain ⟨⟨t203, t204⟩, A240, H⟩ := Option.bind_eq_some_iff.mp H
     try dsimp only at H
     have A24 := As.mk A240
     clear A240
     by_cases c25 : t204 = true
     rotate_left
     ·
      replace c25 := Bool.eq_false_iff.mpr c25
      subst c25
      rw [if_neg (show ¬ (false = true) by decide)] at H
      simp only [Option.some.injEq, Prod.mk.injEq] at H
      obtain ⟨rfl, rfl⟩ := H
      go_wp2_with (first | ((with_reducible refine gate_callee (f := 40) rfl ?_); refine goesL_ (some 47) rfl rfl Tryd.func40 (by kernel_rfl) rfl #[.int .u8 (bt a0 x5_1)] rfl (by (try simp only [lm]); first | done | rfl | (simp only [List.length_drop, List.length_take]; rfl)) ?_; (with_reducible refine (impl_isLetter.calls (bt a0 x5_1) false _ A9.out).mono ?_); rintro e w' ⟨rfl, ⟨nd, rfl⟩⟩; refine ⟨_, rfl, ?_⟩) | ((with_reducible refine gate_callee (f := 42) rfl ?_); refine goesL_ (some 66) rfl rfl Tryd.func42 (by kernel_rfl) rfl #[.int .u8 (bt a0 x5_1)] rfl (by (try simp only [lm]); first | done | rfl | (simp only [List.length_drop, List.length_take]; rfl)) ?_; (with_reducible refine (impl_isFigure.calls (bt a0 x5_1) true _ A18.out).mono ?_); rintro e w' ⟨rfl, ⟨nd, rfl⟩⟩; refine ⟨_, rfl, ?_⟩) | ((with_reducible refine gate_callee (f := 41) rfl ?_); refine goesL_ (some 69) rfl rfl Tryd.func41 (by kernel_rfl) rfl #[.string a0, .int .i64 x5_1, .bool false] rfl (by (try simp only [lm]); first | done | rfl | (simp only [List.length_drop, List.length_take]; rfl)) ?_; (with_reducible refine (impl_wordEnd.calls kj5 a0 x5_1 false t202 _ A20.out).mono ?_); rintro e w' ⟨rfl, ⟨nd, rfl⟩⟩; refine ⟨_, rfl, ?_⟩) | ((with_reducible refine gate_callee (f := 43) rfl ?_); refine goesL_ (some 75) rfl rfl Tryd.func43 (by kernel_rfl) rfl #[.string (a0.extract (x5_1 : Int).toNat (t202 : Int).toNat)] rfl (by (try simp only [lm]); first | done | rfl | (simp only [List.length_drop, List.length_take]; rfl)) ?_; (with_reducible refine (impl_numberOf.calls kj5 (a0.extract (x5_1 : Int).toNat (t202 : Int).toNat) t203 false _ A24.out).mono ?_); rintro e w' ⟨rfl, ⟨nd, rfl⟩⟩; refine ⟨_, rfl, ?_⟩))
      go_ret2
      exact ⟨_, by first | rfl | (simp [errW_none, errW_some] <;> rfl) | (simp [*, errW_none, errW_some] <;> rfl), by first | exact Kd.R_nil _ _ _ _ _ | exact Kd.N_nil _ _ _ _ _ | exact Kd.V_nil _ _ _ _ _ | exact Kd.Q_nil _ _ _ _ _ | exact Kd.S_nil _ _ _ _ _, be w⟩
     subst c25
     rw [if_pos rfl] at H
     by_cases c26 : x4_1.length < 4398046511104
     rotate_left
     ·
      rw [if_neg c26] at H
      exact absurd H (by simp)
     rw [if_pos c26] at H
     have LMc26 := As.mk c26
     clear c26
     obtain ⟨y205, hy205⟩ : ∃ y_ : List (S63), y_ = (x4_1 ++ [(⟨2, (⟨#[]⟩ : ByteArray), t203⟩ : S63)]) := ⟨_, rfl⟩
     replace H : (impl_SignsOf.l0 kj5 a0 y205 t202) = some (r1, r2) := by first | (rw [hy205]; with_reducible exact H) | (have H2_ := (Option.bind_some _ _).symm.trans H; rw [hy205]; with_reducible exact H2_) | (have H2_ := (Option.bind_some _ _).symm.trans H; with_reducible exact H2_) | with_reducible exact H | (rw [hy205]; exact H) | exact H
     have Ny205 := As.mk hy205
     clear hy205
     have H' := As.mk H
     clear H
     go_wp2_with (first | ((with_reducible refine gate_callee (f := 40) rfl ?_); refine goesL_ (some 47) rfl rfl Tryd.func40 (by kernel_rfl) rfl #[.int .u8 (bt a0 x5_1)] rfl (by (try simp only [lm]); first | done | rfl | (simp only [List.length_drop, List.length_take]; rfl)) ?_; (with_reducible refine (impl_isLetter.calls (bt a0 x5_1) false _ A9.out).mono ?_); rintro e w' ⟨rfl, ⟨nd, rfl⟩⟩; refine ⟨_, rfl, ?_⟩) | ((with_reducible refine gate_callee (f := 42) rfl ?_); refine goesL_ (some 66) rfl rfl Tryd.func42 (by kernel_rfl) rfl #[.int .u8 (bt a0 x5_1)] rfl (by (try simp only [lm]); first | done | rfl | (simp only [List.length_drop, List.length_take]; rfl)) ?_; (with_reducible refine (impl_isFigure.calls (bt a0 x5_1) true _ A18.out).mono ?_); rintro e w' ⟨rfl, ⟨nd, rfl⟩⟩; refine ⟨_, rfl, ?_⟩) | ((with_reducible refine gate_callee (f := 41) rfl ?_); refine goesL_ (some 69) rfl rfl Tryd.func41 (by kernel_rfl) rfl #[.string a0, .int .i64 x5_1, .bool false] rfl (by (try simp only [lm]); first | done | rfl | (simp only [List.length_drop, List.length_take]; rfl)) ?_; (with_reducible refine (impl_wordEnd.calls kj5 a0 x5_1 false t202 _ A20.out).mono ?_); rintro e w' ⟨rfl, ⟨nd, rfl⟩⟩; refine ⟨_, rfl, ?_⟩) | ((with_reducible refine gate_callee (f := 43) rfl ?_); refine goesL_ (some 75) rfl rfl Tryd.func43 (by kernel_rfl) rfl #[.string (a0.extract (x5_1 : Int).toNat (t202 : Int).toNat)] rfl (by (try simp only [lm]); first | done | rfl | (simp only [List.length_drop, List.length_take]; rfl)) ?_; (with_reducible refine (impl_numberOf.calls kj5 (a0.extract (x5_1 : Int).toNat (t202 : Int).toNat) t203 true _ A24.out).mono ?_); rintro e w' ⟨rfl, ⟨nd, rfl⟩⟩; refine ⟨_, rfl, ?_⟩) | ((with_reducible refine gate_builtin (b := .append) (xs := #[.tmp 80, .tmp 83]) rfl ?_); at_builtin; refine Kd.R_append k63 (w0 := w) w.heap.size rfl (.tmp 80) (.tmp 83) 24 63 (.agg #[(.int .i64 0), (.string ⟨#[]⟩), (.int .i64 0)]) 32 rfl Tryd.underlying24 info63 rfl (by decide) (by omega) u4 x4_1 (⟨2, (⟨#[]⟩ : ByteArray), t203⟩ : S63) [.int .i64 2, .string (⟨#[]⟩ : ByteArray), .int .i64 t203] (fun _ => True) (fun _ => False) rfl rfl ?aP (fun _ hk => hk.elim) ?aF ?aO ?aB ?aS ?aL ?_; (case aP => exact k63_mkM _ _ _ (⟨2, (⟨#[]⟩ : ByteArray), t203⟩ : S63)); (case aB => exact (be w)); (case aF => exact (fun _ _ => trivial)); (case aO => exact (by (with_reducible repeat (first | apply Kd.R_alloc | apply Kd.R_drewN | apply Kd.R_drew)); exact HO_4.out)); (case aS => exact (below_size (be w))); (case aL => have := LMc26.out; omega); intro v206 w27 ho hb hg hat; rw [← Ny205.out] at ho; replace HB := As.mk (hb); have HO207 := As.mk (ho); clear HO_4; clear ho hb hg hat))
     go_roundg kj5
     case measure => have := HK1.out; have := HJ5.out; omega
     case rel => exact ⟨(y205), (t202), (by first | rfl | (simp; done) | (simp [*]; done)), H', ⟨by have := HK1.out; have := HJ5.out; omega⟩, ⟨by (with_reducible repeat (first | apply Kd.R_alloc | apply Kd.R_drewN | apply Kd.R_drew)); exact HO207.out⟩, ⟨be w⟩⟩
/-! ### spec_l01Figure: function 87 -/
def spec_l01Figure.f (a0 : Int) : Option (Int) := if a0 < 10 then (some ((wrap64 (48 + a0)) % 256)) else (some ((wrap64 ((wrap64 (97 + a0)) - 10)) % 256))
set_option maxHeartbeats 8000000 in
set_option maxRecDepth 100000 in
theorem spec_l01Figure.calls (a0 : Int) (r : Int) (w : World) (h : spec_l01Figure.f a0 = some r) :
  Calls Tryd.prog 87 #[.int .i64 a0] w fun e w' => e = .returned (.int .u8 r) ∧ Drawn0 w w' := by
 have H : (if a0 < 10 then (some ((wrap64 (48 + a0)) % 256)) else (some ((wrap64 ((wrap64 (97 + a0)) - 10)) % 256))) = some r := h
 clear h
 by_cases c2 : a0 < 10
 ·
  rw [if_pos c2] at H
  have c2b0 : decide (a0 < 10) = true := decide_eq_true c2
  clear c2
  obtain rfl := Option.some.inj H
  go_enter Tryd.func87, Tryd.ntmps87
  go_wp2
  go_ret
  exact ⟨by first | rfl | (simp; done) | (simp [*]; done), by repeat (first | exact Drawn0.refl _ | apply Drawn0.step)⟩
 rw [if_neg c2] at H
 have c2b0 : decide (a0 < 10) = false := decide_eq_false c2
 clear c2
 obtain rfl := Option.some.inj H
 go_enter Tryd.func87, Tryd.ntmps87
 go_wp2
 go_ret
 exact ⟨by first | rfl | (simp; done) | (simp [*]; done), by repeat (first | exact Drawn0.refl _ | apply Drawn0.step)⟩

end Go.Proofs.YtcoapbnbakmkoaaDoor.PFnSigns
