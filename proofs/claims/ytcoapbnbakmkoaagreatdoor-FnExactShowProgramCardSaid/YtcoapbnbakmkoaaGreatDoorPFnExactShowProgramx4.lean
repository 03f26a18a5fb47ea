/- Written by a program of this session (a turned copy of the kit's print): a contract for each Go function. No condition beside those in each statement. -/
import Derived.Test.YtcoapbnbakmkoaaGreatDoorPFnExactShowProgramx0
import Derived.Test.YtcoapbnbakmkoaaGreatDoorPFnExactShowProgramx3
namespace Go.Proofs.YtcoapbnbakmkoaaGreatDoor.PFnExactShowProgram
open Go.RowKit Go.Proofs.YtcoapbnbakmkoaaGreatDoor.Given Go.Proofs.YtcoapbnbakmkoaaGreatDoorW.PrintWords Go.Proofs.YtcoapbnbakmkoaaGreatDoorW.PrintLast Go.Proofs.YtcoapbnbakmkoaaGreatDoorW.PrintMore
attribute [local go_sem] max2_int min2_int max_two min_two max_three min_three max_four min_four   -- for this text's walks alone
set_option linter.unusedVariables false
set_option linter.unusedSimpArgs false

/-! ### spec_l03Figure: function 126 -/
def spec_l03Figure.f (a0 : Int) : Option (Bool) := if a0 ≥ 48 then (some (decide (a0 ≤ 57))) else (some false)
set_option maxHeartbeats 8000000 in
set_option maxRecDepth 100000 in
theorem spec_l03Figure.calls (a0 : Int) (r : Bool) (w : World) (h : spec_l03Figure.f a0 = some r) :
  Calls Tryz.prog 126 #[.int .u8 a0] w fun e w' => e = .returned (.bool r) ∧ Drawn0 w w' := by
 have H : (if a0 ≥ 48 then (some (decide (a0 ≤ 57))) else (some false)) = some r := h; clear h
 by_cases c2 : a0 ≥ 48
 ·
  rw [if_pos c2] at H; have c2b0 : decide (48 ≤ a0) = true := decide_eq_true c2; clear c2; obtain rfl := sj H; go_enter Tryz.func126, Tryz.ntmps126
  go_wp2
  go_ret
  exact dw
 rw [if_neg c2] at H; have c2b0 : decide (48 ≤ a0) = false := decide_eq_false c2; clear c2; obtain rfl := sj H; go_enter Tryz.func126, Tryz.ntmps126
 go_wp2
 go_ret
 exact dw

/-! ### spec_NameOk: function 103 -/
mutual
def spec_NameOk.j0 : Nat → ByteArray → Bool → Option (Bool)
 | 0, _, _ => none
 | k + 1, x0, x17 => if x17 = true then (some false) else (spec_NameOk.l0 k x0 0)
def spec_NameOk.l0 : Nat → ByteArray → Int → Option (Bool)
 | 0, _, _ => none
 | k + 1, x0, x3 => if x3 < (x0.size : Int) then (if 0 ≤ x3 then ((spec_l03Letter.f (bt x0 x3)).bind fun t207 => (if t207 = true then (spec_NameOk.l0 k x0 (wrap64 (x3 + 1))) else ((spec_l03Figure.f (bt x0 x3)).bind fun t208 => (if t208 = true then (spec_NameOk.l0 k x0 (wrap64 (x3 + 1))) else (some false))))) else (none)) else (some true)
end
def spec_NameOk.f (k : Nat) (a0 : ByteArray) : Option (Bool) := (spec_l01In.f (a0.size : Int) 1 8).bind fun t204 => (if t204 = true then (if 0 < (a0.size : Int) then ((spec_l03Letter.f (bt a0 0)).bind fun t205 => (if t205 = true then ((spec_KeyWord.f k a0).bind fun t206 => (spec_NameOk.j0 k a0 t206)) else (spec_NameOk.j0 k a0 true))) else (none)) else (spec_NameOk.j0 k a0 true))
theorem spec_NameOk.mono_l : ∀ k, (∀ y0 y1, LeO (spec_NameOk.j0 k y0 y1) (spec_NameOk.j0 (k + 1) y0 y1)) ∧ (∀ y0 y1, LeO (spec_NameOk.l0 k y0 y1) (spec_NameOk.l0 (k + 1) y0 y1))
 | 0 => ⟨fun _ _ r h => by simp [spec_NameOk.j0] at h, fun _ _ r h => by simp [spec_NameOk.l0] at h⟩
 | k + 1 => by
  obtain ⟨ih0, ih1⟩ := spec_NameOk.mono_l k
  refine ⟨?_, ?_⟩
  ·
   intro y0 y1
   unfold spec_NameOk.j0
   with_reducible repeat' first | exact ih0 _ _ | exact ih1 _ _ | exact spec_KeyWord.mono _ _ | exact LeO.refl _ | exact LeO.none _ | refine LeO.ite ?_ ?_ | refine LeO.bind ?_ (fun _ => ?_)
  ·
   intro y0 y1
   unfold spec_NameOk.l0
   with_reducible repeat' first | exact ih0 _ _ | exact ih1 _ _ | exact spec_KeyWord.mono _ _ | exact LeO.refl _ | exact LeO.none _ | refine LeO.ite ?_ ?_ | refine LeO.bind ?_ (fun _ => ?_)
theorem spec_NameOk.mono : ∀ a0 k, LeO (spec_NameOk.f k a0) (spec_NameOk.f (k + 1) a0) := by
 intro a0 k; obtain ⟨ih0, ih1⟩ := spec_NameOk.mono_l k
 unfold spec_NameOk.f
 with_reducible repeat' first | exact ih0 _ _ | exact ih1 _ _ | exact spec_KeyWord.mono _ _ | exact LeO.refl _ | exact LeO.none _ | refine LeO.ite ?_ ?_ | refine LeO.bind ?_ (fun _ => ?_)
set_option maxHeartbeats 8000000 in
set_option maxRecDepth 100000 in
theorem spec_NameOk.calls (k : Nat) (a0 : ByteArray) (r : Bool) (w : World) (h : spec_NameOk.f k a0 = some r) :
  Calls Tryz.prog 103 #[.string a0] w fun e w' => e = .returned (.bool r) ∧ Below w.heap.size w w' := by
 have HB := As.mk (Below.refl w.heap.size w); have H : ((spec_l01In.f (a0.size : Int) 1 8).bind fun t204 => (if t204 = true then (if 0 < (a0.size : Int) then ((spec_l03Letter.f (bt a0 0)).bind fun t205 => (if t205 = true then ((spec_KeyWord.f k a0).bind fun t206 => (spec_NameOk.j0 k a0 t206)) else (spec_NameOk.j0 k a0 true))) else (none)) else (spec_NameOk.j0 k a0 true))) = some r := h; clear h; have HC2 := As.mk H; clear H; go_enter Tryz.func103, Tryz.ntmps103
 go_upto_region 1 with (fail)
 go_cut [17] (fun v17 wc => ∃ (kq : Nat) (x17_1 : Bool), v17 = .bool x17_1 ∧ As (spec_NameOk.j0 kq a0 x17_1 = some r) ∧ As (kq ≤ k) ∧ As (Below w.heap.size w wc))
 case first =>
  have H := HC2.out; clear HC2; replace H := bo H; obtain ⟨t204, A3, H⟩ := H
  by_cases c4 : t204 = true
  rotate_left
  ·
   replace c4 := Bool.eq_false_iff.mpr c4; subst c4; rw [if_neg ft] at H; have H' := As.mk H; clear H
   go_wp2_with (first | ((with_reducible refine gate_callee (f := 33) rfl ?_); refine goL (some 6) Tryz.func33 #[.int .i64 (a0.size : Int), .int .i64 1, .int .i64 8] ?_; (with_reducible refine (spec_l01In.calls (a0.size : Int) 1 8 false _ A3.out).mono ?_); rintro e w' ⟨rfl, ⟨nd, rfl⟩⟩; refine ⟨_, rfl, ?_⟩))
   go_meet
   case rel => exact ⟨_, (true), (by first | rfl | (simp; done) | (simp [*]; done)), H', ⟨by first | omega | exact Nat.le_refl _⟩, ⟨be w⟩⟩
  subst c4; rw [if_pos rfl] at H; have c5 := i1 H; replace H := i2 H; have c5b0 := decide_eq_true c5; have c5b1 : decide (0 < a0.size) = true := decide_eq_true (by omega); clear c5
  (first | rw [c5b0] | (simp only [i64_w, i32_w]; rw [c5b0]) | skip)
  replace H := bo H; obtain ⟨t205, A7, H⟩ := H
  by_cases c8 : t205 = true
  rotate_left
  ·
   replace c8 := Bool.eq_false_iff.mpr c8; subst c8; rw [if_neg ft] at H; have H' := As.mk H; clear H
   go_wp2_with (first | ((with_reducible refine gate_callee (f := 33) rfl ?_); refine goL (some 6) Tryz.func33 #[.int .i64 (a0.size : Int), .int .i64 1, .int .i64 8] ?_; (with_reducible refine (spec_l01In.calls (a0.size : Int) 1 8 true _ A3.out).mono ?_); rintro e w' ⟨rfl, ⟨nd, rfl⟩⟩; refine ⟨_, rfl, ?_⟩; have p6 : 0 ≤ (0 : Int) := (by omega); have q6 : 0 < a0.size := (by have : (0 : Int) < (a0.size : Int) := od; omega); have hx6 : ∀ h : 0 < a0.size, ((a0[0]'h).toNat : Int) = bt a0 0 := bt_at a0 0; clear p6; have qi6 : (0 < (a0.size : Int)) = True := eq_true (of_decide_eq_true (by first | (with_reducible assumption) | assumption)); replace q6 := eq_true q6) | (go_at_call 124; (with_reducible refine (spec_l03Letter.calls (bt a0 0) false _ A7.out).mono ?_); rintro e w' ⟨rfl, ⟨nd, rfl⟩⟩))
   go_meet
   case rel => exact ⟨_, (true), (by first | rfl | (simp; done) | (simp [*]; done)), H', ⟨by first | omega | exact Nat.le_refl _⟩, ⟨be w⟩⟩
  subst c8; rw [if_pos rfl] at H; replace H := bo H; obtain ⟨t206, A9, H⟩ := H; have H' := As.mk H; clear H
  go_wp2_with (first | ((with_reducible refine gate_callee (f := 33) rfl ?_); refine goL (some 6) Tryz.func33 #[.int .i64 (a0.size : Int), .int .i64 1, .int .i64 8] ?_; (with_reducible refine (spec_l01In.calls (a0.size : Int) 1 8 true _ A3.out).mono ?_); rintro e w' ⟨rfl, ⟨nd, rfl⟩⟩; refine ⟨_, rfl, ?_⟩; have p6 : 0 ≤ (0 : Int) := (by omega); have q6 : 0 < a0.size := (by have : (0 : Int) < (a0.size : Int) := od; omega); have hx6 : ∀ h : 0 < a0.size, ((a0[0]'h).toNat : Int) = bt a0 0 := bt_at a0 0; clear p6; have qi6 : (0 < (a0.size : Int)) = True := eq_true (of_decide_eq_true (by first | (with_reducible assumption) | assumption)); replace q6 := eq_true q6) | (go_at_call 124; (with_reducible refine (spec_l03Letter.calls (bt a0 0) true _ A7.out).mono ?_); rintro e w' ⟨rfl, ⟨nd, rfl⟩⟩) | (go_at_call 125; (with_reducible refine (spec_KeyWord.calls k a0 t206 _ A9.out).mono ?_); rintro e w10 ⟨rfl, hb⟩; replace HB := bs w hb; (try clear hb)))
  go_meet
  case rel => exact ⟨_, (t206), (by first | rfl | (simp; done) | (simp [*]; done)), H', ⟨by first | omega | exact Nat.le_refl _⟩, ⟨be w⟩⟩
 case rest =>
  clear HC2; obtain ⟨kq, x17_1, rfl, HA, HJ1, HB⟩ := hcut
  cases kq with
  | zero => exact absurd HA.out (by simp [spec_NameOk.j0])
  | succ kj1 =>
   have H := HA.out; clear HA
   simp only [spec_NameOk.j0] at H
   by_cases c11 : x17_1 = true
   ·
    subst c11; rw [if_pos rfl] at H; obtain rfl := sj H
    go_wp2
    go_ret
    exact ⟨ez, be w⟩
   replace c11 := Bool.eq_false_iff.mpr c11; subst c11; rw [if_neg ft] at H; have H' := As.mk H; clear H
   go_wp2
   go_loopg [3] kj1 (fun kq v3 w' => ∃ (x3_2 : Int), v3 = .int .i64 x3_2 ∧ As (spec_NameOk.l0 kq a0 x3_2 = some r) ∧ As (kq ≤ kj1) ∧ As (Below w.heap.size w w'))
   case atStart => exact ⟨(0), (by first | rfl | (simp; done) | (simp [*]; done)), H', ⟨Nat.le_refl _⟩, ⟨be w⟩⟩
   case round =>
    clear H'; (try clear c11); obtain ⟨x3_2, rfl, HA, HK2, HB⟩ := hrel
    cases gk with
    | zero => exact absurd HA.out (by simp [spec_NameOk.l0])
    | succ k2 =>
     have H := HA.out; clear HA
     simp only [spec_NameOk.l0] at H
     by_cases c12 : x3_2 < (a0.size : Int)
     rotate_left
     ·
      rw [if_neg c12] at H; have c12b0 := decide_eq_false c12; clear c12; obtain rfl := sj H
      go_wp2
      go_ret
      exact ⟨ez, be w⟩

     rw [if_pos c12] at H; have c12b0 := decide_eq_true c12; clear c12; replace H := ia H; obtain ⟨c13b0, H⟩ := H; replace H := bo H; obtain ⟨t207, A15, H⟩ := H
     by_cases c16 : t207 = true
     ·
      subst c16; rw [if_pos rfl] at H; have H' := As.mk H; clear H; have p14 : 0 ≤ (x3_2 : Int) := od; have q14 : x3_2 < (a0.size : Int) := od; have hx14 := bt_at a0 x3_2; replace p14 := eq_true p14; replace q14 := eq_true q14
      go_wp2_with (first | ((with_reducible refine gate_callee (f := 124) rfl ?_); refine goL (some 27) Tryz.func124 #[.int .u8 (bt a0 x3_2)] ?_; (with_reducible refine (spec_l03Letter.calls (bt a0 x3_2) true _ A15.out).mono ?_); rintro e w' ⟨rfl, ⟨nd, rfl⟩⟩; refine ⟨_, rfl, ?_⟩))
      go_roundg k2
      case measure => have := HJ1.out; have := HK2.out; omega
      case rel => exact ⟨(wrap64 (x3_2 + 1)), (by first | rfl | (simp; done) | (simp [*]; done)), H', ⟨by have := HJ1.out; have := HK2.out; omega⟩, ⟨be w⟩⟩
     replace c16 := Bool.eq_false_iff.mpr c16; subst c16; rw [if_neg ft] at H; replace H := bo H; obtain ⟨t208, A18, H⟩ := H
     by_cases c19 : t208 = true
     rotate_left
     ·
      replace c19 := Bool.eq_false_iff.mpr c19; subst c19; rw [if_neg ft] at H; obtain rfl := sj H; have p14 : 0 ≤ (x3_2 : Int) := od; have q14 : x3_2 < (a0.size : Int) := od; have hx14 := bt_at a0 x3_2; replace p14 := eq_true p14; replace q14 := eq_true q14
      go_wp2_with (first | ((with_reducible refine gate_callee (f := 124) rfl ?_); refine goL (some 27) Tryz.func124 #[.int .u8 (bt a0 x3_2)] ?_; (with_reducible refine (spec_l03Letter.calls (bt a0 x3_2) false _ A15.out).mono ?_); rintro e w' ⟨rfl, ⟨nd, rfl⟩⟩; refine ⟨_, rfl, ?_⟩; have p17 : 0 ≤ (x3_2 : Int) := od; have q17 : x3_2 < (a0.size : Int) := od; have hx17 := bt_at a0 x3_2; replace p17 := eq_true p17; replace q17 := eq_true q17) | (go_at_call 126; (with_reducible refine (spec_l03Figure.calls (bt a0 x3_2) false _ A18.out).mono ?_); rintro e w' ⟨rfl, ⟨nd, rfl⟩⟩))
      go_ret
      exact ⟨ez, be w⟩
     subst c19; rw [if_pos rfl] at H; have H' := As.mk H; clear H; have p14 : 0 ≤ (x3_2 : Int) := od; have q14 : x3_2 < (a0.size : Int) := od; have hx14 := bt_at a0 x3_2; replace p14 := eq_true p14; replace q14 := eq_true q14
     go_wp2_with (first | ((with_reducible refine gate_callee (f := 124) rfl ?_); refine goL (some 27) Tryz.func124 #[.int .u8 (bt a0 x3_2)] ?_; (with_reducible refine (spec_l03Letter.calls (bt a0 x3_2) false _ A15.out).mono ?_); rintro e w' ⟨rfl, ⟨nd, rfl⟩⟩; refine ⟨_, rfl, ?_⟩; have p17 : 0 ≤ (x3_2 : Int) := od; have q17 : x3_2 < (a0.size : Int) := od; have hx17 := bt_at a0 x3_2; replace p17 := eq_true p17; replace q17 := eq_true q17) | (go_at_call 126; (with_reducible refine (spec_l03Figure.calls (bt a0 x3_2) true _ A18.out).mono ?_); rintro e w' ⟨rfl, ⟨nd, rfl⟩⟩))
     go_roundg k2
     case measure => have := HJ1.out; have := HK2.out; omega
     case rel => exact ⟨(wrap64 (x3_2 + 1)), (by first | rfl | (simp; done) | (simp [*]; done)), H', ⟨by have := HJ1.out; have := HK2.out; omega⟩, ⟨be w⟩⟩
/-! ### spec_l04Kids: function 113 -/
mutual
def spec_l04Kids.j0 : Nat → Int → Bool → Option (Int × Int)
 | 0, _, _ => none
 | k + 1, x4, x5 => if x5 = true then (some (1, 1)) else (if x4 = 9 then (spec_l04Kids.j1 k x4 (x4 == 9)) else (if x4 = 10 then (spec_l04Kids.j1 k x4 (x4 == 10)) else (if x4 = 11 then (spec_l04Kids.j1 k x4 (x4 == 11)) else (spec_l04Kids.j1 k x4 (x4 == 17)))))
def spec_l04Kids.j1 : Nat → Int → Bool → Option (Int × Int)
 | 0, _, _ => none
 | k + 1, x4, x12 => if x12 = true then (some (2, 2)) else (if x4 = 12 then (some (0, 3)) else (if x4 = 16 then (some (3, 3)) else (if x4 = 20 then (some (0, 12)) else (some (0, 0)))))
end
def spec_l04Kids.f (k : Nat) (a0 : Int) : Option (Int × Int) := if a0 = 8 then (spec_l04Kids.j0 k a0 (a0 == 8)) else (if a0 = 13 then (spec_l04Kids.j0 k a0 (a0 == 13)) else (if a0 = 14 then (spec_l04Kids.j0 k a0 (a0 == 14)) else (if a0 = 15 then (spec_l04Kids.j0 k a0 (a0 == 15)) else (if a0 = 18 then (spec_l04Kids.j0 k a0 (a0 == 18)) else (spec_l04Kids.j0 k a0 (a0 == 19))))))
theorem spec_l04Kids.mono_l : ∀ k, (∀ y0 y1, LeO (spec_l04Kids.j0 k y0 y1) (spec_l04Kids.j0 (k + 1) y0 y1)) ∧ (∀ y0 y1, LeO (spec_l04Kids.j1 k y0 y1) (spec_l04Kids.j1 (k + 1) y0 y1))
 | 0 => ⟨fun _ _ r h => by simp [spec_l04Kids.j0] at h, fun _ _ r h => by simp [spec_l04Kids.j1] at h⟩
 | k + 1 => by
  obtain ⟨ih0, ih1⟩ := spec_l04Kids.mono_l k
  refine ⟨?_, ?_⟩
  ·
   intro y0 y1
   unfold spec_l04Kids.j0
   with_reducible repeat' first | exact ih0 _ _ | exact ih1 _ _ | exact LeO.refl _ | exact LeO.none _ | refine LeO.ite ?_ ?_ | refine LeO.bind ?_ (fun _ => ?_)
  ·
   intro y0 y1
   unfold spec_l04Kids.j1
   with_reducible repeat' first | exact ih0 _ _ | exact ih1 _ _ | exact LeO.refl _ | exact LeO.none _ | refine LeO.ite ?_ ?_ | refine LeO.bind ?_ (fun _ => ?_)
theorem spec_l04Kids.mono : ∀ a0 k, LeO (spec_l04Kids.f k a0) (spec_l04Kids.f (k + 1) a0) := by
 intro a0 k; obtain ⟨ih0, ih1⟩ := spec_l04Kids.mono_l k
 unfold spec_l04Kids.f
 with_reducible repeat' first | exact ih0 _ _ | exact ih1 _ _ | exact LeO.refl _ | exact LeO.none _ | refine LeO.ite ?_ ?_ | refine LeO.bind ?_ (fun _ => ?_)
set_option maxHeartbeats 8000000 in
set_option maxRecDepth 100000 in
theorem spec_l04Kids.calls (k : Nat) (a0 : Int) (r1 : Int) (r2 : Int) (w : World) (h : spec_l04Kids.f k a0 = some (r1, r2)) :
  Calls Tryz.prog 113 #[.int .i64 a0] w fun e w' => e = .returned (.tuple #[.int .i64 r1, .int .i64 r2]) ∧ Drawn0 w w' := by
 have H : (if a0 = 8 then (spec_l04Kids.j0 k a0 (a0 == 8)) else (if a0 = 13 then (spec_l04Kids.j0 k a0 (a0 == 13)) else (if a0 = 14 then (spec_l04Kids.j0 k a0 (a0 == 14)) else (if a0 = 15 then (spec_l04Kids.j0 k a0 (a0 == 15)) else (if a0 = 18 then (spec_l04Kids.j0 k a0 (a0 == 18)) else (spec_l04Kids.j0 k a0 (a0 == 19))))))) = some (r1, r2) := h; clear h; have HC2 := As.mk H; clear H; go_enter Tryz.func113, Tryz.ntmps113
 go_upto_if 5 with (fail)
 go_cut [5] (fun v5 wc => ∃ (kq : Nat) (x5_1 : Bool), v5 = .bool x5_1 ∧ As (spec_l04Kids.j0 kq a0 x5_1 = some (r1, r2)) ∧ As (kq ≤ k) ∧ Drawn0 w wc)
 case first =>
  have H := HC2.out; clear HC2
  by_cases c3 : a0 = 8
  ·
   rw [if_pos c3] at H; have c3b0 : (a0 == 8) = true := beq_iff_eq.mpr c3; have c3b1 : (a0 != 8) = false := bne_eq_false_iff_eq.mpr c3; clear c3
   (first | rw [c3b0] | (simp only [i64_w, i32_w]; rw [c3b0]) | skip)
   have H' := As.mk H; clear H
   go_wp2
   go_meet
   case rel => exact ⟨_, ((a0 == 8)), (by first | rfl | (simp; done) | (simp [*]; done)), H', ⟨by first | omega | exact Nat.le_refl _⟩, by repeat (first | exact Drawn0.refl _ | apply Drawn0.step)⟩
  rw [if_neg c3] at H; have c3b0 : (a0 == 8) = false := beq_eq_false_iff_ne.mpr c3; have c3b1 : (a0 != 8) = true := bne_iff_ne.mpr c3
  (first | rw [c3b0] | (simp only [i64_w, i32_w]; rw [c3b0]) | skip)
  by_cases c4 : a0 = 13
  ·
   rw [if_pos c4] at H; have c4b0 : (a0 == 13) = true := beq_iff_eq.mpr c4; have c4b1 : (a0 != 13) = false := bne_eq_false_iff_eq.mpr c4; clear c4; have H' := As.mk H; clear H
   go_wp2
   go_meet
   case rel => exact ⟨_, ((a0 == 13)), (by first | rfl | (simp; done) | (simp [*]; done)), H', ⟨by first | omega | exact Nat.le_refl _⟩, by repeat (first | exact Drawn0.refl _ | apply Drawn0.step)⟩
  rw [if_neg c4] at H; have c4b0 : (a0 == 13) = false := beq_eq_false_iff_ne.mpr c4; have c4b1 : (a0 != 13) = true := bne_iff_ne.mpr c4
  by_cases c5 : a0 = 14
  ·
   rw [if_pos c5] at H; have c5b0 : (a0 == 14) = true := beq_iff_eq.mpr c5; have c5b1 : (a0 != 14) = false := bne_eq_false_iff_eq.mpr c5; clear c5; have H' := As.mk H; clear H
   go_wp2
   go_meet
   case rel => exact ⟨_, ((a0 == 14)), (by first | rfl | (simp; done) | (simp [*]; done)), H', ⟨by first | omega | exact Nat.le_refl _⟩, by repeat (first | exact Drawn0.refl _ | apply Drawn0.step)⟩
  rw [if_neg c5] at H; have c5b0 : (a0 == 14) = false := beq_eq_false_iff_ne.mpr c5; have c5b1 : (a0 != 14) = true := bne_iff_ne.mpr c5
  by_cases c6 : a0 = 15
  ·
   rw [if_pos c6] at H; have c6b0 : (a0 == 15) = true := beq_iff_eq.mpr c6; have c6b1 : (a0 != 15) = false := bne_eq_false_iff_eq.mpr c6; clear c6; have H' := As.mk H; clear H
   go_wp2
   go_meet
   case rel => exact ⟨_, ((a0 == 15)), (by first | rfl | (simp; done) | (simp [*]; done)), H', ⟨by first | omega | exact Nat.le_refl _⟩, by repeat (first | exact Drawn0.refl _ | apply Drawn0.step)⟩
  rw [if_neg c6] at H; have c6b0 : (a0 == 15) = false := beq_eq_false_iff_ne.mpr c6; have c6b1 : (a0 != 15) = true := bne_iff_ne.mpr c6
  by_cases c7 : a0 = 18
  rotate_left
  ·
   rw [if_neg c7] at H; have c7b0 : (a0 == 18) = false := beq_eq_false_iff_ne.mpr c7; have c7b1 : (a0 != 18) = true := bne_iff_ne.mpr c7; have H' := As.mk H; clear H
   go_wp2
   go_meet
   case rel => exact ⟨_, ((a0 == 19)), (by first | rfl | (simp; done) | (simp [*]; done)), H', ⟨by first | omega | exact Nat.le_refl _⟩, by repeat (first | exact Drawn0.refl _ | apply Drawn0.step)⟩
  rw [if_pos c7] at H; have c7b0 : (a0 == 18) = true := beq_iff_eq.mpr c7; have c7b1 : (a0 != 18) = false := bne_eq_false_iff_eq.mpr c7; clear c7; have H' := As.mk H; clear H
  go_wp2
  go_meet
  case rel => exact ⟨_, ((a0 == 18)), (by first | rfl | (simp; done) | (simp [*]; done)), H', ⟨by first | omega | exact Nat.le_refl _⟩, by repeat (first | exact Drawn0.refl _ | apply Drawn0.step)⟩
 case rest =>
  clear HC2; obtain ⟨kq, x5_1, rfl, HA, HJ1, ⟨mc1, rfl⟩⟩ := hcut
  cases kq with
  | zero => exact absurd HA.out (by simp [spec_l04Kids.j0])
  | succ kj1 =>
   have H := HA.out; clear HA
   simp only [spec_l04Kids.j0] at H
   by_cases c8 : x5_1 = true
   ·
    subst c8; rw [if_pos rfl] at H
    simp only [Option.some.injEq, Prod.mk.injEq] at H
    obtain ⟨rfl, rfl⟩ := H
    go_wp2
    go_ret2
    exact dw
   replace c8 := Bool.eq_false_iff.mpr c8; subst c8; rw [if_neg ft] at H; have HC9 := As.mk H; clear H
   go_upto_if 12 with (fail)
   go_cut [12] (fun v12 wc => ∃ (kq : Nat) (x12_8 : Bool), v12 = .bool x12_8 ∧ As (spec_l04Kids.j1 kq a0 x12_8 = some (r1, r2)) ∧ As (kq ≤ kj1) ∧ Drawn0 w wc)
   case first =>
    have H := HC9.out; clear HC9
    by_cases c10 : a0 = 9
    ·
     rw [if_pos c10] at H; have c10b0 : (a0 == 9) = true := beq_iff_eq.mpr c10; have c10b1 : (a0 != 9) = false := bne_eq_false_iff_eq.mpr c10; clear c10
     (first | rw [c10b0] | (simp only [i64_w, i32_w]; rw [c10b0]) | skip)
     have H' := As.mk H; clear H
     go_wp2
     go_meet
     case rel => exact ⟨_, ((a0 == 9)), (by first | rfl | (simp; done) | (simp [*]; done)), H', ⟨by have := HJ1.out; first | omega | exact Nat.le_refl _⟩, by repeat (first | exact Drawn0.refl _ | apply Drawn0.step)⟩
    rw [if_neg c10] at H; have c10b0 : (a0 == 9) = false := beq_eq_false_iff_ne.mpr c10; have c10b1 : (a0 != 9) = true := bne_iff_ne.mpr c10
    (first | rw [c10b0] | (simp only [i64_w, i32_w]; rw [c10b0]) | skip)
    by_cases c11 : a0 = 10
    ·
     rw [if_pos c11] at H; have c11b0 : (a0 == 10) = true := beq_iff_eq.mpr c11; have c11b1 : (a0 != 10) = false := bne_eq_false_iff_eq.mpr c11; clear c11; have H' := As.mk H; clear H
     go_wp2
     go_meet
     case rel => exact ⟨_, ((a0 == 10)), (by first | rfl | (simp; done) | (simp [*]; done)), H', ⟨by have := HJ1.out; first | omega | exact Nat.le_refl _⟩, by repeat (first | exact Drawn0.refl _ | apply Drawn0.step)⟩
    rw [if_neg c11] at H; have c11b0 : (a0 == 10) = false := beq_eq_false_iff_ne.mpr c11; have c11b1 : (a0 != 10) = true := bne_iff_ne.mpr c11
    by_cases c12 : a0 = 11
    rotate_left
    ·
     rw [if_neg c12] at H; have c12b0 : (a0 == 11) = false := beq_eq_false_iff_ne.mpr c12; have c12b1 : (a0 != 11) = true := bne_iff_ne.mpr c12; have H' := As.mk H; clear H
     go_wp2
     go_meet
     case rel => exact ⟨_, ((a0 == 17)), (by first | rfl | (simp; done) | (simp [*]; done)), H', ⟨by have := HJ1.out; first | omega | exact Nat.le_refl _⟩, by repeat (first | exact Drawn0.refl _ | apply Drawn0.step)⟩
    rw [if_pos c12] at H; have c12b0 : (a0 == 11) = true := beq_iff_eq.mpr c12; have c12b1 : (a0 != 11) = false := bne_eq_false_iff_eq.mpr c12; clear c12; have H' := As.mk H; clear H
    go_wp2
    go_meet
    case rel => exact ⟨_, ((a0 == 11)), (by first | rfl | (simp; done) | (simp [*]; done)), H', ⟨by have := HJ1.out; first | omega | exact Nat.le_refl _⟩, by repeat (first | exact Drawn0.refl _ | apply Drawn0.step)⟩
   case rest =>
    clear HC9; (try clear c8); obtain ⟨kq, x12_8, rfl, HA, HJ8, ⟨mc8, rfl⟩⟩ := hcut
    cases kq with
    | zero => exact absurd HA.out (by simp [spec_l04Kids.j1])
    | succ kj8 =>
     have H := HA.out; clear HA
     simp only [spec_l04Kids.j1] at H
     by_cases c13 : x12_8 = true
     ·
      subst c13; rw [if_pos rfl] at H
      simp only [Option.some.injEq, Prod.mk.injEq] at H
      obtain ⟨rfl, rfl⟩ := H
      go_wp2
      go_ret2
      exact dw
     replace c13 := Bool.eq_false_iff.mpr c13; subst c13; rw [if_neg ft] at H
     by_cases c14 : a0 = 12
     ·
      rw [if_pos c14] at H; have c14b0 : (a0 == 12) = true := beq_iff_eq.mpr c14; have c14b1 : (a0 != 12) = false := bne_eq_false_iff_eq.mpr c14; clear c14
      simp only [Option.some.injEq, Prod.mk.injEq] at H
      obtain ⟨rfl, rfl⟩ := H
      go_wp2
      go_ret2
      exact dw
     rw [if_neg c14] at H; have c14b0 : (a0 == 12) = false := beq_eq_false_iff_ne.mpr c14; have c14b1 : (a0 != 12) = true := bne_iff_ne.mpr c14
     by_cases c15 : a0 = 16
     ·
      rw [if_pos c15] at H; have c15b0 : (a0 == 16) = true := beq_iff_eq.mpr c15; have c15b1 : (a0 != 16) = false := bne_eq_false_iff_eq.mpr c15; clear c15
      simp only [Option.some.injEq, Prod.mk.injEq] at H
      obtain ⟨rfl, rfl⟩ := H
      go_wp2
      go_ret2
      exact dw
     rw [if_neg c15] at H; have c15b0 : (a0 == 16) = false := beq_eq_false_iff_ne.mpr c15; have c15b1 : (a0 != 16) = true := bne_iff_ne.mpr c15
     by_cases c16 : a0 = 20
     rotate_left
     ·
      rw [if_neg c16] at H; have c16b0 : (a0 == 20) = false := beq_eq_false_iff_ne.mpr c16; have c16b1 : (a0 != 20) = true := bne_iff_ne.mpr c16
      simp only [Option.some.injEq, Prod.mk.injEq] at H
      obtain ⟨rfl, rfl⟩ := H
      go_wp2
      go_ret2
      exact dw

     rw [if_pos c16] at H; have c16b0 : (a0 == 20) = true := beq_iff_eq.mpr c16; have c16b1 : (a0 != 20) = false := bne_eq_false_iff_eq.mpr c16; clear c16
     simp only [Option.some.injEq, Prod.mk.injEq] at H
     obtain ⟨rfl, rfl⟩ := H
     go_wp2
     go_ret2
     exact dw
/-! ### spec_l04Named: function 114 -/
def spec_l04Named.f (a0 : Int) : Option (Bool) := if a0 = 2 then (some true) else (if a0 = 3 then (some true) else (if a0 = 4 then (some true) else (if a0 = 5 then (some true) else (if a0 = 6 then (some true) else (if a0 = 12 then (some true) else (if a0 = 13 then (some true) else (if a0 = 14 then (some true) else (if a0 = 15 then (some true) else (some false)))))))))
set_option maxHeartbeats 8000000 in
set_option maxRecDepth 100000 in
theorem spec_l04Named.calls (a0 : Int) (r : Bool) (w : World) (h : spec_l04Named.f a0 = some r) :
  Calls Tryz.prog 114 #[.int .i64 a0] w fun e w' => e = .returned (.bool r) ∧ Drawn0 w w' := by
 have H : (if a0 = 2 then (some true) else (if a0 = 3 then (some true) else (if a0 = 4 then (some true) else (if a0 = 5 then (some true) else (if a0 = 6 then (some true) else (if a0 = 12 then (some true) else (if a0 = 13 then (some true) else (if a0 = 14 then (some true) else (if a0 = 15 then (some true) else (some false)))))))))) = some r := h; clear h
 by_cases c2 : a0 = 2
 ·
  rw [if_pos c2] at H; have c2b0 : (a0 == 2) = true := beq_iff_eq.mpr c2; have c2b1 : (a0 != 2) = false := bne_eq_false_iff_eq.mpr c2; clear c2; obtain rfl := sj H; go_enter Tryz.func114, Tryz.ntmps114
  go_wp2
  go_ret
  exact dw
 rw [if_neg c2] at H; have c2b0 : (a0 == 2) = false := beq_eq_false_iff_ne.mpr c2; have c2b1 : (a0 != 2) = true := bne_iff_ne.mpr c2
 by_cases c3 : a0 = 3
 ·
  rw [if_pos c3] at H; have c3b0 : (a0 == 3) = true := beq_iff_eq.mpr c3; have c3b1 : (a0 != 3) = false := bne_eq_false_iff_eq.mpr c3; clear c3; obtain rfl := sj H; go_enter Tryz.func114, Tryz.ntmps114
  go_wp2
  go_ret
  exact dw
 rw [if_neg c3] at H; have c3b0 : (a0 == 3) = false := beq_eq_false_iff_ne.mpr c3; have c3b1 : (a0 != 3) = true := bne_iff_ne.mpr c3
 by_cases c4 : a0 = 4
 ·
  rw [if_pos c4] at H; have c4b0 : (a0 == 4) = true := beq_iff_eq.mpr c4; have c4b1 : (a0 != 4) = false := bne_eq_false_iff_eq.mpr c4; clear c4; obtain rfl := sj H; go_enter Tryz.func114, Tryz.ntmps114
  go_wp2
  go_ret
  exact dw
 rw [if_neg c4] at H; have c4b0 : (a0 == 4) = false := beq_eq_false_iff_ne.mpr c4; have c4b1 : (a0 != 4) = true := bne_iff_ne.mpr c4
 by_cases c5 : a0 = 5
 ·
  rw [if_pos c5] at H; have c5b0 : (a0 == 5) = true := beq_iff_eq.mpr c5; have c5b1 : (a0 != 5) = false := bne_eq_false_iff_eq.mpr c5; clear c5; obtain rfl := sj H; go_enter Tryz.func114, Tryz.ntmps114
  go_wp2
  go_ret
  exact dw
 rw [if_neg c5] at H; have c5b0 : (a0 == 5) = false := beq_eq_false_iff_ne.mpr c5; have c5b1 : (a0 != 5) = true := bne_iff_ne.mpr c5
 by_cases c6 : a0 = 6
 ·
  rw [if_pos c6] at H; have c6b0 : (a0 == 6) = true := beq_iff_eq.mpr c6; have c6b1 : (a0 != 6) = false := bne_eq_false_iff_eq.mpr c6; clear c6; obtain rfl := sj H; go_enter Tryz.func114, Tryz.ntmps114
  go_wp2
  go_ret
  exact dw
 rw [if_neg c6] at H; have c6b0 : (a0 == 6) = false := beq_eq_false_iff_ne.mpr c6; have c6b1 : (a0 != 6) = true := bne_iff_ne.mpr c6
 by_cases c7 : a0 = 12
 ·
  rw [if_pos c7] at H; have c7b0 : (a0 == 12) = true := beq_iff_eq.mpr c7; have c7b1 : (a0 != 12) = false := bne_eq_false_iff_eq.mpr c7; clear c7; obtain rfl := sj H; go_enter Tryz.func114, Tryz.ntmps114
  go_wp2
  go_ret
  exact dw
 rw [if_neg c7] at H; have c7b0 : (a0 == 12) = false := beq_eq_false_iff_ne.mpr c7; have c7b1 : (a0 != 12) = true := bne_iff_ne.mpr c7
 by_cases c8 : a0 = 13
 ·
  rw [if_pos c8] at H; have c8b0 : (a0 == 13) = true := beq_iff_eq.mpr c8; have c8b1 : (a0 != 13) = false := bne_eq_false_iff_eq.mpr c8; clear c8; obtain rfl := sj H; go_enter Tryz.func114, Tryz.ntmps114
  go_wp2
  go_ret
  exact dw
 rw [if_neg c8] at H; have c8b0 : (a0 == 13) = false := beq_eq_false_iff_ne.mpr c8; have c8b1 : (a0 != 13) = true := bne_iff_ne.mpr c8
 by_cases c9 : a0 = 14
 ·
  rw [if_pos c9] at H; have c9b0 : (a0 == 14) = true := beq_iff_eq.mpr c9; have c9b1 : (a0 != 14) = false := bne_eq_false_iff_eq.mpr c9; clear c9; obtain rfl := sj H; go_enter Tryz.func114, Tryz.ntmps114
  go_wp2
  go_ret
  exact dw
 rw [if_neg c9] at H; have c9b0 : (a0 == 14) = false := beq_eq_false_iff_ne.mpr c9; have c9b1 : (a0 != 14) = true := bne_iff_ne.mpr c9
 by_cases c10 : a0 = 15
 rotate_left
 ·
  rw [if_neg c10] at H; have c10b0 : (a0 == 15) = false := beq_eq_false_iff_ne.mpr c10; have c10b1 : (a0 != 15) = true := bne_iff_ne.mpr c10; obtain rfl := sj H; go_enter Tryz.func114, Tryz.ntmps114
  go_wp2
  go_ret
  exact dw

 rw [if_pos c10] at H; have c10b0 : (a0 == 15) = true := beq_iff_eq.mpr c10; have c10b1 : (a0 != 15) = false := bne_eq_false_iff_eq.mpr c10; clear c10; obtain rfl := sj H; go_enter Tryz.func114, Tryz.ntmps114
 go_wp2
 go_ret
 exact dw
/-! ### spec_l04Statement: function 44 -/
def spec_l04Statement.f (a0 : Int) : Option (Bool) := (spec_l01In.f a0 13 19).bind fun t209 => (some t209)
set_option maxHeartbeats 8000000 in
set_option maxRecDepth 100000 in
theorem spec_l04Statement.calls (a0 : Int) (r : Bool) (w : World) (h : spec_l04Statement.f a0 = some r) :
  Calls Tryz.prog 44 #[.int .i64 a0] w fun e w' => e = .returned (.bool r) ∧ Drawn0 w w' := by
 have H : ((spec_l01In.f a0 13 19).bind fun t209 => (some t209)) = some r := h; clear h; replace H := bo H; obtain ⟨t209, A2, H⟩ := H; obtain rfl := sj H; go_enter Tryz.func44, Tryz.ntmps44
 go_wp2_with (first | ((with_reducible refine gate_callee (f := 33) rfl ?_); refine goL (some 4) Tryz.func33 #[.int .i64 a0, .int .i64 13, .int .i64 19] ?_; (with_reducible refine (spec_l01In.calls a0 13 19 t209 _ A2.out).mono ?_); rintro e w' ⟨rfl, ⟨nd, rfl⟩⟩; refine ⟨_, rfl, ?_⟩))
 go_ret
 exact dw

/-! ### spec_l04Value: function 55 -/
def spec_l04Value.f (a0 : Int) : Option (Bool) := (spec_l01In.f a0 1 12).bind fun t210 => (some t210)
set_option maxHeartbeats 8000000 in
set_option maxRecDepth 100000 in
theorem spec_l04Value.calls (a0 : Int) (r : Bool) (w : World) (h : spec_l04Value.f a0 = some r) :
  Calls Tryz.prog 55 #[.int .i64 a0] w fun e w' => e = .returned (.bool r) ∧ Drawn0 w w' := by
 have H : ((spec_l01In.f a0 1 12).bind fun t210 => (some t210)) = some r := h; clear h; replace H := bo H; obtain ⟨t210, A2, H⟩ := H; obtain rfl := sj H; go_enter Tryz.func55, Tryz.ntmps55
 go_wp2_with (first | ((with_reducible refine gate_callee (f := 33) rfl ?_); refine goL (some 4) Tryz.func33 #[.int .i64 a0, .int .i64 1, .int .i64 12] ?_; (with_reducible refine (spec_l01In.calls a0 1 12 t210 _ A2.out).mono ?_); rintro e w' ⟨rfl, ⟨nd, rfl⟩⟩; refine ⟨_, rfl, ?_⟩))
 go_ret
 exact dw

/-! ### spec_l04Fits: function 115 -/
def spec_l04Fits.j0 : Nat → Int → Int → Int → Bool → Option (Bool)
 | 0, _, _, _, _ => none
 | k + 1, x1, x2, x7, x12 => if x12 = true then (if x1 > 0 then (some (x2 == 20)) else ((spec_l04Value.f x2).bind fun t212 => (some t212))) else (if x7 = 19 then (some (x2 == 12)) else ((spec_l04Value.f x2).bind fun t213 => (some t213)))
def spec_l04Fits.f (k : Nat) (a0 : Int) (a1 : Int) (a2 : Int) : Option (Bool) := if a0 = 20 then ((spec_l04Statement.f a2).bind fun t211 => (some t211)) else (if a0 = 16 then (spec_l04Fits.j0 k a1 a2 a0 (a0 == 16)) else (spec_l04Fits.j0 k a1 a2 a0 (a0 == 17)))
theorem spec_l04Fits.mono_l : ∀ k, (∀ y0 y1 y2 y3, LeO (spec_l04Fits.j0 k y0 y1 y2 y3) (spec_l04Fits.j0 (k + 1) y0 y1 y2 y3))
 | 0 => fun _ _ _ _ r h => by simp [spec_l04Fits.j0] at h
 | k + 1 => by
  have ih0 := spec_l04Fits.mono_l k
  ·
   intro y0 y1 y2 y3
   unfold spec_l04Fits.j0
   with_reducible repeat' first | exact ih0 _ _ _ _ | exact LeO.refl _ | exact LeO.none _ | refine LeO.ite ?_ ?_ | refine LeO.bind ?_ (fun _ => ?_)
theorem spec_l04Fits.mono : ∀ a0 a1 a2 k, LeO (spec_l04Fits.f k a0 a1 a2) (spec_l04Fits.f (k + 1) a0 a1 a2) := by
 intro a0 a1 a2 k; have ih0 := spec_l04Fits.mono_l k
 unfold spec_l04Fits.f
 with_reducible repeat' first | exact ih0 _ _ _ _ | exact LeO.refl _ | exact LeO.none _ | refine LeO.ite ?_ ?_ | refine LeO.bind ?_ (fun _ => ?_)
set_option maxHeartbeats 8000000 in
set_option maxRecDepth 100000 in
theorem spec_l04Fits.calls (k : Nat) (a0 : Int) (a1 : Int) (a2 : Int) (r : Bool) (w : World) (h : spec_l04Fits.f k a0 a1 a2 = some r) :
  Calls Tryz.prog 115 #[.int .i64 a0, .int .i64 a1, .int .i64 a2] w fun e w' => e = .returned (.bool r) ∧ Drawn0 w w' := by
 have H : (if a0 = 20 then ((spec_l04Statement.f a2).bind fun t211 => (some t211)) else (if a0 = 16 then (spec_l04Fits.j0 k a1 a2 a0 (a0 == 16)) else (spec_l04Fits.j0 k a1 a2 a0 (a0 == 17)))) = some r := h; clear h
 by_cases c4 : a0 = 20
 ·
  rw [if_pos c4] at H; have c4b0 : (a0 == 20) = true := beq_iff_eq.mpr c4; have c4b1 : (a0 != 20) = false := bne_eq_false_iff_eq.mpr c4; clear c4; replace H := bo H; obtain ⟨t211, A5, H⟩ := H; obtain rfl := sj H; go_enter Tryz.func115, Tryz.ntmps115
  go_wp2_with (first | ((with_reducible refine gate_callee (f := 44) rfl ?_); refine goL (some 11) Tryz.func44 #[.int .i64 a2] ?_; (with_reducible refine (spec_l04Statement.calls a2 t211 _ A5.out).mono ?_); rintro e w' ⟨rfl, ⟨nd, rfl⟩⟩; refine ⟨_, rfl, ?_⟩))
  go_ret
  exact dw
 rw [if_neg c4] at H; have c4b0 : (a0 == 20) = false := beq_eq_false_iff_ne.mpr c4; have c4b1 : (a0 != 20) = true := bne_iff_ne.mpr c4; have HC6 := As.mk H; clear H; go_enter Tryz.func115, Tryz.ntmps115
 go_upto_if 12 with (fail)
 go_cut [12] (fun v12 wc => ∃ (kq : Nat) (x12_5 : Bool), v12 = .bool x12_5 ∧ As (spec_l04Fits.j0 kq a1 a2 a0 x12_5 = some r) ∧ As (kq ≤ k) ∧ Drawn0 w wc)
 case first =>
  have H := HC6.out; clear HC6
  by_cases c7 : a0 = 16
  rotate_left
  ·
   rw [if_neg c7] at H; have c7b0 : (a0 == 16) = false := beq_eq_false_iff_ne.mpr c7; have c7b1 : (a0 != 16) = true := bne_iff_ne.mpr c7
   (first | rw [c7b0] | (simp only [i64_w, i32_w]; rw [c7b0]) | skip)
   have H' := As.mk H; clear H
   go_wp2
   go_meet
   case rel => exact ⟨_, ((a0 == 17)), (by first | rfl | (simp; done) | (simp [*]; done)), H', ⟨by first | omega | exact Nat.le_refl _⟩, by repeat (first | exact Drawn0.refl _ | apply Drawn0.step)⟩
  rw [if_pos c7] at H; have c7b0 : (a0 == 16) = true := beq_iff_eq.mpr c7; have c7b1 : (a0 != 16) = false := bne_eq_false_iff_eq.mpr c7; clear c7
  (first | rw [c7b0] | (simp only [i64_w, i32_w]; rw [c7b0]) | skip)
  have H' := As.mk H; clear H
  go_wp2
  go_meet
  case rel => exact ⟨_, ((a0 == 16)), (by first | rfl | (simp; done) | (simp [*]; done)), H', ⟨by first | omega | exact Nat.le_refl _⟩, by repeat (first | exact Drawn0.refl _ | apply Drawn0.step)⟩
 case rest =>
  clear HC6; (try clear c4); (try clear c4b0); (try clear c4b1); obtain ⟨kq, x12_5, rfl, HA, HJ5, ⟨mc5, rfl⟩⟩ := hcut
  cases kq with
  | zero => exact absurd HA.out (by simp [spec_l04Fits.j0])
  | succ kj5 =>
   have H := HA.out; clear HA
   simp only [spec_l04Fits.j0] at H
   by_cases c8 : x12_5 = true
   ·
    subst c8; rw [if_pos rfl] at H
    by_cases c9 : a1 > 0
    ·
     rw [if_pos c9] at H; have c9b0 : decide (0 < a1) = true := decide_eq_true c9; clear c9; obtain rfl := sj H
     go_wp2
     go_ret
     exact dw
    rw [if_neg c9] at H; have c9b0 : decide (0 < a1) = false := decide_eq_false c9; clear c9; replace H := bo H; obtain ⟨t212, A10, H⟩ := H; obtain rfl := sj H
    go_wp2_with (first | ((with_reducible refine gate_callee (f := 55) rfl ?_); refine goL (some 24) Tryz.func55 #[.int .i64 a2] ?_; (with_reducible refine (spec_l04Value.calls a2 t212 _ A10.out).mono ?_); rintro e w' ⟨rfl, ⟨nd, rfl⟩⟩; refine ⟨_, rfl, ?_⟩))
    go_ret
    exact dw
   replace c8 := Bool.eq_false_iff.mpr c8; subst c8; rw [if_neg ft] at H
   by_cases c11 : a0 = 19
   ·
    rw [if_pos c11] at H; have c11b0 : (a0 == 19) = true := beq_iff_eq.mpr c11; have c11b1 : (a0 != 19) = false := bne_eq_false_iff_eq.mpr c11; clear c11; obtain rfl := sj H
    go_wp2
    go_ret
    exact dw
   rw [if_neg c11] at H; have c11b0 : (a0 == 19) = false := beq_eq_false_iff_ne.mpr c11; have c11b1 : (a0 != 19) = true := bne_iff_ne.mpr c11; replace H := bo H; obtain ⟨t213, A12, H⟩ := H; obtain rfl := sj H
   go_wp2_with (first | ((with_reducible refine gate_callee (f := 55) rfl ?_); refine goL (some 24) Tryz.func55 #[.int .i64 a2] ?_; (with_reducible refine (spec_l04Value.calls a2 t213 _ A12.out).mono ?_); rintro e w' ⟨rfl, ⟨nd, rfl⟩⟩; refine ⟨_, rfl, ?_⟩))
   go_ret
   exact dw

end Go.Proofs.YtcoapbnbakmkoaaGreatDoor.PFnExactShowProgram
