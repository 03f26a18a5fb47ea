/- Written by a program of this session (a turned copy of the kit's print): a contract for each Go function. No condition beside those in each statement. -/
import Derived.Test.YtcoapbnbakmkoaaGreatDoorPFnExactShowStepx0
import Derived.Test.YtcoapbnbakmkoaaGreatDoorPFnExactShowStepx7
namespace Go.Proofs.YtcoapbnbakmkoaaGreatDoor.PFnExactShowStep
open Go.RowKit Go.Proofs.YtcoapbnbakmkoaaGreatDoor.Given Go.Proofs.YtcoapbnbakmkoaaGreatDoorW.PrintWords Go.Proofs.YtcoapbnbakmkoaaGreatDoorW.PrintLast Go.Proofs.YtcoapbnbakmkoaaGreatDoorW.PrintMore
attribute [local go_sem] max2_int min2_int max_two min_two max_three min_three max_four min_four   -- for this text's walks alone
set_option linter.unusedVariables false
set_option linter.unusedSimpArgs false

/-! ### spec_l06Step: function 45 -/
/-! ### spec_l06Block: function 51 -/
mutual
def spec_l06Block.l0 : Nat → List (S62) → Int → Int → ByteArray → Int → Option (ByteArray)
  | 0, _, _, _, _, _ => none
  | k + 1, x0, x1, x2, x7, x8 => if 0 ≤ x1 then (if x1 < (x0.length : Int) then (if x8 < (((rd_T62 x0 x1).f3).length : Int) then (if 0 ≤ x8 then ((spec_l06Step.f k x0 (rd ((rd_T62 x0 x1).f3) x8) x2).bind fun t285 => (if x7.size + t285.size ≤ 9223372036854775807 then (spec_l06Block.l0 k x0 x1 x2 (x7 ++ t285) (wrap64 (x8 + 1))) else (none))) else (none)) else (some x7)) else (none)) else (none)
def spec_l06Block.f : Nat → List (S62) → Int → Int → Option (ByteArray)
  | 0, _, _, _ => none
  | k + 1, l0, a1, a2 => spec_l06Block.l0 k l0 a1 a2 (⟨#[]⟩ : ByteArray) 0
def spec_l06Step.f : Nat → List (S62) → Int → Int → Option (ByteArray)
  | 0, _, _, _ => none
  | k + 1, l0, a1, a2 => if 0 ≤ a1 then (if a1 < (l0.length : Int) then ((spec_l06In.f k a2).bind fun t288 => (if ((rd_T62 l0 a1).f0) = 13 then (if t288.size + 4 ≤ 9223372036854775807 then (if (t288 ++ (⟨#[108, 101, 116, 32]⟩ : ByteArray)).size + ((rd_T62 l0 a1).f2).size ≤ 9223372036854775807 then (if ((t288 ++ (⟨#[108, 101, 116, 32]⟩ : ByteArray)) ++ ((rd_T62 l0 a1).f2)).size + 3 ≤ 9223372036854775807 then (if 0 < (((rd_T62 l0 a1).f3).length : Int) then ((spec_l06Value.f k l0 (rd ((rd_T62 l0 a1).f3) 0)).bind fun t290 => (if (((t288 ++ (⟨#[108, 101, 116, 32]⟩ : ByteArray)) ++ ((rd_T62 l0 a1).f2)) ++ (⟨#[32, 61, 32]⟩ : ByteArray)).size + t290.size ≤ 9223372036854775807 then (if ((((t288 ++ (⟨#[108, 101, 116, 32]⟩ : ByteArray)) ++ ((rd_T62 l0 a1).f2)) ++ (⟨#[32, 61, 32]⟩ : ByteArray)) ++ t290).size + 2 ≤ 9223372036854775807 then (some (((((t288 ++ (⟨#[108, 101, 116, 32]⟩ : ByteArray)) ++ ((rd_T62 l0 a1).f2)) ++ (⟨#[32, 61, 32]⟩ : ByteArray)) ++ t290) ++ (⟨#[59, 10]⟩ : ByteArray))) else (none)) else (none))) else (none)) else (none)) else (none)) else (none)) else (if ((rd_T62 l0 a1).f0) = 14 then (if t288.size + ((rd_T62 l0 a1).f2).size ≤ 9223372036854775807 then (if (t288 ++ ((rd_T62 l0 a1).f2)).size + 3 ≤ 9223372036854775807 then (if 0 < (((rd_T62 l0 a1).f3).length : Int) then ((spec_l06Value.f k l0 (rd ((rd_T62 l0 a1).f3) 0)).bind fun t292 => (if ((t288 ++ ((rd_T62 l0 a1).f2)) ++ (⟨#[32, 61, 32]⟩ : ByteArray)).size + t292.size ≤ 9223372036854775807 then (if (((t288 ++ ((rd_T62 l0 a1).f2)) ++ (⟨#[32, 61, 32]⟩ : ByteArray)) ++ t292).size + 2 ≤ 9223372036854775807 then (some ((((t288 ++ ((rd_T62 l0 a1).f2)) ++ (⟨#[32, 61, 32]⟩ : ByteArray)) ++ t292) ++ (⟨#[59, 10]⟩ : ByteArray))) else (none)) else (none))) else (none)) else (none)) else (none)) else (if ((rd_T62 l0 a1).f0) = 15 then (if t288.size + 1 ≤ 9223372036854775807 then (if (t288 ++ (⟨#[42]⟩ : ByteArray)).size + ((rd_T62 l0 a1).f2).size ≤ 9223372036854775807 then (if ((t288 ++ (⟨#[42]⟩ : ByteArray)) ++ ((rd_T62 l0 a1).f2)).size + 3 ≤ 9223372036854775807 then (if 0 < (((rd_T62 l0 a1).f3).length : Int) then ((spec_l06Value.f k l0 (rd ((rd_T62 l0 a1).f3) 0)).bind fun t294 => (if (((t288 ++ (⟨#[42]⟩ : ByteArray)) ++ ((rd_T62 l0 a1).f2)) ++ (⟨#[32, 61, 32]⟩ : ByteArray)).size + t294.size ≤ 9223372036854775807 then (if ((((t288 ++ (⟨#[42]⟩ : ByteArray)) ++ ((rd_T62 l0 a1).f2)) ++ (⟨#[32, 61, 32]⟩ : ByteArray)) ++ t294).size + 2 ≤ 9223372036854775807 then (some (((((t288 ++ (⟨#[42]⟩ : ByteArray)) ++ ((rd_T62 l0 a1).f2)) ++ (⟨#[32, 61, 32]⟩ : ByteArray)) ++ t294) ++ (⟨#[59, 10]⟩ : ByteArray))) else (none)) else (none))) else (none)) else (none)) else (none)) else (none)) else (if ((rd_T62 l0 a1).f0) = 18 then (if t288.size + 6 ≤ 9223372036854775807 then (if 0 < (((rd_T62 l0 a1).f3).length : Int) then ((spec_l06Value.f k l0 (rd ((rd_T62 l0 a1).f3) 0)).bind fun t296 => (if (t288 ++ (⟨#[112, 114, 105, 110, 116, 32]⟩ : ByteArray)).size + t296.size ≤ 9223372036854775807 then (if ((t288 ++ (⟨#[112, 114, 105, 110, 116, 32]⟩ : ByteArray)) ++ t296).size + 2 ≤ 9223372036854775807 then (some (((t288 ++ (⟨#[112, 114, 105, 110, 116, 32]⟩ : ByteArray)) ++ t296) ++ (⟨#[59, 10]⟩ : ByteArray))) else (none)) else (none))) else (none)) else (none)) else (if ((rd_T62 l0 a1).f0) = 19 then (if t288.size + 3 ≤ 9223372036854775807 then (if 0 < (((rd_T62 l0 a1).f3).length : Int) then ((spec_l06Value.f k l0 (rd ((rd_T62 l0 a1).f3) 0)).bind fun t298 => (if (t288 ++ (⟨#[100, 111, 32]⟩ : ByteArray)).size + t298.size ≤ 9223372036854775807 then (if ((t288 ++ (⟨#[100, 111, 32]⟩ : ByteArray)) ++ t298).size + 2 ≤ 9223372036854775807 then (some (((t288 ++ (⟨#[100, 111, 32]⟩ : ByteArray)) ++ t298) ++ (⟨#[59, 10]⟩ : ByteArray))) else (none)) else (none))) else (none)) else (none)) else (if ((rd_T62 l0 a1).f0) = 16 then (if t288.size + 3 ≤ 9223372036854775807 then (if 0 < (((rd_T62 l0 a1).f3).length : Int) then ((spec_l06Value.f k l0 (rd ((rd_T62 l0 a1).f3) 0)).bind fun t300 => (if (t288 ++ (⟨#[105, 102, 32]⟩ : ByteArray)).size + t300.size ≤ 9223372036854775807 then (if ((t288 ++ (⟨#[105, 102, 32]⟩ : ByteArray)) ++ t300).size + 3 ≤ 9223372036854775807 then (if 1 < (((rd_T62 l0 a1).f3).length : Int) then ((spec_l06Block.f k l0 (rd ((rd_T62 l0 a1).f3) 1) (wrap64 (a2 + 1))).bind fun t302 => (if (((t288 ++ (⟨#[105, 102, 32]⟩ : ByteArray)) ++ t300) ++ (⟨#[32, 123, 10]⟩ : ByteArray)).size + t302.size ≤ 9223372036854775807 then (if ((((t288 ++ (⟨#[105, 102, 32]⟩ : ByteArray)) ++ t300) ++ (⟨#[32, 123, 10]⟩ : ByteArray)) ++ t302).size + t288.size ≤ 9223372036854775807 then (if (((((t288 ++ (⟨#[105, 102, 32]⟩ : ByteArray)) ++ t300) ++ (⟨#[32, 123, 10]⟩ : ByteArray)) ++ t302) ++ t288).size + 9 ≤ 9223372036854775807 then (if 2 < (((rd_T62 l0 a1).f3).length : Int) then ((spec_l06Block.f k l0 (rd ((rd_T62 l0 a1).f3) 2) (wrap64 (a2 + 1))).bind fun t304 => (if ((((((t288 ++ (⟨#[105, 102, 32]⟩ : ByteArray)) ++ t300) ++ (⟨#[32, 123, 10]⟩ : ByteArray)) ++ t302) ++ t288) ++ (⟨#[125, 32, 101, 108, 115, 101, 32, 123, 10]⟩ : ByteArray)).size + t304.size ≤ 9223372036854775807 then (if (((((((t288 ++ (⟨#[105, 102, 32]⟩ : ByteArray)) ++ t300) ++ (⟨#[32, 123, 10]⟩ : ByteArray)) ++ t302) ++ t288) ++ (⟨#[125, 32, 101, 108, 115, 101, 32, 123, 10]⟩ : ByteArray)) ++ t304).size + t288.size ≤ 9223372036854775807 then (if ((((((((t288 ++ (⟨#[105, 102, 32]⟩ : ByteArray)) ++ t300) ++ (⟨#[32, 123, 10]⟩ : ByteArray)) ++ t302) ++ t288) ++ (⟨#[125, 32, 101, 108, 115, 101, 32, 123, 10]⟩ : ByteArray)) ++ t304) ++ t288).size + 2 ≤ 9223372036854775807 then (some (((((((((t288 ++ (⟨#[105, 102, 32]⟩ : ByteArray)) ++ t300) ++ (⟨#[32, 123, 10]⟩ : ByteArray)) ++ t302) ++ t288) ++ (⟨#[125, 32, 101, 108, 115, 101, 32, 123, 10]⟩ : ByteArray)) ++ t304) ++ t288) ++ (⟨#[125, 10]⟩ : ByteArray))) else (none)) else (none)) else (none))) else (none)) else (none)) else (none)) else (none))) else (none)) else (none)) else (none))) else (none)) else (none)) else (if t288.size + 6 ≤ 9223372036854775807 then (if 0 < (((rd_T62 l0 a1).f3).length : Int) then ((spec_l06Value.f k l0 (rd ((rd_T62 l0 a1).f3) 0)).bind fun t306 => (if (t288 ++ (⟨#[119, 104, 105, 108, 101, 32]⟩ : ByteArray)).size + t306.size ≤ 9223372036854775807 then (if ((t288 ++ (⟨#[119, 104, 105, 108, 101, 32]⟩ : ByteArray)) ++ t306).size + 3 ≤ 9223372036854775807 then (if 1 < (((rd_T62 l0 a1).f3).length : Int) then ((spec_l06Block.f k l0 (rd ((rd_T62 l0 a1).f3) 1) (wrap64 (a2 + 1))).bind fun t308 => (if (((t288 ++ (⟨#[119, 104, 105, 108, 101, 32]⟩ : ByteArray)) ++ t306) ++ (⟨#[32, 123, 10]⟩ : ByteArray)).size + t308.size ≤ 9223372036854775807 then (if ((((t288 ++ (⟨#[119, 104, 105, 108, 101, 32]⟩ : ByteArray)) ++ t306) ++ (⟨#[32, 123, 10]⟩ : ByteArray)) ++ t308).size + t288.size ≤ 9223372036854775807 then (if (((((t288 ++ (⟨#[119, 104, 105, 108, 101, 32]⟩ : ByteArray)) ++ t306) ++ (⟨#[32, 123, 10]⟩ : ByteArray)) ++ t308) ++ t288).size + 2 ≤ 9223372036854775807 then (some ((((((t288 ++ (⟨#[119, 104, 105, 108, 101, 32]⟩ : ByteArray)) ++ t306) ++ (⟨#[32, 123, 10]⟩ : ByteArray)) ++ t308) ++ t288) ++ (⟨#[125, 10]⟩ : ByteArray))) else (none)) else (none)) else (none))) else (none)) else (none)) else (none))) else (none)) else (none))))))))) else (none)) else (none)
end
theorem spec_l06Step.mono_l : ∀ k, (∀ y0 y1 y2, LeO (spec_l06Block.f k y0 y1 y2) (spec_l06Block.f (k + 1) y0 y1 y2)) ∧ (∀ y0 y1 y2 y3 y4, LeO (spec_l06Block.l0 k y0 y1 y2 y3 y4) (spec_l06Block.l0 (k + 1) y0 y1 y2 y3 y4)) ∧ (∀ y0 y1 y2, LeO (spec_l06Step.f k y0 y1 y2) (spec_l06Step.f (k + 1) y0 y1 y2))
  | 0 => ⟨fun _ _ _ r h => by simp [spec_l06Block.f] at h, fun _ _ _ _ _ r h => by simp [spec_l06Block.l0] at h, fun _ _ _ r h => by simp [spec_l06Step.f] at h⟩
  | k + 1 => by
    obtain ⟨ih0, ih1, ih2⟩ := spec_l06Step.mono_l k
    refine ⟨?_, ?_, ?_⟩
    · intro y0 y1 y2
      unfold spec_l06Block.f
      repeat' first
      | (with_reducible exact ih0 _ _ _)
      | (with_reducible exact ih1 _ _ _ _ _)
      | (with_reducible exact ih2 _ _ _)
      | (with_reducible exact spec_l06In.mono _ _)
      | (with_reducible exact spec_l06Value.mono _ _ _)
      | (with_reducible exact LeO.refl _)
      | (with_reducible exact LeO.none _)
      | (with_reducible refine LeO.ite ?_ ?_)
      | (with_reducible refine LeO.bind ?_ (fun _ => ?_))
      | exact ih0 _ _ _
      | exact ih1 _ _ _ _ _
      | exact ih2 _ _ _
      | exact spec_l06In.mono _ _
      | exact spec_l06Value.mono _ _ _
      | exact LeO.none _
      | refine LeO.ite ?_ ?_
      | refine LeO.bind ?_ (fun _ => ?_)
    · intro y0 y1 y2 y3 y4
      unfold spec_l06Block.l0
      repeat' first
      | (with_reducible exact ih0 _ _ _)
      | (with_reducible exact ih1 _ _ _ _ _)
      | (with_reducible exact ih2 _ _ _)
      | (with_reducible exact spec_l06In.mono _ _)
      | (with_reducible exact spec_l06Value.mono _ _ _)
      | (with_reducible exact LeO.refl _)
      | (with_reducible exact LeO.none _)
      | (with_reducible refine LeO.ite ?_ ?_)
      | (with_reducible refine LeO.bind ?_ (fun _ => ?_))
      | exact ih0 _ _ _
      | exact ih1 _ _ _ _ _
      | exact ih2 _ _ _
      | exact spec_l06In.mono _ _
      | exact spec_l06Value.mono _ _ _
      | exact LeO.none _
      | refine LeO.ite ?_ ?_
      | refine LeO.bind ?_ (fun _ => ?_)
    · intro y0 y1 y2
      unfold spec_l06Step.f
      repeat' first
      | (with_reducible exact ih0 _ _ _)
      | (with_reducible exact ih1 _ _ _ _ _)
      | (with_reducible exact ih2 _ _ _)
      | (with_reducible exact spec_l06In.mono _ _)
      | (with_reducible exact spec_l06Value.mono _ _ _)
      | (with_reducible exact LeO.refl _)
      | (with_reducible exact LeO.none _)
      | (with_reducible refine LeO.ite ?_ ?_)
      | (with_reducible refine LeO.bind ?_ (fun _ => ?_))
      | exact ih0 _ _ _
      | exact ih1 _ _ _ _ _
      | exact ih2 _ _ _
      | exact spec_l06In.mono _ _
      | exact spec_l06Value.mono _ _ _
      | exact LeO.none _
      | refine LeO.ite ?_ ?_
      | refine LeO.bind ?_ (fun _ => ?_)
theorem spec_l06Block.mono : ∀ a0 a1 a2 k, LeO (spec_l06Block.f k a0 a1 a2) (spec_l06Block.f (k + 1) a0 a1 a2) := by
  intro a0 a1 a2 k
  obtain ⟨ih0, ih1, ih2⟩ := spec_l06Step.mono_l k
  exact ih0 a0 a1 a2
theorem spec_l06Step.mono : ∀ a0 a1 a2 k, LeO (spec_l06Step.f k a0 a1 a2) (spec_l06Step.f (k + 1) a0 a1 a2) := by
  intro a0 a1 a2 k
  obtain ⟨ih0, ih1, ih2⟩ := spec_l06Step.mono_l k
  exact ih2 a0 a1 a2
abbrev spec_l06Block.C (k : Nat) : Prop := ∀ (A0 : Option Addr) (c0 : Nat) (l0 : List (S62)) (a1 : Int) (a2 : Int) (r : ByteArray) (w : World) (hr0 : Kd.C k62 w A0 l0.length l0) (hc0 : l0.length ≤ c0) (h : spec_l06Block.f k l0 a1 a2 = some r),
  Calls Tryz.prog 51 #[.slice A0 l0.length c0, .int .i64 a1, .int .i64 a2] w fun e w' => e = .returned (.string r) ∧ Below w.heap.size w w'
abbrev spec_l06Step.C (k : Nat) : Prop := ∀ (A0 : Option Addr) (c0 : Nat) (l0 : List (S62)) (a1 : Int) (a2 : Int) (r : ByteArray) (w : World) (hr0 : Kd.C k62 w A0 l0.length l0) (hc0 : l0.length ≤ c0) (h : spec_l06Step.f k l0 a1 a2 = some r),
  Calls Tryz.prog 45 #[.slice A0 l0.length c0, .int .i64 a1, .int .i64 a2] w fun e w' => e = .returned (.string r) ∧ Below w.heap.size w w'
set_option maxHeartbeats 8000000 in
set_option maxRecDepth 100000 in
theorem spec_l06Block.callsO (k : Nat) (ih : ∀ m_, m_ < k → spec_l06Block.C m_) (ih_spec_l06Step : ∀ m_, m_ < k → spec_l06Step.C m_) : spec_l06Block.C k := by
 intro A0 c0 l0 a1 a2 r w hr0 hc0 h
 cases k with
 | zero => exact absurd h (by simp [spec_l06Block.f])
 | succ k =>
 simp only [spec_l06Block.f] at h
 have HR0 := As.mk hr0
 have HC0 := As.mk hc0
 clear hr0 hc0
 have HB := As.mk (Below.refl w.heap.size w)
 have H : (spec_l06Block.l0 k l0 a1 a2 (⟨#[]⟩ : ByteArray) 0) = some r := h
 clear h
 have H' := As.mk H
 clear H
 go_enter Tryz.func51, Tryz.ntmps51
 go_wp2
 go_loopg [7, 8] k (fun kq v7 v8 w' => ∃ (x7_1 : ByteArray) (x8_1 : Int), v7 = .string x7_1 ∧ v8 = .int .i64 x8_1 ∧ As (spec_l06Block.l0 kq l0 a1 a2 x7_1 x8_1 = some r) ∧ As (kq ≤ k) ∧ As (Below w.heap.size w w'))
 case atStart => exact ⟨((⟨#[]⟩ : ByteArray)), (0), (by first | rfl | (simp; done) | (simp [*]; done)), (by first | rfl | (simp; done) | (simp [*]; done)), H', ⟨Nat.le_refl _⟩, ⟨be w⟩⟩
 case round =>
  clear H'
  obtain ⟨x7_1, x8_1, rfl, rfl, HA, HK1, HB⟩ := hrel
  cases gk with
  | zero => exact absurd HA.out (by simp [spec_l06Block.l0])
  | succ k1 =>
   have H := HA.out
   clear HA
   simp only [spec_l06Block.l0] at H
   by_cases c4 : 0 ≤ a1
   rotate_left; · rw [if_neg c4] at H; exact absurd H (by simp)

   rw [if_pos c4] at H
   have c4b0 := decide_eq_true c4
   clear c4
   have c5 := i1 H; replace H := i2 H
   have c5b0 := decide_eq_true c5
   clear c5
   by_cases c6 : x8_1 < (((rd_T62 l0 a1).f3).length : Int)
   rotate_left
   ·
    rw [if_neg c6] at H
    have c6b0 : decide (x8_1 < (((rd_T62 l0 a1).f3).length : Int)) = false := decide_eq_false c6
    clear c6
    obtain rfl := Option.some.inj H
    have p282 : 0 ≤ (a1 : Int) := od
    have q282 : a1 < (l0.length : Int) := od
    obtain ⟨ad282, A282_3, c282_3, e282, hx282_0, hx282_1, hx282_2, hx282_3, hl282_3, hi282_3⟩ := at_T62 HR0.out a1 p282 q282
    cases e282
    replace hx282_0 := ce HB.out hx282_0
    replace hx282_1 := ce HB.out hx282_1
    replace hx282_2 := ce HB.out hx282_2
    replace hx282_3 := ce HB.out hx282_3
    have HR282_3 := As.mk hi282_3
    have HC282_3 := As.mk hl282_3
    clear hi282_3 hl282_3
    replace p282 := eq_true p282
    replace q282 := eq_true q282
    go_wp2
    go_ret
    exact ⟨ez, be w⟩
   rw [if_pos c6] at H
   have c6b0 := decide_eq_true c6
   clear c6
   have c7 := i1 H; replace H := i2 H
   have c7b0 := decide_eq_true c7
   clear c7
   obtain ⟨t285, A80, H⟩ := Option.bind_eq_some_iff.mp H
   try dsimp only at H
   have A8 := As.mk A80
   clear A80
   have c9 := i1 H; replace H := i2 H
   have c9b0 := eq_true c9
   have c9b1 := decide_eq_true c9
   try have c9b2 := eq_false (Nat.not_lt.2 c9)
   have H' := As.mk H
   clear H
   have p282 : 0 ≤ (a1 : Int) := od
   have q282 : a1 < (l0.length : Int) := od
   obtain ⟨ad282, A282_3, c282_3, e282, hx282_0, hx282_1, hx282_2, hx282_3, hl282_3, hi282_3⟩ := at_T62 HR0.out a1 p282 q282
   cases e282
   replace hx282_0 := ce HB.out hx282_0
   replace hx282_1 := ce HB.out hx282_1
   replace hx282_2 := ce HB.out hx282_2
   replace hx282_3 := ce HB.out hx282_3
   have HR282_3 := As.mk hi282_3
   have HC282_3 := As.mk hl282_3
   clear hi282_3 hl282_3
   replace p282 := eq_true p282
   replace q282 := eq_true q282
   have p283 : 0 ≤ (a1 : Int) := od
   have q283 : a1 < (l0.length : Int) := od
   obtain ⟨ad283, A283_3, c283_3, e283, hx283_0, hx283_1, hx283_2, hx283_3, hl283_3, hi283_3⟩ := at_T62 HR0.out a1 p283 q283
   obtain rfl : ad282 = ad283 := (by injection e283)
   replace hx283_0 := ce HB.out hx283_0
   replace hx283_1 := ce HB.out hx283_1
   replace hx283_2 := ce HB.out hx283_2
   replace hx283_3 := ce HB.out hx283_3
   have HR283_3 := As.mk hi283_3
   have HC283_3 := As.mk hl283_3
   clear hi283_3 hl283_3
   replace p283 := eq_true p283
   replace q283 := eq_true q283
   have ea_ := Option.some.inj (hx282_3.symm.trans hx283_3)
   injection ea_ with ea_ en_ ec_
   subst ea_
   subst ec_
   clear en_
   have p284 : 0 ≤ (x8_1 : Int) := od
   have q284 : x8_1 < (((rd_T62 l0 a1).f3).length : Int) := od
   obtain ⟨ad284, e284, hx284_0⟩ := Kd.at_int HR283_3.out x8_1 p284 q284
   cases e284
   replace hx284_0 := ce HB.out hx284_0
   replace p284 := eq_true p284
   replace q284 := eq_true q284
   go_wp2_with (first | ((with_reducible refine gate_callee (f := 45) rfl ?_); refine goesL_ (some 30) rfl rfl Tryz.func45 (by kernel_rfl) rfl #[.slice (some ad282) l0.length c0, .int .i64 (rd ((rd_T62 l0 a1).f3) x8_1), .int .i64 a2] rfl gl ?_; (with_reducible refine (ih_spec_l06Step k1 (by have := HK1.out; omega) _ _ l0 (rd ((rd_T62 l0 a1).f3) x8_1) a2 t285 _ ?side1 ?side2 A8.out).mono ?_); (case side1 => exact Kd.C_below HR0.out (be w)); (case side2 => exact HC0.out); rintro e w10 ⟨rfl, hb⟩; refine ⟨_, rfl, ?_⟩; replace HB := As.mk (below_step (be w) hb); (try clear hb)))
   go_roundg k1
   case measure => have := HK1.out; omega
   case rel => exact ⟨(x7_1 ++ t285), (wrap64 (x8_1 + 1)), (by first | rfl | (simp; done) | (simp [*]; done)), (by first | rfl | (simp; done) | (simp [*]; done)), H', ⟨by have := HK1.out; omega⟩, ⟨be w⟩⟩
def spec_l06Step.T5 : Bool × List (List Nat × List Nat) := (true, [([], []), ([0], [0]), ([], []), ([2], [2]), ([1, 3], [1, 3]), ([4], [4]), ([], []), ([], []), ([7], [7]), ([8], [8]), ([9], [9]), ([6, 10], [6, 10]), ([5, 11], [5, 11]), ([12], [12]), ([13, 11, 0, 1, 2, 3, 4, 5, 6, 7, 8, 9, 10, 11, 12, 13], [13])])
def spec_l06Step.B5 : List Nat := [0, 1, 0, 4, 15, 31, 0, 0, 128, 384, 896, 1984, 4095, 8191, 16383]
theorem spec_l06Step.tab5 : rtab .any (opsOf Tryz.f45 5) = spec_l06Step.T5 := by kernel_rfl
theorem spec_l06Step.bits5 : waitsOk spec_l06Step.T5.2 spec_l06Step.B5 = true := by kernel_rfl
def spec_l06Step.T7 : Bool × List (List Nat × List Nat) := (true, [([], []), ([], []), ([1], [1]), ([0, 2], [0, 2]), ([3], [3]), ([], []), ([], []), ([6], [6]), ([7], [7]), ([8], [8]), ([5, 9], [5, 9]), ([4, 10], [4, 10]), ([11], [11]), ([12, 10, 0, 1, 2, 3, 4, 5, 6, 7, 8, 9, 10, 11, 12], [12])])
def spec_l06Step.B7 : List Nat := [0, 0, 2, 7, 15, 0, 0, 64, 192, 448, 992, 2047, 4095, 8191]
theorem spec_l06Step.tab7 : rtab .any (opsOf Tryz.f45 7) = spec_l06Step.T7 := by kernel_rfl
theorem spec_l06Step.bits7 : waitsOk spec_l06Step.T7.2 spec_l06Step.B7 = true := by kernel_rfl
def spec_l06Step.T9 : Bool × List (List Nat × List Nat) := (true, [([], []), ([0], [0]), ([], []), ([2], [2]), ([1, 3], [1, 3]), ([4], [4]), ([], []), ([], []), ([7], [7]), ([8], [8]), ([9], [9]), ([6, 10], [6, 10]), ([5, 11], [5, 11]), ([12], [12]), ([13, 11, 0, 1, 2, 3, 4, 5, 6, 7, 8, 9, 10, 11, 12, 13], [13])])
def spec_l06Step.B9 : List Nat := [0, 1, 0, 4, 15, 31, 0, 0, 128, 384, 896, 1984, 4095, 8191, 16383]
theorem spec_l06Step.tab9 : rtab .any (opsOf Tryz.f45 9) = spec_l06Step.T9 := by kernel_rfl
theorem spec_l06Step.bits9 : waitsOk spec_l06Step.T9.2 spec_l06Step.B9 = true := by kernel_rfl
def spec_l06Step.T15 : Bool × List (List Nat × List Nat) := (true, [([], []), ([0], [0]), ([], []), ([], []), ([3], [3]), ([4], [4]), ([5], [5]), ([2, 6], [2, 6]), ([1, 7], [1, 7]), ([8], [8]), ([], []), ([], []), ([11], [11]), ([12], [12]), ([13], [13]), ([], []), ([15], [15]), ([10, 14, 16, 7], [10, 14, 16]), ([9, 17], [9, 17]), ([], []), ([18, 19], [18, 19]), ([20], [20]), ([], []), ([], []), ([23], [23]), ([24], [24]), ([25], [25]), ([], []), ([27], [27]), ([22, 26, 28, 17], [22, 26, 28]), ([21, 29], [21, 29]), ([], []), ([30, 31], [30, 31]), ([32], [32]), ([33, 29, 0, 1, 2, 3, 4, 5, 6, 7, 8, 9, 10, 11, 12, 13, 14, 15, 16, 17, 18, 19, 20, 21, 22, 23, 24, 25, 26, 27, 28, 29, 30, 31, 32, 33], [33])])
def spec_l06Step.B15 : List Nat := [0, 1, 0, 0, 8, 24, 56, 124, 255, 511, 0, 0, 2048, 6144, 14336, 0, 32768, 130300, 262143, 0, 1048575, 2097151, 0, 0, 8388608, 25165824, 58720256, 0, 134217728, 532937980, 1073741823, 0, 4294967295, 8589934591, 17179869183]
theorem spec_l06Step.tab15 : rtab .any (opsOf Tryz.f45 15) = spec_l06Step.T15 := by kernel_rfl
theorem spec_l06Step.bits15 : waitsOk spec_l06Step.T15.2 spec_l06Step.B15 = true := by kernel_rfl
def spec_l06Step.T16 : Bool × List (List Nat × List Nat) := (true, [([], []), ([0], [0]), ([], []), ([], []), ([3], [3]), ([4], [4]), ([5], [5]), ([2, 6], [2, 6]), ([1, 7], [1, 7]), ([8], [8]), ([], []), ([], []), ([11], [11]), ([12], [12]), ([13], [13]), ([], []), ([15], [15]), ([10, 14, 16, 7], [10, 14, 16]), ([9, 17], [9, 17]), ([], []), ([18, 19], [18, 19]), ([20], [20]), ([21, 17, 0, 1, 2, 3, 4, 5, 6, 7, 8, 9, 10, 11, 12, 13, 14, 15, 16, 17, 18, 19, 20, 21], [21])])
def spec_l06Step.B16 : List Nat := [0, 1, 0, 0, 8, 24, 56, 124, 255, 511, 0, 0, 2048, 6144, 14336, 0, 32768, 130300, 262143, 0, 1048575, 2097151, 4194303]
theorem spec_l06Step.tab16 : rtab .any (opsOf Tryz.f45 16) = spec_l06Step.T16 := by kernel_rfl
theorem spec_l06Step.bits16 : waitsOk spec_l06Step.T16.2 spec_l06Step.B16 = true := by kernel_rfl
set_option maxHeartbeats 8000000 in
set_option maxRecDepth 100000 in
theorem spec_l06Step.callsO (k : Nat) (ih_spec_l06Block : ∀ m_, m_ < k → spec_l06Block.C m_) (ih : ∀ m_, m_ < k → spec_l06Step.C m_) : spec_l06Step.C k := by
 intro A0 c0 l0 a1 a2 r w hr0 hc0 h
 cases k with
 | zero => exact absurd h (by simp [spec_l06Step.f])
 | succ k =>
 simp only [spec_l06Step.f] at h
 have hu62 := Tryz.underlying62
 have HR0 := As.mk hr0
 have HC0 := As.mk hc0
 clear hr0 hc0
 have HB := As.mk (Below.refl w.heap.size w)
 have H := h
 clear h
 by_cases c4 : 0 ≤ a1
 rotate_left; · rw [if_neg c4] at H; exact absurd H (by simp)

 rw [if_pos c4] at H
 have c4b0 := decide_eq_true c4
 clear c4
 have c5 := i1 H; replace H := i2 H
 have c5b0 := decide_eq_true c5
 clear c5
 obtain ⟨t288, A60, H⟩ := Option.bind_eq_some_iff.mp H
 try dsimp only at H
 have A6 := As.mk A60
 clear A60
 by_cases c7 : ((rd_T62 l0 a1).f0) = 13
 ·
  rw [if_pos c7] at H
  have c7b0 : (((rd_T62 l0 a1).f0) == 13) = true := beq_iff_eq.mpr c7
  have c7b1 : (((rd_T62 l0 a1).f0) != 13) = false := bne_eq_false_iff_eq.mpr c7
  clear c7
  have c8 := i1 H; replace H := i2 H
  have c8b0 := eq_true c8
  have c8b1 := decide_eq_true c8
  try have c8b2 := eq_false (Nat.not_lt.2 c8)
  have c9 := i1 H; replace H := i2 H
  have c9b0 := eq_true c9
  have c9b1 := decide_eq_true c9
  try have c9b2 := eq_false (Nat.not_lt.2 c9)
  try have c9b4 : (9223372036854775807 < t288.size + 4 + ((rd_T62 l0 a1).f2).size) = False := eq_false (Nat.not_lt.2 (by have h_ := c9; simp only [ByteArray.size_append] at h_; exact h_))
  have c10 := i1 H; replace H := i2 H
  have c10b0 := eq_true c10
  have c10b1 := decide_eq_true c10
  try have c10b2 := eq_false (Nat.not_lt.2 c10)
  try have c10b4 : (9223372036854775807 < t288.size + 4 + ((rd_T62 l0 a1).f2).size + 3) = False := eq_false (Nat.not_lt.2 (by have h_ := c10; simp only [ByteArray.size_append] at h_; exact h_))
  have c11 := i1 H; replace H := i2 H
  have c11b0 := decide_eq_true c11
  have c11b1 : decide (0 < ((rd_T62 l0 a1).f3).length) = true := decide_eq_true (by omega)
  clear c11
  obtain ⟨t290, A120, H⟩ := Option.bind_eq_some_iff.mp H
  try dsimp only at H
  have A12 := As.mk A120
  clear A120
  have c13 := i1 H; replace H := i2 H
  have c13b0 := eq_true c13
  have c13b1 := decide_eq_true c13
  try have c13b2 := eq_false (Nat.not_lt.2 c13)
  try have c13b4 : (9223372036854775807 < t288.size + 4 + ((rd_T62 l0 a1).f2).size + 3 + t290.size) = False := eq_false (Nat.not_lt.2 (by have h_ := c13; simp only [ByteArray.size_append] at h_; exact h_))
  have c14 := i1 H; replace H := i2 H
  have c14b0 := eq_true c14
  have c14b1 := decide_eq_true c14
  try have c14b2 := eq_false (Nat.not_lt.2 c14)
  try have c14b4 : (9223372036854775807 < t288.size + 4 + ((rd_T62 l0 a1).f2).size + 3 + t290.size + 2) = False := eq_false (Nat.not_lt.2 (by have h_ := c14; simp only [ByteArray.size_append] at h_; exact h_))
  obtain rfl := Option.some.inj H
  have p286 : 0 ≤ (a1 : Int) := od
  have q286 : a1 < (l0.length : Int) := od
  obtain ⟨ad286, A286_3, c286_3, e286, hx286_0, hx286_1, hx286_2, hx286_3, hl286_3, hi286_3⟩ := at_T62 HR0.out a1 p286 q286
  cases e286
  have HR286_3 := As.mk hi286_3
  have HC286_3 := As.mk hl286_3
  clear hi286_3 hl286_3
  replace p286 := eq_true p286
  replace q286 := eq_true q286
  go_enter Tryz.func45, Tryz.ntmps45
  try go_wp2_with (first | ((with_reducible refine gate_dst (N := 7) rfl ?_); refine box_event ?hg (N := 7) ?hd (cs := #[.int .i64 0, .int .i64 0, .string (⟨#[]⟩ : ByteArray), .slice none 0 0]) (t := 62) ?hr ?_; (case hd => rfl); (case hg => rfl); (case hr => first | (go_simp; done) | (go_simp; rfl)); intro gb287 hg w15 hbox hb; have BK287 := As.mk (hbox); have GW287 := As.mk (gs w hg); replace HB := As.mk (below_step (be w) hb); clear hb hbox hg; obtain ⟨hcz16_0, hcz16_1, hcz16_2, hcz16_3, hfz16_0, hfz16_1, hfz16_2, hfz16_3⟩ := cl4 BK287.out) | ((with_reducible refine gate_callee (f := 72) rfl ?_); refine goesL_ (some 14) rfl rfl Tryz.func72 (by kernel_rfl) rfl #[.int .i64 a2] rfl gl ?_; (with_reducible refine (spec_l06In.calls k a2 t288 _ A6.out).mono ?_); rintro e w' ⟨rfl, ⟨nd, rfl⟩⟩; refine ⟨_, rfl, ?_⟩))
  have n0_ : As (((((w15.setCell ⟨gb287, 0, none⟩ (.int .i64 ((rd_T62 l0 a1).f0))).setCell ⟨gb287, 1, none⟩ (.int .i64 ((rd_T62 l0 a1).f1))).setCell ⟨gb287, 2, none⟩ (.string ((rd_T62 l0 a1).f2))).setCell ⟨gb287, 3, none⟩ (.slice A286_3 ((rd_T62 l0 a1).f3).length c286_3)).heap[gb287]? = some (.cells #[.int .i64 ((rd_T62 l0 a1).f0), .int .i64 ((rd_T62 l0 a1).f1), .string ((rd_T62 l0 a1).f2), .slice A286_3 ((rd_T62 l0 a1).f3).length c286_3] 62 (0, 0))) := ⟨by refine pl ?_; refine blk_put (cs := #[.int .i64 ((rd_T62 l0 a1).f0), .int .i64 ((rd_T62 l0 a1).f1), .string ((rd_T62 l0 a1).f2), .slice none 0 0]) ?_ 3 _ rfl; refine pl ?_; refine blk_put (cs := #[.int .i64 ((rd_T62 l0 a1).f0), .int .i64 ((rd_T62 l0 a1).f1), .string (⟨#[]⟩ : ByteArray), .slice none 0 0]) ?_ 2 _ rfl; refine pl ?_; refine blk_put (cs := #[.int .i64 ((rd_T62 l0 a1).f0), .int .i64 0, .string (⟨#[]⟩ : ByteArray), .slice none 0 0]) ?_ 1 _ rfl; refine pl ?_; refine blk_put (cs := #[.int .i64 0, .int .i64 0, .string (⟨#[]⟩ : ByteArray), .slice none 0 0]) ?_ 0 _ rfl; exact bx BK287.out⟩
  have n1_ : As (Below w.heap.size w ((((w15.setCell ⟨gb287, 0, none⟩ (.int .i64 ((rd_T62 l0 a1).f0))).setCell ⟨gb287, 1, none⟩ (.int .i64 ((rd_T62 l0 a1).f1))).setCell ⟨gb287, 2, none⟩ (.string ((rd_T62 l0 a1).f2))).setCell ⟨gb287, 3, none⟩ (.slice A286_3 ((rd_T62 l0 a1).f3).length c286_3))) := ⟨be w⟩
  (try clear BK287)
  (try clear HB)
  generalize ((((w15.setCell ⟨gb287, 0, none⟩ (.int .i64 ((rd_T62 l0 a1).f0))).setCell ⟨gb287, 1, none⟩ (.int .i64 ((rd_T62 l0 a1).f1))).setCell ⟨gb287, 2, none⟩ (.string ((rd_T62 l0 a1).f2))).setCell ⟨gb287, 3, none⟩ (.slice A286_3 ((rd_T62 l0 a1).f3).length c286_3)) = w17 at n0_ n1_ ⊢
  have BK287 := n0_
  have HB := n1_
  clear n0_ n1_
  (try (rw [drewN_self w17]; generalize hq_ : World.drewN w17 _ = w17; have n0_ : As (w17.heap[gb287]? = some (.cells #[.int .i64 ((rd_T62 l0 a1).f0), .int .i64 ((rd_T62 l0 a1).f1), .string ((rd_T62 l0 a1).f2), .slice A286_3 ((rd_T62 l0 a1).f3).length c286_3] 62 (0, 0))) := ⟨by rw [← hq_]; exact (bx BK287.out)⟩; have n1_ : As (Below w.heap.size w w17) := ⟨by rw [← hq_]; exact (be w)⟩; clear BK287 HB hq_; have BK287 := n0_; have HB := n1_; clear n0_ n1_))
  replace BK287 := As.mk (blk_drew BK287.out)
  replace HB := As.mk (below_drew1 HB.out)
  have p289 : 0 ≤ (0 : Int) := (by omega)
  have q289 : 0 < (((rd_T62 l0 a1).f3).length : Int) := od
  obtain ⟨ad289, e289, hx289_0⟩ := Kd.at_int HR286_3.out 0 p289 q289
  have hw289_0 := hx289_0
  (try rw [show ((0 : Int)).toNat = 0 from rfl] at hw289_0)
  (try rw [show 0 * 1 = 0 from rfl] at hw289_0)
  (try rw [Addr.add_zero'] at hw289_0)
  cases e289
  have qi289 : (0 < ((rd_T62 l0 a1).f3).length) = True := eq_true (by omega)
  (try rw [show ((0 : Int)).toNat = 0 from rfl] at hx289_0)
  (try rw [Addr.add_zero'] at hx289_0)
  replace hx289_0 := ce HB.out hx289_0
  replace p289 := eq_true p289
  replace q289 := eq_true q289
  refine start_ (n := 15) (S := fun w' => w'.cell? ⟨gb287, 0, none⟩ = some (.int .i64 ((rd_T62 l0 a1).f0)) ∧ w'.cell? ⟨gb287, 1, none⟩ = some (.int .i64 ((rd_T62 l0 a1).f1)) ∧ w'.cell? ⟨gb287, 2, none⟩ = some (.string ((rd_T62 l0 a1).f2)) ∧ w'.cell? ⟨gb287, 3, none⟩ = some (.slice (some ad289) ((rd_T62 l0 a1).f3).length c286_3) ∧ w'.cell? ad289 = some (.int .i64 (rd ((rd_T62 l0 a1).f3) 0))) (ds := []) #[O,O,O,O,O,O,O,O,O,O,O,O,O,O,O] (by kernel_rfl) rfl rfl ⟨(blk_cell BK287.out 0).trans rfl, (blk_cell BK287.out 1).trans rfl, (blk_cell BK287.out 2).trans rfl, (blk_cell BK287.out 3).trans rfl, (ce HB.out hw289_0 :)⟩ (fun hHeld => ?_); refine with_tabW spec_l06Step.tab5 spec_l06Step.bits5 (fun HT_ HW_ => ?_)
  generalize w17.drew = w18 at BK287 HB hx289_0 hHeld ⊢
  refine pq 0 19 #[I,O,O,O,O,O,O,O,O,O,O,O,O,O,O] HT_.out rfl rfl ?_ (fun _ _ _ h => h) ?_ ?_ ?_ ?_
  rotate_left; · intro w'; go_simp; with_reducible rfl
  rotate_left; · simp only [pk, i64_w, i32_w]; rfl
  refine pq 1 20 #[I,I,O,O,O,O,O,O,O,O,O,O,O,O,O] HT_.out rfl rfl ?_ (fun _ _ _ h => h) ?_ ?_ ?_ ?_
  rotate_left; · intro w'; go_simp; with_reducible rfl
  rotate_left; · simp only [pk, i64_w, i32_w]; rfl
  refine pq 2 21 #[I,I,I,O,O,O,O,O,O,O,O,O,O,O,O] HT_.out rfl rfl ?_ (fun _ _ _ h => h) ?_ ?_ ?_ ?_
  rotate_left; · intro w'; go_simp; with_reducible rfl
  rotate_left; · simp only [pk, i64_w, i32_w]; rfl
  refine pq 6 25 #[I,I,I,O,O,O,I,O,O,O,O,O,O,O,O] HT_.out rfl rfl ?_ (fun _ _ _ h => h) ?_ ?_ ?_ ?_
  rotate_left; · intro w'; go_simp; with_reducible rfl
  rotate_left; · simp only [pk, i64_w, i32_w]; rfl
  refine pq 7 26 #[I,I,I,O,O,O,I,I,O,O,O,O,O,O,O] HT_.out rfl rfl ?_ (fun _ _ _ h => h) ?_ ?_ ?_ ?_
  rotate_left; · intro w'; go_simp; with_reducible rfl
  rotate_left; · simp only [pk, i64_w, i32_w]; rfl
  refine tq 3 22 #[I,I,I,I,O,O,I,I,O,O,O,O,O,O,O] HT_.out HW_.out rfl rfl ?_ (fun _ _ _ h => h) ?_ hHeld ?_ ?_ ?_
  rotate_left; · rintro w' ⟨s0, s1, s2, s3, s4⟩; go_simp; with_reducible rfl
  rotate_left; · simp only [pk, i64_w, i32_w]; rfl
  refine pq 4 23 #[I,I,I,I,I,O,I,I,O,O,O,O,O,O,O] HT_.out rfl rfl ?_ (fun _ _ _ h => h) ?_ ?_ ?_ ?_
  rotate_left; · intro w'; go_simp; with_reducible rfl
  rotate_left; · simp only [pk, i64_w, i32_w]; rfl
  refine pq 5 24 #[I,I,I,I,I,I,I,I,O,O,O,O,O,O,O] HT_.out rfl rfl ?_ (fun _ _ _ h => h) ?_ ?_ ?_ ?_
  rotate_left; · intro w'; go_simp; with_reducible rfl
  rotate_left; · simp only [pk, i64_w, i32_w]; rfl
  refine tq 8 27 #[I,I,I,I,I,I,I,I,I,O,O,O,O,O,O] HT_.out HW_.out rfl rfl ?_ (fun _ _ _ h => h) ?_ hHeld ?_ ?_ ?_
  rotate_left; · rintro w' ⟨s0, s1, s2, s3, s4⟩; go_simp; with_reducible rfl
  rotate_left; · simp only [pk, i64_w, i32_w]; rfl
  refine pq 9 28 #[I,I,I,I,I,I,I,I,I,I,O,O,O,O,O] HT_.out rfl rfl ?_ (fun _ _ _ h => h) ?_ ?_ ?_ ?_
  rotate_left; · intro w'; go_simp; with_reducible rfl
  rotate_left; · simp only [pk, i64_w, i32_w]; rfl
  refine tq 10 29 #[I,I,I,I,I,I,I,I,I,I,I,O,O,O,O] HT_.out HW_.out rfl rfl ?_ (fun _ _ _ h => h) ?_ hHeld ?_ ?_ ?_
  rotate_left; · rintro w' ⟨s0, s1, s2, s3, s4⟩; go_simp; with_reducible rfl
  rotate_left; · simp only [pk, i64_w, i32_w]; rfl
  refine one_ (i := 11) (N := some 30) #[I,I,I,I,I,I,I,I,I,I,I,I,O,O,O] rfl rfl (one_of HT_.out (by kernel_rfl)) (by decide) (fun K hK => ?_)
  refine goes_ Tryz.func52 (by kernel_rfl) rfl #[.slice (some ad286) l0.length c0, .int .i64 (rd ((rd_T62 l0 a1).f3) 0)] (by rfl) rfl rfl gl ?_
  with_reducible refine (spec_l06Value.calls k _ _ l0 (rd ((rd_T62 l0 a1).f3) 0) t290 _ ?side1 ?side2 A12.out).mono ?_
  (case side1 => exact Kd.C_below HR0.out (be w))
  (case side2 => exact HC0.out)
  rintro e w19 ⟨rfl, hb⟩
  refine ⟨_, rfl, ?_⟩
  replace BK287 := As.mk (blk_below (bx BK287.out) hb)
  replace HB := As.mk (below_step (be w) hb)
  (try clear hb)
  (try clear hb2)
  (try clear hk)
  (try clear hi)
  refine hK.out _ _ ⟨(blk_cell BK287.out 0).trans rfl, (blk_cell BK287.out 1).trans rfl, (blk_cell BK287.out 2).trans rfl, (blk_cell BK287.out 3).trans rfl, (ce HB.out hw289_0 :)⟩ (fun hHeld => ?_)
  clear hK K
  refine norm_ (a' := ?_) ?_ ?_
  rotate_left
  ·
   show Act.put _ (some 30) _ = _
   simp only [pk, i64_w, i32_w]
   rfl
  refine pq 12 31 #[I,I,I,I,I,I,I,I,I,I,I,I,I,O,O] HT_.out rfl rfl ?_ (fun _ _ _ h => h) ?_ ?_ ?_ ?_
  rotate_left; · intro w'; go_simp; with_reducible rfl
  rotate_left; · simp only [pk, i64_w, i32_w]; rfl
  refine pq 13 32 #[I,I,I,I,I,I,I,I,I,I,I,I,I,I,O] HT_.out rfl rfl ?_ (fun _ _ _ h => h) ?_ ?_ ?_ ?_
  rotate_left; · intro w'; go_simp; with_reducible rfl
  rotate_left; · simp only [pk, i64_w, i32_w]; rfl
  refine pq 14 6 #[I,I,I,I,I,I,I,I,I,I,I,I,I,I,I] HT_.out rfl rfl ?_ (fun _ _ _ h => h) ?_ ?_ ?_ ?_
  rotate_left; · intro w'; go_simp; with_reducible rfl
  rotate_left; · simp only [pk, i64_w, i32_w]; rfl
  refine done_ (done_of HT_.out (by kernel_rfl)) ?_
  try go_wp2
  go_ret
  exact ⟨ez, be w⟩
 rw [if_neg c7] at H
 have c7b0 : (((rd_T62 l0 a1).f0) == 13) = false := beq_eq_false_iff_ne.mpr c7
 have c7b1 : (((rd_T62 l0 a1).f0) != 13) = true := bne_iff_ne.mpr c7
 by_cases c20 : ((rd_T62 l0 a1).f0) = 14
 ·
  rw [if_pos c20] at H
  have c20b0 : (((rd_T62 l0 a1).f0) == 14) = true := beq_iff_eq.mpr c20
  have c20b1 : (((rd_T62 l0 a1).f0) != 14) = false := bne_eq_false_iff_eq.mpr c20
  clear c20
  have c21 := i1 H; replace H := i2 H
  have c21b0 := eq_true c21
  have c21b1 := decide_eq_true c21
  try have c21b2 := eq_false (Nat.not_lt.2 c21)
  have c22 := i1 H; replace H := i2 H
  have c22b0 := eq_true c22
  have c22b1 := decide_eq_true c22
  try have c22b2 := eq_false (Nat.not_lt.2 c22)
  try have c22b4 : (9223372036854775807 < t288.size + ((rd_T62 l0 a1).f2).size + 3) = False := eq_false (Nat.not_lt.2 (by have h_ := c22; simp only [ByteArray.size_append] at h_; exact h_))
  have c23 := i1 H; replace H := i2 H
  have c23b0 := decide_eq_true c23
  have c23b1 : decide (0 < ((rd_T62 l0 a1).f3).length) = true := decide_eq_true (by omega)
  clear c23
  obtain ⟨t292, A240, H⟩ := Option.bind_eq_some_iff.mp H
  try dsimp only at H
  have A24 := As.mk A240
  clear A240
  have c25 := i1 H; replace H := i2 H
  have c25b0 := eq_true c25
  have c25b1 := decide_eq_true c25
  try have c25b2 := eq_false (Nat.not_lt.2 c25)
  try have c25b4 : (9223372036854775807 < t288.size + ((rd_T62 l0 a1).f2).size + 3 + t292.size) = False := eq_false (Nat.not_lt.2 (by have h_ := c25; simp only [ByteArray.size_append] at h_; exact h_))
  have c26 := i1 H; replace H := i2 H
  have c26b0 := eq_true c26
  have c26b1 := decide_eq_true c26
  try have c26b2 := eq_false (Nat.not_lt.2 c26)
  try have c26b4 : (9223372036854775807 < t288.size + ((rd_T62 l0 a1).f2).size + 3 + t292.size + 2) = False := eq_false (Nat.not_lt.2 (by have h_ := c26; simp only [ByteArray.size_append] at h_; exact h_))
  obtain rfl := Option.some.inj H
  have p286 : 0 ≤ (a1 : Int) := od
  have q286 : a1 < (l0.length : Int) := od
  obtain ⟨ad286, A286_3, c286_3, e286, hx286_0, hx286_1, hx286_2, hx286_3, hl286_3, hi286_3⟩ := at_T62 HR0.out a1 p286 q286
  cases e286
  have HR286_3 := As.mk hi286_3
  have HC286_3 := As.mk hl286_3
  clear hi286_3 hl286_3
  replace p286 := eq_true p286
  replace q286 := eq_true q286
  go_enter Tryz.func45, Tryz.ntmps45
  try go_wp2_with (first | ((with_reducible refine gate_dst (N := 7) rfl ?_); refine box_event ?hg (N := 7) ?hd (cs := #[.int .i64 0, .int .i64 0, .string (⟨#[]⟩ : ByteArray), .slice none 0 0]) (t := 62) ?hr ?_; (case hd => rfl); (case hg => rfl); (case hr => first | (go_simp; done) | (go_simp; rfl)); intro gb287 hg w27 hbox hb; have BK287 := As.mk (hbox); have GW287 := As.mk (gs w hg); replace HB := As.mk (below_step (be w) hb); clear hb hbox hg; obtain ⟨hcz28_0, hcz28_1, hcz28_2, hcz28_3, hfz28_0, hfz28_1, hfz28_2, hfz28_3⟩ := cl4 BK287.out) | ((with_reducible refine gate_callee (f := 72) rfl ?_); refine goesL_ (some 14) rfl rfl Tryz.func72 (by kernel_rfl) rfl #[.int .i64 a2] rfl gl ?_; (with_reducible refine (spec_l06In.calls k a2 t288 _ A6.out).mono ?_); rintro e w' ⟨rfl, ⟨nd, rfl⟩⟩; refine ⟨_, rfl, ?_⟩))
  have n0_ : As (((((w27.setCell ⟨gb287, 0, none⟩ (.int .i64 ((rd_T62 l0 a1).f0))).setCell ⟨gb287, 1, none⟩ (.int .i64 ((rd_T62 l0 a1).f1))).setCell ⟨gb287, 2, none⟩ (.string ((rd_T62 l0 a1).f2))).setCell ⟨gb287, 3, none⟩ (.slice A286_3 ((rd_T62 l0 a1).f3).length c286_3)).heap[gb287]? = some (.cells #[.int .i64 ((rd_T62 l0 a1).f0), .int .i64 ((rd_T62 l0 a1).f1), .string ((rd_T62 l0 a1).f2), .slice A286_3 ((rd_T62 l0 a1).f3).length c286_3] 62 (0, 0))) := ⟨by refine pl ?_; refine blk_put (cs := #[.int .i64 ((rd_T62 l0 a1).f0), .int .i64 ((rd_T62 l0 a1).f1), .string ((rd_T62 l0 a1).f2), .slice none 0 0]) ?_ 3 _ rfl; refine pl ?_; refine blk_put (cs := #[.int .i64 ((rd_T62 l0 a1).f0), .int .i64 ((rd_T62 l0 a1).f1), .string (⟨#[]⟩ : ByteArray), .slice none 0 0]) ?_ 2 _ rfl; refine pl ?_; refine blk_put (cs := #[.int .i64 ((rd_T62 l0 a1).f0), .int .i64 0, .string (⟨#[]⟩ : ByteArray), .slice none 0 0]) ?_ 1 _ rfl; refine pl ?_; refine blk_put (cs := #[.int .i64 0, .int .i64 0, .string (⟨#[]⟩ : ByteArray), .slice none 0 0]) ?_ 0 _ rfl; exact bx BK287.out⟩
  have n1_ : As (Below w.heap.size w ((((w27.setCell ⟨gb287, 0, none⟩ (.int .i64 ((rd_T62 l0 a1).f0))).setCell ⟨gb287, 1, none⟩ (.int .i64 ((rd_T62 l0 a1).f1))).setCell ⟨gb287, 2, none⟩ (.string ((rd_T62 l0 a1).f2))).setCell ⟨gb287, 3, none⟩ (.slice A286_3 ((rd_T62 l0 a1).f3).length c286_3))) := ⟨be w⟩
  (try clear BK287)
  (try clear HB)
  generalize ((((w27.setCell ⟨gb287, 0, none⟩ (.int .i64 ((rd_T62 l0 a1).f0))).setCell ⟨gb287, 1, none⟩ (.int .i64 ((rd_T62 l0 a1).f1))).setCell ⟨gb287, 2, none⟩ (.string ((rd_T62 l0 a1).f2))).setCell ⟨gb287, 3, none⟩ (.slice A286_3 ((rd_T62 l0 a1).f3).length c286_3)) = w29 at n0_ n1_ ⊢
  have BK287 := n0_
  have HB := n1_
  clear n0_ n1_
  (try (rw [drewN_self w29]; generalize hq_ : World.drewN w29 _ = w29; have n0_ : As (w29.heap[gb287]? = some (.cells #[.int .i64 ((rd_T62 l0 a1).f0), .int .i64 ((rd_T62 l0 a1).f1), .string ((rd_T62 l0 a1).f2), .slice A286_3 ((rd_T62 l0 a1).f3).length c286_3] 62 (0, 0))) := ⟨by rw [← hq_]; exact (bx BK287.out)⟩; have n1_ : As (Below w.heap.size w w29) := ⟨by rw [← hq_]; exact (be w)⟩; clear BK287 HB hq_; have BK287 := n0_; have HB := n1_; clear n0_ n1_))
  replace BK287 := As.mk (blk_drew BK287.out)
  replace HB := As.mk (below_drew1 HB.out)
  have p291 : 0 ≤ (0 : Int) := (by omega)
  have q291 : 0 < (((rd_T62 l0 a1).f3).length : Int) := od
  obtain ⟨ad291, e291, hx291_0⟩ := Kd.at_int HR286_3.out 0 p291 q291
  have hw291_0 := hx291_0
  (try rw [show ((0 : Int)).toNat = 0 from rfl] at hw291_0)
  (try rw [show 0 * 1 = 0 from rfl] at hw291_0)
  (try rw [Addr.add_zero'] at hw291_0)
  cases e291
  have qi291 : (0 < ((rd_T62 l0 a1).f3).length) = True := eq_true (by omega)
  (try rw [show ((0 : Int)).toNat = 0 from rfl] at hx291_0)
  (try rw [Addr.add_zero'] at hx291_0)
  replace hx291_0 := ce HB.out hx291_0
  replace p291 := eq_true p291
  replace q291 := eq_true q291
  refine start_ (n := 14) (S := fun w' => w'.cell? ⟨gb287, 0, none⟩ = some (.int .i64 ((rd_T62 l0 a1).f0)) ∧ w'.cell? ⟨gb287, 1, none⟩ = some (.int .i64 ((rd_T62 l0 a1).f1)) ∧ w'.cell? ⟨gb287, 2, none⟩ = some (.string ((rd_T62 l0 a1).f2)) ∧ w'.cell? ⟨gb287, 3, none⟩ = some (.slice (some ad291) ((rd_T62 l0 a1).f3).length c286_3) ∧ w'.cell? ad291 = some (.int .i64 (rd ((rd_T62 l0 a1).f3) 0))) (ds := []) #[O,O,O,O,O,O,O,O,O,O,O,O,O,O] (by kernel_rfl) rfl rfl ⟨(blk_cell BK287.out 0).trans rfl, (blk_cell BK287.out 1).trans rfl, (blk_cell BK287.out 2).trans rfl, (blk_cell BK287.out 3).trans rfl, (ce HB.out hw291_0 :)⟩ (fun hHeld => ?_); refine with_tabW spec_l06Step.tab7 spec_l06Step.bits7 (fun HT_ HW_ => ?_)
  generalize w29.drew = w30 at BK287 HB hx291_0 hHeld ⊢
  refine pq 0 35 #[I,O,O,O,O,O,O,O,O,O,O,O,O,O] HT_.out rfl rfl ?_ (fun _ _ _ h => h) ?_ ?_ ?_ ?_
  rotate_left; · intro w'; go_simp; with_reducible rfl
  rotate_left; · simp only [pk, i64_w, i32_w]; rfl
  refine pq 1 36 #[I,I,O,O,O,O,O,O,O,O,O,O,O,O] HT_.out rfl rfl ?_ (fun _ _ _ h => h) ?_ ?_ ?_ ?_
  rotate_left; · intro w'; go_simp; with_reducible rfl
  rotate_left; · simp only [pk, i64_w, i32_w]; rfl
  refine pq 5 40 #[I,I,O,O,O,I,O,O,O,O,O,O,O,O] HT_.out rfl rfl ?_ (fun _ _ _ h => h) ?_ ?_ ?_ ?_
  rotate_left; · intro w'; go_simp; with_reducible rfl
  rotate_left; · simp only [pk, i64_w, i32_w]; rfl
  refine pq 6 41 #[I,I,O,O,O,I,I,O,O,O,O,O,O,O] HT_.out rfl rfl ?_ (fun _ _ _ h => h) ?_ ?_ ?_ ?_
  rotate_left; · intro w'; go_simp; with_reducible rfl
  rotate_left; · simp only [pk, i64_w, i32_w]; rfl
  refine tq 2 37 #[I,I,I,O,O,I,I,O,O,O,O,O,O,O] HT_.out HW_.out rfl rfl ?_ (fun _ _ _ h => h) ?_ hHeld ?_ ?_ ?_
  rotate_left; · rintro w' ⟨s0, s1, s2, s3, s4⟩; go_simp; with_reducible rfl
  rotate_left; · simp only [pk, i64_w, i32_w]; rfl
  refine pq 3 38 #[I,I,I,I,O,I,I,O,O,O,O,O,O,O] HT_.out rfl rfl ?_ (fun _ _ _ h => h) ?_ ?_ ?_ ?_
  rotate_left; · intro w'; go_simp; with_reducible rfl
  rotate_left; · simp only [pk, i64_w, i32_w]; rfl
  refine pq 4 39 #[I,I,I,I,I,I,I,O,O,O,O,O,O,O] HT_.out rfl rfl ?_ (fun _ _ _ h => h) ?_ ?_ ?_ ?_
  rotate_left; · intro w'; go_simp; with_reducible rfl
  rotate_left; · simp only [pk, i64_w, i32_w]; rfl
  refine tq 7 42 #[I,I,I,I,I,I,I,I,O,O,O,O,O,O] HT_.out HW_.out rfl rfl ?_ (fun _ _ _ h => h) ?_ hHeld ?_ ?_ ?_
  rotate_left; · rintro w' ⟨s0, s1, s2, s3, s4⟩; go_simp; with_reducible rfl
  rotate_left; · simp only [pk, i64_w, i32_w]; rfl
  refine pq 8 43 #[I,I,I,I,I,I,I,I,I,O,O,O,O,O] HT_.out rfl rfl ?_ (fun _ _ _ h => h) ?_ ?_ ?_ ?_
  rotate_left; · intro w'; go_simp; with_reducible rfl
  rotate_left; · simp only [pk, i64_w, i32_w]; rfl
  refine tq 9 44 #[I,I,I,I,I,I,I,I,I,I,O,O,O,O] HT_.out HW_.out rfl rfl ?_ (fun _ _ _ h => h) ?_ hHeld ?_ ?_ ?_
  rotate_left; · rintro w' ⟨s0, s1, s2, s3, s4⟩; go_simp; with_reducible rfl
  rotate_left; · simp only [pk, i64_w, i32_w]; rfl
  refine one_ (i := 10) (N := some 45) #[I,I,I,I,I,I,I,I,I,I,I,O,O,O] rfl rfl (one_of HT_.out (by kernel_rfl)) (by decide) (fun K hK => ?_)
  refine goes_ Tryz.func52 (by kernel_rfl) rfl #[.slice (some ad286) l0.length c0, .int .i64 (rd ((rd_T62 l0 a1).f3) 0)] (by rfl) rfl rfl gl ?_
  with_reducible refine (spec_l06Value.calls k _ _ l0 (rd ((rd_T62 l0 a1).f3) 0) t292 _ ?side1 ?side2 A24.out).mono ?_
  (case side1 => exact Kd.C_below HR0.out (be w))
  (case side2 => exact HC0.out)
  rintro e w31 ⟨rfl, hb⟩
  refine ⟨_, rfl, ?_⟩
  replace BK287 := As.mk (blk_below (bx BK287.out) hb)
  replace HB := As.mk (below_step (be w) hb)
  (try clear hb)
  (try clear hb2)
  (try clear hk)
  (try clear hi)
  refine hK.out _ _ ⟨(blk_cell BK287.out 0).trans rfl, (blk_cell BK287.out 1).trans rfl, (blk_cell BK287.out 2).trans rfl, (blk_cell BK287.out 3).trans rfl, (ce HB.out hw291_0 :)⟩ (fun hHeld => ?_)
  clear hK K
  refine norm_ (a' := ?_) ?_ ?_
  rotate_left
  ·
   show Act.put _ (some 45) _ = _
   simp only [pk, i64_w, i32_w]
   rfl
  refine pq 11 46 #[I,I,I,I,I,I,I,I,I,I,I,I,O,O] HT_.out rfl rfl ?_ (fun _ _ _ h => h) ?_ ?_ ?_ ?_
  rotate_left; · intro w'; go_simp; with_reducible rfl
  rotate_left; · simp only [pk, i64_w, i32_w]; rfl
  refine pq 12 47 #[I,I,I,I,I,I,I,I,I,I,I,I,I,O] HT_.out rfl rfl ?_ (fun _ _ _ h => h) ?_ ?_ ?_ ?_
  rotate_left; · intro w'; go_simp; with_reducible rfl
  rotate_left; · simp only [pk, i64_w, i32_w]; rfl
  refine pq 13 6 #[I,I,I,I,I,I,I,I,I,I,I,I,I,I] HT_.out rfl rfl ?_ (fun _ _ _ h => h) ?_ ?_ ?_ ?_
  rotate_left; · intro w'; go_simp; with_reducible rfl
  rotate_left; · simp only [pk, i64_w, i32_w]; rfl
  refine done_ (done_of HT_.out (by kernel_rfl)) ?_
  try go_wp2
  go_ret
  exact ⟨ez, be w⟩
 rw [if_neg c20] at H
 have c20b0 : (((rd_T62 l0 a1).f0) == 14) = false := beq_eq_false_iff_ne.mpr c20
 have c20b1 : (((rd_T62 l0 a1).f0) != 14) = true := bne_iff_ne.mpr c20
 by_cases c32 : ((rd_T62 l0 a1).f0) = 15
 ·
  rw [if_pos c32] at H
  have c32b0 : (((rd_T62 l0 a1).f0) == 15) = true := beq_iff_eq.mpr c32
  have c32b1 : (((rd_T62 l0 a1).f0) != 15) = false := bne_eq_false_iff_eq.mpr c32
  clear c32
  have c33 := i1 H; replace H := i2 H
  have c33b0 := eq_true c33
  have c33b1 := decide_eq_true c33
  try have c33b2 := eq_false (Nat.not_lt.2 c33)
  have c34 := i1 H; replace H := i2 H
  have c34b0 := eq_true c34
  have c34b1 := decide_eq_true c34
  try have c34b2 := eq_false (Nat.not_lt.2 c34)
  try have c34b4 : (9223372036854775807 < t288.size + 1 + ((rd_T62 l0 a1).f2).size) = False := eq_false (Nat.not_lt.2 (by have h_ := c34; simp only [ByteArray.size_append] at h_; exact h_))
  have c35 := i1 H; replace H := i2 H
  have c35b0 := eq_true c35
  have c35b1 := decide_eq_true c35
  try have c35b2 := eq_false (Nat.not_lt.2 c35)
  try have c35b4 : (9223372036854775807 < t288.size + 1 + ((rd_T62 l0 a1).f2).size + 3) = False := eq_false (Nat.not_lt.2 (by have h_ := c35; simp only [ByteArray.size_append] at h_; exact h_))
  have c36 := i1 H; replace H := i2 H
  have c36b0 := decide_eq_true c36
  have c36b1 : decide (0 < ((rd_T62 l0 a1).f3).length) = true := decide_eq_true (by omega)
  clear c36
  obtain ⟨t294, A370, H⟩ := Option.bind_eq_some_iff.mp H
  try dsimp only at H
  have A37 := As.mk A370
  clear A370
  have c38 := i1 H; replace H := i2 H
  have c38b0 := eq_true c38
  have c38b1 := decide_eq_true c38
  try have c38b2 := eq_false (Nat.not_lt.2 c38)
  try have c38b4 : (9223372036854775807 < t288.size + 1 + ((rd_T62 l0 a1).f2).size + 3 + t294.size) = False := eq_false (Nat.not_lt.2 (by have h_ := c38; simp only [ByteArray.size_append] at h_; exact h_))
  have c39 := i1 H; replace H := i2 H
  have c39b0 := eq_true c39
  have c39b1 := decide_eq_true c39
  try have c39b2 := eq_false (Nat.not_lt.2 c39)
  try have c39b4 : (9223372036854775807 < t288.size + 1 + ((rd_T62 l0 a1).f2).size + 3 + t294.size + 2) = False := eq_false (Nat.not_lt.2 (by have h_ := c39; simp only [ByteArray.size_append] at h_; exact h_))
  obtain rfl := Option.some.inj H
  have p286 : 0 ≤ (a1 : Int) := od
  have q286 : a1 < (l0.length : Int) := od
  obtain ⟨ad286, A286_3, c286_3, e286, hx286_0, hx286_1, hx286_2, hx286_3, hl286_3, hi286_3⟩ := at_T62 HR0.out a1 p286 q286
  cases e286
  have HR286_3 := As.mk hi286_3
  have HC286_3 := As.mk hl286_3
  clear hi286_3 hl286_3
  replace p286 := eq_true p286
  replace q286 := eq_true q286
  go_enter Tryz.func45, Tryz.ntmps45
  try go_wp2_with (first | ((with_reducible refine gate_dst (N := 7) rfl ?_); refine box_event ?hg (N := 7) ?hd (cs := #[.int .i64 0, .int .i64 0, .string (⟨#[]⟩ : ByteArray), .slice none 0 0]) (t := 62) ?hr ?_; (case hd => rfl); (case hg => rfl); (case hr => first | (go_simp; done) | (go_simp; rfl)); intro gb287 hg w40 hbox hb; have BK287 := As.mk (hbox); have GW287 := As.mk (gs w hg); replace HB := As.mk (below_step (be w) hb); clear hb hbox hg; obtain ⟨hcz41_0, hcz41_1, hcz41_2, hcz41_3, hfz41_0, hfz41_1, hfz41_2, hfz41_3⟩ := cl4 BK287.out) | ((with_reducible refine gate_callee (f := 72) rfl ?_); refine goesL_ (some 14) rfl rfl Tryz.func72 (by kernel_rfl) rfl #[.int .i64 a2] rfl gl ?_; (with_reducible refine (spec_l06In.calls k a2 t288 _ A6.out).mono ?_); rintro e w' ⟨rfl, ⟨nd, rfl⟩⟩; refine ⟨_, rfl, ?_⟩))
  have n0_ : As (((((w40.setCell ⟨gb287, 0, none⟩ (.int .i64 ((rd_T62 l0 a1).f0))).setCell ⟨gb287, 1, none⟩ (.int .i64 ((rd_T62 l0 a1).f1))).setCell ⟨gb287, 2, none⟩ (.string ((rd_T62 l0 a1).f2))).setCell ⟨gb287, 3, none⟩ (.slice A286_3 ((rd_T62 l0 a1).f3).length c286_3)).heap[gb287]? = some (.cells #[.int .i64 ((rd_T62 l0 a1).f0), .int .i64 ((rd_T62 l0 a1).f1), .string ((rd_T62 l0 a1).f2), .slice A286_3 ((rd_T62 l0 a1).f3).length c286_3] 62 (0, 0))) := ⟨by refine pl ?_; refine blk_put (cs := #[.int .i64 ((rd_T62 l0 a1).f0), .int .i64 ((rd_T62 l0 a1).f1), .string ((rd_T62 l0 a1).f2), .slice none 0 0]) ?_ 3 _ rfl; refine pl ?_; refine blk_put (cs := #[.int .i64 ((rd_T62 l0 a1).f0), .int .i64 ((rd_T62 l0 a1).f1), .string (⟨#[]⟩ : ByteArray), .slice none 0 0]) ?_ 2 _ rfl; refine pl ?_; refine blk_put (cs := #[.int .i64 ((rd_T62 l0 a1).f0), .int .i64 0, .string (⟨#[]⟩ : ByteArray), .slice none 0 0]) ?_ 1 _ rfl; refine pl ?_; refine blk_put (cs := #[.int .i64 0, .int .i64 0, .string (⟨#[]⟩ : ByteArray), .slice none 0 0]) ?_ 0 _ rfl; exact bx BK287.out⟩
  have n1_ : As (Below w.heap.size w ((((w40.setCell ⟨gb287, 0, none⟩ (.int .i64 ((rd_T62 l0 a1).f0))).setCell ⟨gb287, 1, none⟩ (.int .i64 ((rd_T62 l0 a1).f1))).setCell ⟨gb287, 2, none⟩ (.string ((rd_T62 l0 a1).f2))).setCell ⟨gb287, 3, none⟩ (.slice A286_3 ((rd_T62 l0 a1).f3).length c286_3))) := ⟨be w⟩
  (try clear BK287)
  (try clear HB)
  generalize ((((w40.setCell ⟨gb287, 0, none⟩ (.int .i64 ((rd_T62 l0 a1).f0))).setCell ⟨gb287, 1, none⟩ (.int .i64 ((rd_T62 l0 a1).f1))).setCell ⟨gb287, 2, none⟩ (.string ((rd_T62 l0 a1).f2))).setCell ⟨gb287, 3, none⟩ (.slice A286_3 ((rd_T62 l0 a1).f3).length c286_3)) = w42 at n0_ n1_ ⊢
  have BK287 := n0_
  have HB := n1_
  clear n0_ n1_
  (try (rw [drewN_self w42]; generalize hq_ : World.drewN w42 _ = w42; have n0_ : As (w42.heap[gb287]? = some (.cells #[.int .i64 ((rd_T62 l0 a1).f0), .int .i64 ((rd_T62 l0 a1).f1), .string ((rd_T62 l0 a1).f2), .slice A286_3 ((rd_T62 l0 a1).f3).length c286_3] 62 (0, 0))) := ⟨by rw [← hq_]; exact (bx BK287.out)⟩; have n1_ : As (Below w.heap.size w w42) := ⟨by rw [← hq_]; exact (be w)⟩; clear BK287 HB hq_; have BK287 := n0_; have HB := n1_; clear n0_ n1_))
  replace BK287 := As.mk (blk_drew BK287.out)
  replace HB := As.mk (below_drew1 HB.out)
  have p293 : 0 ≤ (0 : Int) := (by omega)
  have q293 : 0 < (((rd_T62 l0 a1).f3).length : Int) := od
  obtain ⟨ad293, e293, hx293_0⟩ := Kd.at_int HR286_3.out 0 p293 q293
  have hw293_0 := hx293_0
  (try rw [show ((0 : Int)).toNat = 0 from rfl] at hw293_0)
  (try rw [show 0 * 1 = 0 from rfl] at hw293_0)
  (try rw [Addr.add_zero'] at hw293_0)
  cases e293
  have qi293 : (0 < ((rd_T62 l0 a1).f3).length) = True := eq_true (by omega)
  (try rw [show ((0 : Int)).toNat = 0 from rfl] at hx293_0)
  (try rw [Addr.add_zero'] at hx293_0)
  replace hx293_0 := ce HB.out hx293_0
  replace p293 := eq_true p293
  replace q293 := eq_true q293
  refine start_ (n := 15) (S := fun w' => w'.cell? ⟨gb287, 0, none⟩ = some (.int .i64 ((rd_T62 l0 a1).f0)) ∧ w'.cell? ⟨gb287, 1, none⟩ = some (.int .i64 ((rd_T62 l0 a1).f1)) ∧ w'.cell? ⟨gb287, 2, none⟩ = some (.string ((rd_T62 l0 a1).f2)) ∧ w'.cell? ⟨gb287, 3, none⟩ = some (.slice (some ad293) ((rd_T62 l0 a1).f3).length c286_3) ∧ w'.cell? ad293 = some (.int .i64 (rd ((rd_T62 l0 a1).f3) 0))) (ds := []) #[O,O,O,O,O,O,O,O,O,O,O,O,O,O,O] (by kernel_rfl) rfl rfl ⟨(blk_cell BK287.out 0).trans rfl, (blk_cell BK287.out 1).trans rfl, (blk_cell BK287.out 2).trans rfl, (blk_cell BK287.out 3).trans rfl, (ce HB.out hw293_0 :)⟩ (fun hHeld => ?_); refine with_tabW spec_l06Step.tab9 spec_l06Step.bits9 (fun HT_ HW_ => ?_)
  generalize w42.drew = w43 at BK287 HB hx293_0 hHeld ⊢
  refine pq 0 50 #[I,O,O,O,O,O,O,O,O,O,O,O,O,O,O] HT_.out rfl rfl ?_ (fun _ _ _ h => h) ?_ ?_ ?_ ?_
  rotate_left; · intro w'; go_simp; with_reducible rfl
  rotate_left; · simp only [pk, i64_w, i32_w]; rfl
  refine pq 1 51 #[I,I,O,O,O,O,O,O,O,O,O,O,O,O,O] HT_.out rfl rfl ?_ (fun _ _ _ h => h) ?_ ?_ ?_ ?_
  rotate_left; · intro w'; go_simp; with_reducible rfl
  rotate_left; · simp only [pk, i64_w, i32_w]; rfl
  refine pq 2 52 #[I,I,I,O,O,O,O,O,O,O,O,O,O,O,O] HT_.out rfl rfl ?_ (fun _ _ _ h => h) ?_ ?_ ?_ ?_
  rotate_left; · intro w'; go_simp; with_reducible rfl
  rotate_left; · simp only [pk, i64_w, i32_w]; rfl
  refine pq 6 56 #[I,I,I,O,O,O,I,O,O,O,O,O,O,O,O] HT_.out rfl rfl ?_ (fun _ _ _ h => h) ?_ ?_ ?_ ?_
  rotate_left; · intro w'; go_simp; with_reducible rfl
  rotate_left; · simp only [pk, i64_w, i32_w]; rfl
  refine pq 7 57 #[I,I,I,O,O,O,I,I,O,O,O,O,O,O,O] HT_.out rfl rfl ?_ (fun _ _ _ h => h) ?_ ?_ ?_ ?_
  rotate_left; · intro w'; go_simp; with_reducible rfl
  rotate_left; · simp only [pk, i64_w, i32_w]; rfl
  refine tq 3 53 #[I,I,I,I,O,O,I,I,O,O,O,O,O,O,O] HT_.out HW_.out rfl rfl ?_ (fun _ _ _ h => h) ?_ hHeld ?_ ?_ ?_
  rotate_left; · rintro w' ⟨s0, s1, s2, s3, s4⟩; go_simp; with_reducible rfl
  rotate_left; · simp only [pk, i64_w, i32_w]; rfl
  refine pq 4 54 #[I,I,I,I,I,O,I,I,O,O,O,O,O,O,O] HT_.out rfl rfl ?_ (fun _ _ _ h => h) ?_ ?_ ?_ ?_
  rotate_left; · intro w'; go_simp; with_reducible rfl
  rotate_left; · simp only [pk, i64_w, i32_w]; rfl
  refine pq 5 55 #[I,I,I,I,I,I,I,I,O,O,O,O,O,O,O] HT_.out rfl rfl ?_ (fun _ _ _ h => h) ?_ ?_ ?_ ?_
  rotate_left; · intro w'; go_simp; with_reducible rfl
  rotate_left; · simp only [pk, i64_w, i32_w]; rfl
  refine tq 8 58 #[I,I,I,I,I,I,I,I,I,O,O,O,O,O,O] HT_.out HW_.out rfl rfl ?_ (fun _ _ _ h => h) ?_ hHeld ?_ ?_ ?_
  rotate_left; · rintro w' ⟨s0, s1, s2, s3, s4⟩; go_simp; with_reducible rfl
  rotate_left; · simp only [pk, i64_w, i32_w]; rfl
  refine pq 9 59 #[I,I,I,I,I,I,I,I,I,I,O,O,O,O,O] HT_.out rfl rfl ?_ (fun _ _ _ h => h) ?_ ?_ ?_ ?_
  rotate_left; · intro w'; go_simp; with_reducible rfl
  rotate_left; · simp only [pk, i64_w, i32_w]; rfl
  refine tq 10 60 #[I,I,I,I,I,I,I,I,I,I,I,O,O,O,O] HT_.out HW_.out rfl rfl ?_ (fun _ _ _ h => h) ?_ hHeld ?_ ?_ ?_
  rotate_left; · rintro w' ⟨s0, s1, s2, s3, s4⟩; go_simp; with_reducible rfl
  rotate_left; · simp only [pk, i64_w, i32_w]; rfl
  refine one_ (i := 11) (N := some 61) #[I,I,I,I,I,I,I,I,I,I,I,I,O,O,O] rfl rfl (one_of HT_.out (by kernel_rfl)) (by decide) (fun K hK => ?_)
  refine goes_ Tryz.func52 (by kernel_rfl) rfl #[.slice (some ad286) l0.length c0, .int .i64 (rd ((rd_T62 l0 a1).f3) 0)] (by rfl) rfl rfl gl ?_
  with_reducible refine (spec_l06Value.calls k _ _ l0 (rd ((rd_T62 l0 a1).f3) 0) t294 _ ?side1 ?side2 A37.out).mono ?_
  (case side1 => exact Kd.C_below HR0.out (be w))
  (case side2 => exact HC0.out)
  rintro e w44 ⟨rfl, hb⟩
  refine ⟨_, rfl, ?_⟩
  replace BK287 := As.mk (blk_below (bx BK287.out) hb)
  replace HB := As.mk (below_step (be w) hb)
  (try clear hb)
  (try clear hb2)
  (try clear hk)
  (try clear hi)
  refine hK.out _ _ ⟨(blk_cell BK287.out 0).trans rfl, (blk_cell BK287.out 1).trans rfl, (blk_cell BK287.out 2).trans rfl, (blk_cell BK287.out 3).trans rfl, (ce HB.out hw293_0 :)⟩ (fun hHeld => ?_)
  clear hK K
  refine norm_ (a' := ?_) ?_ ?_
  rotate_left
  ·
   show Act.put _ (some 61) _ = _
   simp only [pk, i64_w, i32_w]
   rfl
  refine pq 12 62 #[I,I,I,I,I,I,I,I,I,I,I,I,I,O,O] HT_.out rfl rfl ?_ (fun _ _ _ h => h) ?_ ?_ ?_ ?_
  rotate_left; · intro w'; go_simp; with_reducible rfl
  rotate_left; · simp only [pk, i64_w, i32_w]; rfl
  refine pq 13 63 #[I,I,I,I,I,I,I,I,I,I,I,I,I,I,O] HT_.out rfl rfl ?_ (fun _ _ _ h => h) ?_ ?_ ?_ ?_
  rotate_left; · intro w'; go_simp; with_reducible rfl
  rotate_left; · simp only [pk, i64_w, i32_w]; rfl
  refine pq 14 6 #[I,I,I,I,I,I,I,I,I,I,I,I,I,I,I] HT_.out rfl rfl ?_ (fun _ _ _ h => h) ?_ ?_ ?_ ?_
  rotate_left; · intro w'; go_simp; with_reducible rfl
  rotate_left; · simp only [pk, i64_w, i32_w]; rfl
  refine done_ (done_of HT_.out (by kernel_rfl)) ?_
  try go_wp2
  go_ret
  exact ⟨ez, be w⟩
 rw [if_neg c32] at H
 have c32b0 : (((rd_T62 l0 a1).f0) == 15) = false := beq_eq_false_iff_ne.mpr c32
 have c32b1 : (((rd_T62 l0 a1).f0) != 15) = true := bne_iff_ne.mpr c32
 by_cases c45 : ((rd_T62 l0 a1).f0) = 18
 ·
  rw [if_pos c45] at H
  have c45b0 : (((rd_T62 l0 a1).f0) == 18) = true := beq_iff_eq.mpr c45
  have c45b1 : (((rd_T62 l0 a1).f0) != 18) = false := bne_eq_false_iff_eq.mpr c45
  clear c45
  have c46 := i1 H; replace H := i2 H
  have c46b0 := eq_true c46
  have c46b1 := decide_eq_true c46
  try have c46b2 := eq_false (Nat.not_lt.2 c46)
  have c47 := i1 H; replace H := i2 H
  have c47b0 := decide_eq_true c47
  have c47b1 : decide (0 < ((rd_T62 l0 a1).f3).length) = true := decide_eq_true (by omega)
  clear c47
  obtain ⟨t296, A480, H⟩ := Option.bind_eq_some_iff.mp H
  try dsimp only at H
  have A48 := As.mk A480
  clear A480
  have c49 := i1 H; replace H := i2 H
  have c49b0 := eq_true c49
  have c49b1 := decide_eq_true c49
  try have c49b2 := eq_false (Nat.not_lt.2 c49)
  try have c49b4 : (9223372036854775807 < t288.size + 6 + t296.size) = False := eq_false (Nat.not_lt.2 (by have h_ := c49; simp only [ByteArray.size_append] at h_; exact h_))
  have c50 := i1 H; replace H := i2 H
  have c50b0 := eq_true c50
  have c50b1 := decide_eq_true c50
  try have c50b2 := eq_false (Nat.not_lt.2 c50)
  try have c50b4 : (9223372036854775807 < t288.size + 6 + t296.size + 2) = False := eq_false (Nat.not_lt.2 (by have h_ := c50; simp only [ByteArray.size_append] at h_; exact h_))
  obtain rfl := Option.some.inj H
  have p286 : 0 ≤ (a1 : Int) := od
  have q286 : a1 < (l0.length : Int) := od
  obtain ⟨ad286, A286_3, c286_3, e286, hx286_0, hx286_1, hx286_2, hx286_3, hl286_3, hi286_3⟩ := at_T62 HR0.out a1 p286 q286
  cases e286
  have HR286_3 := As.mk hi286_3
  have HC286_3 := As.mk hl286_3
  clear hi286_3 hl286_3
  replace p286 := eq_true p286
  replace q286 := eq_true q286
  go_enter Tryz.func45, Tryz.ntmps45
  go_wp2_with (first | ((with_reducible refine gate_dst (N := 7) rfl ?_); refine box_event ?hg (N := 7) ?hd (cs := #[.int .i64 0, .int .i64 0, .string (⟨#[]⟩ : ByteArray), .slice none 0 0]) (t := 62) ?hr ?_; (case hd => rfl); (case hg => rfl); (case hr => first | (go_simp; done) | (go_simp; rfl)); intro gb287 hg w51 hbox hb; have BK287 := As.mk (hbox); have GW287 := As.mk (gs w hg); replace HB := As.mk (below_step (be w) hb); clear hb hbox hg; obtain ⟨hcz52_0, hcz52_1, hcz52_2, hcz52_3, hfz52_0, hfz52_1, hfz52_2, hfz52_3⟩ := cl4 BK287.out) | ((with_reducible refine gate_callee (f := 72) rfl ?_); refine goesL_ (some 14) rfl rfl Tryz.func72 (by kernel_rfl) rfl #[.int .i64 a2] rfl gl ?_; (with_reducible refine (spec_l06In.calls k a2 t288 _ A6.out).mono ?_); rintro e w' ⟨rfl, ⟨nd, rfl⟩⟩; refine ⟨_, rfl, ?_⟩; have p295 : 0 ≤ (0 : Int) := (by omega); have q295 : 0 < (((rd_T62 l0 a1).f3).length : Int) := od; obtain ⟨ad295, e295, hx295_0⟩ := Kd.at_int HR286_3.out 0 p295 q295; cases e295; have qi295 : (0 < ((rd_T62 l0 a1).f3).length) = True := eq_true (by omega); (try rw [show ((0 : Int)).toNat = 0 from rfl] at hx295_0); (try rw [Addr.add_zero'] at hx295_0); have hn295_0 : ad295.block ≠ gb287 := (by first | exact nb2 hx295_0 GW287.out | exact nb1 hx295_0 GW287.out); have hn295_1 : ad295.block ≠ gb287 := (by first | exact nb2 hx295_0 GW287.out | exact nb1 hx295_0 GW287.out); have hn295_2 : ad295.block ≠ gb287 := (by first | exact nb2 hx295_0 GW287.out | exact nb1 hx295_0 GW287.out); have hn295_3 : ad295.block ≠ gb287 := (by first | exact nb2 hx295_0 GW287.out | exact nb1 hx295_0 GW287.out); replace hx295_0 := ce HB.out hx295_0; replace hx295_0 := cfz (j := 0) (.int .i64 ((rd_T62 l0 a1).f0)) hx295_0 hn295_0; replace hx295_0 := cfz (j := 1) (.int .i64 ((rd_T62 l0 a1).f1)) hx295_0 hn295_1; replace hx295_0 := cfz (j := 2) (.string ((rd_T62 l0 a1).f2)) hx295_0 hn295_2; replace hx295_0 := cfz (j := 3) (.slice (some ad295) ((rd_T62 l0 a1).f3).length c286_3) hx295_0 hn295_3; clear hn295_0; clear hn295_1; clear hn295_2; clear hn295_3; replace p295 := eq_true p295; replace q295 := eq_true q295) | ((with_reducible refine gate_callee (f := 52) rfl ?_); refine goesL_ (some 73) rfl rfl Tryz.func52 (by kernel_rfl) rfl #[.slice (some ad286) l0.length c0, .int .i64 (rd ((rd_T62 l0 a1).f3) 0)] rfl gl ?_; (with_reducible refine (spec_l06Value.calls k _ _ l0 (rd ((rd_T62 l0 a1).f3) 0) t296 _ ?side1 ?side2 A48.out).mono ?_); (case side1 => exact Kd.C_below HR0.out (be w)); (case side2 => exact HC0.out); rintro e w53 ⟨rfl, hb⟩; refine ⟨_, rfl, ?_⟩; replace BK287 := As.mk (blk_below (g := gb287) (o := .cells #[.int .i64 ((rd_T62 l0 a1).f0), .int .i64 ((rd_T62 l0 a1).f1), .string ((rd_T62 l0 a1).f2), .slice (some ad295) ((rd_T62 l0 a1).f3).length c286_3] 62 (0, 0)) (by refine pl ?_; refine blk_put (cs := #[.int .i64 ((rd_T62 l0 a1).f0), .int .i64 ((rd_T62 l0 a1).f1), .string ((rd_T62 l0 a1).f2), .slice none 0 0]) ?_ 3 _ rfl; refine pl ?_; refine blk_put (cs := #[.int .i64 ((rd_T62 l0 a1).f0), .int .i64 ((rd_T62 l0 a1).f1), .string (⟨#[]⟩ : ByteArray), .slice none 0 0]) ?_ 2 _ rfl; refine pl ?_; refine blk_put (cs := #[.int .i64 ((rd_T62 l0 a1).f0), .int .i64 0, .string (⟨#[]⟩ : ByteArray), .slice none 0 0]) ?_ 1 _ rfl; refine pl ?_; refine blk_put (cs := #[.int .i64 0, .int .i64 0, .string (⟨#[]⟩ : ByteArray), .slice none 0 0]) ?_ 0 _ rfl; exact bx BK287.out) hb); replace HB := As.mk (below_step (be w) hb); (try clear hb)))
  go_ret
  exact ⟨ez, be w⟩
 rw [if_neg c45] at H
 have c45b0 : (((rd_T62 l0 a1).f0) == 18) = false := beq_eq_false_iff_ne.mpr c45
 have c45b1 : (((rd_T62 l0 a1).f0) != 18) = true := bne_iff_ne.mpr c45
 by_cases c54 : ((rd_T62 l0 a1).f0) = 19
 ·
  rw [if_pos c54] at H
  have c54b0 : (((rd_T62 l0 a1).f0) == 19) = true := beq_iff_eq.mpr c54
  have c54b1 : (((rd_T62 l0 a1).f0) != 19) = false := bne_eq_false_iff_eq.mpr c54
  clear c54
  have c55 := i1 H; replace H := i2 H
  have c55b0 := eq_true c55
  have c55b1 := decide_eq_true c55
  try have c55b2 := eq_false (Nat.not_lt.2 c55)
  have c56 := i1 H; replace H := i2 H
  have c56b0 := decide_eq_true c56
  have c56b1 : decide (0 < ((rd_T62 l0 a1).f3).length) = true := decide_eq_true (by omega)
  clear c56
  obtain ⟨t298, A570, H⟩ := Option.bind_eq_some_iff.mp H
  try dsimp only at H
  have A57 := As.mk A570
  clear A570
  have c58 := i1 H; replace H := i2 H
  have c58b0 := eq_true c58
  have c58b1 := decide_eq_true c58
  try have c58b2 := eq_false (Nat.not_lt.2 c58)
  try have c58b4 : (9223372036854775807 < t288.size + 3 + t298.size) = False := eq_false (Nat.not_lt.2 (by have h_ := c58; simp only [ByteArray.size_append] at h_; exact h_))
  have c59 := i1 H; replace H := i2 H
  have c59b0 := eq_true c59
  have c59b1 := decide_eq_true c59
  try have c59b2 := eq_false (Nat.not_lt.2 c59)
  try have c59b4 : (9223372036854775807 < t288.size + 3 + t298.size + 2) = False := eq_false (Nat.not_lt.2 (by have h_ := c59; simp only [ByteArray.size_append] at h_; exact h_))
  obtain rfl := Option.some.inj H
  have p286 : 0 ≤ (a1 : Int) := od
  have q286 : a1 < (l0.length : Int) := od
  obtain ⟨ad286, A286_3, c286_3, e286, hx286_0, hx286_1, hx286_2, hx286_3, hl286_3, hi286_3⟩ := at_T62 HR0.out a1 p286 q286
  cases e286
  have HR286_3 := As.mk hi286_3
  have HC286_3 := As.mk hl286_3
  clear hi286_3 hl286_3
  replace p286 := eq_true p286
  replace q286 := eq_true q286
  go_enter Tryz.func45, Tryz.ntmps45
  go_wp2_with (first | ((with_reducible refine gate_dst (N := 7) rfl ?_); refine box_event ?hg (N := 7) ?hd (cs := #[.int .i64 0, .int .i64 0, .string (⟨#[]⟩ : ByteArray), .slice none 0 0]) (t := 62) ?hr ?_; (case hd => rfl); (case hg => rfl); (case hr => first | (go_simp; done) | (go_simp; rfl)); intro gb287 hg w60 hbox hb; have BK287 := As.mk (hbox); have GW287 := As.mk (gs w hg); replace HB := As.mk (below_step (be w) hb); clear hb hbox hg; obtain ⟨hcz61_0, hcz61_1, hcz61_2, hcz61_3, hfz61_0, hfz61_1, hfz61_2, hfz61_3⟩ := cl4 BK287.out) | ((with_reducible refine gate_callee (f := 72) rfl ?_); refine goesL_ (some 14) rfl rfl Tryz.func72 (by kernel_rfl) rfl #[.int .i64 a2] rfl gl ?_; (with_reducible refine (spec_l06In.calls k a2 t288 _ A6.out).mono ?_); rintro e w' ⟨rfl, ⟨nd, rfl⟩⟩; refine ⟨_, rfl, ?_⟩; have p297 : 0 ≤ (0 : Int) := (by omega); have q297 : 0 < (((rd_T62 l0 a1).f3).length : Int) := od; obtain ⟨ad297, e297, hx297_0⟩ := Kd.at_int HR286_3.out 0 p297 q297; cases e297; have qi297 : (0 < ((rd_T62 l0 a1).f3).length) = True := eq_true (by omega); (try rw [show ((0 : Int)).toNat = 0 from rfl] at hx297_0); (try rw [Addr.add_zero'] at hx297_0); have hn297_0 : ad297.block ≠ gb287 := (by first | exact nb2 hx297_0 GW287.out | exact nb1 hx297_0 GW287.out); have hn297_1 : ad297.block ≠ gb287 := (by first | exact nb2 hx297_0 GW287.out | exact nb1 hx297_0 GW287.out); have hn297_2 : ad297.block ≠ gb287 := (by first | exact nb2 hx297_0 GW287.out | exact nb1 hx297_0 GW287.out); have hn297_3 : ad297.block ≠ gb287 := (by first | exact nb2 hx297_0 GW287.out | exact nb1 hx297_0 GW287.out); replace hx297_0 := ce HB.out hx297_0; replace hx297_0 := cfz (j := 0) (.int .i64 ((rd_T62 l0 a1).f0)) hx297_0 hn297_0; replace hx297_0 := cfz (j := 1) (.int .i64 ((rd_T62 l0 a1).f1)) hx297_0 hn297_1; replace hx297_0 := cfz (j := 2) (.string ((rd_T62 l0 a1).f2)) hx297_0 hn297_2; replace hx297_0 := cfz (j := 3) (.slice (some ad297) ((rd_T62 l0 a1).f3).length c286_3) hx297_0 hn297_3; clear hn297_0; clear hn297_1; clear hn297_2; clear hn297_3; replace p297 := eq_true p297; replace q297 := eq_true q297) | ((with_reducible refine gate_callee (f := 52) rfl ?_); refine goesL_ (some 85) rfl rfl Tryz.func52 (by kernel_rfl) rfl #[.slice (some ad286) l0.length c0, .int .i64 (rd ((rd_T62 l0 a1).f3) 0)] rfl gl ?_; (with_reducible refine (spec_l06Value.calls k _ _ l0 (rd ((rd_T62 l0 a1).f3) 0) t298 _ ?side1 ?side2 A57.out).mono ?_); (case side1 => exact Kd.C_below HR0.out (be w)); (case side2 => exact HC0.out); rintro e w62 ⟨rfl, hb⟩; refine ⟨_, rfl, ?_⟩; replace BK287 := As.mk (blk_below (g := gb287) (o := .cells #[.int .i64 ((rd_T62 l0 a1).f0), .int .i64 ((rd_T62 l0 a1).f1), .string ((rd_T62 l0 a1).f2), .slice (some ad297) ((rd_T62 l0 a1).f3).length c286_3] 62 (0, 0)) (by refine pl ?_; refine blk_put (cs := #[.int .i64 ((rd_T62 l0 a1).f0), .int .i64 ((rd_T62 l0 a1).f1), .string ((rd_T62 l0 a1).f2), .slice none 0 0]) ?_ 3 _ rfl; refine pl ?_; refine blk_put (cs := #[.int .i64 ((rd_T62 l0 a1).f0), .int .i64 ((rd_T62 l0 a1).f1), .string (⟨#[]⟩ : ByteArray), .slice none 0 0]) ?_ 2 _ rfl; refine pl ?_; refine blk_put (cs := #[.int .i64 ((rd_T62 l0 a1).f0), .int .i64 0, .string (⟨#[]⟩ : ByteArray), .slice none 0 0]) ?_ 1 _ rfl; refine pl ?_; refine blk_put (cs := #[.int .i64 0, .int .i64 0, .string (⟨#[]⟩ : ByteArray), .slice none 0 0]) ?_ 0 _ rfl; exact bx BK287.out) hb); replace HB := As.mk (below_step (be w) hb); (try clear hb)))
  go_ret
  exact ⟨ez, be w⟩
 rw [if_neg c54] at H
 have c54b0 : (((rd_T62 l0 a1).f0) == 19) = false := beq_eq_false_iff_ne.mpr c54
 have c54b1 : (((rd_T62 l0 a1).f0) != 19) = true := bne_iff_ne.mpr c54
 by_cases c63 : ((rd_T62 l0 a1).f0) = 16
 rotate_left
 ·
  rw [if_neg c63] at H
  have c63b0 : (((rd_T62 l0 a1).f0) == 16) = false := beq_eq_false_iff_ne.mpr c63
  have c63b1 : (((rd_T62 l0 a1).f0) != 16) = true := bne_iff_ne.mpr c63
  have c86 := i1 H; replace H := i2 H
  have c86b0 := eq_true c86
  have c86b1 := decide_eq_true c86
  try have c86b2 := eq_false (Nat.not_lt.2 c86)
  have c87 := i1 H; replace H := i2 H
  have c87b0 := decide_eq_true c87
  have c87b1 : decide (0 < ((rd_T62 l0 a1).f3).length) = true := decide_eq_true (by omega)
  clear c87
  obtain ⟨t306, A880, H⟩ := Option.bind_eq_some_iff.mp H
  try dsimp only at H
  have A88 := As.mk A880
  clear A880
  have c89 := i1 H; replace H := i2 H
  have c89b0 := eq_true c89
  have c89b1 := decide_eq_true c89
  try have c89b2 := eq_false (Nat.not_lt.2 c89)
  try have c89b4 : (9223372036854775807 < t288.size + 6 + t306.size) = False := eq_false (Nat.not_lt.2 (by have h_ := c89; simp only [ByteArray.size_append] at h_; exact h_))
  have c90 := i1 H; replace H := i2 H
  have c90b0 := eq_true c90
  have c90b1 := decide_eq_true c90
  try have c90b2 := eq_false (Nat.not_lt.2 c90)
  try have c90b4 : (9223372036854775807 < t288.size + 6 + t306.size + 3) = False := eq_false (Nat.not_lt.2 (by have h_ := c90; simp only [ByteArray.size_append] at h_; exact h_))
  have c91 := i1 H; replace H := i2 H
  have c91b0 := decide_eq_true c91
  have c91b1 : decide (1 < ((rd_T62 l0 a1).f3).length) = true := decide_eq_true (by omega)
  clear c91
  obtain ⟨t308, A920, H⟩ := Option.bind_eq_some_iff.mp H
  try dsimp only at H
  have A92 := As.mk A920
  clear A920
  have c93 := i1 H; replace H := i2 H
  have c93b0 := eq_true c93
  have c93b1 := decide_eq_true c93
  try have c93b2 := eq_false (Nat.not_lt.2 c93)
  try have c93b4 : (9223372036854775807 < t288.size + 6 + t306.size + 3 + t308.size) = False := eq_false (Nat.not_lt.2 (by have h_ := c93; simp only [ByteArray.size_append] at h_; exact h_))
  have c94 := i1 H; replace H := i2 H
  have c94b0 := eq_true c94
  have c94b1 := decide_eq_true c94
  try have c94b2 := eq_false (Nat.not_lt.2 c94)
  try have c94b4 : (9223372036854775807 < t288.size + 6 + t306.size + 3 + t308.size + t288.size) = False := eq_false (Nat.not_lt.2 (by have h_ := c94; simp only [ByteArray.size_append] at h_; exact h_))
  have c95 := i1 H; replace H := i2 H
  have c95b0 := eq_true c95
  have c95b1 := decide_eq_true c95
  try have c95b2 := eq_false (Nat.not_lt.2 c95)
  try have c95b4 : (9223372036854775807 < t288.size + 6 + t306.size + 3 + t308.size + t288.size + 2) = False := eq_false (Nat.not_lt.2 (by have h_ := c95; simp only [ByteArray.size_append] at h_; exact h_))
  obtain rfl := Option.some.inj H
  have p286 : 0 ≤ (a1 : Int) := od
  have q286 : a1 < (l0.length : Int) := od
  obtain ⟨ad286, A286_3, c286_3, e286, hx286_0, hx286_1, hx286_2, hx286_3, hl286_3, hi286_3⟩ := at_T62 HR0.out a1 p286 q286
  cases e286
  have HR286_3 := As.mk hi286_3
  have HC286_3 := As.mk hl286_3
  clear hi286_3 hl286_3
  replace p286 := eq_true p286
  replace q286 := eq_true q286
  go_enter Tryz.func45, Tryz.ntmps45
  try go_wp2_with (first | ((with_reducible refine gate_dst (N := 7) rfl ?_); refine box_event ?hg (N := 7) ?hd (cs := #[.int .i64 0, .int .i64 0, .string (⟨#[]⟩ : ByteArray), .slice none 0 0]) (t := 62) ?hr ?_; (case hd => rfl); (case hg => rfl); (case hr => first | (go_simp; done) | (go_simp; rfl)); intro gb287 hg w96 hbox hb; have BK287 := As.mk (hbox); have GW287 := As.mk (gs w hg); replace HB := As.mk (below_step (be w) hb); clear hb hbox hg; obtain ⟨hcz97_0, hcz97_1, hcz97_2, hcz97_3, hfz97_0, hfz97_1, hfz97_2, hfz97_3⟩ := cl4 BK287.out) | ((with_reducible refine gate_callee (f := 72) rfl ?_); refine goesL_ (some 14) rfl rfl Tryz.func72 (by kernel_rfl) rfl #[.int .i64 a2] rfl gl ?_; (with_reducible refine (spec_l06In.calls k a2 t288 _ A6.out).mono ?_); rintro e w' ⟨rfl, ⟨nd, rfl⟩⟩; refine ⟨_, rfl, ?_⟩))
  have n0_ : As (((((w96.setCell ⟨gb287, 0, none⟩ (.int .i64 ((rd_T62 l0 a1).f0))).setCell ⟨gb287, 1, none⟩ (.int .i64 ((rd_T62 l0 a1).f1))).setCell ⟨gb287, 2, none⟩ (.string ((rd_T62 l0 a1).f2))).setCell ⟨gb287, 3, none⟩ (.slice A286_3 ((rd_T62 l0 a1).f3).length c286_3)).heap[gb287]? = some (.cells #[.int .i64 ((rd_T62 l0 a1).f0), .int .i64 ((rd_T62 l0 a1).f1), .string ((rd_T62 l0 a1).f2), .slice A286_3 ((rd_T62 l0 a1).f3).length c286_3] 62 (0, 0))) := ⟨by refine pl ?_; refine blk_put (cs := #[.int .i64 ((rd_T62 l0 a1).f0), .int .i64 ((rd_T62 l0 a1).f1), .string ((rd_T62 l0 a1).f2), .slice none 0 0]) ?_ 3 _ rfl; refine pl ?_; refine blk_put (cs := #[.int .i64 ((rd_T62 l0 a1).f0), .int .i64 ((rd_T62 l0 a1).f1), .string (⟨#[]⟩ : ByteArray), .slice none 0 0]) ?_ 2 _ rfl; refine pl ?_; refine blk_put (cs := #[.int .i64 ((rd_T62 l0 a1).f0), .int .i64 0, .string (⟨#[]⟩ : ByteArray), .slice none 0 0]) ?_ 1 _ rfl; refine pl ?_; refine blk_put (cs := #[.int .i64 0, .int .i64 0, .string (⟨#[]⟩ : ByteArray), .slice none 0 0]) ?_ 0 _ rfl; exact bx BK287.out⟩
  have n1_ : As (Below w.heap.size w ((((w96.setCell ⟨gb287, 0, none⟩ (.int .i64 ((rd_T62 l0 a1).f0))).setCell ⟨gb287, 1, none⟩ (.int .i64 ((rd_T62 l0 a1).f1))).setCell ⟨gb287, 2, none⟩ (.string ((rd_T62 l0 a1).f2))).setCell ⟨gb287, 3, none⟩ (.slice A286_3 ((rd_T62 l0 a1).f3).length c286_3))) := ⟨be w⟩
  (try clear BK287)
  (try clear HB)
  generalize ((((w96.setCell ⟨gb287, 0, none⟩ (.int .i64 ((rd_T62 l0 a1).f0))).setCell ⟨gb287, 1, none⟩ (.int .i64 ((rd_T62 l0 a1).f1))).setCell ⟨gb287, 2, none⟩ (.string ((rd_T62 l0 a1).f2))).setCell ⟨gb287, 3, none⟩ (.slice A286_3 ((rd_T62 l0 a1).f3).length c286_3)) = w98 at n0_ n1_ ⊢
  have BK287 := n0_
  have HB := n1_
  clear n0_ n1_
  (try (rw [drewN_self w98]; generalize hq_ : World.drewN w98 _ = w98; have n0_ : As (w98.heap[gb287]? = some (.cells #[.int .i64 ((rd_T62 l0 a1).f0), .int .i64 ((rd_T62 l0 a1).f1), .string ((rd_T62 l0 a1).f2), .slice A286_3 ((rd_T62 l0 a1).f3).length c286_3] 62 (0, 0))) := ⟨by rw [← hq_]; exact (bx BK287.out)⟩; have n1_ : As (Below w.heap.size w w98) := ⟨by rw [← hq_]; exact (be w)⟩; clear BK287 HB hq_; have BK287 := n0_; have HB := n1_; clear n0_ n1_))
  replace BK287 := As.mk (blk_drew BK287.out)
  replace HB := As.mk (below_drew1 HB.out)
  have p305 : 0 ≤ (0 : Int) := (by omega)
  have q305 : 0 < (((rd_T62 l0 a1).f3).length : Int) := od
  obtain ⟨ad305, e305, hx305_0⟩ := Kd.at_int HR286_3.out 0 p305 q305
  have hw305_0 := hx305_0
  (try rw [show ((0 : Int)).toNat = 0 from rfl] at hw305_0)
  (try rw [show 0 * 1 = 0 from rfl] at hw305_0)
  (try rw [Addr.add_zero'] at hw305_0)
  cases e305
  have qi305 : (0 < ((rd_T62 l0 a1).f3).length) = True := eq_true (by omega)
  (try rw [show ((0 : Int)).toNat = 0 from rfl] at hx305_0)
  (try rw [Addr.add_zero'] at hx305_0)
  replace hx305_0 := ce HB.out hx305_0
  replace p305 := eq_true p305
  replace q305 := eq_true q305
  have p307 : 0 ≤ (1 : Int) := (by omega)
  have q307 : 1 < (((rd_T62 l0 a1).f3).length : Int) := od
  obtain ⟨ad307, e307, hx307_0⟩ := Kd.at_int HR286_3.out 1 p307 q307
  have hw307_0 := hx307_0
  (try rw [show ((1 : Int)).toNat = 1 from rfl] at hw307_0)
  (try rw [show 1 * 1 = 1 from rfl] at hw307_0)
  (try simp only [Nat.reduceMul, Nat.reduceEqDiff, Go.Addr.add, ↓reduceIte] at hw307_0)
  obtain rfl : ad305 = ad307 := (by injection e307)
  (try simp only [show (1 : Int).toNat = 1 from rfl, Nat.reduceMul, Nat.reduceEqDiff, Go.Addr.add, ↓reduceIte] at hx307_0)
  have qi307 : (1 < ((rd_T62 l0 a1).f3).length) = True := eq_true (by omega)
  (try rw [show ((1 : Int)).toNat = 1 from rfl] at hx307_0)
  replace hx307_0 := ce HB.out hx307_0
  replace p307 := eq_true p307
  replace q307 := eq_true q307
  refine start_ (n := 23) (S := fun w' => w'.cell? ⟨gb287, 0, none⟩ = some (.int .i64 ((rd_T62 l0 a1).f0)) ∧ w'.cell? ⟨gb287, 1, none⟩ = some (.int .i64 ((rd_T62 l0 a1).f1)) ∧ w'.cell? ⟨gb287, 2, none⟩ = some (.string ((rd_T62 l0 a1).f2)) ∧ w'.cell? ⟨gb287, 3, none⟩ = some (.slice (some ad305) ((rd_T62 l0 a1).f3).length c286_3) ∧ w'.cell? ad305 = some (.int .i64 (rd ((rd_T62 l0 a1).f3) 0)) ∧ w'.cell? ⟨ad305.block, ad305.off + 1, none⟩ = some (.int .i64 (rd ((rd_T62 l0 a1).f3) 1))) (ds := []) #[O,O,O,O,O,O,O,O,O,O,O,O,O,O,O,O,O,O,O,O,O,O,O] (by kernel_rfl) rfl rfl ⟨(blk_cell BK287.out 0).trans rfl, (blk_cell BK287.out 1).trans rfl, (blk_cell BK287.out 2).trans rfl, (blk_cell BK287.out 3).trans rfl, (ce HB.out hw305_0 :), (ce HB.out hw307_0 :)⟩ (fun hHeld => ?_); refine with_tabW spec_l06Step.tab16 spec_l06Step.bits16 (fun HT_ HW_ => ?_)
  generalize w98.drew = w99 at BK287 HB hx305_0 hx307_0 hHeld ⊢
  refine pq 0 124 #[I,O,O,O,O,O,O,O,O,O,O,O,O,O,O,O,O,O,O,O,O,O,O] HT_.out rfl rfl ?_ (fun _ _ _ h => h) ?_ ?_ ?_ ?_
  rotate_left; · intro w'; go_simp; with_reducible rfl
  rotate_left; · simp only [pk, i64_w, i32_w]; rfl
  refine pq 1 125 #[I,I,O,O,O,O,O,O,O,O,O,O,O,O,O,O,O,O,O,O,O,O,O] HT_.out rfl rfl ?_ (fun _ _ _ h => h) ?_ ?_ ?_ ?_
  rotate_left; · intro w'; go_simp; with_reducible rfl
  rotate_left; · simp only [pk, i64_w, i32_w]; rfl
  refine pq 2 126 #[I,I,I,O,O,O,O,O,O,O,O,O,O,O,O,O,O,O,O,O,O,O,O] HT_.out rfl rfl ?_ (fun _ _ _ h => h) ?_ ?_ ?_ ?_
  rotate_left; · intro w'; go_simp; with_reducible rfl
  rotate_left; · simp only [pk, i64_w, i32_w]; rfl
  refine pq 3 127 #[I,I,I,I,O,O,O,O,O,O,O,O,O,O,O,O,O,O,O,O,O,O,O] HT_.out rfl rfl ?_ (fun _ _ _ h => h) ?_ ?_ ?_ ?_
  rotate_left; · intro w'; go_simp; with_reducible rfl
  rotate_left; · simp only [pk, i64_w, i32_w]; rfl
  refine pq 10 134 #[I,I,I,I,O,O,O,O,O,O,I,O,O,O,O,O,O,O,O,O,O,O,O] HT_.out rfl rfl ?_ (fun _ _ _ h => h) ?_ ?_ ?_ ?_
  rotate_left; · intro w'; go_simp; with_reducible rfl
  rotate_left; · simp only [pk, i64_w, i32_w]; rfl
  refine pq 11 135 #[I,I,I,I,O,O,O,O,O,O,I,I,O,O,O,O,O,O,O,O,O,O,O] HT_.out rfl rfl ?_ (fun _ _ _ h => h) ?_ ?_ ?_ ?_
  rotate_left; · intro w'; go_simp; with_reducible rfl
  rotate_left; · simp only [pk, i64_w, i32_w]; rfl
  refine pq 15 139 #[I,I,I,I,O,O,O,O,O,O,I,I,O,O,O,I,O,O,O,O,O,O,O] HT_.out rfl rfl ?_ (fun _ _ _ h => h) ?_ ?_ ?_ ?_
  rotate_left; · intro w'; go_simp; with_reducible rfl
  rotate_left; · simp only [pk, i64_w, i32_w]; rfl
  refine pq 16 140 #[I,I,I,I,O,O,O,O,O,O,I,I,O,O,O,I,I,O,O,O,O,O,O] HT_.out rfl rfl ?_ (fun _ _ _ h => h) ?_ ?_ ?_ ?_
  rotate_left; · intro w'; go_simp; with_reducible rfl
  rotate_left; · simp only [pk, i64_w, i32_w]; rfl
  refine pq 19 143 #[I,I,I,I,O,O,O,O,O,O,I,I,O,O,O,I,I,O,O,I,O,O,O] HT_.out rfl rfl ?_ (fun _ _ _ h => h) ?_ ?_ ?_ ?_
  rotate_left; · intro w'; go_simp; with_reducible rfl
  rotate_left; · simp only [pk, i64_w, i32_w]; rfl
  refine tq 4 128 #[I,I,I,I,I,O,O,O,O,O,I,I,O,O,O,I,I,O,O,I,O,O,O] HT_.out HW_.out rfl rfl ?_ (fun _ _ _ h => h) ?_ hHeld ?_ ?_ ?_
  rotate_left; · rintro w' ⟨s0, s1, s2, s3, s4, s5⟩; go_simp; with_reducible rfl
  rotate_left; · simp only [pk, i64_w, i32_w]; rfl
  refine pq 5 129 #[I,I,I,I,I,I,O,O,O,O,I,I,O,O,O,I,I,O,O,I,O,O,O] HT_.out rfl rfl ?_ (fun _ _ _ h => h) ?_ ?_ ?_ ?_
  rotate_left; · intro w'; go_simp; with_reducible rfl
  rotate_left; · simp only [pk, i64_w, i32_w]; rfl
  refine tq 6 130 #[I,I,I,I,I,I,I,O,O,O,I,I,O,O,O,I,I,O,O,I,O,O,O] HT_.out HW_.out rfl rfl ?_ (fun _ _ _ h => h) ?_ hHeld ?_ ?_ ?_
  rotate_left; · rintro w' ⟨s0, s1, s2, s3, s4, s5⟩; go_simp; with_reducible rfl
  rotate_left; · simp only [pk, i64_w, i32_w]; rfl
  refine tq 12 136 #[I,I,I,I,I,I,I,O,O,O,I,I,I,O,O,I,I,O,O,I,O,O,O] HT_.out HW_.out rfl rfl ?_ (fun _ _ _ h => h) ?_ hHeld ?_ ?_ ?_
  rotate_left; · rintro w' ⟨s0, s1, s2, s3, s4, s5⟩; go_simp; with_reducible rfl
  rotate_left; · simp only [pk, i64_w, i32_w]; rfl
  refine pq 13 137 #[I,I,I,I,I,I,I,O,O,O,I,I,I,I,O,I,I,O,O,I,O,O,O] HT_.out rfl rfl ?_ (fun _ _ _ h => h) ?_ ?_ ?_ ?_
  rotate_left; · intro w'; go_simp; with_reducible rfl
  rotate_left; · simp only [pk, i64_w, i32_w]; rfl
  refine tq 14 138 #[I,I,I,I,I,I,I,O,O,O,I,I,I,I,I,I,I,O,O,I,O,O,O] HT_.out HW_.out rfl rfl ?_ (fun _ _ _ h => h) ?_ hHeld ?_ ?_ ?_
  rotate_left; · rintro w' ⟨s0, s1, s2, s3, s4, s5⟩; go_simp; with_reducible rfl
  rotate_left; · simp only [pk, i64_w, i32_w]; rfl
  refine one_ (i := 7) (N := some 131) #[I,I,I,I,I,I,I,I,O,O,I,I,I,I,I,I,I,O,O,I,O,O,O] rfl rfl (one_of HT_.out (by kernel_rfl)) (by decide) (fun K hK => ?_)
  refine goes_ Tryz.func52 (by kernel_rfl) rfl #[.slice (some ad286) l0.length c0, .int .i64 (rd ((rd_T62 l0 a1).f3) 0)] (by rfl) rfl rfl gl ?_
  with_reducible refine (spec_l06Value.calls k _ _ l0 (rd ((rd_T62 l0 a1).f3) 0) t306 _ ?side1 ?side2 A88.out).mono ?_
  (case side1 => exact Kd.C_below HR0.out (be w))
  (case side2 => exact HC0.out)
  rintro e w100 ⟨rfl, hb⟩
  refine ⟨_, rfl, ?_⟩
  replace BK287 := As.mk (blk_below (bx BK287.out) hb)
  replace HB := As.mk (below_step (be w) hb)
  (try clear hb)
  (try clear hb2)
  (try clear hk)
  (try clear hi)
  refine hK.out _ _ ⟨(blk_cell BK287.out 0).trans rfl, (blk_cell BK287.out 1).trans rfl, (blk_cell BK287.out 2).trans rfl, (blk_cell BK287.out 3).trans rfl, (ce HB.out hw305_0 :), (ce HB.out hw307_0 :)⟩ (fun hHeld => ?_)
  clear hK K
  refine norm_ (a' := ?_) ?_ ?_
  rotate_left
  ·
   show Act.put _ (some 131) _ = _
   simp only [pk, i64_w, i32_w]
   rfl
  refine pq 8 132 #[I,I,I,I,I,I,I,I,I,O,I,I,I,I,I,I,I,O,O,I,O,O,O] HT_.out rfl rfl ?_ (fun _ _ _ h => h) ?_ ?_ ?_ ?_
  rotate_left; · intro w'; go_simp; with_reducible rfl
  rotate_left; · simp only [pk, i64_w, i32_w]; rfl
  refine pq 9 133 #[I,I,I,I,I,I,I,I,I,I,I,I,I,I,I,I,I,O,O,I,O,O,O] HT_.out rfl rfl ?_ (fun _ _ _ h => h) ?_ ?_ ?_ ?_
  rotate_left; · intro w'; go_simp; with_reducible rfl
  rotate_left; · simp only [pk, i64_w, i32_w]; rfl
  refine one_ (i := 17) (N := some 141) #[I,I,I,I,I,I,I,I,I,I,I,I,I,I,I,I,I,I,O,I,O,O,O] rfl rfl (one_of HT_.out (by kernel_rfl)) (by decide) (fun K hK => ?_)
  refine goes_ Tryz.func51 (by kernel_rfl) rfl #[.slice (some ad286) l0.length c0, .int .i64 (rd ((rd_T62 l0 a1).f3) 1), .int .i64 (wrap64 (a2 + 1))] (by rfl) rfl rfl gl ?_
  with_reducible refine (ih_spec_l06Block k (by omega) _ _ l0 (rd ((rd_T62 l0 a1).f3) 1) (wrap64 (a2 + 1)) t308 _ ?side1 ?side2 A92.out).mono ?_
  (case side1 => exact Kd.C_below HR0.out (be w))
  (case side2 => exact HC0.out)
  rintro e w101 ⟨rfl, hb⟩
  refine ⟨_, rfl, ?_⟩
  replace BK287 := As.mk (blk_below (bx BK287.out) hb)
  replace HB := As.mk (below_step (be w) hb)
  (try clear hb)
  (try clear hb2)
  (try clear hk)
  (try clear hi)
  refine hK.out _ _ ⟨(blk_cell BK287.out 0).trans rfl, (blk_cell BK287.out 1).trans rfl, (blk_cell BK287.out 2).trans rfl, (blk_cell BK287.out 3).trans rfl, (ce HB.out hw305_0 :), (ce HB.out hw307_0 :)⟩ (fun hHeld => ?_)
  clear hK K
  refine norm_ (a' := ?_) ?_ ?_
  rotate_left
  ·
   show Act.put _ (some 141) _ = _
   simp only [pk, i64_w, i32_w]
   rfl
  refine pq 18 142 #[I,I,I,I,I,I,I,I,I,I,I,I,I,I,I,I,I,I,I,I,O,O,O] HT_.out rfl rfl ?_ (fun _ _ _ h => h) ?_ ?_ ?_ ?_
  rotate_left; · intro w'; go_simp; with_reducible rfl
  rotate_left; · simp only [pk, i64_w, i32_w]; rfl
  refine pq 20 144 #[I,I,I,I,I,I,I,I,I,I,I,I,I,I,I,I,I,I,I,I,I,O,O] HT_.out rfl rfl ?_ (fun _ _ _ h => h) ?_ ?_ ?_ ?_
  rotate_left; · intro w'; go_simp; with_reducible rfl
  rotate_left; · simp only [pk, i64_w, i32_w]; rfl
  refine pq 21 145 #[I,I,I,I,I,I,I,I,I,I,I,I,I,I,I,I,I,I,I,I,I,I,O] HT_.out rfl rfl ?_ (fun _ _ _ h => h) ?_ ?_ ?_ ?_
  rotate_left; · intro w'; go_simp; with_reducible rfl
  rotate_left; · simp only [pk, i64_w, i32_w]; rfl
  refine pq 22 6 #[I,I,I,I,I,I,I,I,I,I,I,I,I,I,I,I,I,I,I,I,I,I,I] HT_.out rfl rfl ?_ (fun _ _ _ h => h) ?_ ?_ ?_ ?_
  rotate_left; · intro w'; go_simp; with_reducible rfl
  rotate_left; · simp only [pk, i64_w, i32_w]; rfl
  refine done_ (done_of HT_.out (by kernel_rfl)) ?_
  try go_wp2
  go_ret
  exact ⟨ez, be w⟩
 rw [if_pos c63] at H
 have c63b0 : (((rd_T62 l0 a1).f0) == 16) = true := beq_iff_eq.mpr c63
 have c63b1 : (((rd_T62 l0 a1).f0) != 16) = false := bne_eq_false_iff_eq.mpr c63
 clear c63
 have c64 := i1 H; replace H := i2 H
 have c64b0 := eq_true c64
 have c64b1 := decide_eq_true c64
 try have c64b2 := eq_false (Nat.not_lt.2 c64)
 have c65 := i1 H; replace H := i2 H
 have c65b0 := decide_eq_true c65
 have c65b1 : decide (0 < ((rd_T62 l0 a1).f3).length) = true := decide_eq_true (by omega)
 clear c65
 obtain ⟨t300, A660, H⟩ := Option.bind_eq_some_iff.mp H
 try dsimp only at H
 have A66 := As.mk A660
 clear A660
 have c67 := i1 H; replace H := i2 H
 have c67b0 := eq_true c67
 have c67b1 := decide_eq_true c67
 try have c67b2 := eq_false (Nat.not_lt.2 c67)
 try have c67b4 : (9223372036854775807 < t288.size + 3 + t300.size) = False := eq_false (Nat.not_lt.2 (by have h_ := c67; simp only [ByteArray.size_append] at h_; exact h_))
 have c68 := i1 H; replace H := i2 H
 have c68b0 := eq_true c68
 have c68b1 := decide_eq_true c68
 try have c68b2 := eq_false (Nat.not_lt.2 c68)
 try have c68b4 : (9223372036854775807 < t288.size + 3 + t300.size + 3) = False := eq_false (Nat.not_lt.2 (by have h_ := c68; simp only [ByteArray.size_append] at h_; exact h_))
 have c69 := i1 H; replace H := i2 H
 have c69b0 := decide_eq_true c69
 have c69b1 : decide (1 < ((rd_T62 l0 a1).f3).length) = true := decide_eq_true (by omega)
 clear c69
 obtain ⟨t302, A700, H⟩ := Option.bind_eq_some_iff.mp H
 try dsimp only at H
 have A70 := As.mk A700
 clear A700
 have c71 := i1 H; replace H := i2 H
 have c71b0 := eq_true c71
 have c71b1 := decide_eq_true c71
 try have c71b2 := eq_false (Nat.not_lt.2 c71)
 try have c71b4 : (9223372036854775807 < t288.size + 3 + t300.size + 3 + t302.size) = False := eq_false (Nat.not_lt.2 (by have h_ := c71; simp only [ByteArray.size_append] at h_; exact h_))
 have c72 := i1 H; replace H := i2 H
 have c72b0 := eq_true c72
 have c72b1 := decide_eq_true c72
 try have c72b2 := eq_false (Nat.not_lt.2 c72)
 try have c72b4 : (9223372036854775807 < t288.size + 3 + t300.size + 3 + t302.size + t288.size) = False := eq_false (Nat.not_lt.2 (by have h_ := c72; simp only [ByteArray.size_append] at h_; exact h_))
 have c73 := i1 H; replace H := i2 H
 have c73b0 := eq_true c73
 have c73b1 := decide_eq_true c73
 try have c73b2 := eq_false (Nat.not_lt.2 c73)
 try have c73b4 : (9223372036854775807 < t288.size + 3 + t300.size + 3 + t302.size + t288.size + 9) = False := eq_false (Nat.not_lt.2 (by have h_ := c73; simp only [ByteArray.size_append] at h_; exact h_))
 have c74 := i1 H; replace H := i2 H
 have c74b0 := decide_eq_true c74
 have c74b1 : decide (2 < ((rd_T62 l0 a1).f3).length) = true := decide_eq_true (by omega)
 clear c74
 obtain ⟨t304, A750, H⟩ := Option.bind_eq_some_iff.mp H
 try dsimp only at H
 have A75 := As.mk A750
 clear A750
 have c76 := i1 H; replace H := i2 H
 have c76b0 := eq_true c76
 have c76b1 := decide_eq_true c76
 try have c76b2 := eq_false (Nat.not_lt.2 c76)
 try have c76b4 : (9223372036854775807 < t288.size + 3 + t300.size + 3 + t302.size + t288.size + 9 + t304.size) = False := eq_false (Nat.not_lt.2 (by have h_ := c76; simp only [ByteArray.size_append] at h_; exact h_))
 have c77 := i1 H; replace H := i2 H
 have c77b0 := eq_true c77
 have c77b1 := decide_eq_true c77
 try have c77b2 := eq_false (Nat.not_lt.2 c77)
 try have c77b4 : (9223372036854775807 < t288.size + 3 + t300.size + 3 + t302.size + t288.size + 9 + t304.size + t288.size) = False := eq_false (Nat.not_lt.2 (by have h_ := c77; simp only [ByteArray.size_append] at h_; exact h_))
 have c78 := i1 H; replace H := i2 H
 have c78b0 := eq_true c78
 have c78b1 := decide_eq_true c78
 try have c78b2 := eq_false (Nat.not_lt.2 c78)
 try have c78b4 : (9223372036854775807 < t288.size + 3 + t300.size + 3 + t302.size + t288.size + 9 + t304.size + t288.size + 2) = False := eq_false (Nat.not_lt.2 (by have h_ := c78; simp only [ByteArray.size_append] at h_; exact h_))
 obtain rfl := Option.some.inj H
 have p286 : 0 ≤ (a1 : Int) := od
 have q286 : a1 < (l0.length : Int) := od
 obtain ⟨ad286, A286_3, c286_3, e286, hx286_0, hx286_1, hx286_2, hx286_3, hl286_3, hi286_3⟩ := at_T62 HR0.out a1 p286 q286
 cases e286
 have HR286_3 := As.mk hi286_3
 have HC286_3 := As.mk hl286_3
 clear hi286_3 hl286_3
 replace p286 := eq_true p286
 replace q286 := eq_true q286
 go_enter Tryz.func45, Tryz.ntmps45
 try go_wp2_with (first | ((with_reducible refine gate_dst (N := 7) rfl ?_); refine box_event ?hg (N := 7) ?hd (cs := #[.int .i64 0, .int .i64 0, .string (⟨#[]⟩ : ByteArray), .slice none 0 0]) (t := 62) ?hr ?_; (case hd => rfl); (case hg => rfl); (case hr => first | (go_simp; done) | (go_simp; rfl)); intro gb287 hg w79 hbox hb; have BK287 := As.mk (hbox); have GW287 := As.mk (gs w hg); replace HB := As.mk (below_step (be w) hb); clear hb hbox hg; obtain ⟨hcz80_0, hcz80_1, hcz80_2, hcz80_3, hfz80_0, hfz80_1, hfz80_2, hfz80_3⟩ := cl4 BK287.out) | ((with_reducible refine gate_callee (f := 72) rfl ?_); refine goesL_ (some 14) rfl rfl Tryz.func72 (by kernel_rfl) rfl #[.int .i64 a2] rfl gl ?_; (with_reducible refine (spec_l06In.calls k a2 t288 _ A6.out).mono ?_); rintro e w' ⟨rfl, ⟨nd, rfl⟩⟩; refine ⟨_, rfl, ?_⟩))
 have n0_ : As (((((w79.setCell ⟨gb287, 0, none⟩ (.int .i64 ((rd_T62 l0 a1).f0))).setCell ⟨gb287, 1, none⟩ (.int .i64 ((rd_T62 l0 a1).f1))).setCell ⟨gb287, 2, none⟩ (.string ((rd_T62 l0 a1).f2))).setCell ⟨gb287, 3, none⟩ (.slice A286_3 ((rd_T62 l0 a1).f3).length c286_3)).heap[gb287]? = some (.cells #[.int .i64 ((rd_T62 l0 a1).f0), .int .i64 ((rd_T62 l0 a1).f1), .string ((rd_T62 l0 a1).f2), .slice A286_3 ((rd_T62 l0 a1).f3).length c286_3] 62 (0, 0))) := ⟨by refine pl ?_; refine blk_put (cs := #[.int .i64 ((rd_T62 l0 a1).f0), .int .i64 ((rd_T62 l0 a1).f1), .string ((rd_T62 l0 a1).f2), .slice none 0 0]) ?_ 3 _ rfl; refine pl ?_; refine blk_put (cs := #[.int .i64 ((rd_T62 l0 a1).f0), .int .i64 ((rd_T62 l0 a1).f1), .string (⟨#[]⟩ : ByteArray), .slice none 0 0]) ?_ 2 _ rfl; refine pl ?_; refine blk_put (cs := #[.int .i64 ((rd_T62 l0 a1).f0), .int .i64 0, .string (⟨#[]⟩ : ByteArray), .slice none 0 0]) ?_ 1 _ rfl; refine pl ?_; refine blk_put (cs := #[.int .i64 0, .int .i64 0, .string (⟨#[]⟩ : ByteArray), .slice none 0 0]) ?_ 0 _ rfl; exact bx BK287.out⟩
 have n1_ : As (Below w.heap.size w ((((w79.setCell ⟨gb287, 0, none⟩ (.int .i64 ((rd_T62 l0 a1).f0))).setCell ⟨gb287, 1, none⟩ (.int .i64 ((rd_T62 l0 a1).f1))).setCell ⟨gb287, 2, none⟩ (.string ((rd_T62 l0 a1).f2))).setCell ⟨gb287, 3, none⟩ (.slice A286_3 ((rd_T62 l0 a1).f3).length c286_3))) := ⟨be w⟩
 (try clear BK287)
 (try clear HB)
 generalize ((((w79.setCell ⟨gb287, 0, none⟩ (.int .i64 ((rd_T62 l0 a1).f0))).setCell ⟨gb287, 1, none⟩ (.int .i64 ((rd_T62 l0 a1).f1))).setCell ⟨gb287, 2, none⟩ (.string ((rd_T62 l0 a1).f2))).setCell ⟨gb287, 3, none⟩ (.slice A286_3 ((rd_T62 l0 a1).f3).length c286_3)) = w81 at n0_ n1_ ⊢
 have BK287 := n0_
 have HB := n1_
 clear n0_ n1_
 (try (rw [drewN_self w81]; generalize hq_ : World.drewN w81 _ = w81; have n0_ : As (w81.heap[gb287]? = some (.cells #[.int .i64 ((rd_T62 l0 a1).f0), .int .i64 ((rd_T62 l0 a1).f1), .string ((rd_T62 l0 a1).f2), .slice A286_3 ((rd_T62 l0 a1).f3).length c286_3] 62 (0, 0))) := ⟨by rw [← hq_]; exact (bx BK287.out)⟩; have n1_ : As (Below w.heap.size w w81) := ⟨by rw [← hq_]; exact (be w)⟩; clear BK287 HB hq_; have BK287 := n0_; have HB := n1_; clear n0_ n1_))
 replace BK287 := As.mk (blk_drew BK287.out)
 replace HB := As.mk (below_drew1 HB.out)
 have p299 : 0 ≤ (0 : Int) := (by omega)
 have q299 : 0 < (((rd_T62 l0 a1).f3).length : Int) := od
 obtain ⟨ad299, e299, hx299_0⟩ := Kd.at_int HR286_3.out 0 p299 q299
 have hw299_0 := hx299_0
 (try rw [show ((0 : Int)).toNat = 0 from rfl] at hw299_0)
 (try rw [show 0 * 1 = 0 from rfl] at hw299_0)
 (try rw [Addr.add_zero'] at hw299_0)
 cases e299
 have qi299 : (0 < ((rd_T62 l0 a1).f3).length) = True := eq_true (by omega)
 (try rw [show ((0 : Int)).toNat = 0 from rfl] at hx299_0)
 (try rw [Addr.add_zero'] at hx299_0)
 replace hx299_0 := ce HB.out hx299_0
 replace p299 := eq_true p299
 replace q299 := eq_true q299
 have p301 : 0 ≤ (1 : Int) := (by omega)
 have q301 : 1 < (((rd_T62 l0 a1).f3).length : Int) := od
 obtain ⟨ad301, e301, hx301_0⟩ := Kd.at_int HR286_3.out 1 p301 q301
 have hw301_0 := hx301_0
 (try rw [show ((1 : Int)).toNat = 1 from rfl] at hw301_0)
 (try rw [show 1 * 1 = 1 from rfl] at hw301_0)
 (try simp only [Nat.reduceMul, Nat.reduceEqDiff, Go.Addr.add, ↓reduceIte] at hw301_0)
 obtain rfl : ad299 = ad301 := (by injection e301)
 (try simp only [show (1 : Int).toNat = 1 from rfl, Nat.reduceMul, Nat.reduceEqDiff, Go.Addr.add, ↓reduceIte] at hx301_0)
 have qi301 : (1 < ((rd_T62 l0 a1).f3).length) = True := eq_true (by omega)
 (try rw [show ((1 : Int)).toNat = 1 from rfl] at hx301_0)
 replace hx301_0 := ce HB.out hx301_0
 replace p301 := eq_true p301
 replace q301 := eq_true q301
 have p303 : 0 ≤ (2 : Int) := (by omega)
 have q303 : 2 < (((rd_T62 l0 a1).f3).length : Int) := od
 obtain ⟨ad303, e303, hx303_0⟩ := Kd.at_int HR286_3.out 2 p303 q303
 have hw303_0 := hx303_0
 (try rw [show ((2 : Int)).toNat = 2 from rfl] at hw303_0)
 (try rw [show 2 * 1 = 2 from rfl] at hw303_0)
 (try simp only [Nat.reduceMul, Nat.reduceEqDiff, Go.Addr.add, ↓reduceIte] at hw303_0)
 obtain rfl : ad299 = ad303 := (by injection e303)
 (try simp only [show (2 : Int).toNat = 2 from rfl, Nat.reduceMul, Nat.reduceEqDiff, Go.Addr.add, ↓reduceIte] at hx303_0)
 have qi303 : (2 < ((rd_T62 l0 a1).f3).length) = True := eq_true (by omega)
 (try rw [show ((2 : Int)).toNat = 2 from rfl] at hx303_0)
 replace hx303_0 := ce HB.out hx303_0
 replace p303 := eq_true p303
 replace q303 := eq_true q303
 refine start_ (n := 35) (S := fun w' => w'.cell? ⟨gb287, 0, none⟩ = some (.int .i64 ((rd_T62 l0 a1).f0)) ∧ w'.cell? ⟨gb287, 1, none⟩ = some (.int .i64 ((rd_T62 l0 a1).f1)) ∧ w'.cell? ⟨gb287, 2, none⟩ = some (.string ((rd_T62 l0 a1).f2)) ∧ w'.cell? ⟨gb287, 3, none⟩ = some (.slice (some ad299) ((rd_T62 l0 a1).f3).length c286_3) ∧ w'.cell? ad299 = some (.int .i64 (rd ((rd_T62 l0 a1).f3) 0)) ∧ w'.cell? ⟨ad299.block, ad299.off + 1, none⟩ = some (.int .i64 (rd ((rd_T62 l0 a1).f3) 1)) ∧ w'.cell? ⟨ad299.block, ad299.off + 2, none⟩ = some (.int .i64 (rd ((rd_T62 l0 a1).f3) 2))) (ds := []) #[O,O,O,O,O,O,O,O,O,O,O,O,O,O,O,O,O,O,O,O,O,O,O,O,O,O,O,O,O,O,O,O,O,O,O] (by kernel_rfl) rfl rfl ⟨(blk_cell BK287.out 0).trans rfl, (blk_cell BK287.out 1).trans rfl, (blk_cell BK287.out 2).trans rfl, (blk_cell BK287.out 3).trans rfl, (ce HB.out hw299_0 :), (ce HB.out hw301_0 :), (ce HB.out hw303_0 :)⟩ (fun hHeld => ?_); refine with_tabW spec_l06Step.tab15 spec_l06Step.bits15 (fun HT_ HW_ => ?_)
 generalize w81.drew = w82 at BK287 HB hx299_0 hx301_0 hx303_0 hHeld ⊢
 refine pq 0 90 #[I,O,O,O,O,O,O,O,O,O,O,O,O,O,O,O,O,O,O,O,O,O,O,O,O,O,O,O,O,O,O,O,O,O,O] HT_.out rfl rfl ?_ (fun _ _ _ h => h) ?_ ?_ ?_ ?_
 rotate_left; · intro w'; go_simp; with_reducible rfl
 rotate_left; · simp only [pk, i64_w, i32_w]; rfl
 refine pq 1 91 #[I,I,O,O,O,O,O,O,O,O,O,O,O,O,O,O,O,O,O,O,O,O,O,O,O,O,O,O,O,O,O,O,O,O,O] HT_.out rfl rfl ?_ (fun _ _ _ h => h) ?_ ?_ ?_ ?_
 rotate_left; · intro w'; go_simp; with_reducible rfl
 rotate_left; · simp only [pk, i64_w, i32_w]; rfl
 refine pq 2 92 #[I,I,I,O,O,O,O,O,O,O,O,O,O,O,O,O,O,O,O,O,O,O,O,O,O,O,O,O,O,O,O,O,O,O,O] HT_.out rfl rfl ?_ (fun _ _ _ h => h) ?_ ?_ ?_ ?_
 rotate_left; · intro w'; go_simp; with_reducible rfl
 rotate_left; · simp only [pk, i64_w, i32_w]; rfl
 refine pq 3 93 #[I,I,I,I,O,O,O,O,O,O,O,O,O,O,O,O,O,O,O,O,O,O,O,O,O,O,O,O,O,O,O,O,O,O,O] HT_.out rfl rfl ?_ (fun _ _ _ h => h) ?_ ?_ ?_ ?_
 rotate_left; · intro w'; go_simp; with_reducible rfl
 rotate_left; · simp only [pk, i64_w, i32_w]; rfl
 refine pq 10 100 #[I,I,I,I,O,O,O,O,O,O,I,O,O,O,O,O,O,O,O,O,O,O,O,O,O,O,O,O,O,O,O,O,O,O,O] HT_.out rfl rfl ?_ (fun _ _ _ h => h) ?_ ?_ ?_ ?_
 rotate_left; · intro w'; go_simp; with_reducible rfl
 rotate_left; · simp only [pk, i64_w, i32_w]; rfl
 refine pq 11 101 #[I,I,I,I,O,O,O,O,O,O,I,I,O,O,O,O,O,O,O,O,O,O,O,O,O,O,O,O,O,O,O,O,O,O,O] HT_.out rfl rfl ?_ (fun _ _ _ h => h) ?_ ?_ ?_ ?_
 rotate_left; · intro w'; go_simp; with_reducible rfl
 rotate_left; · simp only [pk, i64_w, i32_w]; rfl
 refine pq 15 105 #[I,I,I,I,O,O,O,O,O,O,I,I,O,O,O,I,O,O,O,O,O,O,O,O,O,O,O,O,O,O,O,O,O,O,O] HT_.out rfl rfl ?_ (fun _ _ _ h => h) ?_ ?_ ?_ ?_
 rotate_left; · intro w'; go_simp; with_reducible rfl
 rotate_left; · simp only [pk, i64_w, i32_w]; rfl
 refine pq 16 106 #[I,I,I,I,O,O,O,O,O,O,I,I,O,O,O,I,I,O,O,O,O,O,O,O,O,O,O,O,O,O,O,O,O,O,O] HT_.out rfl rfl ?_ (fun _ _ _ h => h) ?_ ?_ ?_ ?_
 rotate_left; · intro w'; go_simp; with_reducible rfl
 rotate_left; · simp only [pk, i64_w, i32_w]; rfl
 refine pq 19 109 #[I,I,I,I,O,O,O,O,O,O,I,I,O,O,O,I,I,O,O,I,O,O,O,O,O,O,O,O,O,O,O,O,O,O,O] HT_.out rfl rfl ?_ (fun _ _ _ h => h) ?_ ?_ ?_ ?_
 rotate_left; · intro w'; go_simp; with_reducible rfl
 rotate_left; · simp only [pk, i64_w, i32_w]; rfl
 refine pq 22 112 #[I,I,I,I,O,O,O,O,O,O,I,I,O,O,O,I,I,O,O,I,O,O,I,O,O,O,O,O,O,O,O,O,O,O,O] HT_.out rfl rfl ?_ (fun _ _ _ h => h) ?_ ?_ ?_ ?_
 rotate_left; · intro w'; go_simp; with_reducible rfl
 rotate_left; · simp only [pk, i64_w, i32_w]; rfl
 refine pq 23 113 #[I,I,I,I,O,O,O,O,O,O,I,I,O,O,O,I,I,O,O,I,O,O,I,I,O,O,O,O,O,O,O,O,O,O,O] HT_.out rfl rfl ?_ (fun _ _ _ h => h) ?_ ?_ ?_ ?_
 rotate_left; · intro w'; go_simp; with_reducible rfl
 rotate_left; · simp only [pk, i64_w, i32_w]; rfl
 refine pq 27 117 #[I,I,I,I,O,O,O,O,O,O,I,I,O,O,O,I,I,O,O,I,O,O,I,I,O,O,O,I,O,O,O,O,O,O,O] HT_.out rfl rfl ?_ (fun _ _ _ h => h) ?_ ?_ ?_ ?_
 rotate_left; · intro w'; go_simp; with_reducible rfl
 rotate_left; · simp only [pk, i64_w, i32_w]; rfl
 refine pq 28 118 #[I,I,I,I,O,O,O,O,O,O,I,I,O,O,O,I,I,O,O,I,O,O,I,I,O,O,O,I,I,O,O,O,O,O,O] HT_.out rfl rfl ?_ (fun _ _ _ h => h) ?_ ?_ ?_ ?_
 rotate_left; · intro w'; go_simp; with_reducible rfl
 rotate_left; · simp only [pk, i64_w, i32_w]; rfl
 refine pq 31 121 #[I,I,I,I,O,O,O,O,O,O,I,I,O,O,O,I,I,O,O,I,O,O,I,I,O,O,O,I,I,O,O,I,O,O,O] HT_.out rfl rfl ?_ (fun _ _ _ h => h) ?_ ?_ ?_ ?_
 rotate_left; · intro w'; go_simp; with_reducible rfl
 rotate_left; · simp only [pk, i64_w, i32_w]; rfl
 refine tq 4 94 #[I,I,I,I,I,O,O,O,O,O,I,I,O,O,O,I,I,O,O,I,O,O,I,I,O,O,O,I,I,O,O,I,O,O,O] HT_.out HW_.out rfl rfl ?_ (fun _ _ _ h => h) ?_ hHeld ?_ ?_ ?_
 rotate_left; · rintro w' ⟨s0, s1, s2, s3, s4, s5, s6⟩; go_simp; with_reducible rfl
 rotate_left; · simp only [pk, i64_w, i32_w]; rfl
 refine pq 5 95 #[I,I,I,I,I,I,O,O,O,O,I,I,O,O,O,I,I,O,O,I,O,O,I,I,O,O,O,I,I,O,O,I,O,O,O] HT_.out rfl rfl ?_ (fun _ _ _ h => h) ?_ ?_ ?_ ?_
 rotate_left; · intro w'; go_simp; with_reducible rfl
 rotate_left; · simp only [pk, i64_w, i32_w]; rfl
 refine tq 6 96 #[I,I,I,I,I,I,I,O,O,O,I,I,O,O,O,I,I,O,O,I,O,O,I,I,O,O,O,I,I,O,O,I,O,O,O] HT_.out HW_.out rfl rfl ?_ (fun _ _ _ h => h) ?_ hHeld ?_ ?_ ?_
 rotate_left; · rintro w' ⟨s0, s1, s2, s3, s4, s5, s6⟩; go_simp; with_reducible rfl
 rotate_left; · simp only [pk, i64_w, i32_w]; rfl
 refine tq 12 102 #[I,I,I,I,I,I,I,O,O,O,I,I,I,O,O,I,I,O,O,I,O,O,I,I,O,O,O,I,I,O,O,I,O,O,O] HT_.out HW_.out rfl rfl ?_ (fun _ _ _ h => h) ?_ hHeld ?_ ?_ ?_
 rotate_left; · rintro w' ⟨s0, s1, s2, s3, s4, s5, s6⟩; go_simp; with_reducible rfl
 rotate_left; · simp only [pk, i64_w, i32_w]; rfl
 refine pq 13 103 #[I,I,I,I,I,I,I,O,O,O,I,I,I,I,O,I,I,O,O,I,O,O,I,I,O,O,O,I,I,O,O,I,O,O,O] HT_.out rfl rfl ?_ (fun _ _ _ h => h) ?_ ?_ ?_ ?_
 rotate_left; · intro w'; go_simp; with_reducible rfl
 rotate_left; · simp only [pk, i64_w, i32_w]; rfl
 refine tq 14 104 #[I,I,I,I,I,I,I,O,O,O,I,I,I,I,I,I,I,O,O,I,O,O,I,I,O,O,O,I,I,O,O,I,O,O,O] HT_.out HW_.out rfl rfl ?_ (fun _ _ _ h => h) ?_ hHeld ?_ ?_ ?_
 rotate_left; · rintro w' ⟨s0, s1, s2, s3, s4, s5, s6⟩; go_simp; with_reducible rfl
 rotate_left; · simp only [pk, i64_w, i32_w]; rfl
 refine tq 24 114 #[I,I,I,I,I,I,I,O,O,O,I,I,I,I,I,I,I,O,O,I,O,O,I,I,I,O,O,I,I,O,O,I,O,O,O] HT_.out HW_.out rfl rfl ?_ (fun _ _ _ h => h) ?_ hHeld ?_ ?_ ?_
 rotate_left; · rintro w' ⟨s0, s1, s2, s3, s4, s5, s6⟩; go_simp; with_reducible rfl
 rotate_left; · simp only [pk, i64_w, i32_w]; rfl
 refine pq 25 115 #[I,I,I,I,I,I,I,O,O,O,I,I,I,I,I,I,I,O,O,I,O,O,I,I,I,I,O,I,I,O,O,I,O,O,O] HT_.out rfl rfl ?_ (fun _ _ _ h => h) ?_ ?_ ?_ ?_
 rotate_left; · intro w'; go_simp; with_reducible rfl
 rotate_left; · simp only [pk, i64_w, i32_w]; rfl
 refine tq 26 116 #[I,I,I,I,I,I,I,O,O,O,I,I,I,I,I,I,I,O,O,I,O,O,I,I,I,I,I,I,I,O,O,I,O,O,O] HT_.out HW_.out rfl rfl ?_ (fun _ _ _ h => h) ?_ hHeld ?_ ?_ ?_
 rotate_left; · rintro w' ⟨s0, s1, s2, s3, s4, s5, s6⟩; go_simp; with_reducible rfl
 rotate_left; · simp only [pk, i64_w, i32_w]; rfl
 refine one_ (i := 7) (N := some 97) #[I,I,I,I,I,I,I,I,O,O,I,I,I,I,I,I,I,O,O,I,O,O,I,I,I,I,I,I,I,O,O,I,O,O,O] rfl rfl (one_of HT_.out (by kernel_rfl)) (by decide) (fun K hK => ?_)
 refine goes_ Tryz.func52 (by kernel_rfl) rfl #[.slice (some ad286) l0.length c0, .int .i64 (rd ((rd_T62 l0 a1).f3) 0)] (by rfl) rfl rfl gl ?_
 with_reducible refine (spec_l06Value.calls k _ _ l0 (rd ((rd_T62 l0 a1).f3) 0) t300 _ ?side1 ?side2 A66.out).mono ?_
 (case side1 => exact Kd.C_below HR0.out (be w))
 (case side2 => exact HC0.out)
 rintro e w83 ⟨rfl, hb⟩
 refine ⟨_, rfl, ?_⟩
 replace BK287 := As.mk (blk_below (bx BK287.out) hb)
 replace HB := As.mk (below_step (be w) hb)
 (try clear hb)
 (try clear hb2)
 (try clear hk)
 (try clear hi)
 refine hK.out _ _ ⟨(blk_cell BK287.out 0).trans rfl, (blk_cell BK287.out 1).trans rfl, (blk_cell BK287.out 2).trans rfl, (blk_cell BK287.out 3).trans rfl, (ce HB.out hw299_0 :), (ce HB.out hw301_0 :), (ce HB.out hw303_0 :)⟩ (fun hHeld => ?_)
 clear hK K
 refine norm_ (a' := ?_) ?_ ?_
 rotate_left
 ·
  show Act.put _ (some 97) _ = _
  simp only [pk, i64_w, i32_w]
  rfl
 refine pq 8 98 #[I,I,I,I,I,I,I,I,I,O,I,I,I,I,I,I,I,O,O,I,O,O,I,I,I,I,I,I,I,O,O,I,O,O,O] HT_.out rfl rfl ?_ (fun _ _ _ h => h) ?_ ?_ ?_ ?_
 rotate_left; · intro w'; go_simp; with_reducible rfl
 rotate_left; · simp only [pk, i64_w, i32_w]; rfl
 refine pq 9 99 #[I,I,I,I,I,I,I,I,I,I,I,I,I,I,I,I,I,O,O,I,O,O,I,I,I,I,I,I,I,O,O,I,O,O,O] HT_.out rfl rfl ?_ (fun _ _ _ h => h) ?_ ?_ ?_ ?_
 rotate_left; · intro w'; go_simp; with_reducible rfl
 rotate_left; · simp only [pk, i64_w, i32_w]; rfl
 refine one_ (i := 17) (N := some 107) #[I,I,I,I,I,I,I,I,I,I,I,I,I,I,I,I,I,I,O,I,O,O,I,I,I,I,I,I,I,O,O,I,O,O,O] rfl rfl (one_of HT_.out (by kernel_rfl)) (by decide) (fun K hK => ?_)
 refine goes_ Tryz.func51 (by kernel_rfl) rfl #[.slice (some ad286) l0.length c0, .int .i64 (rd ((rd_T62 l0 a1).f3) 1), .int .i64 (wrap64 (a2 + 1))] (by rfl) rfl rfl gl ?_
 with_reducible refine (ih_spec_l06Block k (by omega) _ _ l0 (rd ((rd_T62 l0 a1).f3) 1) (wrap64 (a2 + 1)) t302 _ ?side1 ?side2 A70.out).mono ?_
 (case side1 => exact Kd.C_below HR0.out (be w))
 (case side2 => exact HC0.out)
 rintro e w84 ⟨rfl, hb⟩
 refine ⟨_, rfl, ?_⟩
 replace BK287 := As.mk (blk_below (bx BK287.out) hb)
 replace HB := As.mk (below_step (be w) hb)
 (try clear hb)
 (try clear hb2)
 (try clear hk)
 (try clear hi)
 refine hK.out _ _ ⟨(blk_cell BK287.out 0).trans rfl, (blk_cell BK287.out 1).trans rfl, (blk_cell BK287.out 2).trans rfl, (blk_cell BK287.out 3).trans rfl, (ce HB.out hw299_0 :), (ce HB.out hw301_0 :), (ce HB.out hw303_0 :)⟩ (fun hHeld => ?_)
 clear hK K
 refine norm_ (a' := ?_) ?_ ?_
 rotate_left
 ·
  show Act.put _ (some 107) _ = _
  simp only [pk, i64_w, i32_w]
  rfl
 refine pq 18 108 #[I,I,I,I,I,I,I,I,I,I,I,I,I,I,I,I,I,I,I,I,O,O,I,I,I,I,I,I,I,O,O,I,O,O,O] HT_.out rfl rfl ?_ (fun _ _ _ h => h) ?_ ?_ ?_ ?_
 rotate_left; · intro w'; go_simp; with_reducible rfl
 rotate_left; · simp only [pk, i64_w, i32_w]; rfl
 refine pq 20 110 #[I,I,I,I,I,I,I,I,I,I,I,I,I,I,I,I,I,I,I,I,I,O,I,I,I,I,I,I,I,O,O,I,O,O,O] HT_.out rfl rfl ?_ (fun _ _ _ h => h) ?_ ?_ ?_ ?_
 rotate_left; · intro w'; go_simp; with_reducible rfl
 rotate_left; · simp only [pk, i64_w, i32_w]; rfl
 refine pq 21 111 #[I,I,I,I,I,I,I,I,I,I,I,I,I,I,I,I,I,I,I,I,I,I,I,I,I,I,I,I,I,O,O,I,O,O,O] HT_.out rfl rfl ?_ (fun _ _ _ h => h) ?_ ?_ ?_ ?_
 rotate_left; · intro w'; go_simp; with_reducible rfl
 rotate_left; · simp only [pk, i64_w, i32_w]; rfl
 refine one_ (i := 29) (N := some 119) #[I,I,I,I,I,I,I,I,I,I,I,I,I,I,I,I,I,I,I,I,I,I,I,I,I,I,I,I,I,I,O,I,O,O,O] rfl rfl (one_of HT_.out (by kernel_rfl)) (by decide) (fun K hK => ?_)
 refine goes_ Tryz.func51 (by kernel_rfl) rfl #[.slice (some ad286) l0.length c0, .int .i64 (rd ((rd_T62 l0 a1).f3) 2), .int .i64 (wrap64 (a2 + 1))] (by rfl) rfl rfl gl ?_
 with_reducible refine (ih_spec_l06Block k (by omega) _ _ l0 (rd ((rd_T62 l0 a1).f3) 2) (wrap64 (a2 + 1)) t304 _ ?side1 ?side2 A75.out).mono ?_
 (case side1 => exact Kd.C_below HR0.out (be w))
 (case side2 => exact HC0.out)
 rintro e w85 ⟨rfl, hb⟩
 refine ⟨_, rfl, ?_⟩
 replace BK287 := As.mk (blk_below (bx BK287.out) hb)
 replace HB := As.mk (below_step (be w) hb)
 (try clear hb)
 (try clear hb2)
 (try clear hk)
 (try clear hi)
 refine hK.out _ _ ⟨(blk_cell BK287.out 0).trans rfl, (blk_cell BK287.out 1).trans rfl, (blk_cell BK287.out 2).trans rfl, (blk_cell BK287.out 3).trans rfl, (ce HB.out hw299_0 :), (ce HB.out hw301_0 :), (ce HB.out hw303_0 :)⟩ (fun hHeld => ?_)
 clear hK K
 refine norm_ (a' := ?_) ?_ ?_
 rotate_left
 ·
  show Act.put _ (some 119) _ = _
  simp only [pk, i64_w, i32_w]
  rfl
 refine pq 30 120 #[I,I,I,I,I,I,I,I,I,I,I,I,I,I,I,I,I,I,I,I,I,I,I,I,I,I,I,I,I,I,I,I,O,O,O] HT_.out rfl rfl ?_ (fun _ _ _ h => h) ?_ ?_ ?_ ?_
 rotate_left; · intro w'; go_simp; with_reducible rfl
 rotate_left; · simp only [pk, i64_w, i32_w]; rfl
 refine pq 32 122 #[I,I,I,I,I,I,I,I,I,I,I,I,I,I,I,I,I,I,I,I,I,I,I,I,I,I,I,I,I,I,I,I,I,O,O] HT_.out rfl rfl ?_ (fun _ _ _ h => h) ?_ ?_ ?_ ?_
 rotate_left; · intro w'; go_simp; with_reducible rfl
 rotate_left; · simp only [pk, i64_w, i32_w]; rfl
 refine pq 33 123 #[I,I,I,I,I,I,I,I,I,I,I,I,I,I,I,I,I,I,I,I,I,I,I,I,I,I,I,I,I,I,I,I,I,I,O] HT_.out rfl rfl ?_ (fun _ _ _ h => h) ?_ ?_ ?_ ?_
 rotate_left; · intro w'; go_simp; with_reducible rfl
 rotate_left; · simp only [pk, i64_w, i32_w]; rfl
 refine pq 34 6 #[I,I,I,I,I,I,I,I,I,I,I,I,I,I,I,I,I,I,I,I,I,I,I,I,I,I,I,I,I,I,I,I,I,I,I] HT_.out rfl rfl ?_ (fun _ _ _ h => h) ?_ ?_ ?_ ?_
 rotate_left; · intro w'; go_simp; with_reducible rfl
 rotate_left; · simp only [pk, i64_w, i32_w]; rfl
 refine done_ (done_of HT_.out (by kernel_rfl)) ?_
 try go_wp2
 go_ret
 exact ⟨ez, be w⟩
theorem spec_l06Step.allO (k : Nat) : spec_l06Block.C k ∧ spec_l06Step.C k := by
  induction k using Nat.strongRecOn with
  | _ k ih => exact ⟨spec_l06Block.callsO k (fun m_ h_ => (ih m_ h_).1) (fun m_ h_ => (ih m_ h_).2), spec_l06Step.callsO k (fun m_ h_ => (ih m_ h_).1) (fun m_ h_ => (ih m_ h_).2)⟩
theorem spec_l06Block.calls (k : Nat) : ∀ (A0 : Option Addr) (c0 : Nat) (l0 : List (S62)) (a1 : Int) (a2 : Int) (r : ByteArray) (w : World) (hr0 : Kd.C k62 w A0 l0.length l0) (hc0 : l0.length ≤ c0) (h : spec_l06Block.f k l0 a1 a2 = some r),
  Calls Tryz.prog 51 #[.slice A0 l0.length c0, .int .i64 a1, .int .i64 a2] w fun e w' => e = .returned (.string r) ∧ Below w.heap.size w w' := (spec_l06Step.allO k).1
theorem spec_l06Step.calls (k : Nat) : ∀ (A0 : Option Addr) (c0 : Nat) (l0 : List (S62)) (a1 : Int) (a2 : Int) (r : ByteArray) (w : World) (hr0 : Kd.C k62 w A0 l0.length l0) (hc0 : l0.length ≤ c0) (h : spec_l06Step.f k l0 a1 a2 = some r),
  Calls Tryz.prog 45 #[.slice A0 l0.length c0, .int .i64 a1, .int .i64 a2] w fun e w' => e = .returned (.string r) ∧ Below w.heap.size w w' := (spec_l06Step.allO k).2

end Go.Proofs.YtcoapbnbakmkoaaGreatDoor.PFnExactShowStep
