/- Written by a program of this session (a turned copy of the kit's print): a contract for each Go function. No condition beside those in each statement. -/
import Derived.Test.YtcoapbnbakmkoaaGreatDoorPFnExactShowProgramx0
import Derived.Test.YtcoapbnbakmkoaaGreatDoorPFnExactShowProgramx17
namespace Go.Proofs.YtcoapbnbakmkoaaGreatDoor.PFnExactShowProgram
open Go.RowKit Go.Proofs.YtcoapbnbakmkoaaGreatDoor.Given Go.Proofs.YtcoapbnbakmkoaaGreatDoorW.PrintWords Go.Proofs.YtcoapbnbakmkoaaGreatDoorW.PrintLast Go.Proofs.YtcoapbnbakmkoaaGreatDoorW.PrintMore
attribute [local go_sem] max2_int min2_int max_two min_two max_three min_three max_four min_four   -- for this text's walks alone
set_option linter.unusedVariables false
set_option linter.unusedSimpArgs false

/-! ### impl_showSteps: function 75 -/
/-! ### impl_showStep: function 48 -/
mutual
def impl_showStep.f : Nat → List (S62) → List (S56) → Int → Int → Option (ByteArray)
  | 0, _, _, _, _ => none
  | k + 1, l0_0, l0_1, a1, a2 => if 0 ≤ a1 then (if a1 < (l0_0.length : Int) then ((strings_Repeat.f (⟨#[32, 32]⟩ : ByteArray) (mx 0 (mn a2 20))).bind fun t481 => (if 0 < (((rd_T62 l0_0 a1).f3).length : Int) then ((impl_showValue.f k l0_0 l0_1 (rd ((rd_T62 l0_0 a1).f3) 0)).bind fun t483 => (if ((rd_T62 l0_0 a1).f0) = 13 then (if t481.size + 4 ≤ 9223372036854775807 then (if (t481 ++ (⟨#[108, 101, 116, 32]⟩ : ByteArray)).size + ((rd_T62 l0_0 a1).f2).size ≤ 9223372036854775807 then (if ((t481 ++ (⟨#[108, 101, 116, 32]⟩ : ByteArray)) ++ ((rd_T62 l0_0 a1).f2)).size + 3 ≤ 9223372036854775807 then (if (((t481 ++ (⟨#[108, 101, 116, 32]⟩ : ByteArray)) ++ ((rd_T62 l0_0 a1).f2)) ++ (⟨#[32, 61, 32]⟩ : ByteArray)).size + t483.size ≤ 9223372036854775807 then (if ((((t481 ++ (⟨#[108, 101, 116, 32]⟩ : ByteArray)) ++ ((rd_T62 l0_0 a1).f2)) ++ (⟨#[32, 61, 32]⟩ : ByteArray)) ++ t483).size + 2 ≤ 9223372036854775807 then (some (((((t481 ++ (⟨#[108, 101, 116, 32]⟩ : ByteArray)) ++ ((rd_T62 l0_0 a1).f2)) ++ (⟨#[32, 61, 32]⟩ : ByteArray)) ++ t483) ++ (⟨#[59, 10]⟩ : ByteArray))) else (none)) else (none)) else (none)) else (none)) else (none)) else (if ((rd_T62 l0_0 a1).f0) = 14 then (if t481.size + ((rd_T62 l0_0 a1).f2).size ≤ 9223372036854775807 then (if (t481 ++ ((rd_T62 l0_0 a1).f2)).size + 3 ≤ 9223372036854775807 then (if ((t481 ++ ((rd_T62 l0_0 a1).f2)) ++ (⟨#[32, 61, 32]⟩ : ByteArray)).size + t483.size ≤ 9223372036854775807 then (if (((t481 ++ ((rd_T62 l0_0 a1).f2)) ++ (⟨#[32, 61, 32]⟩ : ByteArray)) ++ t483).size + 2 ≤ 9223372036854775807 then (some ((((t481 ++ ((rd_T62 l0_0 a1).f2)) ++ (⟨#[32, 61, 32]⟩ : ByteArray)) ++ t483) ++ (⟨#[59, 10]⟩ : ByteArray))) else (none)) else (none)) else (none)) else (none)) else (if ((rd_T62 l0_0 a1).f0) = 15 then (if t481.size + 1 ≤ 9223372036854775807 then (if (t481 ++ (⟨#[42]⟩ : ByteArray)).size + ((rd_T62 l0_0 a1).f2).size ≤ 9223372036854775807 then (if ((t481 ++ (⟨#[42]⟩ : ByteArray)) ++ ((rd_T62 l0_0 a1).f2)).size + 3 ≤ 9223372036854775807 then (if (((t481 ++ (⟨#[42]⟩ : ByteArray)) ++ ((rd_T62 l0_0 a1).f2)) ++ (⟨#[32, 61, 32]⟩ : ByteArray)).size + t483.size ≤ 9223372036854775807 then (if ((((t481 ++ (⟨#[42]⟩ : ByteArray)) ++ ((rd_T62 l0_0 a1).f2)) ++ (⟨#[32, 61, 32]⟩ : ByteArray)) ++ t483).size + 2 ≤ 9223372036854775807 then (some (((((t481 ++ (⟨#[42]⟩ : ByteArray)) ++ ((rd_T62 l0_0 a1).f2)) ++ (⟨#[32, 61, 32]⟩ : ByteArray)) ++ t483) ++ (⟨#[59, 10]⟩ : ByteArray))) else (none)) else (none)) else (none)) else (none)) else (none)) else (if ((rd_T62 l0_0 a1).f0) = 16 then (if t481.size + 3 ≤ 9223372036854775807 then (if (t481 ++ (⟨#[105, 102, 32]⟩ : ByteArray)).size + t483.size ≤ 9223372036854775807 then (if ((t481 ++ (⟨#[105, 102, 32]⟩ : ByteArray)) ++ t483).size + 3 ≤ 9223372036854775807 then (if 1 < (((rd_T62 l0_0 a1).f3).length : Int) then ((impl_showSteps.f k l0_0 l0_1 (rd ((rd_T62 l0_0 a1).f3) 1) (wrap64 (a2 + 1))).bind fun t485 => (if (((t481 ++ (⟨#[105, 102, 32]⟩ : ByteArray)) ++ t483) ++ (⟨#[32, 123, 10]⟩ : ByteArray)).size + t485.size ≤ 9223372036854775807 then (if ((((t481 ++ (⟨#[105, 102, 32]⟩ : ByteArray)) ++ t483) ++ (⟨#[32, 123, 10]⟩ : ByteArray)) ++ t485).size + t481.size ≤ 9223372036854775807 then (if (((((t481 ++ (⟨#[105, 102, 32]⟩ : ByteArray)) ++ t483) ++ (⟨#[32, 123, 10]⟩ : ByteArray)) ++ t485) ++ t481).size + 9 ≤ 9223372036854775807 then (if 2 < (((rd_T62 l0_0 a1).f3).length : Int) then ((impl_showSteps.f k l0_0 l0_1 (rd ((rd_T62 l0_0 a1).f3) 2) (wrap64 (a2 + 1))).bind fun t487 => (if ((((((t481 ++ (⟨#[105, 102, 32]⟩ : ByteArray)) ++ t483) ++ (⟨#[32, 123, 10]⟩ : ByteArray)) ++ t485) ++ t481) ++ (⟨#[125, 32, 101, 108, 115, 101, 32, 123, 10]⟩ : ByteArray)).size + t487.size ≤ 9223372036854775807 then (if (((((((t481 ++ (⟨#[105, 102, 32]⟩ : ByteArray)) ++ t483) ++ (⟨#[32, 123, 10]⟩ : ByteArray)) ++ t485) ++ t481) ++ (⟨#[125, 32, 101, 108, 115, 101, 32, 123, 10]⟩ : ByteArray)) ++ t487).size + t481.size ≤ 9223372036854775807 then (if ((((((((t481 ++ (⟨#[105, 102, 32]⟩ : ByteArray)) ++ t483) ++ (⟨#[32, 123, 10]⟩ : ByteArray)) ++ t485) ++ t481) ++ (⟨#[125, 32, 101, 108, 115, 101, 32, 123, 10]⟩ : ByteArray)) ++ t487) ++ t481).size + 2 ≤ 9223372036854775807 then (some (((((((((t481 ++ (⟨#[105, 102, 32]⟩ : ByteArray)) ++ t483) ++ (⟨#[32, 123, 10]⟩ : ByteArray)) ++ t485) ++ t481) ++ (⟨#[125, 32, 101, 108, 115, 101, 32, 123, 10]⟩ : ByteArray)) ++ t487) ++ t481) ++ (⟨#[125, 10]⟩ : ByteArray))) else (none)) else (none)) else (none))) else (none)) else (none)) else (none)) else (none))) else (none)) else (none)) else (none)) else (none)) else (if ((rd_T62 l0_0 a1).f0) = 17 then (if t481.size + 6 ≤ 9223372036854775807 then (if (t481 ++ (⟨#[119, 104, 105, 108, 101, 32]⟩ : ByteArray)).size + t483.size ≤ 9223372036854775807 then (if ((t481 ++ (⟨#[119, 104, 105, 108, 101, 32]⟩ : ByteArray)) ++ t483).size + 3 ≤ 9223372036854775807 then (if 1 < (((rd_T62 l0_0 a1).f3).length : Int) then ((impl_showSteps.f k l0_0 l0_1 (rd ((rd_T62 l0_0 a1).f3) 1) (wrap64 (a2 + 1))).bind fun t489 => (if (((t481 ++ (⟨#[119, 104, 105, 108, 101, 32]⟩ : ByteArray)) ++ t483) ++ (⟨#[32, 123, 10]⟩ : ByteArray)).size + t489.size ≤ 9223372036854775807 then (if ((((t481 ++ (⟨#[119, 104, 105, 108, 101, 32]⟩ : ByteArray)) ++ t483) ++ (⟨#[32, 123, 10]⟩ : ByteArray)) ++ t489).size + t481.size ≤ 9223372036854775807 then (if (((((t481 ++ (⟨#[119, 104, 105, 108, 101, 32]⟩ : ByteArray)) ++ t483) ++ (⟨#[32, 123, 10]⟩ : ByteArray)) ++ t489) ++ t481).size + 2 ≤ 9223372036854775807 then (some ((((((t481 ++ (⟨#[119, 104, 105, 108, 101, 32]⟩ : ByteArray)) ++ t483) ++ (⟨#[32, 123, 10]⟩ : ByteArray)) ++ t489) ++ t481) ++ (⟨#[125, 10]⟩ : ByteArray))) else (none)) else (none)) else (none))) else (none)) else (none)) else (none)) else (none)) else (if ((rd_T62 l0_0 a1).f0) = 18 then (if t481.size + 6 ≤ 9223372036854775807 then (if (t481 ++ (⟨#[112, 114, 105, 110, 116, 32]⟩ : ByteArray)).size + t483.size ≤ 9223372036854775807 then (if ((t481 ++ (⟨#[112, 114, 105, 110, 116, 32]⟩ : ByteArray)) ++ t483).size + 2 ≤ 9223372036854775807 then (some (((t481 ++ (⟨#[112, 114, 105, 110, 116, 32]⟩ : ByteArray)) ++ t483) ++ (⟨#[59, 10]⟩ : ByteArray))) else (none)) else (none)) else (none)) else (if t481.size + 3 ≤ 9223372036854775807 then (if (t481 ++ (⟨#[100, 111, 32]⟩ : ByteArray)).size + t483.size ≤ 9223372036854775807 then (if ((t481 ++ (⟨#[100, 111, 32]⟩ : ByteArray)) ++ t483).size + 2 ≤ 9223372036854775807 then (some (((t481 ++ (⟨#[100, 111, 32]⟩ : ByteArray)) ++ t483) ++ (⟨#[59, 10]⟩ : ByteArray))) else (none)) else (none)) else (none))))))))) else (none))) else (none)) else (none)
def impl_showSteps.l0 : Nat → Int → ByteArray → List Int → Int → Int → List (S62) → List (S56) → Option (ByteArray)
  | 0, _, _, _, _, _, _, _ => none
  | k + 1, x2, x7, x15, x16, x17, x491000, x491001 => if x17 < x16 then (if 0 ≤ x17 then (if x17 < (x15.length : Int) then ((impl_showStep.f k x491000 x491001 (rd x15 x17) x2).bind fun t493 => (if x7.size + t493.size ≤ 9223372036854775807 then (impl_showSteps.l0 k x2 (x7 ++ t493) x15 x16 (wrap64 (x17 + 1)) x491000 x491001) else (none))) else (none)) else (none)) else (some x7)
def impl_showSteps.f : Nat → List (S62) → List (S56) → Int → Int → Option (ByteArray)
  | 0, _, _, _, _ => none
  | k + 1, l0_0, l0_1, a1, a2 => if 0 ≤ a1 then (if a1 < (l0_0.length : Int) then (impl_showSteps.l0 k a2 (⟨#[]⟩ : ByteArray) ((rd_T62 l0_0 a1).f3) (((rd_T62 l0_0 a1).f3).length : Int) 0 l0_0 l0_1) else (none)) else (none)
end
theorem impl_showSteps.mono_l : ∀ k, (∀ y0 y1 y2 y3, LeO (impl_showStep.f k y0 y1 y2 y3) (impl_showStep.f (k + 1) y0 y1 y2 y3)) ∧ (∀ y0 y1 y2 y3, LeO (impl_showSteps.f k y0 y1 y2 y3) (impl_showSteps.f (k + 1) y0 y1 y2 y3)) ∧ (∀ y0 y1 y2 y3 y4 y5 y6, LeO (impl_showSteps.l0 k y0 y1 y2 y3 y4 y5 y6) (impl_showSteps.l0 (k + 1) y0 y1 y2 y3 y4 y5 y6))
  | 0 => ⟨fun _ _ _ _ r h => by simp [impl_showStep.f] at h, fun _ _ _ _ r h => by simp [impl_showSteps.f] at h, fun _ _ _ _ _ _ _ r h => by simp [impl_showSteps.l0] at h⟩
  | k + 1 => by
    obtain ⟨ih0, ih1, ih2⟩ := impl_showSteps.mono_l k
    refine ⟨?_, ?_, ?_⟩
    · intro y0 y1 y2 y3
      unfold impl_showStep.f
      repeat' first
      | (with_reducible exact ih0 _ _ _ _)
      | (with_reducible exact ih1 _ _ _ _)
      | (with_reducible exact ih2 _ _ _ _ _ _ _)
      | (with_reducible exact impl_showValue.mono _ _ _ _)
      | (with_reducible exact LeO.refl _)
      | (with_reducible exact LeO.none _)
      | (with_reducible refine LeO.ite ?_ ?_)
      | (with_reducible refine LeO.bind ?_ (fun _ => ?_))
      | exact ih0 _ _ _ _
      | exact ih1 _ _ _ _
      | exact ih2 _ _ _ _ _ _ _
      | exact impl_showValue.mono _ _ _ _
      | exact LeO.none _
      | refine LeO.ite ?_ ?_
      | refine LeO.bind ?_ (fun _ => ?_)
    · intro y0 y1 y2 y3
      unfold impl_showSteps.f
      repeat' first
      | (with_reducible exact ih0 _ _ _ _)
      | (with_reducible exact ih1 _ _ _ _)
      | (with_reducible exact ih2 _ _ _ _ _ _ _)
      | (with_reducible exact impl_showValue.mono _ _ _ _)
      | (with_reducible exact LeO.refl _)
      | (with_reducible exact LeO.none _)
      | (with_reducible refine LeO.ite ?_ ?_)
      | (with_reducible refine LeO.bind ?_ (fun _ => ?_))
      | exact ih0 _ _ _ _
      | exact ih1 _ _ _ _
      | exact ih2 _ _ _ _ _ _ _
      | exact impl_showValue.mono _ _ _ _
      | exact LeO.none _
      | refine LeO.ite ?_ ?_
      | refine LeO.bind ?_ (fun _ => ?_)
    · intro y0 y1 y2 y3 y4 y5 y6
      unfold impl_showSteps.l0
      repeat' first
      | (with_reducible exact ih0 _ _ _ _)
      | (with_reducible exact ih1 _ _ _ _)
      | (with_reducible exact ih2 _ _ _ _ _ _ _)
      | (with_reducible exact impl_showValue.mono _ _ _ _)
      | (with_reducible exact LeO.refl _)
      | (with_reducible exact LeO.none _)
      | (with_reducible refine LeO.ite ?_ ?_)
      | (with_reducible refine LeO.bind ?_ (fun _ => ?_))
      | exact ih0 _ _ _ _
      | exact ih1 _ _ _ _
      | exact ih2 _ _ _ _ _ _ _
      | exact impl_showValue.mono _ _ _ _
      | exact LeO.none _
      | refine LeO.ite ?_ ?_
      | refine LeO.bind ?_ (fun _ => ?_)
theorem impl_showStep.mono : ∀ a0 a1 a2 a3 k, LeO (impl_showStep.f k a0 a1 a2 a3) (impl_showStep.f (k + 1) a0 a1 a2 a3) := by
  intro a0 a1 a2 a3 k; obtain ⟨ih0, ih1, ih2⟩ := impl_showSteps.mono_l k
  exact ih0 a0 a1 a2 a3
theorem impl_showSteps.mono : ∀ a0 a1 a2 a3 k, LeO (impl_showSteps.f k a0 a1 a2 a3) (impl_showSteps.f (k + 1) a0 a1 a2 a3) := by
  intro a0 a1 a2 a3 k; obtain ⟨ih0, ih1, ih2⟩ := impl_showSteps.mono_l k
  exact ih1 a0 a1 a2 a3
abbrev impl_showStep.C (k : Nat) : Prop := ∀ (A0_0 : Option Addr) (c0_0 : Nat) (l0_0 : List (S62)) (A0_1 : Option Addr) (c0_1 : Nat) (l0_1 : List (S56)) (a1 : Int) (a2 : Int) (r : ByteArray) (w : World) (hr0_0 : Kd.C k62 w A0_0 l0_0.length l0_0) (hc0_0 : l0_0.length ≤ c0_0) (hr0_1 : Kd.C k56 w A0_1 l0_1.length l0_1) (hc0_1 : l0_1.length ≤ c0_1) (hTab : TabW w) (h : impl_showStep.f k l0_0 l0_1 a1 a2 = some r),
  Calls Tryz.prog 48 #[.agg #[.slice A0_0 l0_0.length c0_0, .slice A0_1 l0_1.length c0_1], .int .i64 a1, .int .i64 a2] w fun e w' => e = .returned (.string r) ∧ Below w.heap.size w w'
abbrev impl_showSteps.C (k : Nat) : Prop := ∀ (A0_0 : Option Addr) (c0_0 : Nat) (l0_0 : List (S62)) (A0_1 : Option Addr) (c0_1 : Nat) (l0_1 : List (S56)) (a1 : Int) (a2 : Int) (r : ByteArray) (w : World) (hr0_0 : Kd.C k62 w A0_0 l0_0.length l0_0) (hc0_0 : l0_0.length ≤ c0_0) (hr0_1 : Kd.C k56 w A0_1 l0_1.length l0_1) (hc0_1 : l0_1.length ≤ c0_1) (hTab : TabW w) (h : impl_showSteps.f k l0_0 l0_1 a1 a2 = some r),
  Calls Tryz.prog 75 #[.agg #[.slice A0_0 l0_0.length c0_0, .slice A0_1 l0_1.length c0_1], .int .i64 a1, .int .i64 a2] w fun e w' => e = .returned (.string r) ∧ Below w.heap.size w w'
def impl_showStep.T12 : Bool × List (List Nat × List Nat) := (true, [([], []), ([0], [0]), ([], []), ([1, 2], [1, 2]), ([3], [3]), ([], []), ([], []), ([6], [6]), ([7], [7]), ([8], [8]), ([], []), ([10], [10]), ([5, 9, 11], [5, 9, 11]), ([4, 12], [4, 12]), ([], []), ([13, 14], [13, 14]), ([15], [15]), ([], []), ([], []), ([18], [18]), ([19], [19]), ([20], [20]), ([], []), ([22], [22]), ([17, 21, 23, 12], [17, 21, 23]), ([16, 24], [16, 24]), ([], []), ([25, 26], [25, 26]), ([27], [27]), ([28, 24, 0, 1, 2, 3, 4, 5, 6, 7, 8, 9, 10, 11, 12, 13, 14, 15, 16, 17, 18, 19, 20, 21, 22, 23, 24, 25, 26, 27, 28], [28])])
def impl_showStep.B12 : List Nat := [0, 1, 0, 7, 15, 0, 0, 64, 192, 448, 0, 1024, 4064, 8191, 0, 32767, 65535, 0, 0, 262144, 786432, 1835008, 0, 4194304, 16654304, 33554431, 0, 134217727, 268435455, 536870911]
theorem impl_showStep.tab12 : rtab .any (opsOf Tryz.f48 12) = impl_showStep.T12 := by kernel_rfl
theorem impl_showStep.bits12 : waitsOk impl_showStep.T12.2 impl_showStep.B12 = true := by kernel_rfl
def impl_showStep.T14 : Bool × List (List Nat × List Nat) := (true, [([], []), ([0], [0]), ([], []), ([1, 2], [1, 2]), ([3], [3]), ([], []), ([], []), ([6], [6]), ([7], [7]), ([8], [8]), ([], []), ([10], [10]), ([5, 9, 11], [5, 9, 11]), ([4, 12], [4, 12]), ([], []), ([13, 14], [13, 14]), ([15], [15]), ([16, 12, 0, 1, 2, 3, 4, 5, 6, 7, 8, 9, 10, 11, 12, 13, 14, 15, 16], [16])])
def impl_showStep.B14 : List Nat := [0, 1, 0, 7, 15, 0, 0, 64, 192, 448, 0, 1024, 4064, 8191, 0, 32767, 65535, 131071]
theorem impl_showStep.tab14 : rtab .any (opsOf Tryz.f48 14) = impl_showStep.T14 := by kernel_rfl
theorem impl_showStep.bits14 : waitsOk impl_showStep.T14.2 impl_showStep.B14 = true := by kernel_rfl
set_option maxHeartbeats 8000000 in
set_option maxRecDepth 100000 in
theorem impl_showStep.callsO (k : Nat) (ih : ∀ m_, m_ < k → impl_showStep.C m_) (ih_impl_showSteps : ∀ m_, m_ < k → impl_showSteps.C m_) : impl_showStep.C k := by
 intro A0_0 c0_0 l0_0 A0_1 c0_1 l0_1 a1 a2 r w hr0_0 hc0_0 hr0_1 hc0_1 hTab h; have HTAB := As.mk hTab; clear hTab
 cases k with
 | zero => exact absurd h (by simp [impl_showStep.f])
 | succ k =>
 simp only [impl_showStep.f] at h
 have hu32 := Tryz.underlying32; have hu62 := Tryz.underlying62; have HR0_0 := As.mk hr0_0; have HC0_0 := As.mk hc0_0; clear hr0_0 hc0_0; have HR0_1 := As.mk hr0_1; have HC0_1 := As.mk hc0_1; clear hr0_1 hc0_1; have HB := As.mk (Below.refl w.heap.size w); have H := h; clear h
 by_cases c4 : 0 ≤ a1
 rotate_left; · rw [if_neg c4] at H; exact absurd H (by simp)

 rw [if_pos c4] at H; have c4b0 := decide_eq_true c4; clear c4; replace H := ia H; obtain ⟨c5b0, H⟩ := H
 obtain ⟨ji6, hji6⟩ : ∃ j_ : Int, (mn a2 20) = j_ := ⟨_, rfl⟩
 (first | rw [hji6] at H | simp only [hji6] at H)
 (try (have hji6h : ji6 ≤ 20 := by (rw [← hji6]; unfold mn; (repeat' split) <;> omega))); (try (have hji6g : ji6 ≤ 64 := by omega)); have hji6_ : (if 20 < a2 then 20 else a2) = ji6 := hji6
 obtain ⟨ji7, hji7⟩ : ∃ j_ : Int, (mx 0 (ji6)) = j_ := ⟨_, rfl⟩
 (first | rw [hji7] at H | simp only [hji7] at H)
 have hji7_ : (if 0 < (ji6) then (ji6) else 0) = ji7 := hji7; replace H := bo H; obtain ⟨t481, A8, H⟩ := H; have c9 := i1 H; replace H := i2 H; have c9b0 := decide_eq_true c9; have c9b1 : decide (0 < ((rd_T62 l0_0 a1).f3).length) = true := decide_eq_true (by omega); clear c9; replace H := bo H; obtain ⟨t483, A10, H⟩ := H
 by_cases c11 : ((rd_T62 l0_0 a1).f0) = 13
 ·
  rw [if_pos c11] at H; have c11b0 : (((rd_T62 l0_0 a1).f0) == 13) = true := beq_iff_eq.mpr c11; have c11b1 : (((rd_T62 l0_0 a1).f0) != 13) = false := bne_eq_false_iff_eq.mpr c11; clear c11; replace H := il H; obtain ⟨c12, c12b0, c12b1, c12b2, H⟩ := H; replace H := il H; obtain ⟨c13, c13b0, c13b1, c13b2, H⟩ := H
  try have c13b4 : (9223372036854775807 < t481.size + 4 + ((rd_T62 l0_0 a1).f2).size) = False := eq_false (Nat.not_lt.2 (by have h_ := c13; simp only [ByteArray.size_append] at h_; exact h_))
  replace H := il H; obtain ⟨c14, c14b0, c14b1, c14b2, H⟩ := H
  try have c14b4 : (9223372036854775807 < t481.size + 4 + ((rd_T62 l0_0 a1).f2).size + 3) = False := eq_false (Nat.not_lt.2 (by have h_ := c14; simp only [ByteArray.size_append] at h_; exact h_))
  replace H := il H; obtain ⟨c15, c15b0, c15b1, c15b2, H⟩ := H
  try have c15b4 : (9223372036854775807 < t481.size + 4 + ((rd_T62 l0_0 a1).f2).size + 3 + t483.size) = False := eq_false (Nat.not_lt.2 (by have h_ := c15; simp only [ByteArray.size_append] at h_; exact h_))
  replace H := il H; obtain ⟨c16, c16b0, c16b1, c16b2, H⟩ := H
  try have c16b4 : (9223372036854775807 < t481.size + 4 + ((rd_T62 l0_0 a1).f2).size + 3 + t483.size + 2) = False := eq_false (Nat.not_lt.2 (by have h_ := c16; simp only [ByteArray.size_append] at h_; exact h_))
  obtain rfl := sj H; go_enter Tryz.func48, Tryz.ntmps48
  try go_wp2_with (first | ((with_reducible refine gate_dst (N := 3) rfl ?_); refine bxe 3 #[.slice A0_0 l0_0.length c0_0, .slice A0_1 l0_1.length c0_1] 32 ?_; intro gb478 hg w17 BK478 hb; have GW478 := As.mk (gs w hg); replace HB := bs w hb; clear hb hg; obtain ⟨y18a, y18b, v18a, v18b⟩ := cl2 BK478.out; obtain ⟨ad479, A479_3, c479_3, e479, p479, q479, x479a, x479b, x479c, x479d, HC479_3, HR479_3⟩ := bt_T62 HB.out HR0_0.out a1 od od; cases e479) | ((with_reducible refine gate_dst (N := 7) rfl ?_); refine bxe 7 #[.int .i64 0, .int .i64 0, .string (⟨#[]⟩ : ByteArray), .slice none 0 0] 62 ?_; intro gb480 hg w19 BK480 hb; have GW480 := As.mk (gs w hg); replace HB := bs w hb; have NB478_480 := As.mk (nl hg (bx BK478.out)); have NB480_478 := As.mk (ng hg (bx BK478.out)); replace BK478 := bb BK478 hb; clear hb hg; have hnb20 := NB480_478.out; have hnc20 := NB478_480.out; obtain ⟨y21a, y21b, y21c, y21d, v21a, v21b, v21c, v21d⟩ := cl4 BK480.out) | ((with_reducible refine gate_callee (f := 74) rfl ?_); refine goesL_ (some 18) rfl rfl Tryz.func74 (by kernel_rfl) rfl #[.string (⟨#[32, 32]⟩ : ByteArray), .int .i64 ji7] rfl (by (try simp only [lm]); first | done | (simp only [hji7]; rfl) | rfl | (simp only [List.length_drop, List.length_take]; rfl)) ?_; (with_reducible refine (strings_Repeat.calls (⟨#[32, 32]⟩ : ByteArray) ji7 t481 _ A8.out).mono ?_); rintro e w22 ⟨rfl, hb⟩; refine ⟨_, rfl, ?_⟩; replace BK478 := As.mk (blk_below (g := gb478) (o := .cells #[.slice (some ad479) l0_0.length c0_0, .slice A0_1 l0_1.length c0_1] 32 (0, 0)) (by refine pl ?_; refine blk_far ?_ NB478_480.out _; refine pl ?_; refine blk_far ?_ NB478_480.out _; refine pl ?_; refine blk_far ?_ NB478_480.out _; refine pl ?_; refine blk_far ?_ NB478_480.out _; exact bx BK478.out) hb); replace BK480 := As.mk (blk_below (g := gb480) (o := .cells #[.int .i64 ((rd_T62 l0_0 a1).f0), .int .i64 ((rd_T62 l0_0 a1).f1), .string ((rd_T62 l0_0 a1).f2), .slice A479_3 ((rd_T62 l0_0 a1).f3).length c479_3] 62 (0, 0)) (by exact pl (bp4 (bx BK480.out))) hb); replace HB := bs w hb; (try clear hb)))
  replace BK478 := As.mk (blk_drew BK478.out); replace BK480 := As.mk (blk_drew BK480.out); replace HB := As.mk (below_drew1 HB.out); have p482 : 0 ≤ (0 : Int) := (by omega); have q482 : 0 < (((rd_T62 l0_0 a1).f3).length : Int) := od; obtain ⟨ad482, e482, x482a⟩ := Kd.at_int HR479_3.out 0 p482 q482; have hw482_0 := x482a; (try rw [show ((0 : Int)).toNat = 0 from rfl] at hw482_0); (try rw [show 0 * 1 = 0 from rfl] at hw482_0); (try rw [Addr.add_zero'] at hw482_0); cases e482; have qi482 : (0 < ((rd_T62 l0_0 a1).f3).length) = True := eq_true (by omega); (try rw [show ((0 : Int)).toNat = 0 from rfl] at x482a); (try rw [Addr.add_zero'] at x482a); replace x482a := ce HB.out x482a; replace p482 := eq_true p482; replace q482 := eq_true q482
  refine start_ (n := 7) (S := _) (ds := []) #[O,O,O,O,O,O,O] (by kernel_rfl) rfl rfl (ba (bf BK478.out) (ba (bf BK480.out) (cf hw482_0))) (fun hHeld => ?_)
  generalize w22.drew = w23 at BK478 BK480 HB x482a hHeld ⊢
  refine pure_ (i := 1) (N := some 20) (v := ?_) (a' := ?_) #[O,I,O,O,O,O,O] rfl rfl (by kernel_rfl) (fun _ _ _ h => h) (Or.inl ⟨by rfl, ?_⟩) ?_ ?_
  rotate_left; · intro w'; go_simp; with_reducible rfl
  rotate_left; · simp only [pk, i64_w, i32_w]; rfl
  refine take_ (i := 0) (N := some 19) (v := ?_) (a' := ?_) #[I,I,O,O,O,O,O] rfl rfl (by kernel_rfl) (fun _ _ _ h => h) (Or.inl ⟨by rfl, ?_⟩) hHeld ?_ ?_
  rotate_left; · rintro w' ⟨b0, b1, b2⟩; obtain ⟨_, _⟩ := cq2 b0; obtain ⟨_, _, _, _⟩ := cq4 b1; have b2 := clo b2; go_simp; with_reducible rfl
  rotate_left; · simp only [pk, i64_w, i32_w]; rfl
  refine take_ (i := 2) (N := some 21) (v := ?_) (a' := ?_) #[I,I,I,O,O,O,O] rfl rfl (by kernel_rfl) (fun _ _ _ h => h) (Or.inl ⟨by rfl, ?_⟩) hHeld ?_ ?_
  rotate_left; · rintro w' ⟨b0, b1, b2⟩; obtain ⟨_, _⟩ := cq2 b0; obtain ⟨_, _, _, _⟩ := cq4 b1; have b2 := clo b2; go_simp; with_reducible rfl
  rotate_left; · simp only [pk, i64_w, i32_w]; rfl
  refine pure_ (i := 3) (N := some 22) (v := ?_) (a' := ?_) #[I,I,I,I,O,O,O] rfl rfl (by kernel_rfl) (fun _ _ _ h => h) (Or.inl ⟨by rfl, ?_⟩) ?_ ?_
  rotate_left; · intro w'; go_simp; with_reducible rfl
  rotate_left; · simp only [pk, i64_w, i32_w]; rfl
  refine take_ (i := 4) (N := some 23) (v := ?_) (a' := ?_) #[I,I,I,I,I,O,O] rfl rfl (by kernel_rfl) (fun _ _ _ h => h) (Or.inl ⟨by rfl, ?_⟩) hHeld ?_ ?_
  rotate_left; · rintro w' ⟨b0, b1, b2⟩; obtain ⟨_, _⟩ := cq2 b0; obtain ⟨_, _, _, _⟩ := cq4 b1; have b2 := clo b2; go_simp; with_reducible rfl
  rotate_left; · simp only [pk, i64_w, i32_w]; rfl
  refine one_ (i := 5) (N := some 24) #[I,I,I,I,I,I,O] rfl rfl (by kernel_rfl) (by decide) (fun K hK => ?_)
  refine goS Tryz.func57 #[.agg #[.slice (some ad479) l0_0.length c0_0, .slice A0_1 l0_1.length c0_1], .int .i64 (rd ((rd_T62 l0_0 a1).f3) 0)] ?_
  with_reducible refine (impl_showValue.calls k _ _ l0_0 _ _ l0_1 (rd ((rd_T62 l0_0 a1).f3) 0) t483 _ ?side1 ?side2 ?side3 ?side4 (by first | (with_reducible exact HTAB.out) | exact tabW_below HTAB.out (be w)) A10.out).mono ?_
  (case side1 => exact Kd.C_below HR0_0.out (be w))
  (case side2 => exact HC0_0.out)
  (case side3 => exact Kd.C_below HR0_1.out (be w))
  (case side4 => exact HC0_1.out)
  rintro e w24 ⟨rfl, hb⟩
  refine ⟨_, rfl, ?_⟩
  replace BK478 := bb BK478 hb; replace BK480 := bb BK480 hb; replace HB := bs w hb; (try clear hb); (try clear hb2); (try clear hk); (try clear hi)
  refine hK.out _ _ (ba (bf BK478.out) (ba (bf BK480.out) (cf hw482_0))) (fun hHeld => ?_)
  clear hK K; refine nm _ ?_
  refine pure_ (i := 6) (N := some 9) (v := ?_) (a' := ?_) #[I,I,I,I,I,I,I] rfl rfl (by kernel_rfl) (fun _ _ _ h => h) (Or.inl ⟨by rfl, ?_⟩) ?_ ?_
  rotate_left; · intro w'; go_simp; with_reducible rfl
  rotate_left; · simp only [pk, i64_w, i32_w]; rfl
  refine done_ (by kernel_rfl) ?_
  obtain ⟨y25a, y25b, y25c, y25d, v25a, v25b, v25c, v25d⟩ := cl4 BK480.out
  try go_wp2
  go_ret
  exact ⟨by first | rfl | (simp [errW_none, errW_some] <;> rfl) | (simp only [← hji6, ← hji7]; first | rfl | (simp [errW_none, errW_some] <;> rfl)) | (simp [*, errW_none, errW_some] <;> rfl), be w⟩
 rw [if_neg c11] at H; have c11b0 : (((rd_T62 l0_0 a1).f0) == 13) = false := beq_eq_false_iff_ne.mpr c11; have c11b1 : (((rd_T62 l0_0 a1).f0) != 13) = true := bne_iff_ne.mpr c11
 by_cases c26 : ((rd_T62 l0_0 a1).f0) = 14
 ·
  rw [if_pos c26] at H; have c26b0 : (((rd_T62 l0_0 a1).f0) == 14) = true := beq_iff_eq.mpr c26; have c26b1 : (((rd_T62 l0_0 a1).f0) != 14) = false := bne_eq_false_iff_eq.mpr c26; clear c26; replace H := il H; obtain ⟨c27, c27b0, c27b1, c27b2, H⟩ := H; replace H := il H; obtain ⟨c28, c28b0, c28b1, c28b2, H⟩ := H
  try have c28b4 : (9223372036854775807 < t481.size + ((rd_T62 l0_0 a1).f2).size + 3) = False := eq_false (Nat.not_lt.2 (by have h_ := c28; simp only [ByteArray.size_append] at h_; exact h_))
  replace H := il H; obtain ⟨c29, c29b0, c29b1, c29b2, H⟩ := H
  try have c29b4 : (9223372036854775807 < t481.size + ((rd_T62 l0_0 a1).f2).size + 3 + t483.size) = False := eq_false (Nat.not_lt.2 (by have h_ := c29; simp only [ByteArray.size_append] at h_; exact h_))
  replace H := il H; obtain ⟨c30, c30b0, c30b1, c30b2, H⟩ := H
  try have c30b4 : (9223372036854775807 < t481.size + ((rd_T62 l0_0 a1).f2).size + 3 + t483.size + 2) = False := eq_false (Nat.not_lt.2 (by have h_ := c30; simp only [ByteArray.size_append] at h_; exact h_))
  obtain rfl := sj H; go_enter Tryz.func48, Tryz.ntmps48
  try go_wp2_with (first | ((with_reducible refine gate_dst (N := 3) rfl ?_); refine bxe 3 #[.slice A0_0 l0_0.length c0_0, .slice A0_1 l0_1.length c0_1] 32 ?_; intro gb478 hg w31 BK478 hb; have GW478 := As.mk (gs w hg); replace HB := bs w hb; clear hb hg; obtain ⟨y32a, y32b, v32a, v32b⟩ := cl2 BK478.out; obtain ⟨ad479, A479_3, c479_3, e479, p479, q479, x479a, x479b, x479c, x479d, HC479_3, HR479_3⟩ := bt_T62 HB.out HR0_0.out a1 od od; cases e479) | ((with_reducible refine gate_dst (N := 7) rfl ?_); refine bxe 7 #[.int .i64 0, .int .i64 0, .string (⟨#[]⟩ : ByteArray), .slice none 0 0] 62 ?_; intro gb480 hg w33 BK480 hb; have GW480 := As.mk (gs w hg); replace HB := bs w hb; have NB478_480 := As.mk (nl hg (bx BK478.out)); have NB480_478 := As.mk (ng hg (bx BK478.out)); replace BK478 := bb BK478 hb; clear hb hg; have hnb34 := NB480_478.out; have hnc34 := NB478_480.out; obtain ⟨y35a, y35b, y35c, y35d, v35a, v35b, v35c, v35d⟩ := cl4 BK480.out) | ((with_reducible refine gate_callee (f := 74) rfl ?_); refine goesL_ (some 18) rfl rfl Tryz.func74 (by kernel_rfl) rfl #[.string (⟨#[32, 32]⟩ : ByteArray), .int .i64 ji7] rfl (by (try simp only [lm]); first | done | (simp only [hji7]; rfl) | rfl | (simp only [List.length_drop, List.length_take]; rfl)) ?_; (with_reducible refine (strings_Repeat.calls (⟨#[32, 32]⟩ : ByteArray) ji7 t481 _ A8.out).mono ?_); rintro e w36 ⟨rfl, hb⟩; refine ⟨_, rfl, ?_⟩; replace BK478 := As.mk (blk_below (g := gb478) (o := .cells #[.slice (some ad479) l0_0.length c0_0, .slice A0_1 l0_1.length c0_1] 32 (0, 0)) (by refine pl ?_; refine blk_far ?_ NB478_480.out _; refine pl ?_; refine blk_far ?_ NB478_480.out _; refine pl ?_; refine blk_far ?_ NB478_480.out _; refine pl ?_; refine blk_far ?_ NB478_480.out _; exact bx BK478.out) hb); replace BK480 := As.mk (blk_below (g := gb480) (o := .cells #[.int .i64 ((rd_T62 l0_0 a1).f0), .int .i64 ((rd_T62 l0_0 a1).f1), .string ((rd_T62 l0_0 a1).f2), .slice A479_3 ((rd_T62 l0_0 a1).f3).length c479_3] 62 (0, 0)) (by exact pl (bp4 (bx BK480.out))) hb); replace HB := bs w hb; (try clear hb)))
  replace BK478 := As.mk (blk_drew BK478.out); replace BK480 := As.mk (blk_drew BK480.out); replace HB := As.mk (below_drew1 HB.out); have p482 : 0 ≤ (0 : Int) := (by omega); have q482 : 0 < (((rd_T62 l0_0 a1).f3).length : Int) := od; obtain ⟨ad482, e482, x482a⟩ := Kd.at_int HR479_3.out 0 p482 q482; have hw482_0 := x482a; (try rw [show ((0 : Int)).toNat = 0 from rfl] at hw482_0); (try rw [show 0 * 1 = 0 from rfl] at hw482_0); (try rw [Addr.add_zero'] at hw482_0); cases e482; have qi482 : (0 < ((rd_T62 l0_0 a1).f3).length) = True := eq_true (by omega); (try rw [show ((0 : Int)).toNat = 0 from rfl] at x482a); (try rw [Addr.add_zero'] at x482a); replace x482a := ce HB.out x482a; replace p482 := eq_true p482; replace q482 := eq_true q482
  refine start_ (n := 7) (S := _) (ds := []) #[O,O,O,O,O,O,O] (by kernel_rfl) rfl rfl (ba (bf BK478.out) (ba (bf BK480.out) (cf hw482_0))) (fun hHeld => ?_)
  generalize w36.drew = w37 at BK478 BK480 HB x482a hHeld ⊢
  refine pure_ (i := 1) (N := some 20) (v := ?_) (a' := ?_) #[O,I,O,O,O,O,O] rfl rfl (by kernel_rfl) (fun _ _ _ h => h) (Or.inl ⟨by rfl, ?_⟩) ?_ ?_
  rotate_left; · intro w'; go_simp; with_reducible rfl
  rotate_left; · simp only [pk, i64_w, i32_w]; rfl
  refine take_ (i := 0) (N := some 19) (v := ?_) (a' := ?_) #[I,I,O,O,O,O,O] rfl rfl (by kernel_rfl) (fun _ _ _ h => h) (Or.inl ⟨by rfl, ?_⟩) hHeld ?_ ?_
  rotate_left; · rintro w' ⟨b0, b1, b2⟩; obtain ⟨_, _⟩ := cq2 b0; obtain ⟨_, _, _, _⟩ := cq4 b1; have b2 := clo b2; go_simp; with_reducible rfl
  rotate_left; · simp only [pk, i64_w, i32_w]; rfl
  refine take_ (i := 2) (N := some 21) (v := ?_) (a' := ?_) #[I,I,I,O,O,O,O] rfl rfl (by kernel_rfl) (fun _ _ _ h => h) (Or.inl ⟨by rfl, ?_⟩) hHeld ?_ ?_
  rotate_left; · rintro w' ⟨b0, b1, b2⟩; obtain ⟨_, _⟩ := cq2 b0; obtain ⟨_, _, _, _⟩ := cq4 b1; have b2 := clo b2; go_simp; with_reducible rfl
  rotate_left; · simp only [pk, i64_w, i32_w]; rfl
  refine pure_ (i := 3) (N := some 22) (v := ?_) (a' := ?_) #[I,I,I,I,O,O,O] rfl rfl (by kernel_rfl) (fun _ _ _ h => h) (Or.inl ⟨by rfl, ?_⟩) ?_ ?_
  rotate_left; · intro w'; go_simp; with_reducible rfl
  rotate_left; · simp only [pk, i64_w, i32_w]; rfl
  refine take_ (i := 4) (N := some 23) (v := ?_) (a' := ?_) #[I,I,I,I,I,O,O] rfl rfl (by kernel_rfl) (fun _ _ _ h => h) (Or.inl ⟨by rfl, ?_⟩) hHeld ?_ ?_
  rotate_left; · rintro w' ⟨b0, b1, b2⟩; obtain ⟨_, _⟩ := cq2 b0; obtain ⟨_, _, _, _⟩ := cq4 b1; have b2 := clo b2; go_simp; with_reducible rfl
  rotate_left; · simp only [pk, i64_w, i32_w]; rfl
  refine one_ (i := 5) (N := some 24) #[I,I,I,I,I,I,O] rfl rfl (by kernel_rfl) (by decide) (fun K hK => ?_)
  refine goS Tryz.func57 #[.agg #[.slice (some ad479) l0_0.length c0_0, .slice A0_1 l0_1.length c0_1], .int .i64 (rd ((rd_T62 l0_0 a1).f3) 0)] ?_
  with_reducible refine (impl_showValue.calls k _ _ l0_0 _ _ l0_1 (rd ((rd_T62 l0_0 a1).f3) 0) t483 _ ?side1 ?side2 ?side3 ?side4 (by first | (with_reducible exact HTAB.out) | exact tabW_below HTAB.out (be w)) A10.out).mono ?_
  (case side1 => exact Kd.C_below HR0_0.out (be w))
  (case side2 => exact HC0_0.out)
  (case side3 => exact Kd.C_below HR0_1.out (be w))
  (case side4 => exact HC0_1.out)
  rintro e w38 ⟨rfl, hb⟩
  refine ⟨_, rfl, ?_⟩
  replace BK478 := bb BK478 hb; replace BK480 := bb BK480 hb; replace HB := bs w hb; (try clear hb); (try clear hb2); (try clear hk); (try clear hi)
  refine hK.out _ _ (ba (bf BK478.out) (ba (bf BK480.out) (cf hw482_0))) (fun hHeld => ?_)
  clear hK K; refine nm _ ?_
  refine pure_ (i := 6) (N := some 9) (v := ?_) (a' := ?_) #[I,I,I,I,I,I,I] rfl rfl (by kernel_rfl) (fun _ _ _ h => h) (Or.inl ⟨by rfl, ?_⟩) ?_ ?_
  rotate_left; · intro w'; go_simp; with_reducible rfl
  rotate_left; · simp only [pk, i64_w, i32_w]; rfl
  refine done_ (by kernel_rfl) ?_
  obtain ⟨y39a, y39b, y39c, y39d, v39a, v39b, v39c, v39d⟩ := cl4 BK480.out
  try go_wp2
  go_ret
  exact ⟨by first | rfl | (simp [errW_none, errW_some] <;> rfl) | (simp only [← hji6, ← hji7]; first | rfl | (simp [errW_none, errW_some] <;> rfl)) | (simp [*, errW_none, errW_some] <;> rfl), be w⟩
 rw [if_neg c26] at H; have c26b0 : (((rd_T62 l0_0 a1).f0) == 14) = false := beq_eq_false_iff_ne.mpr c26; have c26b1 : (((rd_T62 l0_0 a1).f0) != 14) = true := bne_iff_ne.mpr c26
 by_cases c40 : ((rd_T62 l0_0 a1).f0) = 15
 ·
  rw [if_pos c40] at H; have c40b0 : (((rd_T62 l0_0 a1).f0) == 15) = true := beq_iff_eq.mpr c40; have c40b1 : (((rd_T62 l0_0 a1).f0) != 15) = false := bne_eq_false_iff_eq.mpr c40; clear c40; replace H := il H; obtain ⟨c41, c41b0, c41b1, c41b2, H⟩ := H; replace H := il H; obtain ⟨c42, c42b0, c42b1, c42b2, H⟩ := H
  try have c42b4 : (9223372036854775807 < t481.size + 1 + ((rd_T62 l0_0 a1).f2).size) = False := eq_false (Nat.not_lt.2 (by have h_ := c42; simp only [ByteArray.size_append] at h_; exact h_))
  replace H := il H; obtain ⟨c43, c43b0, c43b1, c43b2, H⟩ := H
  try have c43b4 : (9223372036854775807 < t481.size + 1 + ((rd_T62 l0_0 a1).f2).size + 3) = False := eq_false (Nat.not_lt.2 (by have h_ := c43; simp only [ByteArray.size_append] at h_; exact h_))
  replace H := il H; obtain ⟨c44, c44b0, c44b1, c44b2, H⟩ := H
  try have c44b4 : (9223372036854775807 < t481.size + 1 + ((rd_T62 l0_0 a1).f2).size + 3 + t483.size) = False := eq_false (Nat.not_lt.2 (by have h_ := c44; simp only [ByteArray.size_append] at h_; exact h_))
  replace H := il H; obtain ⟨c45, c45b0, c45b1, c45b2, H⟩ := H
  try have c45b4 : (9223372036854775807 < t481.size + 1 + ((rd_T62 l0_0 a1).f2).size + 3 + t483.size + 2) = False := eq_false (Nat.not_lt.2 (by have h_ := c45; simp only [ByteArray.size_append] at h_; exact h_))
  obtain rfl := sj H; go_enter Tryz.func48, Tryz.ntmps48
  try go_wp2_with (first | ((with_reducible refine gate_dst (N := 3) rfl ?_); refine bxe 3 #[.slice A0_0 l0_0.length c0_0, .slice A0_1 l0_1.length c0_1] 32 ?_; intro gb478 hg w46 BK478 hb; have GW478 := As.mk (gs w hg); replace HB := bs w hb; clear hb hg; obtain ⟨y47a, y47b, v47a, v47b⟩ := cl2 BK478.out; obtain ⟨ad479, A479_3, c479_3, e479, p479, q479, x479a, x479b, x479c, x479d, HC479_3, HR479_3⟩ := bt_T62 HB.out HR0_0.out a1 od od; cases e479) | ((with_reducible refine gate_dst (N := 7) rfl ?_); refine bxe 7 #[.int .i64 0, .int .i64 0, .string (⟨#[]⟩ : ByteArray), .slice none 0 0] 62 ?_; intro gb480 hg w48 BK480 hb; have GW480 := As.mk (gs w hg); replace HB := bs w hb; have NB478_480 := As.mk (nl hg (bx BK478.out)); have NB480_478 := As.mk (ng hg (bx BK478.out)); replace BK478 := bb BK478 hb; clear hb hg; have hnb49 := NB480_478.out; have hnc49 := NB478_480.out; obtain ⟨y50a, y50b, y50c, y50d, v50a, v50b, v50c, v50d⟩ := cl4 BK480.out) | ((with_reducible refine gate_callee (f := 74) rfl ?_); refine goesL_ (some 18) rfl rfl Tryz.func74 (by kernel_rfl) rfl #[.string (⟨#[32, 32]⟩ : ByteArray), .int .i64 ji7] rfl (by (try simp only [lm]); first | done | (simp only [hji7]; rfl) | rfl | (simp only [List.length_drop, List.length_take]; rfl)) ?_; (with_reducible refine (strings_Repeat.calls (⟨#[32, 32]⟩ : ByteArray) ji7 t481 _ A8.out).mono ?_); rintro e w51 ⟨rfl, hb⟩; refine ⟨_, rfl, ?_⟩; replace BK478 := As.mk (blk_below (g := gb478) (o := .cells #[.slice (some ad479) l0_0.length c0_0, .slice A0_1 l0_1.length c0_1] 32 (0, 0)) (by refine pl ?_; refine blk_far ?_ NB478_480.out _; refine pl ?_; refine blk_far ?_ NB478_480.out _; refine pl ?_; refine blk_far ?_ NB478_480.out _; refine pl ?_; refine blk_far ?_ NB478_480.out _; exact bx BK478.out) hb); replace BK480 := As.mk (blk_below (g := gb480) (o := .cells #[.int .i64 ((rd_T62 l0_0 a1).f0), .int .i64 ((rd_T62 l0_0 a1).f1), .string ((rd_T62 l0_0 a1).f2), .slice A479_3 ((rd_T62 l0_0 a1).f3).length c479_3] 62 (0, 0)) (by exact pl (bp4 (bx BK480.out))) hb); replace HB := bs w hb; (try clear hb)))
  replace BK478 := As.mk (blk_drew BK478.out); replace BK480 := As.mk (blk_drew BK480.out); replace HB := As.mk (below_drew1 HB.out); have p482 : 0 ≤ (0 : Int) := (by omega); have q482 : 0 < (((rd_T62 l0_0 a1).f3).length : Int) := od; obtain ⟨ad482, e482, x482a⟩ := Kd.at_int HR479_3.out 0 p482 q482; have hw482_0 := x482a; (try rw [show ((0 : Int)).toNat = 0 from rfl] at hw482_0); (try rw [show 0 * 1 = 0 from rfl] at hw482_0); (try rw [Addr.add_zero'] at hw482_0); cases e482; have qi482 : (0 < ((rd_T62 l0_0 a1).f3).length) = True := eq_true (by omega); (try rw [show ((0 : Int)).toNat = 0 from rfl] at x482a); (try rw [Addr.add_zero'] at x482a); replace x482a := ce HB.out x482a; replace p482 := eq_true p482; replace q482 := eq_true q482
  refine start_ (n := 7) (S := _) (ds := []) #[O,O,O,O,O,O,O] (by kernel_rfl) rfl rfl (ba (bf BK478.out) (ba (bf BK480.out) (cf hw482_0))) (fun hHeld => ?_)
  generalize w51.drew = w52 at BK478 BK480 HB x482a hHeld ⊢
  refine pure_ (i := 1) (N := some 20) (v := ?_) (a' := ?_) #[O,I,O,O,O,O,O] rfl rfl (by kernel_rfl) (fun _ _ _ h => h) (Or.inl ⟨by rfl, ?_⟩) ?_ ?_
  rotate_left; · intro w'; go_simp; with_reducible rfl
  rotate_left; · simp only [pk, i64_w, i32_w]; rfl
  refine take_ (i := 0) (N := some 19) (v := ?_) (a' := ?_) #[I,I,O,O,O,O,O] rfl rfl (by kernel_rfl) (fun _ _ _ h => h) (Or.inl ⟨by rfl, ?_⟩) hHeld ?_ ?_
  rotate_left; · rintro w' ⟨b0, b1, b2⟩; obtain ⟨_, _⟩ := cq2 b0; obtain ⟨_, _, _, _⟩ := cq4 b1; have b2 := clo b2; go_simp; with_reducible rfl
  rotate_left; · simp only [pk, i64_w, i32_w]; rfl
  refine take_ (i := 2) (N := some 21) (v := ?_) (a' := ?_) #[I,I,I,O,O,O,O] rfl rfl (by kernel_rfl) (fun _ _ _ h => h) (Or.inl ⟨by rfl, ?_⟩) hHeld ?_ ?_
  rotate_left; · rintro w' ⟨b0, b1, b2⟩; obtain ⟨_, _⟩ := cq2 b0; obtain ⟨_, _, _, _⟩ := cq4 b1; have b2 := clo b2; go_simp; with_reducible rfl
  rotate_left; · simp only [pk, i64_w, i32_w]; rfl
  refine pure_ (i := 3) (N := some 22) (v := ?_) (a' := ?_) #[I,I,I,I,O,O,O] rfl rfl (by kernel_rfl) (fun _ _ _ h => h) (Or.inl ⟨by rfl, ?_⟩) ?_ ?_
  rotate_left; · intro w'; go_simp; with_reducible rfl
  rotate_left; · simp only [pk, i64_w, i32_w]; rfl
  refine take_ (i := 4) (N := some 23) (v := ?_) (a' := ?_) #[I,I,I,I,I,O,O] rfl rfl (by kernel_rfl) (fun _ _ _ h => h) (Or.inl ⟨by rfl, ?_⟩) hHeld ?_ ?_
  rotate_left; · rintro w' ⟨b0, b1, b2⟩; obtain ⟨_, _⟩ := cq2 b0; obtain ⟨_, _, _, _⟩ := cq4 b1; have b2 := clo b2; go_simp; with_reducible rfl
  rotate_left; · simp only [pk, i64_w, i32_w]; rfl
  refine one_ (i := 5) (N := some 24) #[I,I,I,I,I,I,O] rfl rfl (by kernel_rfl) (by decide) (fun K hK => ?_)
  refine goS Tryz.func57 #[.agg #[.slice (some ad479) l0_0.length c0_0, .slice A0_1 l0_1.length c0_1], .int .i64 (rd ((rd_T62 l0_0 a1).f3) 0)] ?_
  with_reducible refine (impl_showValue.calls k _ _ l0_0 _ _ l0_1 (rd ((rd_T62 l0_0 a1).f3) 0) t483 _ ?side1 ?side2 ?side3 ?side4 (by first | (with_reducible exact HTAB.out) | exact tabW_below HTAB.out (be w)) A10.out).mono ?_
  (case side1 => exact Kd.C_below HR0_0.out (be w))
  (case side2 => exact HC0_0.out)
  (case side3 => exact Kd.C_below HR0_1.out (be w))
  (case side4 => exact HC0_1.out)
  rintro e w53 ⟨rfl, hb⟩
  refine ⟨_, rfl, ?_⟩
  replace BK478 := bb BK478 hb; replace BK480 := bb BK480 hb; replace HB := bs w hb; (try clear hb); (try clear hb2); (try clear hk); (try clear hi)
  refine hK.out _ _ (ba (bf BK478.out) (ba (bf BK480.out) (cf hw482_0))) (fun hHeld => ?_)
  clear hK K; refine nm _ ?_
  refine pure_ (i := 6) (N := some 9) (v := ?_) (a' := ?_) #[I,I,I,I,I,I,I] rfl rfl (by kernel_rfl) (fun _ _ _ h => h) (Or.inl ⟨by rfl, ?_⟩) ?_ ?_
  rotate_left; · intro w'; go_simp; with_reducible rfl
  rotate_left; · simp only [pk, i64_w, i32_w]; rfl
  refine done_ (by kernel_rfl) ?_
  obtain ⟨y54a, y54b, y54c, y54d, v54a, v54b, v54c, v54d⟩ := cl4 BK480.out
  try go_wp2
  go_ret
  exact ⟨by first | rfl | (simp [errW_none, errW_some] <;> rfl) | (simp only [← hji6, ← hji7]; first | rfl | (simp [errW_none, errW_some] <;> rfl)) | (simp [*, errW_none, errW_some] <;> rfl), be w⟩
 rw [if_neg c40] at H; have c40b0 : (((rd_T62 l0_0 a1).f0) == 15) = false := beq_eq_false_iff_ne.mpr c40; have c40b1 : (((rd_T62 l0_0 a1).f0) != 15) = true := bne_iff_ne.mpr c40
 by_cases c55 : ((rd_T62 l0_0 a1).f0) = 16
 ·
  rw [if_pos c55] at H; have c55b0 : (((rd_T62 l0_0 a1).f0) == 16) = true := beq_iff_eq.mpr c55; have c55b1 : (((rd_T62 l0_0 a1).f0) != 16) = false := bne_eq_false_iff_eq.mpr c55; clear c55; replace H := il H; obtain ⟨c56, c56b0, c56b1, c56b2, H⟩ := H; replace H := il H; obtain ⟨c57, c57b0, c57b1, c57b2, H⟩ := H
  try have c57b4 : (9223372036854775807 < t481.size + 3 + t483.size) = False := eq_false (Nat.not_lt.2 (by have h_ := c57; simp only [ByteArray.size_append] at h_; exact h_))
  replace H := il H; obtain ⟨c58, c58b0, c58b1, c58b2, H⟩ := H
  try have c58b4 : (9223372036854775807 < t481.size + 3 + t483.size + 3) = False := eq_false (Nat.not_lt.2 (by have h_ := c58; simp only [ByteArray.size_append] at h_; exact h_))
  have c59 := i1 H; replace H := i2 H; have c59b0 := decide_eq_true c59; have c59b1 : decide (1 < ((rd_T62 l0_0 a1).f3).length) = true := decide_eq_true (by omega); clear c59; replace H := bo H; obtain ⟨t485, A60, H⟩ := H; replace H := il H; obtain ⟨c61, c61b0, c61b1, c61b2, H⟩ := H
  try have c61b4 : (9223372036854775807 < t481.size + 3 + t483.size + 3 + t485.size) = False := eq_false (Nat.not_lt.2 (by have h_ := c61; simp only [ByteArray.size_append] at h_; exact h_))
  replace H := il H; obtain ⟨c62, c62b0, c62b1, c62b2, H⟩ := H
  try have c62b4 : (9223372036854775807 < t481.size + 3 + t483.size + 3 + t485.size + t481.size) = False := eq_false (Nat.not_lt.2 (by have h_ := c62; simp only [ByteArray.size_append] at h_; exact h_))
  replace H := il H; obtain ⟨c63, c63b0, c63b1, c63b2, H⟩ := H
  try have c63b4 : (9223372036854775807 < t481.size + 3 + t483.size + 3 + t485.size + t481.size + 9) = False := eq_false (Nat.not_lt.2 (by have h_ := c63; simp only [ByteArray.size_append] at h_; exact h_))
  have c64 := i1 H; replace H := i2 H; have c64b0 := decide_eq_true c64; have c64b1 : decide (2 < ((rd_T62 l0_0 a1).f3).length) = true := decide_eq_true (by omega); clear c64; replace H := bo H; obtain ⟨t487, A65, H⟩ := H; replace H := il H; obtain ⟨c66, c66b0, c66b1, c66b2, H⟩ := H
  try have c66b4 : (9223372036854775807 < t481.size + 3 + t483.size + 3 + t485.size + t481.size + 9 + t487.size) = False := eq_false (Nat.not_lt.2 (by have h_ := c66; simp only [ByteArray.size_append] at h_; exact h_))
  replace H := il H; obtain ⟨c67, c67b0, c67b1, c67b2, H⟩ := H
  try have c67b4 : (9223372036854775807 < t481.size + 3 + t483.size + 3 + t485.size + t481.size + 9 + t487.size + t481.size) = False := eq_false (Nat.not_lt.2 (by have h_ := c67; simp only [ByteArray.size_append] at h_; exact h_))
  replace H := il H; obtain ⟨c68, c68b0, c68b1, c68b2, H⟩ := H
  try have c68b4 : (9223372036854775807 < t481.size + 3 + t483.size + 3 + t485.size + t481.size + 9 + t487.size + t481.size + 2) = False := eq_false (Nat.not_lt.2 (by have h_ := c68; simp only [ByteArray.size_append] at h_; exact h_))
  obtain rfl := sj H; go_enter Tryz.func48, Tryz.ntmps48
  try go_wp2_with (first | ((with_reducible refine gate_dst (N := 3) rfl ?_); refine bxe 3 #[.slice A0_0 l0_0.length c0_0, .slice A0_1 l0_1.length c0_1] 32 ?_; intro gb478 hg w69 BK478 hb; have GW478 := As.mk (gs w hg); replace HB := bs w hb; clear hb hg; obtain ⟨y70a, y70b, v70a, v70b⟩ := cl2 BK478.out; obtain ⟨ad479, A479_3, c479_3, e479, p479, q479, x479a, x479b, x479c, x479d, HC479_3, HR479_3⟩ := bt_T62 HB.out HR0_0.out a1 od od; cases e479) | ((with_reducible refine gate_dst (N := 7) rfl ?_); refine bxe 7 #[.int .i64 0, .int .i64 0, .string (⟨#[]⟩ : ByteArray), .slice none 0 0] 62 ?_; intro gb480 hg w71 BK480 hb; have GW480 := As.mk (gs w hg); replace HB := bs w hb; have NB478_480 := As.mk (nl hg (bx BK478.out)); have NB480_478 := As.mk (ng hg (bx BK478.out)); replace BK478 := bb BK478 hb; clear hb hg; have hnb72 := NB480_478.out; have hnc72 := NB478_480.out; obtain ⟨y73a, y73b, y73c, y73d, v73a, v73b, v73c, v73d⟩ := cl4 BK480.out) | ((with_reducible refine gate_callee (f := 74) rfl ?_); refine goesL_ (some 18) rfl rfl Tryz.func74 (by kernel_rfl) rfl #[.string (⟨#[32, 32]⟩ : ByteArray), .int .i64 ji7] rfl (by (try simp only [lm]); first | done | (simp only [hji7]; rfl) | rfl | (simp only [List.length_drop, List.length_take]; rfl)) ?_; (with_reducible refine (strings_Repeat.calls (⟨#[32, 32]⟩ : ByteArray) ji7 t481 _ A8.out).mono ?_); rintro e w74 ⟨rfl, hb⟩; refine ⟨_, rfl, ?_⟩; replace BK478 := As.mk (blk_below (g := gb478) (o := .cells #[.slice (some ad479) l0_0.length c0_0, .slice A0_1 l0_1.length c0_1] 32 (0, 0)) (by refine pl ?_; refine blk_far ?_ NB478_480.out _; refine pl ?_; refine blk_far ?_ NB478_480.out _; refine pl ?_; refine blk_far ?_ NB478_480.out _; refine pl ?_; refine blk_far ?_ NB478_480.out _; exact bx BK478.out) hb); replace BK480 := As.mk (blk_below (g := gb480) (o := .cells #[.int .i64 ((rd_T62 l0_0 a1).f0), .int .i64 ((rd_T62 l0_0 a1).f1), .string ((rd_T62 l0_0 a1).f2), .slice A479_3 ((rd_T62 l0_0 a1).f3).length c479_3] 62 (0, 0)) (by exact pl (bp4 (bx BK480.out))) hb); replace HB := bs w hb; (try clear hb)))
  replace BK478 := As.mk (blk_drew BK478.out); replace BK480 := As.mk (blk_drew BK480.out); replace HB := As.mk (below_drew1 HB.out); have p482 : 0 ≤ (0 : Int) := (by omega); have q482 : 0 < (((rd_T62 l0_0 a1).f3).length : Int) := od; obtain ⟨ad482, e482, x482a⟩ := Kd.at_int HR479_3.out 0 p482 q482; have hw482_0 := x482a; (try rw [show ((0 : Int)).toNat = 0 from rfl] at hw482_0); (try rw [show 0 * 1 = 0 from rfl] at hw482_0); (try rw [Addr.add_zero'] at hw482_0); cases e482; have qi482 : (0 < ((rd_T62 l0_0 a1).f3).length) = True := eq_true (by omega); (try rw [show ((0 : Int)).toNat = 0 from rfl] at x482a); (try rw [Addr.add_zero'] at x482a); replace x482a := ce HB.out x482a; replace p482 := eq_true p482; replace q482 := eq_true q482
  refine start_ (n := 7) (S := _) (ds := []) #[O,O,O,O,O,O,O] (by kernel_rfl) rfl rfl (ba (bf BK478.out) (ba (bf BK480.out) (cf hw482_0))) (fun hHeld => ?_)
  generalize w74.drew = w75 at BK478 BK480 HB x482a hHeld ⊢
  refine pure_ (i := 1) (N := some 20) (v := ?_) (a' := ?_) #[O,I,O,O,O,O,O] rfl rfl (by kernel_rfl) (fun _ _ _ h => h) (Or.inl ⟨by rfl, ?_⟩) ?_ ?_
  rotate_left; · intro w'; go_simp; with_reducible rfl
  rotate_left; · simp only [pk, i64_w, i32_w]; rfl
  refine take_ (i := 0) (N := some 19) (v := ?_) (a' := ?_) #[I,I,O,O,O,O,O] rfl rfl (by kernel_rfl) (fun _ _ _ h => h) (Or.inl ⟨by rfl, ?_⟩) hHeld ?_ ?_
  rotate_left; · rintro w' ⟨b0, b1, b2⟩; obtain ⟨_, _⟩ := cq2 b0; obtain ⟨_, _, _, _⟩ := cq4 b1; have b2 := clo b2; go_simp; with_reducible rfl
  rotate_left; · simp only [pk, i64_w, i32_w]; rfl
  refine take_ (i := 2) (N := some 21) (v := ?_) (a' := ?_) #[I,I,I,O,O,O,O] rfl rfl (by kernel_rfl) (fun _ _ _ h => h) (Or.inl ⟨by rfl, ?_⟩) hHeld ?_ ?_
  rotate_left; · rintro w' ⟨b0, b1, b2⟩; obtain ⟨_, _⟩ := cq2 b0; obtain ⟨_, _, _, _⟩ := cq4 b1; have b2 := clo b2; go_simp; with_reducible rfl
  rotate_left; · simp only [pk, i64_w, i32_w]; rfl
  refine pure_ (i := 3) (N := some 22) (v := ?_) (a' := ?_) #[I,I,I,I,O,O,O] rfl rfl (by kernel_rfl) (fun _ _ _ h => h) (Or.inl ⟨by rfl, ?_⟩) ?_ ?_
  rotate_left; · intro w'; go_simp; with_reducible rfl
  rotate_left; · simp only [pk, i64_w, i32_w]; rfl
  refine take_ (i := 4) (N := some 23) (v := ?_) (a' := ?_) #[I,I,I,I,I,O,O] rfl rfl (by kernel_rfl) (fun _ _ _ h => h) (Or.inl ⟨by rfl, ?_⟩) hHeld ?_ ?_
  rotate_left; · rintro w' ⟨b0, b1, b2⟩; obtain ⟨_, _⟩ := cq2 b0; obtain ⟨_, _, _, _⟩ := cq4 b1; have b2 := clo b2; go_simp; with_reducible rfl
  rotate_left; · simp only [pk, i64_w, i32_w]; rfl
  refine one_ (i := 5) (N := some 24) #[I,I,I,I,I,I,O] rfl rfl (by kernel_rfl) (by decide) (fun K hK => ?_)
  refine goS Tryz.func57 #[.agg #[.slice (some ad479) l0_0.length c0_0, .slice A0_1 l0_1.length c0_1], .int .i64 (rd ((rd_T62 l0_0 a1).f3) 0)] ?_
  with_reducible refine (impl_showValue.calls k _ _ l0_0 _ _ l0_1 (rd ((rd_T62 l0_0 a1).f3) 0) t483 _ ?side1 ?side2 ?side3 ?side4 (by first | (with_reducible exact HTAB.out) | exact tabW_below HTAB.out (be w)) A10.out).mono ?_
  (case side1 => exact Kd.C_below HR0_0.out (be w))
  (case side2 => exact HC0_0.out)
  (case side3 => exact Kd.C_below HR0_1.out (be w))
  (case side4 => exact HC0_1.out)
  rintro e w76 ⟨rfl, hb⟩
  refine ⟨_, rfl, ?_⟩
  replace BK478 := bb BK478 hb; replace BK480 := bb BK480 hb; replace HB := bs w hb; (try clear hb); (try clear hb2); (try clear hk); (try clear hi)
  refine hK.out _ _ (ba (bf BK478.out) (ba (bf BK480.out) (cf hw482_0))) (fun hHeld => ?_)
  clear hK K; refine nm _ ?_
  refine pure_ (i := 6) (N := some 9) (v := ?_) (a' := ?_) #[I,I,I,I,I,I,I] rfl rfl (by kernel_rfl) (fun _ _ _ h => h) (Or.inl ⟨by rfl, ?_⟩) ?_ ?_
  rotate_left; · intro w'; go_simp; with_reducible rfl
  rotate_left; · simp only [pk, i64_w, i32_w]; rfl
  refine done_ (by kernel_rfl) ?_
  obtain ⟨y77a, y77b, y77c, y77d, v77a, v77b, v77c, v77d⟩ := cl4 BK480.out
  try go_wp2
  replace BK478 := As.mk (blk_drew BK478.out); replace BK480 := As.mk (blk_drew BK480.out); replace HB := As.mk (below_drew1 HB.out); have p484 : 0 ≤ (1 : Int) := (by omega); have q484 : 1 < (((rd_T62 l0_0 a1).f3).length : Int) := od; obtain ⟨ad484, e484, x484a⟩ := Kd.at_int HR479_3.out 1 p484 q484; have hw484_0 := x484a; (try rw [show ((1 : Int)).toNat = 1 from rfl] at hw484_0); (try rw [show 1 * 1 = 1 from rfl] at hw484_0); (try simp only [Nat.reduceMul, Nat.reduceEqDiff, Go.Addr.add, ↓reduceIte] at hw484_0); obtain rfl : ad482 = ad484 := (by injection e484); (try simp only [show (1 : Int).toNat = 1 from rfl, Nat.reduceMul, Nat.reduceEqDiff, Go.Addr.add, ↓reduceIte] at x484a); have qi484 : (1 < ((rd_T62 l0_0 a1).f3).length) = True := eq_true (by omega); (try rw [show ((1 : Int)).toNat = 1 from rfl] at x484a); replace x484a := ce HB.out x484a; replace p484 := eq_true p484; replace q484 := eq_true q484; have p486 : 0 ≤ (2 : Int) := (by omega); have q486 : 2 < (((rd_T62 l0_0 a1).f3).length : Int) := od; obtain ⟨ad486, e486, x486a⟩ := Kd.at_int HR479_3.out 2 p486 q486; have hw486_0 := x486a; (try rw [show ((2 : Int)).toNat = 2 from rfl] at hw486_0); (try rw [show 2 * 1 = 2 from rfl] at hw486_0); (try simp only [Nat.reduceMul, Nat.reduceEqDiff, Go.Addr.add, ↓reduceIte] at hw486_0); obtain rfl : ad482 = ad486 := (by injection e486); (try simp only [show (2 : Int).toNat = 2 from rfl, Nat.reduceMul, Nat.reduceEqDiff, Go.Addr.add, ↓reduceIte] at x486a); have qi486 : (2 < ((rd_T62 l0_0 a1).f3).length) = True := eq_true (by omega); (try rw [show ((2 : Int)).toNat = 2 from rfl] at x486a); replace x486a := ce HB.out x486a; replace p486 := eq_true p486; replace q486 := eq_true q486
  refine start_ (n := 30) (S := _) (ds := []) #[O,O,O,O,O,O,O,O,O,O,O,O,O,O,O,O,O,O,O,O,O,O,O,O,O,O,O,O,O,O] (by kernel_rfl) rfl rfl (ba (bf BK478.out) (ba (bf BK480.out) (ba (cf hw484_0) (cf hw486_0)))) (fun hHeld => ?_); refine with_tabW impl_showStep.tab12 impl_showStep.bits12 (fun HT_ HW_ => ?_)
  generalize w76.drew = w78 at BK478 BK480 HB x484a x486a hHeld ⊢
  refine pq 0 61 HT_ _ _ ?_; refine pq 1 62 HT_ _ _ ?_; refine pq 2 63 HT_ _ _ ?_; refine pq 3 64 HT_ _ _ ?_; refine pq 4 65 HT_ _ _ ?_; refine pq 6 67 HT_ _ _ ?_; refine pq 10 71 HT_ _ _ ?_; refine pq 11 72 HT_ _ _ ?_; refine pq 14 75 HT_ _ _ ?_; refine pq 18 79 HT_ _ _ ?_; refine pq 22 83 HT_ _ _ ?_; refine pq 23 84 HT_ _ _ ?_; refine pq 26 87 HT_ _ _ ?_; refine tq_b2b4c1c1 5 66 HT_ HW_.out hHeld _ _ ?_; refine tq_b2b4c1c1 7 68 HT_ HW_.out hHeld _ _ ?_; refine pq 8 69 HT_ _ _ ?_; refine tq_b2b4c1c1 9 70 HT_ HW_.out hHeld _ _ ?_; refine tq_b2b4c1c1 17 78 HT_ HW_.out hHeld _ _ ?_; refine tq_b2b4c1c1 19 80 HT_ HW_.out hHeld _ _ ?_; refine pq 20 81 HT_ _ _ ?_; refine tq_b2b4c1c1 21 82 HT_ HW_.out hHeld _ _ ?_; refine on 12 (some 73) HT_ (fun K hK => ?_); refine goS Tryz.func75 #[.agg #[.slice (some ad479) l0_0.length c0_0, .slice A0_1 l0_1.length c0_1], .int .i64 (rd ((rd_T62 l0_0 a1).f3) 1), .int .i64 (wrap64 (a2 + 1))] ?_
  with_reducible refine (ih_impl_showSteps k (by omega) _ _ l0_0 _ _ l0_1 (rd ((rd_T62 l0_0 a1).f3) 1) (wrap64 (a2 + 1)) t485 _ ?side1 ?side2 ?side3 ?side4 (by first | (with_reducible exact HTAB.out) | exact tabW_below HTAB.out (be w)) A60.out).mono ?_
  (case side1 => exact Kd.C_below HR0_0.out (be w))
  (case side2 => exact HC0_0.out)
  (case side3 => exact Kd.C_below HR0_1.out (be w))
  (case side4 => exact HC0_1.out)
  rintro e w79 ⟨rfl, hb⟩
  refine ⟨_, rfl, ?_⟩
  replace BK478 := bb BK478 hb; replace BK480 := bb BK480 hb; replace HB := bs w hb; (try clear hb); (try clear hb2); (try clear hk); (try clear hi)
  refine hK.out _ _ (ba (bf BK478.out) (ba (bf BK480.out) (ba (cf hw484_0) (cf hw486_0)))) (fun hHeld => ?_)
  clear hK K; refine nm _ ?_; refine pq 13 74 HT_ _ _ ?_; refine pq 15 76 HT_ _ _ ?_; refine pq 16 77 HT_ _ _ ?_; refine on 24 (some 85) HT_ (fun K hK => ?_); refine goS Tryz.func75 #[.agg #[.slice (some ad479) l0_0.length c0_0, .slice A0_1 l0_1.length c0_1], .int .i64 (rd ((rd_T62 l0_0 a1).f3) 2), .int .i64 (wrap64 (a2 + 1))] ?_
  with_reducible refine (ih_impl_showSteps k (by omega) _ _ l0_0 _ _ l0_1 (rd ((rd_T62 l0_0 a1).f3) 2) (wrap64 (a2 + 1)) t487 _ ?side1 ?side2 ?side3 ?side4 (by first | (with_reducible exact HTAB.out) | exact tabW_below HTAB.out (be w)) A65.out).mono ?_
  (case side1 => exact Kd.C_below HR0_0.out (be w))
  (case side2 => exact HC0_0.out)
  (case side3 => exact Kd.C_below HR0_1.out (be w))
  (case side4 => exact HC0_1.out)
  rintro e w80 ⟨rfl, hb⟩
  refine ⟨_, rfl, ?_⟩
  replace BK478 := bb BK478 hb; replace BK480 := bb BK480 hb; replace HB := bs w hb; (try clear hb); (try clear hb2); (try clear hk); (try clear hi)
  refine hK.out _ _ (ba (bf BK478.out) (ba (bf BK480.out) (ba (cf hw484_0) (cf hw486_0)))) (fun hHeld => ?_)
  clear hK K; refine nm _ ?_; refine pq 25 86 HT_ _ _ ?_; refine pq 27 88 HT_ _ _ ?_; refine pq 28 89 HT_ _ _ ?_; refine pq 29 6 HT_ _ _ ?_
  refine done_ (done_of HT_.out (by kernel_rfl)) ?_
  try go_wp2
  go_ret
  exact ⟨by first | rfl | (simp [errW_none, errW_some] <;> rfl) | (simp only [← hji6, ← hji7]; first | rfl | (simp [errW_none, errW_some] <;> rfl)) | (simp [*, errW_none, errW_some] <;> rfl), be w⟩
 rw [if_neg c55] at H; have c55b0 : (((rd_T62 l0_0 a1).f0) == 16) = false := beq_eq_false_iff_ne.mpr c55; have c55b1 : (((rd_T62 l0_0 a1).f0) != 16) = true := bne_iff_ne.mpr c55
 by_cases c81 : ((rd_T62 l0_0 a1).f0) = 17
 rotate_left
 ·
  rw [if_neg c81] at H; have c81b0 : (((rd_T62 l0_0 a1).f0) == 17) = false := beq_eq_false_iff_ne.mpr c81; have c81b1 : (((rd_T62 l0_0 a1).f0) != 17) = true := bne_iff_ne.mpr c81
  by_cases c101 : ((rd_T62 l0_0 a1).f0) = 18
  rotate_left
  ·
   rw [if_neg c101] at H; have c101b0 : (((rd_T62 l0_0 a1).f0) == 18) = false := beq_eq_false_iff_ne.mpr c101; have c101b1 : (((rd_T62 l0_0 a1).f0) != 18) = true := bne_iff_ne.mpr c101; replace H := il H; obtain ⟨c114, c114b0, c114b1, c114b2, H⟩ := H; replace H := il H; obtain ⟨c115, c115b0, c115b1, c115b2, H⟩ := H
   try have c115b4 : (9223372036854775807 < t481.size + 3 + t483.size) = False := eq_false (Nat.not_lt.2 (by have h_ := c115; simp only [ByteArray.size_append] at h_; exact h_))
   replace H := il H; obtain ⟨c116, c116b0, c116b1, c116b2, H⟩ := H
   try have c116b4 : (9223372036854775807 < t481.size + 3 + t483.size + 2) = False := eq_false (Nat.not_lt.2 (by have h_ := c116; simp only [ByteArray.size_append] at h_; exact h_))
   obtain rfl := sj H; go_enter Tryz.func48, Tryz.ntmps48
   try go_wp2_with (first | ((with_reducible refine gate_dst (N := 3) rfl ?_); refine bxe 3 #[.slice A0_0 l0_0.length c0_0, .slice A0_1 l0_1.length c0_1] 32 ?_; intro gb478 hg w117 BK478 hb; have GW478 := As.mk (gs w hg); replace HB := bs w hb; clear hb hg; obtain ⟨y118a, y118b, v118a, v118b⟩ := cl2 BK478.out; obtain ⟨ad479, A479_3, c479_3, e479, p479, q479, x479a, x479b, x479c, x479d, HC479_3, HR479_3⟩ := bt_T62 HB.out HR0_0.out a1 od od; cases e479) | ((with_reducible refine gate_dst (N := 7) rfl ?_); refine bxe 7 #[.int .i64 0, .int .i64 0, .string (⟨#[]⟩ : ByteArray), .slice none 0 0] 62 ?_; intro gb480 hg w119 BK480 hb; have GW480 := As.mk (gs w hg); replace HB := bs w hb; have NB478_480 := As.mk (nl hg (bx BK478.out)); have NB480_478 := As.mk (ng hg (bx BK478.out)); replace BK478 := bb BK478 hb; clear hb hg; have hnb120 := NB480_478.out; have hnc120 := NB478_480.out; obtain ⟨y121a, y121b, y121c, y121d, v121a, v121b, v121c, v121d⟩ := cl4 BK480.out) | ((with_reducible refine gate_callee (f := 74) rfl ?_); refine goesL_ (some 18) rfl rfl Tryz.func74 (by kernel_rfl) rfl #[.string (⟨#[32, 32]⟩ : ByteArray), .int .i64 ji7] rfl (by (try simp only [lm]); first | done | (simp only [hji7]; rfl) | rfl | (simp only [List.length_drop, List.length_take]; rfl)) ?_; (with_reducible refine (strings_Repeat.calls (⟨#[32, 32]⟩ : ByteArray) ji7 t481 _ A8.out).mono ?_); rintro e w122 ⟨rfl, hb⟩; refine ⟨_, rfl, ?_⟩; replace BK478 := As.mk (blk_below (g := gb478) (o := .cells #[.slice (some ad479) l0_0.length c0_0, .slice A0_1 l0_1.length c0_1] 32 (0, 0)) (by refine pl ?_; refine blk_far ?_ NB478_480.out _; refine pl ?_; refine blk_far ?_ NB478_480.out _; refine pl ?_; refine blk_far ?_ NB478_480.out _; refine pl ?_; refine blk_far ?_ NB478_480.out _; exact bx BK478.out) hb); replace BK480 := As.mk (blk_below (g := gb480) (o := .cells #[.int .i64 ((rd_T62 l0_0 a1).f0), .int .i64 ((rd_T62 l0_0 a1).f1), .string ((rd_T62 l0_0 a1).f2), .slice A479_3 ((rd_T62 l0_0 a1).f3).length c479_3] 62 (0, 0)) (by exact pl (bp4 (bx BK480.out))) hb); replace HB := bs w hb; (try clear hb)))
   replace BK478 := As.mk (blk_drew BK478.out); replace BK480 := As.mk (blk_drew BK480.out); replace HB := As.mk (below_drew1 HB.out); have p482 : 0 ≤ (0 : Int) := (by omega); have q482 : 0 < (((rd_T62 l0_0 a1).f3).length : Int) := od; obtain ⟨ad482, e482, x482a⟩ := Kd.at_int HR479_3.out 0 p482 q482; have hw482_0 := x482a; (try rw [show ((0 : Int)).toNat = 0 from rfl] at hw482_0); (try rw [show 0 * 1 = 0 from rfl] at hw482_0); (try rw [Addr.add_zero'] at hw482_0); cases e482; have qi482 : (0 < ((rd_T62 l0_0 a1).f3).length) = True := eq_true (by omega); (try rw [show ((0 : Int)).toNat = 0 from rfl] at x482a); (try rw [Addr.add_zero'] at x482a); replace x482a := ce HB.out x482a; replace p482 := eq_true p482; replace q482 := eq_true q482
   refine start_ (n := 7) (S := _) (ds := []) #[O,O,O,O,O,O,O] (by kernel_rfl) rfl rfl (ba (bf BK478.out) (ba (bf BK480.out) (cf hw482_0))) (fun hHeld => ?_)
   generalize w122.drew = w123 at BK478 BK480 HB x482a hHeld ⊢
   refine pure_ (i := 1) (N := some 20) (v := ?_) (a' := ?_) #[O,I,O,O,O,O,O] rfl rfl (by kernel_rfl) (fun _ _ _ h => h) (Or.inl ⟨by rfl, ?_⟩) ?_ ?_
   rotate_left; · intro w'; go_simp; with_reducible rfl
   rotate_left; · simp only [pk, i64_w, i32_w]; rfl
   refine take_ (i := 0) (N := some 19) (v := ?_) (a' := ?_) #[I,I,O,O,O,O,O] rfl rfl (by kernel_rfl) (fun _ _ _ h => h) (Or.inl ⟨by rfl, ?_⟩) hHeld ?_ ?_
   rotate_left; · rintro w' ⟨b0, b1, b2⟩; obtain ⟨_, _⟩ := cq2 b0; obtain ⟨_, _, _, _⟩ := cq4 b1; have b2 := clo b2; go_simp; with_reducible rfl
   rotate_left; · simp only [pk, i64_w, i32_w]; rfl
   refine take_ (i := 2) (N := some 21) (v := ?_) (a' := ?_) #[I,I,I,O,O,O,O] rfl rfl (by kernel_rfl) (fun _ _ _ h => h) (Or.inl ⟨by rfl, ?_⟩) hHeld ?_ ?_
   rotate_left; · rintro w' ⟨b0, b1, b2⟩; obtain ⟨_, _⟩ := cq2 b0; obtain ⟨_, _, _, _⟩ := cq4 b1; have b2 := clo b2; go_simp; with_reducible rfl
   rotate_left; · simp only [pk, i64_w, i32_w]; rfl
   refine pure_ (i := 3) (N := some 22) (v := ?_) (a' := ?_) #[I,I,I,I,O,O,O] rfl rfl (by kernel_rfl) (fun _ _ _ h => h) (Or.inl ⟨by rfl, ?_⟩) ?_ ?_
   rotate_left; · intro w'; go_simp; with_reducible rfl
   rotate_left; · simp only [pk, i64_w, i32_w]; rfl
   refine take_ (i := 4) (N := some 23) (v := ?_) (a' := ?_) #[I,I,I,I,I,O,O] rfl rfl (by kernel_rfl) (fun _ _ _ h => h) (Or.inl ⟨by rfl, ?_⟩) hHeld ?_ ?_
   rotate_left; · rintro w' ⟨b0, b1, b2⟩; obtain ⟨_, _⟩ := cq2 b0; obtain ⟨_, _, _, _⟩ := cq4 b1; have b2 := clo b2; go_simp; with_reducible rfl
   rotate_left; · simp only [pk, i64_w, i32_w]; rfl
   refine one_ (i := 5) (N := some 24) #[I,I,I,I,I,I,O] rfl rfl (by kernel_rfl) (by decide) (fun K hK => ?_)
   refine goS Tryz.func57 #[.agg #[.slice (some ad479) l0_0.length c0_0, .slice A0_1 l0_1.length c0_1], .int .i64 (rd ((rd_T62 l0_0 a1).f3) 0)] ?_
   with_reducible refine (impl_showValue.calls k _ _ l0_0 _ _ l0_1 (rd ((rd_T62 l0_0 a1).f3) 0) t483 _ ?side1 ?side2 ?side3 ?side4 (by first | (with_reducible exact HTAB.out) | exact tabW_below HTAB.out (be w)) A10.out).mono ?_
   (case side1 => exact Kd.C_below HR0_0.out (be w))
   (case side2 => exact HC0_0.out)
   (case side3 => exact Kd.C_below HR0_1.out (be w))
   (case side4 => exact HC0_1.out)
   rintro e w124 ⟨rfl, hb⟩
   refine ⟨_, rfl, ?_⟩
   replace BK478 := bb BK478 hb; replace BK480 := bb BK480 hb; replace HB := bs w hb; (try clear hb); (try clear hb2); (try clear hk); (try clear hi)
   refine hK.out _ _ (ba (bf BK478.out) (ba (bf BK480.out) (cf hw482_0))) (fun hHeld => ?_)
   clear hK K; refine nm _ ?_
   refine pure_ (i := 6) (N := some 9) (v := ?_) (a' := ?_) #[I,I,I,I,I,I,I] rfl rfl (by kernel_rfl) (fun _ _ _ h => h) (Or.inl ⟨by rfl, ?_⟩) ?_ ?_
   rotate_left; · intro w'; go_simp; with_reducible rfl
   rotate_left; · simp only [pk, i64_w, i32_w]; rfl
   refine done_ (by kernel_rfl) ?_
   obtain ⟨y125a, y125b, y125c, y125d, v125a, v125b, v125c, v125d⟩ := cl4 BK480.out
   try go_wp2
   go_ret
   exact ⟨by first | rfl | (simp [errW_none, errW_some] <;> rfl) | (simp only [← hji6, ← hji7]; first | rfl | (simp [errW_none, errW_some] <;> rfl)) | (simp [*, errW_none, errW_some] <;> rfl), be w⟩
  rw [if_pos c101] at H; have c101b0 : (((rd_T62 l0_0 a1).f0) == 18) = true := beq_iff_eq.mpr c101; have c101b1 : (((rd_T62 l0_0 a1).f0) != 18) = false := bne_eq_false_iff_eq.mpr c101; clear c101; replace H := il H; obtain ⟨c102, c102b0, c102b1, c102b2, H⟩ := H; replace H := il H; obtain ⟨c103, c103b0, c103b1, c103b2, H⟩ := H
  try have c103b4 : (9223372036854775807 < t481.size + 6 + t483.size) = False := eq_false (Nat.not_lt.2 (by have h_ := c103; simp only [ByteArray.size_append] at h_; exact h_))
  replace H := il H; obtain ⟨c104, c104b0, c104b1, c104b2, H⟩ := H
  try have c104b4 : (9223372036854775807 < t481.size + 6 + t483.size + 2) = False := eq_false (Nat.not_lt.2 (by have h_ := c104; simp only [ByteArray.size_append] at h_; exact h_))
  obtain rfl := sj H; go_enter Tryz.func48, Tryz.ntmps48
  try go_wp2_with (first | ((with_reducible refine gate_dst (N := 3) rfl ?_); refine bxe 3 #[.slice A0_0 l0_0.length c0_0, .slice A0_1 l0_1.length c0_1] 32 ?_; intro gb478 hg w105 BK478 hb; have GW478 := As.mk (gs w hg); replace HB := bs w hb; clear hb hg; obtain ⟨y106a, y106b, v106a, v106b⟩ := cl2 BK478.out; obtain ⟨ad479, A479_3, c479_3, e479, p479, q479, x479a, x479b, x479c, x479d, HC479_3, HR479_3⟩ := bt_T62 HB.out HR0_0.out a1 od od; cases e479) | ((with_reducible refine gate_dst (N := 7) rfl ?_); refine bxe 7 #[.int .i64 0, .int .i64 0, .string (⟨#[]⟩ : ByteArray), .slice none 0 0] 62 ?_; intro gb480 hg w107 BK480 hb; have GW480 := As.mk (gs w hg); replace HB := bs w hb; have NB478_480 := As.mk (nl hg (bx BK478.out)); have NB480_478 := As.mk (ng hg (bx BK478.out)); replace BK478 := bb BK478 hb; clear hb hg; have hnb108 := NB480_478.out; have hnc108 := NB478_480.out; obtain ⟨y109a, y109b, y109c, y109d, v109a, v109b, v109c, v109d⟩ := cl4 BK480.out) | ((with_reducible refine gate_callee (f := 74) rfl ?_); refine goesL_ (some 18) rfl rfl Tryz.func74 (by kernel_rfl) rfl #[.string (⟨#[32, 32]⟩ : ByteArray), .int .i64 ji7] rfl (by (try simp only [lm]); first | done | (simp only [hji7]; rfl) | rfl | (simp only [List.length_drop, List.length_take]; rfl)) ?_; (with_reducible refine (strings_Repeat.calls (⟨#[32, 32]⟩ : ByteArray) ji7 t481 _ A8.out).mono ?_); rintro e w110 ⟨rfl, hb⟩; refine ⟨_, rfl, ?_⟩; replace BK478 := As.mk (blk_below (g := gb478) (o := .cells #[.slice (some ad479) l0_0.length c0_0, .slice A0_1 l0_1.length c0_1] 32 (0, 0)) (by refine pl ?_; refine blk_far ?_ NB478_480.out _; refine pl ?_; refine blk_far ?_ NB478_480.out _; refine pl ?_; refine blk_far ?_ NB478_480.out _; refine pl ?_; refine blk_far ?_ NB478_480.out _; exact bx BK478.out) hb); replace BK480 := As.mk (blk_below (g := gb480) (o := .cells #[.int .i64 ((rd_T62 l0_0 a1).f0), .int .i64 ((rd_T62 l0_0 a1).f1), .string ((rd_T62 l0_0 a1).f2), .slice A479_3 ((rd_T62 l0_0 a1).f3).length c479_3] 62 (0, 0)) (by exact pl (bp4 (bx BK480.out))) hb); replace HB := bs w hb; (try clear hb)))
  replace BK478 := As.mk (blk_drew BK478.out); replace BK480 := As.mk (blk_drew BK480.out); replace HB := As.mk (below_drew1 HB.out); have p482 : 0 ≤ (0 : Int) := (by omega); have q482 : 0 < (((rd_T62 l0_0 a1).f3).length : Int) := od; obtain ⟨ad482, e482, x482a⟩ := Kd.at_int HR479_3.out 0 p482 q482; have hw482_0 := x482a; (try rw [show ((0 : Int)).toNat = 0 from rfl] at hw482_0); (try rw [show 0 * 1 = 0 from rfl] at hw482_0); (try rw [Addr.add_zero'] at hw482_0); cases e482; have qi482 : (0 < ((rd_T62 l0_0 a1).f3).length) = True := eq_true (by omega); (try rw [show ((0 : Int)).toNat = 0 from rfl] at x482a); (try rw [Addr.add_zero'] at x482a); replace x482a := ce HB.out x482a; replace p482 := eq_true p482; replace q482 := eq_true q482
  refine start_ (n := 7) (S := _) (ds := []) #[O,O,O,O,O,O,O] (by kernel_rfl) rfl rfl (ba (bf BK478.out) (ba (bf BK480.out) (cf hw482_0))) (fun hHeld => ?_)
  generalize w110.drew = w111 at BK478 BK480 HB x482a hHeld ⊢
  refine pure_ (i := 1) (N := some 20) (v := ?_) (a' := ?_) #[O,I,O,O,O,O,O] rfl rfl (by kernel_rfl) (fun _ _ _ h => h) (Or.inl ⟨by rfl, ?_⟩) ?_ ?_
  rotate_left; · intro w'; go_simp; with_reducible rfl
  rotate_left; · simp only [pk, i64_w, i32_w]; rfl
  refine take_ (i := 0) (N := some 19) (v := ?_) (a' := ?_) #[I,I,O,O,O,O,O] rfl rfl (by kernel_rfl) (fun _ _ _ h => h) (Or.inl ⟨by rfl, ?_⟩) hHeld ?_ ?_
  rotate_left; · rintro w' ⟨b0, b1, b2⟩; obtain ⟨_, _⟩ := cq2 b0; obtain ⟨_, _, _, _⟩ := cq4 b1; have b2 := clo b2; go_simp; with_reducible rfl
  rotate_left; · simp only [pk, i64_w, i32_w]; rfl
  refine take_ (i := 2) (N := some 21) (v := ?_) (a' := ?_) #[I,I,I,O,O,O,O] rfl rfl (by kernel_rfl) (fun _ _ _ h => h) (Or.inl ⟨by rfl, ?_⟩) hHeld ?_ ?_
  rotate_left; · rintro w' ⟨b0, b1, b2⟩; obtain ⟨_, _⟩ := cq2 b0; obtain ⟨_, _, _, _⟩ := cq4 b1; have b2 := clo b2; go_simp; with_reducible rfl
  rotate_left; · simp only [pk, i64_w, i32_w]; rfl
  refine pure_ (i := 3) (N := some 22) (v := ?_) (a' := ?_) #[I,I,I,I,O,O,O] rfl rfl (by kernel_rfl) (fun _ _ _ h => h) (Or.inl ⟨by rfl, ?_⟩) ?_ ?_
  rotate_left; · intro w'; go_simp; with_reducible rfl
  rotate_left; · simp only [pk, i64_w, i32_w]; rfl
  refine take_ (i := 4) (N := some 23) (v := ?_) (a' := ?_) #[I,I,I,I,I,O,O] rfl rfl (by kernel_rfl) (fun _ _ _ h => h) (Or.inl ⟨by rfl, ?_⟩) hHeld ?_ ?_
  rotate_left; · rintro w' ⟨b0, b1, b2⟩; obtain ⟨_, _⟩ := cq2 b0; obtain ⟨_, _, _, _⟩ := cq4 b1; have b2 := clo b2; go_simp; with_reducible rfl
  rotate_left; · simp only [pk, i64_w, i32_w]; rfl
  refine one_ (i := 5) (N := some 24) #[I,I,I,I,I,I,O] rfl rfl (by kernel_rfl) (by decide) (fun K hK => ?_)
  refine goS Tryz.func57 #[.agg #[.slice (some ad479) l0_0.length c0_0, .slice A0_1 l0_1.length c0_1], .int .i64 (rd ((rd_T62 l0_0 a1).f3) 0)] ?_
  with_reducible refine (impl_showValue.calls k _ _ l0_0 _ _ l0_1 (rd ((rd_T62 l0_0 a1).f3) 0) t483 _ ?side1 ?side2 ?side3 ?side4 (by first | (with_reducible exact HTAB.out) | exact tabW_below HTAB.out (be w)) A10.out).mono ?_
  (case side1 => exact Kd.C_below HR0_0.out (be w))
  (case side2 => exact HC0_0.out)
  (case side3 => exact Kd.C_below HR0_1.out (be w))
  (case side4 => exact HC0_1.out)
  rintro e w112 ⟨rfl, hb⟩
  refine ⟨_, rfl, ?_⟩
  replace BK478 := bb BK478 hb; replace BK480 := bb BK480 hb; replace HB := bs w hb; (try clear hb); (try clear hb2); (try clear hk); (try clear hi)
  refine hK.out _ _ (ba (bf BK478.out) (ba (bf BK480.out) (cf hw482_0))) (fun hHeld => ?_)
  clear hK K; refine nm _ ?_
  refine pure_ (i := 6) (N := some 9) (v := ?_) (a' := ?_) #[I,I,I,I,I,I,I] rfl rfl (by kernel_rfl) (fun _ _ _ h => h) (Or.inl ⟨by rfl, ?_⟩) ?_ ?_
  rotate_left; · intro w'; go_simp; with_reducible rfl
  rotate_left; · simp only [pk, i64_w, i32_w]; rfl
  refine done_ (by kernel_rfl) ?_
  obtain ⟨y113a, y113b, y113c, y113d, v113a, v113b, v113c, v113d⟩ := cl4 BK480.out
  try go_wp2
  go_ret
  exact ⟨by first | rfl | (simp [errW_none, errW_some] <;> rfl) | (simp only [← hji6, ← hji7]; first | rfl | (simp [errW_none, errW_some] <;> rfl)) | (simp [*, errW_none, errW_some] <;> rfl), be w⟩
 rw [if_pos c81] at H; have c81b0 : (((rd_T62 l0_0 a1).f0) == 17) = true := beq_iff_eq.mpr c81; have c81b1 : (((rd_T62 l0_0 a1).f0) != 17) = false := bne_eq_false_iff_eq.mpr c81; clear c81; replace H := il H; obtain ⟨c82, c82b0, c82b1, c82b2, H⟩ := H; replace H := il H; obtain ⟨c83, c83b0, c83b1, c83b2, H⟩ := H
 try have c83b4 : (9223372036854775807 < t481.size + 6 + t483.size) = False := eq_false (Nat.not_lt.2 (by have h_ := c83; simp only [ByteArray.size_append] at h_; exact h_))
 replace H := il H; obtain ⟨c84, c84b0, c84b1, c84b2, H⟩ := H
 try have c84b4 : (9223372036854775807 < t481.size + 6 + t483.size + 3) = False := eq_false (Nat.not_lt.2 (by have h_ := c84; simp only [ByteArray.size_append] at h_; exact h_))
 have c85 := i1 H; replace H := i2 H; have c85b0 := decide_eq_true c85; have c85b1 : decide (1 < ((rd_T62 l0_0 a1).f3).length) = true := decide_eq_true (by omega); clear c85; replace H := bo H; obtain ⟨t489, A86, H⟩ := H; replace H := il H; obtain ⟨c87, c87b0, c87b1, c87b2, H⟩ := H
 try have c87b4 : (9223372036854775807 < t481.size + 6 + t483.size + 3 + t489.size) = False := eq_false (Nat.not_lt.2 (by have h_ := c87; simp only [ByteArray.size_append] at h_; exact h_))
 replace H := il H; obtain ⟨c88, c88b0, c88b1, c88b2, H⟩ := H
 try have c88b4 : (9223372036854775807 < t481.size + 6 + t483.size + 3 + t489.size + t481.size) = False := eq_false (Nat.not_lt.2 (by have h_ := c88; simp only [ByteArray.size_append] at h_; exact h_))
 replace H := il H; obtain ⟨c89, c89b0, c89b1, c89b2, H⟩ := H
 try have c89b4 : (9223372036854775807 < t481.size + 6 + t483.size + 3 + t489.size + t481.size + 2) = False := eq_false (Nat.not_lt.2 (by have h_ := c89; simp only [ByteArray.size_append] at h_; exact h_))
 obtain rfl := sj H; go_enter Tryz.func48, Tryz.ntmps48
 try go_wp2_with (first | ((with_reducible refine gate_dst (N := 3) rfl ?_); refine bxe 3 #[.slice A0_0 l0_0.length c0_0, .slice A0_1 l0_1.length c0_1] 32 ?_; intro gb478 hg w90 BK478 hb; have GW478 := As.mk (gs w hg); replace HB := bs w hb; clear hb hg; obtain ⟨y91a, y91b, v91a, v91b⟩ := cl2 BK478.out; obtain ⟨ad479, A479_3, c479_3, e479, p479, q479, x479a, x479b, x479c, x479d, HC479_3, HR479_3⟩ := bt_T62 HB.out HR0_0.out a1 od od; cases e479) | ((with_reducible refine gate_dst (N := 7) rfl ?_); refine bxe 7 #[.int .i64 0, .int .i64 0, .string (⟨#[]⟩ : ByteArray), .slice none 0 0] 62 ?_; intro gb480 hg w92 BK480 hb; have GW480 := As.mk (gs w hg); replace HB := bs w hb; have NB478_480 := As.mk (nl hg (bx BK478.out)); have NB480_478 := As.mk (ng hg (bx BK478.out)); replace BK478 := bb BK478 hb; clear hb hg; have hnb93 := NB480_478.out; have hnc93 := NB478_480.out; obtain ⟨y94a, y94b, y94c, y94d, v94a, v94b, v94c, v94d⟩ := cl4 BK480.out) | ((with_reducible refine gate_callee (f := 74) rfl ?_); refine goesL_ (some 18) rfl rfl Tryz.func74 (by kernel_rfl) rfl #[.string (⟨#[32, 32]⟩ : ByteArray), .int .i64 ji7] rfl (by (try simp only [lm]); first | done | (simp only [hji7]; rfl) | rfl | (simp only [List.length_drop, List.length_take]; rfl)) ?_; (with_reducible refine (strings_Repeat.calls (⟨#[32, 32]⟩ : ByteArray) ji7 t481 _ A8.out).mono ?_); rintro e w95 ⟨rfl, hb⟩; refine ⟨_, rfl, ?_⟩; replace BK478 := As.mk (blk_below (g := gb478) (o := .cells #[.slice (some ad479) l0_0.length c0_0, .slice A0_1 l0_1.length c0_1] 32 (0, 0)) (by refine pl ?_; refine blk_far ?_ NB478_480.out _; refine pl ?_; refine blk_far ?_ NB478_480.out _; refine pl ?_; refine blk_far ?_ NB478_480.out _; refine pl ?_; refine blk_far ?_ NB478_480.out _; exact bx BK478.out) hb); replace BK480 := As.mk (blk_below (g := gb480) (o := .cells #[.int .i64 ((rd_T62 l0_0 a1).f0), .int .i64 ((rd_T62 l0_0 a1).f1), .string ((rd_T62 l0_0 a1).f2), .slice A479_3 ((rd_T62 l0_0 a1).f3).length c479_3] 62 (0, 0)) (by exact pl (bp4 (bx BK480.out))) hb); replace HB := bs w hb; (try clear hb)))
 replace BK478 := As.mk (blk_drew BK478.out); replace BK480 := As.mk (blk_drew BK480.out); replace HB := As.mk (below_drew1 HB.out); have p482 : 0 ≤ (0 : Int) := (by omega); have q482 : 0 < (((rd_T62 l0_0 a1).f3).length : Int) := od; obtain ⟨ad482, e482, x482a⟩ := Kd.at_int HR479_3.out 0 p482 q482; have hw482_0 := x482a; (try rw [show ((0 : Int)).toNat = 0 from rfl] at hw482_0); (try rw [show 0 * 1 = 0 from rfl] at hw482_0); (try rw [Addr.add_zero'] at hw482_0); cases e482; have qi482 : (0 < ((rd_T62 l0_0 a1).f3).length) = True := eq_true (by omega); (try rw [show ((0 : Int)).toNat = 0 from rfl] at x482a); (try rw [Addr.add_zero'] at x482a); replace x482a := ce HB.out x482a; replace p482 := eq_true p482; replace q482 := eq_true q482
 refine start_ (n := 7) (S := _) (ds := []) #[O,O,O,O,O,O,O] (by kernel_rfl) rfl rfl (ba (bf BK478.out) (ba (bf BK480.out) (cf hw482_0))) (fun hHeld => ?_)
 generalize w95.drew = w96 at BK478 BK480 HB x482a hHeld ⊢
 refine pure_ (i := 1) (N := some 20) (v := ?_) (a' := ?_) #[O,I,O,O,O,O,O] rfl rfl (by kernel_rfl) (fun _ _ _ h => h) (Or.inl ⟨by rfl, ?_⟩) ?_ ?_
 rotate_left; · intro w'; go_simp; with_reducible rfl
 rotate_left; · simp only [pk, i64_w, i32_w]; rfl
 refine take_ (i := 0) (N := some 19) (v := ?_) (a' := ?_) #[I,I,O,O,O,O,O] rfl rfl (by kernel_rfl) (fun _ _ _ h => h) (Or.inl ⟨by rfl, ?_⟩) hHeld ?_ ?_
 rotate_left; · rintro w' ⟨b0, b1, b2⟩; obtain ⟨_, _⟩ := cq2 b0; obtain ⟨_, _, _, _⟩ := cq4 b1; have b2 := clo b2; go_simp; with_reducible rfl
 rotate_left; · simp only [pk, i64_w, i32_w]; rfl
 refine take_ (i := 2) (N := some 21) (v := ?_) (a' := ?_) #[I,I,I,O,O,O,O] rfl rfl (by kernel_rfl) (fun _ _ _ h => h) (Or.inl ⟨by rfl, ?_⟩) hHeld ?_ ?_
 rotate_left; · rintro w' ⟨b0, b1, b2⟩; obtain ⟨_, _⟩ := cq2 b0; obtain ⟨_, _, _, _⟩ := cq4 b1; have b2 := clo b2; go_simp; with_reducible rfl
 rotate_left; · simp only [pk, i64_w, i32_w]; rfl
 refine pure_ (i := 3) (N := some 22) (v := ?_) (a' := ?_) #[I,I,I,I,O,O,O] rfl rfl (by kernel_rfl) (fun _ _ _ h => h) (Or.inl ⟨by rfl, ?_⟩) ?_ ?_
 rotate_left; · intro w'; go_simp; with_reducible rfl
 rotate_left; · simp only [pk, i64_w, i32_w]; rfl
 refine take_ (i := 4) (N := some 23) (v := ?_) (a' := ?_) #[I,I,I,I,I,O,O] rfl rfl (by kernel_rfl) (fun _ _ _ h => h) (Or.inl ⟨by rfl, ?_⟩) hHeld ?_ ?_
 rotate_left; · rintro w' ⟨b0, b1, b2⟩; obtain ⟨_, _⟩ := cq2 b0; obtain ⟨_, _, _, _⟩ := cq4 b1; have b2 := clo b2; go_simp; with_reducible rfl
 rotate_left; · simp only [pk, i64_w, i32_w]; rfl
 refine one_ (i := 5) (N := some 24) #[I,I,I,I,I,I,O] rfl rfl (by kernel_rfl) (by decide) (fun K hK => ?_)
 refine goS Tryz.func57 #[.agg #[.slice (some ad479) l0_0.length c0_0, .slice A0_1 l0_1.length c0_1], .int .i64 (rd ((rd_T62 l0_0 a1).f3) 0)] ?_
 with_reducible refine (impl_showValue.calls k _ _ l0_0 _ _ l0_1 (rd ((rd_T62 l0_0 a1).f3) 0) t483 _ ?side1 ?side2 ?side3 ?side4 (by first | (with_reducible exact HTAB.out) | exact tabW_below HTAB.out (be w)) A10.out).mono ?_
 (case side1 => exact Kd.C_below HR0_0.out (be w))
 (case side2 => exact HC0_0.out)
 (case side3 => exact Kd.C_below HR0_1.out (be w))
 (case side4 => exact HC0_1.out)
 rintro e w97 ⟨rfl, hb⟩
 refine ⟨_, rfl, ?_⟩
 replace BK478 := bb BK478 hb; replace BK480 := bb BK480 hb; replace HB := bs w hb; (try clear hb); (try clear hb2); (try clear hk); (try clear hi)
 refine hK.out _ _ (ba (bf BK478.out) (ba (bf BK480.out) (cf hw482_0))) (fun hHeld => ?_)
 clear hK K; refine nm _ ?_
 refine pure_ (i := 6) (N := some 9) (v := ?_) (a' := ?_) #[I,I,I,I,I,I,I] rfl rfl (by kernel_rfl) (fun _ _ _ h => h) (Or.inl ⟨by rfl, ?_⟩) ?_ ?_
 rotate_left; · intro w'; go_simp; with_reducible rfl
 rotate_left; · simp only [pk, i64_w, i32_w]; rfl
 refine done_ (by kernel_rfl) ?_
 obtain ⟨y98a, y98b, y98c, y98d, v98a, v98b, v98c, v98d⟩ := cl4 BK480.out
 try go_wp2
 replace BK478 := As.mk (blk_drew BK478.out); replace BK480 := As.mk (blk_drew BK480.out); replace HB := As.mk (below_drew1 HB.out); have p488 : 0 ≤ (1 : Int) := (by omega); have q488 : 1 < (((rd_T62 l0_0 a1).f3).length : Int) := od; obtain ⟨ad488, e488, x488a⟩ := Kd.at_int HR479_3.out 1 p488 q488; have hw488_0 := x488a; (try rw [show ((1 : Int)).toNat = 1 from rfl] at hw488_0); (try rw [show 1 * 1 = 1 from rfl] at hw488_0); (try simp only [Nat.reduceMul, Nat.reduceEqDiff, Go.Addr.add, ↓reduceIte] at hw488_0); obtain rfl : ad482 = ad488 := (by injection e488); (try simp only [show (1 : Int).toNat = 1 from rfl, Nat.reduceMul, Nat.reduceEqDiff, Go.Addr.add, ↓reduceIte] at x488a); have qi488 : (1 < ((rd_T62 l0_0 a1).f3).length) = True := eq_true (by omega); (try rw [show ((1 : Int)).toNat = 1 from rfl] at x488a); replace x488a := ce HB.out x488a; replace p488 := eq_true p488; replace q488 := eq_true q488
 refine start_ (n := 18) (S := _) (ds := []) #[O,O,O,O,O,O,O,O,O,O,O,O,O,O,O,O,O,O] (by kernel_rfl) rfl rfl (ba (bf BK478.out) (ba (bf BK480.out) (cf hw488_0))) (fun hHeld => ?_); refine with_tabW impl_showStep.tab14 impl_showStep.bits14 (fun HT_ HW_ => ?_)
 generalize w97.drew = w99 at BK478 BK480 HB x488a hHeld ⊢
 refine pq 0 92 HT_ _ _ ?_; refine pq 1 93 HT_ _ _ ?_; refine pq 2 94 HT_ _ _ ?_; refine pq 3 95 HT_ _ _ ?_; refine pq 4 96 HT_ _ _ ?_; refine pq 6 98 HT_ _ _ ?_; refine pq 10 102 HT_ _ _ ?_; refine pq 11 103 HT_ _ _ ?_; refine pq 14 106 HT_ _ _ ?_; refine tq_b2b4c1 5 97 HT_ HW_.out hHeld _ _ ?_; refine tq_b2b4c1 7 99 HT_ HW_.out hHeld _ _ ?_; refine pq 8 100 HT_ _ _ ?_; refine tq_b2b4c1 9 101 HT_ HW_.out hHeld _ _ ?_; refine on 12 (some 104) HT_ (fun K hK => ?_); refine goS Tryz.func75 #[.agg #[.slice (some ad479) l0_0.length c0_0, .slice A0_1 l0_1.length c0_1], .int .i64 (rd ((rd_T62 l0_0 a1).f3) 1), .int .i64 (wrap64 (a2 + 1))] ?_
 with_reducible refine (ih_impl_showSteps k (by omega) _ _ l0_0 _ _ l0_1 (rd ((rd_T62 l0_0 a1).f3) 1) (wrap64 (a2 + 1)) t489 _ ?side1 ?side2 ?side3 ?side4 (by first | (with_reducible exact HTAB.out) | exact tabW_below HTAB.out (be w)) A86.out).mono ?_
 (case side1 => exact Kd.C_below HR0_0.out (be w))
 (case side2 => exact HC0_0.out)
 (case side3 => exact Kd.C_below HR0_1.out (be w))
 (case side4 => exact HC0_1.out)
 rintro e w100 ⟨rfl, hb⟩
 refine ⟨_, rfl, ?_⟩
 replace BK478 := bb BK478 hb; replace BK480 := bb BK480 hb; replace HB := bs w hb; (try clear hb); (try clear hb2); (try clear hk); (try clear hi)
 refine hK.out _ _ (ba (bf BK478.out) (ba (bf BK480.out) (cf hw488_0))) (fun hHeld => ?_)
 clear hK K; refine nm _ ?_; refine pq 13 105 HT_ _ _ ?_; refine pq 15 107 HT_ _ _ ?_; refine pq 16 108 HT_ _ _ ?_; refine pq 17 6 HT_ _ _ ?_
 refine done_ (done_of HT_.out (by kernel_rfl)) ?_
 try go_wp2
 go_ret
 exact ⟨by first | rfl | (simp [errW_none, errW_some] <;> rfl) | (simp only [← hji6, ← hji7]; first | rfl | (simp [errW_none, errW_some] <;> rfl)) | (simp [*, errW_none, errW_some] <;> rfl), be w⟩
set_option maxHeartbeats 8000000 in
set_option maxRecDepth 100000 in
theorem impl_showSteps.callsO (k : Nat) (ih_impl_showStep : ∀ m_, m_ < k → impl_showStep.C m_) (ih : ∀ m_, m_ < k → impl_showSteps.C m_) : impl_showSteps.C k := by
 intro A0_0 c0_0 l0_0 A0_1 c0_1 l0_1 a1 a2 r w hr0_0 hc0_0 hr0_1 hc0_1 hTab h; have HTAB := As.mk hTab; clear hTab
 cases k with
 | zero => exact absurd h (by simp [impl_showSteps.f])
 | succ k =>
 simp only [impl_showSteps.f] at h
 have hu32 := Tryz.underlying32; have HR0_0 := As.mk hr0_0; have HC0_0 := As.mk hc0_0; clear hr0_0 hc0_0; have HR0_1 := As.mk hr0_1; have HC0_1 := As.mk hc0_1; clear hr0_1 hc0_1; have HB := As.mk (Below.refl w.heap.size w); have H : (if 0 ≤ a1 then (if a1 < (l0_0.length : Int) then (impl_showSteps.l0 k a2 (⟨#[]⟩ : ByteArray) ((rd_T62 l0_0 a1).f3) (((rd_T62 l0_0 a1).f3).length : Int) 0 l0_0 l0_1) else (none)) else (none)) = some r := h; clear h
 by_cases c4 : 0 ≤ a1
 rotate_left; · rw [if_neg c4] at H; exact absurd H (by simp)

 rw [if_pos c4] at H; have c4b0 := decide_eq_true c4; clear c4; replace H := ia H; obtain ⟨c5b0, H⟩ := H; have H' := As.mk H; clear H; go_enter Tryz.func75, Tryz.ntmps75
 go_wp2_with (first | ((with_reducible refine gate_dst (N := 3) rfl ?_); refine bxe 3 #[.slice A0_0 l0_0.length c0_0, .slice A0_1 l0_1.length c0_1] 32 ?_; intro gb490 hg w6 BK490 hb; have GW490 := As.mk (gs w hg); replace HB := bs w hb; clear hb hg; obtain ⟨y7a, y7b, v7a, v7b⟩ := cl2 BK490.out; obtain ⟨ad491, A491_3, c491_3, e491, p491, q491, x491a, x491b, x491c, x491d, HC491_3, HR491_3⟩ := bt_T62 HB.out HR0_0.out a1 od od; cases e491))
 go_loopg [7, 17] k (fun kq v7 v17 w' => ∃ (x7_1 : ByteArray) (x17_1 : Int), v7 = .string x7_1 ∧ v17 = .int .i64 x17_1 ∧ As (impl_showSteps.l0 kq a2 x7_1 ((rd_T62 l0_0 a1).f3) (((rd_T62 l0_0 a1).f3).length : Int) x17_1 l0_0 l0_1 = some r) ∧ As (kq ≤ k) ∧ As (w'.heap[gb490]? = some (.cells #[(.slice (some ad491) l0_0.length c0_0), (.slice A0_1 l0_1.length c0_1)] 32 (0, 0))) ∧ As (Below w.heap.size w w'))
 case atStart => exact ⟨((⟨#[]⟩ : ByteArray)), (0), (by first | rfl | (simp; done) | (simp [*]; done)), (by first | rfl | (simp; done) | (simp [*]; done)), H', ⟨Nat.le_refl _⟩, ⟨bx BK490.out⟩, ⟨be w⟩⟩
 case round =>
  clear H'; (try clear c4); (try clear c4b0); (try clear c5); (try clear c5b0); (try clear y7a); (try clear y7b); (try clear v7a); (try clear v7b); (try clear x491a); (try clear x491b); (try clear x491c); (try clear x491d); (try clear p491); (try clear q491); obtain ⟨x7_1, x17_1, rfl, rfl, HA, HK1, BK490, HB⟩ := hrel
  cases gk with
  | zero => exact absurd HA.out (by simp [impl_showSteps.l0])
  | succ k1 =>
   have H := HA.out; clear HA
   simp only [impl_showSteps.l0] at H
   by_cases c8 : x17_1 < (((rd_T62 l0_0 a1).f3).length : Int)
   rotate_left
   ·
    rw [if_neg c8] at H; have c8b0 := decide_eq_false c8; clear c8; obtain rfl := sj H
    go_wp2
    go_ret
    exact ⟨ez, be w⟩
   rw [if_pos c8] at H; have c8b0 := decide_eq_true c8; clear c8; replace H := ia H; obtain ⟨c9b0, H⟩ := H; replace H := ia H; obtain ⟨c10b0, H⟩ := H; replace H := bo H; obtain ⟨t493, A11, H⟩ := H; replace H := il H; obtain ⟨c12, c12b0, c12b1, c12b2, H⟩ := H; have H' := As.mk H; clear H; have p492 : 0 ≤ (x17_1 : Int) := od; have q492 : x17_1 < (((rd_T62 l0_0 a1).f3).length : Int) := od; obtain ⟨ad492, e492, x492a⟩ := Kd.at_int HR491_3.out x17_1 p492 q492; cases e492; replace x492a := ce HB.out x492a; replace p492 := eq_true p492; replace q492 := eq_true q492; obtain ⟨y13a, y13b, v13a, v13b⟩ := cl2 BK490.out
   go_wp2_with (first | ((with_reducible refine gate_callee (f := 48) rfl ?_); refine goL (some 25) Tryz.func48 #[.agg #[.slice (some ad491) l0_0.length c0_0, .slice A0_1 l0_1.length c0_1], .int .i64 (rd ((rd_T62 l0_0 a1).f3) x17_1), .int .i64 a2] ?_; (with_reducible refine (ih_impl_showStep k1 (by have := HK1.out; omega) _ _ l0_0 _ _ l0_1 (rd ((rd_T62 l0_0 a1).f3) x17_1) a2 t493 _ ?side1 ?side2 ?side3 ?side4 (by first | (with_reducible exact HTAB.out) | exact tabW_below HTAB.out (be w)) A11.out).mono ?_); (case side1 => exact Kd.C_below HR0_0.out (be w)); (case side2 => exact HC0_0.out); (case side3 => exact Kd.C_below HR0_1.out (be w)); (case side4 => exact HC0_1.out); rintro e w14 ⟨rfl, hb⟩; refine ⟨_, rfl, ?_⟩; replace BK490 := bb BK490 hb; replace HB := bs w hb; (try clear hb)))
   go_roundg k1
   case measure => have := HK1.out; omega
   case rel => exact ⟨(x7_1 ++ t493), (wrap64 (x17_1 + 1)), (by first | rfl | (simp; done) | (simp [*]; done)), (by first | rfl | (simp; done) | (simp [*]; done)), H', ⟨by have := HK1.out; omega⟩, ⟨bx BK490.out⟩, ⟨be w⟩⟩
theorem impl_showSteps.allO (k : Nat) : impl_showStep.C k ∧ impl_showSteps.C k := by
  induction k using Nat.strongRecOn with
  | _ k ih => exact ⟨impl_showStep.callsO k (fun m_ h_ => (ih m_ h_).1) (fun m_ h_ => (ih m_ h_).2), impl_showSteps.callsO k (fun m_ h_ => (ih m_ h_).1) (fun m_ h_ => (ih m_ h_).2)⟩
theorem impl_showStep.calls (k : Nat) : ∀ (A0_0 : Option Addr) (c0_0 : Nat) (l0_0 : List (S62)) (A0_1 : Option Addr) (c0_1 : Nat) (l0_1 : List (S56)) (a1 : Int) (a2 : Int) (r : ByteArray) (w : World) (hr0_0 : Kd.C k62 w A0_0 l0_0.length l0_0) (hc0_0 : l0_0.length ≤ c0_0) (hr0_1 : Kd.C k56 w A0_1 l0_1.length l0_1) (hc0_1 : l0_1.length ≤ c0_1) (hTab : TabW w) (h : impl_showStep.f k l0_0 l0_1 a1 a2 = some r),
  Calls Tryz.prog 48 #[.agg #[.slice A0_0 l0_0.length c0_0, .slice A0_1 l0_1.length c0_1], .int .i64 a1, .int .i64 a2] w fun e w' => e = .returned (.string r) ∧ Below w.heap.size w w' := (impl_showSteps.allO k).1
theorem impl_showSteps.calls (k : Nat) : ∀ (A0_0 : Option Addr) (c0_0 : Nat) (l0_0 : List (S62)) (A0_1 : Option Addr) (c0_1 : Nat) (l0_1 : List (S56)) (a1 : Int) (a2 : Int) (r : ByteArray) (w : World) (hr0_0 : Kd.C k62 w A0_0 l0_0.length l0_0) (hc0_0 : l0_0.length ≤ c0_0) (hr0_1 : Kd.C k56 w A0_1 l0_1.length l0_1) (hc0_1 : l0_1.length ≤ c0_1) (hTab : TabW w) (h : impl_showSteps.f k l0_0 l0_1 a1 a2 = some r),
  Calls Tryz.prog 75 #[.agg #[.slice A0_0 l0_0.length c0_0, .slice A0_1 l0_1.length c0_1], .int .i64 a1, .int .i64 a2] w fun e w' => e = .returned (.string r) ∧ Below w.heap.size w w' := (impl_showSteps.allO k).2

end Go.Proofs.YtcoapbnbakmkoaaGreatDoor.PFnExactShowProgram
