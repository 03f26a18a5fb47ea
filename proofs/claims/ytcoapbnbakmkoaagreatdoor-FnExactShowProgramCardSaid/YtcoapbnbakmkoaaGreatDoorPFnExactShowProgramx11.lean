/- Written by a program of this session (a turned copy of the kit's print): a contract for each Go function. No condition beside those in each statement. -/
import Derived.Test.YtcoapbnbakmkoaaGreatDoorPFnExactShowProgramx0
import Derived.Test.YtcoapbnbakmkoaaGreatDoorPFnExactShowProgramx10
namespace Go.Proofs.YtcoapbnbakmkoaaGreatDoor.PFnExactShowProgram
open Go.RowKit Go.Proofs.YtcoapbnbakmkoaaGreatDoor.Given Go.Proofs.YtcoapbnbakmkoaaGreatDoorW.PrintWords Go.Proofs.YtcoapbnbakmkoaaGreatDoorW.PrintLast Go.Proofs.YtcoapbnbakmkoaaGreatDoorW.PrintMore
attribute [local go_sem] max2_int min2_int max_two min_two max_three min_three max_four min_four   -- for this text's walks alone
set_option linter.unusedVariables false
set_option linter.unusedSimpArgs false

/-! ### spec_l06Block: function 51 -/
/-! ### spec_l06Step: function 45 -/
mutual
def spec_l06Step.f : Nat → List (S62) → Int → Int → Option (ByteArray)
  | 0, _, _, _ => none
  | k + 1, l0, a1, a2 => if 0 ≤ a1 then (if a1 < (l0.length : Int) then ((spec_l06In.f k a2).bind fun t326 => (if ((rd_T62 l0 a1).f0) = 13 then (if t326.size + 4 ≤ 9223372036854775807 then (if (t326 ++ (⟨#[108, 101, 116, 32]⟩ : ByteArray)).size + ((rd_T62 l0 a1).f2).size ≤ 9223372036854775807 then (if ((t326 ++ (⟨#[108, 101, 116, 32]⟩ : ByteArray)) ++ ((rd_T62 l0 a1).f2)).size + 3 ≤ 9223372036854775807 then (if 0 < (((rd_T62 l0 a1).f3).length : Int) then ((spec_l06Value.f k l0 (rd ((rd_T62 l0 a1).f3) 0)).bind fun t328 => (if (((t326 ++ (⟨#[108, 101, 116, 32]⟩ : ByteArray)) ++ ((rd_T62 l0 a1).f2)) ++ (⟨#[32, 61, 32]⟩ : ByteArray)).size + t328.size ≤ 9223372036854775807 then (if ((((t326 ++ (⟨#[108, 101, 116, 32]⟩ : ByteArray)) ++ ((rd_T62 l0 a1).f2)) ++ (⟨#[32, 61, 32]⟩ : ByteArray)) ++ t328).size + 2 ≤ 9223372036854775807 then (some (((((t326 ++ (⟨#[108, 101, 116, 32]⟩ : ByteArray)) ++ ((rd_T62 l0 a1).f2)) ++ (⟨#[32, 61, 32]⟩ : ByteArray)) ++ t328) ++ (⟨#[59, 10]⟩ : ByteArray))) else (none)) else (none))) else (none)) else (none)) else (none)) else (none)) else (if ((rd_T62 l0 a1).f0) = 14 then (if t326.size + ((rd_T62 l0 a1).f2).size ≤ 9223372036854775807 then (if (t326 ++ ((rd_T62 l0 a1).f2)).size + 3 ≤ 9223372036854775807 then (if 0 < (((rd_T62 l0 a1).f3).length : Int) then ((spec_l06Value.f k l0 (rd ((rd_T62 l0 a1).f3) 0)).bind fun t330 => (if ((t326 ++ ((rd_T62 l0 a1).f2)) ++ (⟨#[32, 61, 32]⟩ : ByteArray)).size + t330.size ≤ 9223372036854775807 then (if (((t326 ++ ((rd_T62 l0 a1).f2)) ++ (⟨#[32, 61, 32]⟩ : ByteArray)) ++ t330).size + 2 ≤ 9223372036854775807 then (some ((((t326 ++ ((rd_T62 l0 a1).f2)) ++ (⟨#[32, 61, 32]⟩ : ByteArray)) ++ t330) ++ (⟨#[59, 10]⟩ : ByteArray))) else (none)) else (none))) else (none)) else (none)) else (none)) else (if ((rd_T62 l0 a1).f0) = 15 then (if t326.size + 1 ≤ 9223372036854775807 then (if (t326 ++ (⟨#[42]⟩ : ByteArray)).size + ((rd_T62 l0 a1).f2).size ≤ 9223372036854775807 then (if ((t326 ++ (⟨#[42]⟩ : ByteArray)) ++ ((rd_T62 l0 a1).f2)).size + 3 ≤ 9223372036854775807 then (if 0 < (((rd_T62 l0 a1).f3).length : Int) then ((spec_l06Value.f k l0 (rd ((rd_T62 l0 a1).f3) 0)).bind fun t332 => (if (((t326 ++ (⟨#[42]⟩ : ByteArray)) ++ ((rd_T62 l0 a1).f2)) ++ (⟨#[32, 61, 32]⟩ : ByteArray)).size + t332.size ≤ 9223372036854775807 then (if ((((t326 ++ (⟨#[42]⟩ : ByteArray)) ++ ((rd_T62 l0 a1).f2)) ++ (⟨#[32, 61, 32]⟩ : ByteArray)) ++ t332).size + 2 ≤ 9223372036854775807 then (some (((((t326 ++ (⟨#[42]⟩ : ByteArray)) ++ ((rd_T62 l0 a1).f2)) ++ (⟨#[32, 61, 32]⟩ : ByteArray)) ++ t332) ++ (⟨#[59, 10]⟩ : ByteArray))) else (none)) else (none))) else (none)) else (none)) else (none)) else (none)) else (if ((rd_T62 l0 a1).f0) = 18 then (if t326.size + 6 ≤ 9223372036854775807 then (if 0 < (((rd_T62 l0 a1).f3).length : Int) then ((spec_l06Value.f k l0 (rd ((rd_T62 l0 a1).f3) 0)).bind fun t334 => (if (t326 ++ (⟨#[112, 114, 105, 110, 116, 32]⟩ : ByteArray)).size + t334.size ≤ 9223372036854775807 then (if ((t326 ++ (⟨#[112, 114, 105, 110, 116, 32]⟩ : ByteArray)) ++ t334).size + 2 ≤ 9223372036854775807 then (some (((t326 ++ (⟨#[112, 114, 105, 110, 116, 32]⟩ : ByteArray)) ++ t334) ++ (⟨#[59, 10]⟩ : ByteArray))) else (none)) else (none))) else (none)) else (none)) else (if ((rd_T62 l0 a1).f0) = 19 then (if t326.size + 3 ≤ 9223372036854775807 then (if 0 < (((rd_T62 l0 a1).f3).length : Int) then ((spec_l06Value.f k l0 (rd ((rd_T62 l0 a1).f3) 0)).bind fun t336 => (if (t326 ++ (⟨#[100, 111, 32]⟩ : ByteArray)).size + t336.size ≤ 9223372036854775807 then (if ((t326 ++ (⟨#[100, 111, 32]⟩ : ByteArray)) ++ t336).size + 2 ≤ 9223372036854775807 then (some (((t326 ++ (⟨#[100, 111, 32]⟩ : ByteArray)) ++ t336) ++ (⟨#[59, 10]⟩ : ByteArray))) else (none)) else (none))) else (none)) else (none)) else (if ((rd_T62 l0 a1).f0) = 16 then (if t326.size + 3 ≤ 9223372036854775807 then (if 0 < (((rd_T62 l0 a1).f3).length : Int) then ((spec_l06Value.f k l0 (rd ((rd_T62 l0 a1).f3) 0)).bind fun t338 => (if (t326 ++ (⟨#[105, 102, 32]⟩ : ByteArray)).size + t338.size ≤ 9223372036854775807 then (if ((t326 ++ (⟨#[105, 102, 32]⟩ : ByteArray)) ++ t338).size + 3 ≤ 9223372036854775807 then (if 1 < (((rd_T62 l0 a1).f3).length : Int) then ((spec_l06Block.f k l0 (rd ((rd_T62 l0 a1).f3) 1) (wrap64 (a2 + 1))).bind fun t340 => (if (((t326 ++ (⟨#[105, 102, 32]⟩ : ByteArray)) ++ t338) ++ (⟨#[32, 123, 10]⟩ : ByteArray)).size + t340.size ≤ 9223372036854775807 then (if ((((t326 ++ (⟨#[105, 102, 32]⟩ : ByteArray)) ++ t338) ++ (⟨#[32, 123, 10]⟩ : ByteArray)) ++ t340).size + t326.size ≤ 9223372036854775807 then (if (((((t326 ++ (⟨#[105, 102, 32]⟩ : ByteArray)) ++ t338) ++ (⟨#[32, 123, 10]⟩ : ByteArray)) ++ t340) ++ t326).size + 9 ≤ 9223372036854775807 then (if 2 < (((rd_T62 l0 a1).f3).length : Int) then ((spec_l06Block.f k l0 (rd ((rd_T62 l0 a1).f3) 2) (wrap64 (a2 + 1))).bind fun t342 => (if ((((((t326 ++ (⟨#[105, 102, 32]⟩ : ByteArray)) ++ t338) ++ (⟨#[32, 123, 10]⟩ : ByteArray)) ++ t340) ++ t326) ++ (⟨#[125, 32, 101, 108, 115, 101, 32, 123, 10]⟩ : ByteArray)).size + t342.size ≤ 9223372036854775807 then (if (((((((t326 ++ (⟨#[105, 102, 32]⟩ : ByteArray)) ++ t338) ++ (⟨#[32, 123, 10]⟩ : ByteArray)) ++ t340) ++ t326) ++ (⟨#[125, 32, 101, 108, 115, 101, 32, 123, 10]⟩ : ByteArray)) ++ t342).size + t326.size ≤ 9223372036854775807 then (if ((((((((t326 ++ (⟨#[105, 102, 32]⟩ : ByteArray)) ++ t338) ++ (⟨#[32, 123, 10]⟩ : ByteArray)) ++ t340) ++ t326) ++ (⟨#[125, 32, 101, 108, 115, 101, 32, 123, 10]⟩ : ByteArray)) ++ t342) ++ t326).size + 2 ≤ 9223372036854775807 then (some (((((((((t326 ++ (⟨#[105, 102, 32]⟩ : ByteArray)) ++ t338) ++ (⟨#[32, 123, 10]⟩ : ByteArray)) ++ t340) ++ t326) ++ (⟨#[125, 32, 101, 108, 115, 101, 32, 123, 10]⟩ : ByteArray)) ++ t342) ++ t326) ++ (⟨#[125, 10]⟩ : ByteArray))) else (none)) else (none)) else (none))) else (none)) else (none)) else (none)) else (none))) else (none)) else (none)) else (none))) else (none)) else (none)) else (if t326.size + 6 ≤ 9223372036854775807 then (if 0 < (((rd_T62 l0 a1).f3).length : Int) then ((spec_l06Value.f k l0 (rd ((rd_T62 l0 a1).f3) 0)).bind fun t344 => (if (t326 ++ (⟨#[119, 104, 105, 108, 101, 32]⟩ : ByteArray)).size + t344.size ≤ 9223372036854775807 then (if ((t326 ++ (⟨#[119, 104, 105, 108, 101, 32]⟩ : ByteArray)) ++ t344).size + 3 ≤ 9223372036854775807 then (if 1 < (((rd_T62 l0 a1).f3).length : Int) then ((spec_l06Block.f k l0 (rd ((rd_T62 l0 a1).f3) 1) (wrap64 (a2 + 1))).bind fun t346 => (if (((t326 ++ (⟨#[119, 104, 105, 108, 101, 32]⟩ : ByteArray)) ++ t344) ++ (⟨#[32, 123, 10]⟩ : ByteArray)).size + t346.size ≤ 9223372036854775807 then (if ((((t326 ++ (⟨#[119, 104, 105, 108, 101, 32]⟩ : ByteArray)) ++ t344) ++ (⟨#[32, 123, 10]⟩ : ByteArray)) ++ t346).size + t326.size ≤ 9223372036854775807 then (if (((((t326 ++ (⟨#[119, 104, 105, 108, 101, 32]⟩ : ByteArray)) ++ t344) ++ (⟨#[32, 123, 10]⟩ : ByteArray)) ++ t346) ++ t326).size + 2 ≤ 9223372036854775807 then (some ((((((t326 ++ (⟨#[119, 104, 105, 108, 101, 32]⟩ : ByteArray)) ++ t344) ++ (⟨#[32, 123, 10]⟩ : ByteArray)) ++ t346) ++ t326) ++ (⟨#[125, 10]⟩ : ByteArray))) else (none)) else (none)) else (none))) else (none)) else (none)) else (none))) else (none)) else (none))))))))) else (none)) else (none)
def spec_l06Block.l0 : Nat → List (S62) → Int → Int → ByteArray → Int → Option (ByteArray)
  | 0, _, _, _, _, _ => none
  | k + 1, x0, x1, x2, x7, x8 => if 0 ≤ x1 then (if x1 < (x0.length : Int) then (if x8 < (((rd_T62 x0 x1).f3).length : Int) then (if 0 ≤ x8 then ((spec_l06Step.f k x0 (rd ((rd_T62 x0 x1).f3) x8) x2).bind fun t350 => (if x7.size + t350.size ≤ 9223372036854775807 then (spec_l06Block.l0 k x0 x1 x2 (x7 ++ t350) (wrap64 (x8 + 1))) else (none))) else (none)) else (some x7)) else (none)) else (none)
def spec_l06Block.f : Nat → List (S62) → Int → Int → Option (ByteArray)
  | 0, _, _, _ => none
  | k + 1, l0, a1, a2 => spec_l06Block.l0 k l0 a1 a2 (⟨#[]⟩ : ByteArray) 0
end
theorem spec_l06Block.mono_l : ∀ k, (∀ y0 y1 y2, LeO (spec_l06Step.f k y0 y1 y2) (spec_l06Step.f (k + 1) y0 y1 y2)) ∧ (∀ y0 y1 y2, LeO (spec_l06Block.f k y0 y1 y2) (spec_l06Block.f (k + 1) y0 y1 y2)) ∧ (∀ y0 y1 y2 y3 y4, LeO (spec_l06Block.l0 k y0 y1 y2 y3 y4) (spec_l06Block.l0 (k + 1) y0 y1 y2 y3 y4))
  | 0 => ⟨fun _ _ _ r h => by simp [spec_l06Step.f] at h, fun _ _ _ r h => by simp [spec_l06Block.f] at h, fun _ _ _ _ _ r h => by simp [spec_l06Block.l0] at h⟩
  | k + 1 => by
    obtain ⟨ih0, ih1, ih2⟩ := spec_l06Block.mono_l k
    refine ⟨?_, ?_, ?_⟩
    · intro y0 y1 y2
      unfold spec_l06Step.f
      repeat' first
      | (with_reducible exact ih0 _ _ _)
      | (with_reducible exact ih1 _ _ _)
      | (with_reducible exact ih2 _ _ _ _ _)
      | (with_reducible exact spec_l06In.mono _ _)
      | (with_reducible exact spec_l06Value.mono _ _ _)
      | (with_reducible exact LeO.refl _)
      | (with_reducible exact LeO.none _)
      | (with_reducible refine LeO.ite ?_ ?_)
      | (with_reducible refine LeO.bind ?_ (fun _ => ?_))
      | exact ih0 _ _ _
      | exact ih1 _ _ _
      | exact ih2 _ _ _ _ _
      | exact spec_l06In.mono _ _
      | exact spec_l06Value.mono _ _ _
      | exact LeO.none _
      | refine LeO.ite ?_ ?_
      | refine LeO.bind ?_ (fun _ => ?_)
    · intro y0 y1 y2
      unfold spec_l06Block.f
      repeat' first
      | (with_reducible exact ih0 _ _ _)
      | (with_reducible exact ih1 _ _ _)
      | (with_reducible exact ih2 _ _ _ _ _)
      | (with_reducible exact spec_l06In.mono _ _)
      | (with_reducible exact spec_l06Value.mono _ _ _)
      | (with_reducible exact LeO.refl _)
      | (with_reducible exact LeO.none _)
      | (with_reducible refine LeO.ite ?_ ?_)
      | (with_reducible refine LeO.bind ?_ (fun _ => ?_))
      | exact ih0 _ _ _
      | exact ih1 _ _ _
      | exact ih2 _ _ _ _ _
      | exact spec_l06In.mono _ _
      | exact spec_l06Value.mono _ _ _
      | exact LeO.none _
      | refine LeO.ite ?_ ?_
      | refine LeO.bind ?_ (fun _ => ?_)
    · intro y0 y1 y2 y3 y4
      unfold spec_l06Block.l0
      repeat' first
      | (with_reducible exact ih0 _ _ _)
      | (with_reducible exact ih1 _ _ _)
      | (with_reducible exact ih2 _ _ _ _ _)
      | (with_reducible exact spec_l06In.mono _ _)
      | (with_reducible exact spec_l06Value.mono _ _ _)
      | (with_reducible exact LeO.refl _)
      | (with_reducible exact LeO.none _)
      | (with_reducible refine LeO.ite ?_ ?_)
      | (with_reducible refine LeO.bind ?_ (fun _ => ?_))
      | exact ih0 _ _ _
      | exact ih1 _ _ _
      | exact ih2 _ _ _ _ _
      | exact spec_l06In.mono _ _
      | exact spec_l06Value.mono _ _ _
      | exact LeO.none _
      | refine LeO.ite ?_ ?_
      | refine LeO.bind ?_ (fun _ => ?_)
theorem spec_l06Step.mono : ∀ a0 a1 a2 k, LeO (spec_l06Step.f k a0 a1 a2) (spec_l06Step.f (k + 1) a0 a1 a2) := by
  intro a0 a1 a2 k; obtain ⟨ih0, ih1, ih2⟩ := spec_l06Block.mono_l k
  exact ih0 a0 a1 a2
theorem spec_l06Block.mono : ∀ a0 a1 a2 k, LeO (spec_l06Block.f k a0 a1 a2) (spec_l06Block.f (k + 1) a0 a1 a2) := by
  intro a0 a1 a2 k; obtain ⟨ih0, ih1, ih2⟩ := spec_l06Block.mono_l k
  exact ih1 a0 a1 a2
abbrev spec_l06Step.C (k : Nat) : Prop := ∀ (A0 : Option Addr) (c0 : Nat) (l0 : List (S62)) (a1 : Int) (a2 : Int) (r : ByteArray) (w : World) (hr0 : Kd.C k62 w A0 l0.length l0) (hc0 : l0.length ≤ c0) (h : spec_l06Step.f k l0 a1 a2 = some r),
  Calls Tryz.prog 45 #[.slice A0 l0.length c0, .int .i64 a1, .int .i64 a2] w fun e w' => e = .returned (.string r) ∧ Below w.heap.size w w'
abbrev spec_l06Block.C (k : Nat) : Prop := ∀ (A0 : Option Addr) (c0 : Nat) (l0 : List (S62)) (a1 : Int) (a2 : Int) (r : ByteArray) (w : World) (hr0 : Kd.C k62 w A0 l0.length l0) (hc0 : l0.length ≤ c0) (h : spec_l06Block.f k l0 a1 a2 = some r),
  Calls Tryz.prog 51 #[.slice A0 l0.length c0, .int .i64 a1, .int .i64 a2] w fun e w' => e = .returned (.string r) ∧ Below w.heap.size w w'
def spec_l06Step.T5 : Bool × List (List Nat × List Nat) := (true, [([], []), ([0], [0]), ([], []), ([2], [2]), ([1, 3], [1, 3]), ([4], [4]), ([], []), ([], []), ([7], [7]), ([8], [8]), ([9], [9]), ([6, 10], [6, 10]), ([5, 11], [5, 11]), ([12], [12]), ([13, 11, 0, 1, 2, 3, 4, 5, 6, 7, 8, 9, 10, 11, 12, 13], [13])])
def spec_l06Step.B5 : List Nat := [0, 1, 0, 4, 15, 31, 0, 0, 128, 384, 896, 1984, 4095, 8191, 16383]
theorem spec_l06Step.tab5 : rtab .any (opsOf Tryz.f45 5) = spec_l06Step.T5 := by kernel_rfl
theorem spec_l06Step.bits5 : waitsOk spec_l06Step.T5.2 spec_l06Step.B5 = true := by kernel_rfl
def spec_l06Step.T7 : Bool × List (List Nat × List Nat) := (true, [([], []), ([], []), ([1], [1]), ([0, 2], [0, 2]), ([3], [3]), ([], []), ([], []), ([6], [6]), ([7], [7]), ([8], [8]), ([5, 9], [5, 9]), ([4, 10], [4, 10]), ([11], [11]), ([12, 10, 0, 1, 2, 3, 4, 5, 6, 7, 8, 9, 10, 11, 12], [12])])
def spec_l06Step.B7 : List Nat := [0, 0, 2, 7, 15, 0, 0, 64, 192, 448, 992, 2047, 4095, 8191]
theorem spec_l06Step.tab7 : rtab .any (opsOf Tryz.f45 7) = spec_l06Step.T7 := by kernel_rfl
theorem spec_l06Step.bits7 : waitsOk spec_l06Step.T7.2 spec_l06Step.B7 = true := by kernel_rfl
def spec_l06Step.T9 : Bool × List (List Nat × List Nat) := (true, [([], []), ([0], [0]), ([], []), ([2], [2]), ([1, 3], [1, 3]), ([4], [4]), ([], []), ([], []), ([7], [7]), ([8], [8]), ([9], [9]), ([6, 10], [6, 10]), ([5, 11], [5, 11]), ([12], [12]), ([13, 11, 0, 1, 2, 3, 4, 5, 6, 7, 8, 9, 10, 11, 12, 13], [13])])
def spec_l06Step.B9 : List Nat := [0, 1, 0, 4, 15, 31, 0, 0, 128, 384, 896, 1984, 4095, 8191, 16383]
theorem spec_l06Step.tab9 : rtab .any (opsOf Tryz.f45 9) = spec_l06Step.T9 := by kernel_rfl
theorem spec_l06Step.bits9 : waitsOk spec_l06Step.T9.2 spec_l06Step.B9 = true := by kernel_rfl
def spec_l06Step.T15 : Bool × List (List Nat × List Nat) := (true, [([], []), ([0], [0]), ([], []), ([], []), ([3], [3]), ([4], [4]), ([5], [5]), ([2, 6], [2, 6]), ([1, 7], [1, 7]), ([8], [8]), ([], []), ([], []), ([11], [11]), ([12], [12]), ([13], [13]), ([], []), ([15], [15]), ([10, 14, 16, 7], [10, 14, 16]), ([9, 17], [9, 17]), ([], []), ([18, 19], [18, 19]), ([20], [20]), ([], []), ([], []), ([23], [23]), ([24], [24]), ([25], [25]), ([], []), ([27], [27]), ([22, 26, 28, 17], [22, 26, 28]), ([21, 29], [21, 29]), ([], []), ([30, 31], [30, 31]), ([32], [32]), ([33, 29, 0, 1, 2, 3, 4, 5, 6, 7, 8, 9, 10, 11, 12, 13, 14, 15, 16, 17, 18, 19, 20, 21, 22, 23, 24, 25, 26, 27, 28, 29, 30, 31, 32, 33], [33])])
def spec_l06Step.B15 : List Nat := [0, 1, 0, 0, 8, 24, 56, 124, 255, 511, 0, 0, 2048, 6144, 14336, 0, 32768, 130300, 262143, 0, 1048575, 2097151, 0, 0, 8388608, 25165824, 58720256, 0, 134217728, 532937980, 1073741823, 0, 4294967295, 8589934591, 17179869183]
theorem spec_l06Step.tab15 : rtab .any (opsOf Tryz.f45 15) = spec_l06Step.T15 := by kernel_rfl
theorem spec_l06Step.bits15 : waitsOk spec_l06Step.T15.2 spec_l06Step.B15 = true := by kernel_rfl
def spec_l06Step.T16 : Bool × List (List Nat × List Nat) := (true, [([], []), ([0], [0]), ([], []), ([], []), ([3], [3]), ([4], [4]), ([5], [5]), ([2, 6], [2, 6]), ([1, 7], [1, 7]), ([8], [8]), ([], []), ([], []), ([11], [11]), ([12], [12]), ([13], [13]), ([], []), ([15], [15]), ([10, 14, 16, 7], [10, 14, 16]), ([9, 17], [9, 17]), ([], []), ([18, 19], [18, 19]), ([20], [20]), ([21, 17, 0, 1, 2, 3, 4, 5, 6, 7, 8, 9, 10, 11, 12, 13, 14, 15, 16, 17, 18, 19, 20, 21], [21])])
def spec_l06Step.B16 : List Nat := [0, 1, 0, 0, 8, 24, 56, 124, 255, 511, 0, 0, 2048, 6144, 14336, 0, 32768, 130300, 262143, 0, 1048575, 2097151, 4194303]
theorem spec_l06Step.tab16 : rtab .any (opsOf Tryz.f45 16) = spec_l06Step.T16 := by kernel_rfl
theorem spec_l06Step.bits16 : waitsOk spec_l06Step.T16.2 spec_l06Step.B16 = true := by kernel_rfl
set_option maxHeartbeats 8000000 in
set_option maxRecDepth 100000 in
theorem spec_l06Step.callsO (k : Nat) (ih : ∀ m_, m_ < k → spec_l06Step.C m_) (ih_spec_l06Block : ∀ m_, m_ < k → spec_l06Block.C m_) : spec_l06Step.C k := by
 intro A0 c0 l0 a1 a2 r w hr0 hc0 h
 cases k with
 | zero => exact absurd h (by simp [spec_l06Step.f])
 | succ k =>
 simp only [spec_l06Step.f] at h
 have hu62 := Tryz.underlying62; have HR0 := As.mk hr0; have HC0 := As.mk hc0; clear hr0 hc0; have HB := As.mk (Below.refl w.heap.size w); have H := h; clear h
 by_cases c4 : 0 ≤ a1
 rotate_left; · rw [if_neg c4] at H; exact absurd H (by simp)

 rw [if_pos c4] at H; have c4b0 := decide_eq_true c4; clear c4; replace H := ia H; obtain ⟨c5b0, H⟩ := H; replace H := bo H; obtain ⟨t326, A6, H⟩ := H
 by_cases c7 : ((rd_T62 l0 a1).f0) = 13
 ·
  rw [if_pos c7] at H; have c7b0 : (((rd_T62 l0 a1).f0) == 13) = true := beq_iff_eq.mpr c7; have c7b1 : (((rd_T62 l0 a1).f0) != 13) = false := bne_eq_false_iff_eq.mpr c7; clear c7; replace H := il H; obtain ⟨c8, c8b0, c8b1, c8b2, H⟩ := H; replace H := il H; obtain ⟨c9, c9b0, c9b1, c9b2, H⟩ := H
  try have c9b4 : (9223372036854775807 < t326.size + 4 + ((rd_T62 l0 a1).f2).size) = False := eq_false (Nat.not_lt.2 (by have h_ := c9; simp only [ByteArray.size_append] at h_; exact h_))
  replace H := il H; obtain ⟨c10, c10b0, c10b1, c10b2, H⟩ := H
  try have c10b4 : (9223372036854775807 < t326.size + 4 + ((rd_T62 l0 a1).f2).size + 3) = False := eq_false (Nat.not_lt.2 (by have h_ := c10; simp only [ByteArray.size_append] at h_; exact h_))
  have c11 := i1 H; replace H := i2 H; have c11b0 := decide_eq_true c11; have c11b1 : decide (0 < ((rd_T62 l0 a1).f3).length) = true := decide_eq_true (by omega); clear c11; replace H := bo H; obtain ⟨t328, A12, H⟩ := H; replace H := il H; obtain ⟨c13, c13b0, c13b1, c13b2, H⟩ := H
  try have c13b4 : (9223372036854775807 < t326.size + 4 + ((rd_T62 l0 a1).f2).size + 3 + t328.size) = False := eq_false (Nat.not_lt.2 (by have h_ := c13; simp only [ByteArray.size_append] at h_; exact h_))
  replace H := il H; obtain ⟨c14, c14b0, c14b1, c14b2, H⟩ := H
  try have c14b4 : (9223372036854775807 < t326.size + 4 + ((rd_T62 l0 a1).f2).size + 3 + t328.size + 2) = False := eq_false (Nat.not_lt.2 (by have h_ := c14; simp only [ByteArray.size_append] at h_; exact h_))
  obtain rfl := sj H; obtain ⟨ad324, A324_3, c324_3, e324, p324, q324, x324a, x324b, x324c, x324d, HC324_3, HR324_3⟩ := bt_T62 (Below.refl _ _) HR0.out a1 od od; cases e324; go_enter Tryz.func45, Tryz.ntmps45
  try go_wp2_with (first | ((with_reducible refine gate_dst (N := 7) rfl ?_); refine bxe 7 #[.int .i64 0, .int .i64 0, .string (⟨#[]⟩ : ByteArray), .slice none 0 0] 62 ?_; intro gb325 hg w15 BK325 hb; have GW325 := As.mk (gs w hg); replace HB := bs w hb; clear hb hg; obtain ⟨y16a, y16b, y16c, y16d, v16a, v16b, v16c, v16d⟩ := cl4 BK325.out) | ((with_reducible refine gate_callee (f := 72) rfl ?_); refine goL (some 14) Tryz.func72 #[.int .i64 a2] ?_; (with_reducible refine (spec_l06In.calls k a2 t326 _ A6.out).mono ?_); rintro e w' ⟨rfl, ⟨nd, rfl⟩⟩; refine ⟨_, rfl, ?_⟩))
  generalize hW_ : ((((w15.setCell ⟨gb325, 0, none⟩ (.int .i64 ((rd_T62 l0 a1).f0))).setCell ⟨gb325, 1, none⟩ (.int .i64 ((rd_T62 l0 a1).f1))).setCell ⟨gb325, 2, none⟩ (.string ((rd_T62 l0 a1).f2))).setCell ⟨gb325, 3, none⟩ (.slice A324_3 ((rd_T62 l0 a1).f3).length c324_3)) = w17
  have n0_ : As (w17.heap[gb325]? = some (.cells #[.int .i64 ((rd_T62 l0 a1).f0), .int .i64 ((rd_T62 l0 a1).f1), .string ((rd_T62 l0 a1).f2), .slice A324_3 ((rd_T62 l0 a1).f3).length c324_3] 62 (0, 0))) := ⟨by rw [← hW_]; exact pl (bp4 (bx BK325.out))⟩; have n1_ : As (Below w.heap.size w w17) := ⟨by rw [← hW_]; exact be w⟩; (try clear BK325); (try clear HB); clear hW_; have BK325 := n0_; have HB := n1_; clear n0_ n1_; (try (rw [drewN_self w17]; generalize hq_ : World.drewN w17 _ = w17; have n0_ : As (w17.heap[gb325]? = some (.cells #[.int .i64 ((rd_T62 l0 a1).f0), .int .i64 ((rd_T62 l0 a1).f1), .string ((rd_T62 l0 a1).f2), .slice A324_3 ((rd_T62 l0 a1).f3).length c324_3] 62 (0, 0))) := ⟨by rw [← hq_]; exact (bx BK325.out)⟩; have n1_ : As (Below w.heap.size w w17) := ⟨by rw [← hq_]; exact (be w)⟩; clear BK325 HB hq_; have BK325 := n0_; have HB := n1_; clear n0_ n1_)); replace BK325 := As.mk (blk_drew BK325.out); replace HB := As.mk (below_drew1 HB.out); have p327 : 0 ≤ (0 : Int) := (by omega); have q327 : 0 < (((rd_T62 l0 a1).f3).length : Int) := od; obtain ⟨ad327, e327, x327a⟩ := Kd.at_int HR324_3.out 0 p327 q327; have hw327_0 := x327a; (try rw [show ((0 : Int)).toNat = 0 from rfl] at hw327_0); (try rw [show 0 * 1 = 0 from rfl] at hw327_0); (try rw [Addr.add_zero'] at hw327_0); cases e327; have qi327 : (0 < ((rd_T62 l0 a1).f3).length) = True := eq_true (by omega); (try rw [show ((0 : Int)).toNat = 0 from rfl] at x327a); (try rw [Addr.add_zero'] at x327a); replace x327a := ce HB.out x327a; replace p327 := eq_true p327; replace q327 := eq_true q327
  refine start_ (n := 15) (S := _) (ds := []) #[O,O,O,O,O,O,O,O,O,O,O,O,O,O,O] (by kernel_rfl) rfl rfl (ba (bf BK325.out) (cf hw327_0)) (fun hHeld => ?_); refine with_tabW spec_l06Step.tab5 spec_l06Step.bits5 (fun HT_ HW_ => ?_)
  generalize w17.drew = w18 at BK325 HB x327a hHeld ⊢
  refine pq 0 19 HT_ _ _ ?_; refine pq 1 20 HT_ _ _ ?_; refine pq 2 21 HT_ _ _ ?_; refine pq 6 25 HT_ _ _ ?_; refine pq 7 26 HT_ _ _ ?_; refine tq_b4c1 3 22 HT_ HW_.out hHeld _ _ ?_; refine pq 4 23 HT_ _ _ ?_; refine pq 5 24 HT_ _ _ ?_; refine tq_b4c1 8 27 HT_ HW_.out hHeld _ _ ?_; refine pq 9 28 HT_ _ _ ?_; refine tq_b4c1 10 29 HT_ HW_.out hHeld _ _ ?_; refine on 11 (some 30) HT_ (fun K hK => ?_); refine goS Tryz.func52 #[.slice (some ad324) l0.length c0, .int .i64 (rd ((rd_T62 l0 a1).f3) 0)] ?_
  with_reducible refine (spec_l06Value.calls k _ _ l0 (rd ((rd_T62 l0 a1).f3) 0) t328 _ ?side1 ?side2 A12.out).mono ?_
  (case side1 => exact Kd.C_below HR0.out (be w))
  (case side2 => exact HC0.out)
  rintro e w19 ⟨rfl, hb⟩
  refine ⟨_, rfl, ?_⟩
  replace BK325 := bb BK325 hb; replace HB := bs w hb; (try clear hb); (try clear hb2); (try clear hk); (try clear hi)
  refine hK.out _ _ (ba (bf BK325.out) (cf hw327_0)) (fun hHeld => ?_)
  clear hK K; refine nm _ ?_; refine pq 12 31 HT_ _ _ ?_; refine pq 13 32 HT_ _ _ ?_; refine pq 14 6 HT_ _ _ ?_
  refine done_ (done_of HT_.out (by kernel_rfl)) ?_
  try go_wp2
  go_ret
  exact ⟨ez, be w⟩
 rw [if_neg c7] at H; have c7b0 : (((rd_T62 l0 a1).f0) == 13) = false := beq_eq_false_iff_ne.mpr c7; have c7b1 : (((rd_T62 l0 a1).f0) != 13) = true := bne_iff_ne.mpr c7
 by_cases c20 : ((rd_T62 l0 a1).f0) = 14
 ·
  rw [if_pos c20] at H; have c20b0 : (((rd_T62 l0 a1).f0) == 14) = true := beq_iff_eq.mpr c20; have c20b1 : (((rd_T62 l0 a1).f0) != 14) = false := bne_eq_false_iff_eq.mpr c20; clear c20; replace H := il H; obtain ⟨c21, c21b0, c21b1, c21b2, H⟩ := H; replace H := il H; obtain ⟨c22, c22b0, c22b1, c22b2, H⟩ := H
  try have c22b4 : (9223372036854775807 < t326.size + ((rd_T62 l0 a1).f2).size + 3) = False := eq_false (Nat.not_lt.2 (by have h_ := c22; simp only [ByteArray.size_append] at h_; exact h_))
  have c23 := i1 H; replace H := i2 H; have c23b0 := decide_eq_true c23; have c23b1 : decide (0 < ((rd_T62 l0 a1).f3).length) = true := decide_eq_true (by omega); clear c23; replace H := bo H; obtain ⟨t330, A24, H⟩ := H; replace H := il H; obtain ⟨c25, c25b0, c25b1, c25b2, H⟩ := H
  try have c25b4 : (9223372036854775807 < t326.size + ((rd_T62 l0 a1).f2).size + 3 + t330.size) = False := eq_false (Nat.not_lt.2 (by have h_ := c25; simp only [ByteArray.size_append] at h_; exact h_))
  replace H := il H; obtain ⟨c26, c26b0, c26b1, c26b2, H⟩ := H
  try have c26b4 : (9223372036854775807 < t326.size + ((rd_T62 l0 a1).f2).size + 3 + t330.size + 2) = False := eq_false (Nat.not_lt.2 (by have h_ := c26; simp only [ByteArray.size_append] at h_; exact h_))
  obtain rfl := sj H; obtain ⟨ad324, A324_3, c324_3, e324, p324, q324, x324a, x324b, x324c, x324d, HC324_3, HR324_3⟩ := bt_T62 (Below.refl _ _) HR0.out a1 od od; cases e324; go_enter Tryz.func45, Tryz.ntmps45
  try go_wp2_with (first | ((with_reducible refine gate_dst (N := 7) rfl ?_); refine bxe 7 #[.int .i64 0, .int .i64 0, .string (⟨#[]⟩ : ByteArray), .slice none 0 0] 62 ?_; intro gb325 hg w27 BK325 hb; have GW325 := As.mk (gs w hg); replace HB := bs w hb; clear hb hg; obtain ⟨y28a, y28b, y28c, y28d, v28a, v28b, v28c, v28d⟩ := cl4 BK325.out) | ((with_reducible refine gate_callee (f := 72) rfl ?_); refine goL (some 14) Tryz.func72 #[.int .i64 a2] ?_; (with_reducible refine (spec_l06In.calls k a2 t326 _ A6.out).mono ?_); rintro e w' ⟨rfl, ⟨nd, rfl⟩⟩; refine ⟨_, rfl, ?_⟩))
  generalize hW_ : ((((w27.setCell ⟨gb325, 0, none⟩ (.int .i64 ((rd_T62 l0 a1).f0))).setCell ⟨gb325, 1, none⟩ (.int .i64 ((rd_T62 l0 a1).f1))).setCell ⟨gb325, 2, none⟩ (.string ((rd_T62 l0 a1).f2))).setCell ⟨gb325, 3, none⟩ (.slice A324_3 ((rd_T62 l0 a1).f3).length c324_3)) = w29
  have n0_ : As (w29.heap[gb325]? = some (.cells #[.int .i64 ((rd_T62 l0 a1).f0), .int .i64 ((rd_T62 l0 a1).f1), .string ((rd_T62 l0 a1).f2), .slice A324_3 ((rd_T62 l0 a1).f3).length c324_3] 62 (0, 0))) := ⟨by rw [← hW_]; exact pl (bp4 (bx BK325.out))⟩; have n1_ : As (Below w.heap.size w w29) := ⟨by rw [← hW_]; exact be w⟩; (try clear BK325); (try clear HB); clear hW_; have BK325 := n0_; have HB := n1_; clear n0_ n1_; (try (rw [drewN_self w29]; generalize hq_ : World.drewN w29 _ = w29; have n0_ : As (w29.heap[gb325]? = some (.cells #[.int .i64 ((rd_T62 l0 a1).f0), .int .i64 ((rd_T62 l0 a1).f1), .string ((rd_T62 l0 a1).f2), .slice A324_3 ((rd_T62 l0 a1).f3).length c324_3] 62 (0, 0))) := ⟨by rw [← hq_]; exact (bx BK325.out)⟩; have n1_ : As (Below w.heap.size w w29) := ⟨by rw [← hq_]; exact (be w)⟩; clear BK325 HB hq_; have BK325 := n0_; have HB := n1_; clear n0_ n1_)); replace BK325 := As.mk (blk_drew BK325.out); replace HB := As.mk (below_drew1 HB.out); have p329 : 0 ≤ (0 : Int) := (by omega); have q329 : 0 < (((rd_T62 l0 a1).f3).length : Int) := od; obtain ⟨ad329, e329, x329a⟩ := Kd.at_int HR324_3.out 0 p329 q329; have hw329_0 := x329a; (try rw [show ((0 : Int)).toNat = 0 from rfl] at hw329_0); (try rw [show 0 * 1 = 0 from rfl] at hw329_0); (try rw [Addr.add_zero'] at hw329_0); cases e329; have qi329 : (0 < ((rd_T62 l0 a1).f3).length) = True := eq_true (by omega); (try rw [show ((0 : Int)).toNat = 0 from rfl] at x329a); (try rw [Addr.add_zero'] at x329a); replace x329a := ce HB.out x329a; replace p329 := eq_true p329; replace q329 := eq_true q329
  refine start_ (n := 14) (S := _) (ds := []) #[O,O,O,O,O,O,O,O,O,O,O,O,O,O] (by kernel_rfl) rfl rfl (ba (bf BK325.out) (cf hw329_0)) (fun hHeld => ?_); refine with_tabW spec_l06Step.tab7 spec_l06Step.bits7 (fun HT_ HW_ => ?_)
  generalize w29.drew = w30 at BK325 HB x329a hHeld ⊢
  refine pq 0 35 HT_ _ _ ?_; refine pq 1 36 HT_ _ _ ?_; refine pq 5 40 HT_ _ _ ?_; refine pq 6 41 HT_ _ _ ?_; refine tq_b4c1 2 37 HT_ HW_.out hHeld _ _ ?_; refine pq 3 38 HT_ _ _ ?_; refine pq 4 39 HT_ _ _ ?_; refine tq_b4c1 7 42 HT_ HW_.out hHeld _ _ ?_; refine pq 8 43 HT_ _ _ ?_; refine tq_b4c1 9 44 HT_ HW_.out hHeld _ _ ?_; refine on 10 (some 45) HT_ (fun K hK => ?_); refine goS Tryz.func52 #[.slice (some ad324) l0.length c0, .int .i64 (rd ((rd_T62 l0 a1).f3) 0)] ?_
  with_reducible refine (spec_l06Value.calls k _ _ l0 (rd ((rd_T62 l0 a1).f3) 0) t330 _ ?side1 ?side2 A24.out).mono ?_
  (case side1 => exact Kd.C_below HR0.out (be w))
  (case side2 => exact HC0.out)
  rintro e w31 ⟨rfl, hb⟩
  refine ⟨_, rfl, ?_⟩
  replace BK325 := bb BK325 hb; replace HB := bs w hb; (try clear hb); (try clear hb2); (try clear hk); (try clear hi)
  refine hK.out _ _ (ba (bf BK325.out) (cf hw329_0)) (fun hHeld => ?_)
  clear hK K; refine nm _ ?_; refine pq 11 46 HT_ _ _ ?_; refine pq 12 47 HT_ _ _ ?_; refine pq 13 6 HT_ _ _ ?_
  refine done_ (done_of HT_.out (by kernel_rfl)) ?_
  try go_wp2
  go_ret
  exact ⟨ez, be w⟩
 rw [if_neg c20] at H; have c20b0 : (((rd_T62 l0 a1).f0) == 14) = false := beq_eq_false_iff_ne.mpr c20; have c20b1 : (((rd_T62 l0 a1).f0) != 14) = true := bne_iff_ne.mpr c20
 by_cases c32 : ((rd_T62 l0 a1).f0) = 15
 ·
  rw [if_pos c32] at H; have c32b0 : (((rd_T62 l0 a1).f0) == 15) = true := beq_iff_eq.mpr c32; have c32b1 : (((rd_T62 l0 a1).f0) != 15) = false := bne_eq_false_iff_eq.mpr c32; clear c32; replace H := il H; obtain ⟨c33, c33b0, c33b1, c33b2, H⟩ := H; replace H := il H; obtain ⟨c34, c34b0, c34b1, c34b2, H⟩ := H
  try have c34b4 : (9223372036854775807 < t326.size + 1 + ((rd_T62 l0 a1).f2).size) = False := eq_false (Nat.not_lt.2 (by have h_ := c34; simp only [ByteArray.size_append] at h_; exact h_))
  replace H := il H; obtain ⟨c35, c35b0, c35b1, c35b2, H⟩ := H
  try have c35b4 : (9223372036854775807 < t326.size + 1 + ((rd_T62 l0 a1).f2).size + 3) = False := eq_false (Nat.not_lt.2 (by have h_ := c35; simp only [ByteArray.size_append] at h_; exact h_))
  have c36 := i1 H; replace H := i2 H; have c36b0 := decide_eq_true c36; have c36b1 : decide (0 < ((rd_T62 l0 a1).f3).length) = true := decide_eq_true (by omega); clear c36; replace H := bo H; obtain ⟨t332, A37, H⟩ := H; replace H := il H; obtain ⟨c38, c38b0, c38b1, c38b2, H⟩ := H
  try have c38b4 : (9223372036854775807 < t326.size + 1 + ((rd_T62 l0 a1).f2).size + 3 + t332.size) = False := eq_false (Nat.not_lt.2 (by have h_ := c38; simp only [ByteArray.size_append] at h_; exact h_))
  replace H := il H; obtain ⟨c39, c39b0, c39b1, c39b2, H⟩ := H
  try have c39b4 : (9223372036854775807 < t326.size + 1 + ((rd_T62 l0 a1).f2).size + 3 + t332.size + 2) = False := eq_false (Nat.not_lt.2 (by have h_ := c39; simp only [ByteArray.size_append] at h_; exact h_))
  obtain rfl := sj H; obtain ⟨ad324, A324_3, c324_3, e324, p324, q324, x324a, x324b, x324c, x324d, HC324_3, HR324_3⟩ := bt_T62 (Below.refl _ _) HR0.out a1 od od; cases e324; go_enter Tryz.func45, Tryz.ntmps45
  try go_wp2_with (first | ((with_reducible refine gate_dst (N := 7) rfl ?_); refine bxe 7 #[.int .i64 0, .int .i64 0, .string (⟨#[]⟩ : ByteArray), .slice none 0 0] 62 ?_; intro gb325 hg w40 BK325 hb; have GW325 := As.mk (gs w hg); replace HB := bs w hb; clear hb hg; obtain ⟨y41a, y41b, y41c, y41d, v41a, v41b, v41c, v41d⟩ := cl4 BK325.out) | ((with_reducible refine gate_callee (f := 72) rfl ?_); refine goL (some 14) Tryz.func72 #[.int .i64 a2] ?_; (with_reducible refine (spec_l06In.calls k a2 t326 _ A6.out).mono ?_); rintro e w' ⟨rfl, ⟨nd, rfl⟩⟩; refine ⟨_, rfl, ?_⟩))
  generalize hW_ : ((((w40.setCell ⟨gb325, 0, none⟩ (.int .i64 ((rd_T62 l0 a1).f0))).setCell ⟨gb325, 1, none⟩ (.int .i64 ((rd_T62 l0 a1).f1))).setCell ⟨gb325, 2, none⟩ (.string ((rd_T62 l0 a1).f2))).setCell ⟨gb325, 3, none⟩ (.slice A324_3 ((rd_T62 l0 a1).f3).length c324_3)) = w42
  have n0_ : As (w42.heap[gb325]? = some (.cells #[.int .i64 ((rd_T62 l0 a1).f0), .int .i64 ((rd_T62 l0 a1).f1), .string ((rd_T62 l0 a1).f2), .slice A324_3 ((rd_T62 l0 a1).f3).length c324_3] 62 (0, 0))) := ⟨by rw [← hW_]; exact pl (bp4 (bx BK325.out))⟩; have n1_ : As (Below w.heap.size w w42) := ⟨by rw [← hW_]; exact be w⟩; (try clear BK325); (try clear HB); clear hW_; have BK325 := n0_; have HB := n1_; clear n0_ n1_; (try (rw [drewN_self w42]; generalize hq_ : World.drewN w42 _ = w42; have n0_ : As (w42.heap[gb325]? = some (.cells #[.int .i64 ((rd_T62 l0 a1).f0), .int .i64 ((rd_T62 l0 a1).f1), .string ((rd_T62 l0 a1).f2), .slice A324_3 ((rd_T62 l0 a1).f3).length c324_3] 62 (0, 0))) := ⟨by rw [← hq_]; exact (bx BK325.out)⟩; have n1_ : As (Below w.heap.size w w42) := ⟨by rw [← hq_]; exact (be w)⟩; clear BK325 HB hq_; have BK325 := n0_; have HB := n1_; clear n0_ n1_)); replace BK325 := As.mk (blk_drew BK325.out); replace HB := As.mk (below_drew1 HB.out); have p331 : 0 ≤ (0 : Int) := (by omega); have q331 : 0 < (((rd_T62 l0 a1).f3).length : Int) := od; obtain ⟨ad331, e331, x331a⟩ := Kd.at_int HR324_3.out 0 p331 q331; have hw331_0 := x331a; (try rw [show ((0 : Int)).toNat = 0 from rfl] at hw331_0); (try rw [show 0 * 1 = 0 from rfl] at hw331_0); (try rw [Addr.add_zero'] at hw331_0); cases e331; have qi331 : (0 < ((rd_T62 l0 a1).f3).length) = True := eq_true (by omega); (try rw [show ((0 : Int)).toNat = 0 from rfl] at x331a); (try rw [Addr.add_zero'] at x331a); replace x331a := ce HB.out x331a; replace p331 := eq_true p331; replace q331 := eq_true q331
  refine start_ (n := 15) (S := _) (ds := []) #[O,O,O,O,O,O,O,O,O,O,O,O,O,O,O] (by kernel_rfl) rfl rfl (ba (bf BK325.out) (cf hw331_0)) (fun hHeld => ?_); refine with_tabW spec_l06Step.tab9 spec_l06Step.bits9 (fun HT_ HW_ => ?_)
  generalize w42.drew = w43 at BK325 HB x331a hHeld ⊢
  refine pq 0 50 HT_ _ _ ?_; refine pq 1 51 HT_ _ _ ?_; refine pq 2 52 HT_ _ _ ?_; refine pq 6 56 HT_ _ _ ?_; refine pq 7 57 HT_ _ _ ?_; refine tq_b4c1 3 53 HT_ HW_.out hHeld _ _ ?_; refine pq 4 54 HT_ _ _ ?_; refine pq 5 55 HT_ _ _ ?_; refine tq_b4c1 8 58 HT_ HW_.out hHeld _ _ ?_; refine pq 9 59 HT_ _ _ ?_; refine tq_b4c1 10 60 HT_ HW_.out hHeld _ _ ?_; refine on 11 (some 61) HT_ (fun K hK => ?_); refine goS Tryz.func52 #[.slice (some ad324) l0.length c0, .int .i64 (rd ((rd_T62 l0 a1).f3) 0)] ?_
  with_reducible refine (spec_l06Value.calls k _ _ l0 (rd ((rd_T62 l0 a1).f3) 0) t332 _ ?side1 ?side2 A37.out).mono ?_
  (case side1 => exact Kd.C_below HR0.out (be w))
  (case side2 => exact HC0.out)
  rintro e w44 ⟨rfl, hb⟩
  refine ⟨_, rfl, ?_⟩
  replace BK325 := bb BK325 hb; replace HB := bs w hb; (try clear hb); (try clear hb2); (try clear hk); (try clear hi)
  refine hK.out _ _ (ba (bf BK325.out) (cf hw331_0)) (fun hHeld => ?_)
  clear hK K; refine nm _ ?_; refine pq 12 62 HT_ _ _ ?_; refine pq 13 63 HT_ _ _ ?_; refine pq 14 6 HT_ _ _ ?_
  refine done_ (done_of HT_.out (by kernel_rfl)) ?_
  try go_wp2
  go_ret
  exact ⟨ez, be w⟩
 rw [if_neg c32] at H; have c32b0 : (((rd_T62 l0 a1).f0) == 15) = false := beq_eq_false_iff_ne.mpr c32; have c32b1 : (((rd_T62 l0 a1).f0) != 15) = true := bne_iff_ne.mpr c32
 by_cases c45 : ((rd_T62 l0 a1).f0) = 18
 ·
  rw [if_pos c45] at H; have c45b0 : (((rd_T62 l0 a1).f0) == 18) = true := beq_iff_eq.mpr c45; have c45b1 : (((rd_T62 l0 a1).f0) != 18) = false := bne_eq_false_iff_eq.mpr c45; clear c45; replace H := il H; obtain ⟨c46, c46b0, c46b1, c46b2, H⟩ := H; have c47 := i1 H; replace H := i2 H; have c47b0 := decide_eq_true c47; have c47b1 : decide (0 < ((rd_T62 l0 a1).f3).length) = true := decide_eq_true (by omega); clear c47; replace H := bo H; obtain ⟨t334, A48, H⟩ := H; replace H := il H; obtain ⟨c49, c49b0, c49b1, c49b2, H⟩ := H
  try have c49b4 : (9223372036854775807 < t326.size + 6 + t334.size) = False := eq_false (Nat.not_lt.2 (by have h_ := c49; simp only [ByteArray.size_append] at h_; exact h_))
  replace H := il H; obtain ⟨c50, c50b0, c50b1, c50b2, H⟩ := H
  try have c50b4 : (9223372036854775807 < t326.size + 6 + t334.size + 2) = False := eq_false (Nat.not_lt.2 (by have h_ := c50; simp only [ByteArray.size_append] at h_; exact h_))
  obtain rfl := sj H; obtain ⟨ad324, A324_3, c324_3, e324, p324, q324, x324a, x324b, x324c, x324d, HC324_3, HR324_3⟩ := bt_T62 (Below.refl _ _) HR0.out a1 od od; cases e324; go_enter Tryz.func45, Tryz.ntmps45
  go_wp2_with (first | ((with_reducible refine gate_dst (N := 7) rfl ?_); refine bxe 7 #[.int .i64 0, .int .i64 0, .string (⟨#[]⟩ : ByteArray), .slice none 0 0] 62 ?_; intro gb325 hg w51 BK325 hb; have GW325 := As.mk (gs w hg); replace HB := bs w hb; clear hb hg; obtain ⟨y52a, y52b, y52c, y52d, v52a, v52b, v52c, v52d⟩ := cl4 BK325.out) | ((with_reducible refine gate_callee (f := 72) rfl ?_); refine goL (some 14) Tryz.func72 #[.int .i64 a2] ?_; (with_reducible refine (spec_l06In.calls k a2 t326 _ A6.out).mono ?_); rintro e w' ⟨rfl, ⟨nd, rfl⟩⟩; refine ⟨_, rfl, ?_⟩; have p333 : 0 ≤ (0 : Int) := (by omega); have q333 : 0 < (((rd_T62 l0 a1).f3).length : Int) := od; obtain ⟨ad333, e333, x333a⟩ := Kd.at_int HR324_3.out 0 p333 q333; cases e333; have qi333 : (0 < ((rd_T62 l0 a1).f3).length) = True := eq_true (by omega); (try rw [show ((0 : Int)).toNat = 0 from rfl] at x333a); (try rw [Addr.add_zero'] at x333a); have hn333_0 : ad333.block ≠ gb325 := (by first | exact nb2 x333a GW325.out | exact nb1 x333a GW325.out); have hn333_1 : ad333.block ≠ gb325 := (by first | exact nb2 x333a GW325.out | exact nb1 x333a GW325.out); have hn333_2 : ad333.block ≠ gb325 := (by first | exact nb2 x333a GW325.out | exact nb1 x333a GW325.out); have hn333_3 : ad333.block ≠ gb325 := (by first | exact nb2 x333a GW325.out | exact nb1 x333a GW325.out); replace x333a := ce HB.out x333a; replace x333a := cfz (j := 0) (.int .i64 ((rd_T62 l0 a1).f0)) x333a hn333_0; replace x333a := cfz (j := 1) (.int .i64 ((rd_T62 l0 a1).f1)) x333a hn333_1; replace x333a := cfz (j := 2) (.string ((rd_T62 l0 a1).f2)) x333a hn333_2; replace x333a := cfz (j := 3) (.slice (some ad333) ((rd_T62 l0 a1).f3).length c324_3) x333a hn333_3; clear hn333_0; clear hn333_1; clear hn333_2; clear hn333_3; replace p333 := eq_true p333; replace q333 := eq_true q333) | ((with_reducible refine gate_callee (f := 52) rfl ?_); refine goL (some 73) Tryz.func52 #[.slice (some ad324) l0.length c0, .int .i64 (rd ((rd_T62 l0 a1).f3) 0)] ?_; (with_reducible refine (spec_l06Value.calls k _ _ l0 (rd ((rd_T62 l0 a1).f3) 0) t334 _ (cb HR0) HC0.out A48.out).mono ?_); rintro e w53 ⟨rfl, hb⟩; refine ⟨_, rfl, ?_⟩; replace BK325 := As.mk (blk_below (g := gb325) (o := .cells #[.int .i64 ((rd_T62 l0 a1).f0), .int .i64 ((rd_T62 l0 a1).f1), .string ((rd_T62 l0 a1).f2), .slice (some ad333) ((rd_T62 l0 a1).f3).length c324_3] 62 (0, 0)) (by exact pl (bp4 (bx BK325.out))) hb); replace HB := bs w hb; (try clear hb)))
  go_ret
  exact ⟨ez, be w⟩
 rw [if_neg c45] at H; have c45b0 : (((rd_T62 l0 a1).f0) == 18) = false := beq_eq_false_iff_ne.mpr c45; have c45b1 : (((rd_T62 l0 a1).f0) != 18) = true := bne_iff_ne.mpr c45
 by_cases c54 : ((rd_T62 l0 a1).f0) = 19
 ·
  rw [if_pos c54] at H; have c54b0 : (((rd_T62 l0 a1).f0) == 19) = true := beq_iff_eq.mpr c54; have c54b1 : (((rd_T62 l0 a1).f0) != 19) = false := bne_eq_false_iff_eq.mpr c54; clear c54; replace H := il H; obtain ⟨c55, c55b0, c55b1, c55b2, H⟩ := H; have c56 := i1 H; replace H := i2 H; have c56b0 := decide_eq_true c56; have c56b1 : decide (0 < ((rd_T62 l0 a1).f3).length) = true := decide_eq_true (by omega); clear c56; replace H := bo H; obtain ⟨t336, A57, H⟩ := H; replace H := il H; obtain ⟨c58, c58b0, c58b1, c58b2, H⟩ := H
  try have c58b4 : (9223372036854775807 < t326.size + 3 + t336.size) = False := eq_false (Nat.not_lt.2 (by have h_ := c58; simp only [ByteArray.size_append] at h_; exact h_))
  replace H := il H; obtain ⟨c59, c59b0, c59b1, c59b2, H⟩ := H
  try have c59b4 : (9223372036854775807 < t326.size + 3 + t336.size + 2) = False := eq_false (Nat.not_lt.2 (by have h_ := c59; simp only [ByteArray.size_append] at h_; exact h_))
  obtain rfl := sj H; obtain ⟨ad324, A324_3, c324_3, e324, p324, q324, x324a, x324b, x324c, x324d, HC324_3, HR324_3⟩ := bt_T62 (Below.refl _ _) HR0.out a1 od od; cases e324; go_enter Tryz.func45, Tryz.ntmps45
  go_wp2_with (first | ((with_reducible refine gate_dst (N := 7) rfl ?_); refine bxe 7 #[.int .i64 0, .int .i64 0, .string (⟨#[]⟩ : ByteArray), .slice none 0 0] 62 ?_; intro gb325 hg w60 BK325 hb; have GW325 := As.mk (gs w hg); replace HB := bs w hb; clear hb hg; obtain ⟨y61a, y61b, y61c, y61d, v61a, v61b, v61c, v61d⟩ := cl4 BK325.out) | ((with_reducible refine gate_callee (f := 72) rfl ?_); refine goL (some 14) Tryz.func72 #[.int .i64 a2] ?_; (with_reducible refine (spec_l06In.calls k a2 t326 _ A6.out).mono ?_); rintro e w' ⟨rfl, ⟨nd, rfl⟩⟩; refine ⟨_, rfl, ?_⟩; have p335 : 0 ≤ (0 : Int) := (by omega); have q335 : 0 < (((rd_T62 l0 a1).f3).length : Int) := od; obtain ⟨ad335, e335, x335a⟩ := Kd.at_int HR324_3.out 0 p335 q335; cases e335; have qi335 : (0 < ((rd_T62 l0 a1).f3).length) = True := eq_true (by omega); (try rw [show ((0 : Int)).toNat = 0 from rfl] at x335a); (try rw [Addr.add_zero'] at x335a); have hn335_0 : ad335.block ≠ gb325 := (by first | exact nb2 x335a GW325.out | exact nb1 x335a GW325.out); have hn335_1 : ad335.block ≠ gb325 := (by first | exact nb2 x335a GW325.out | exact nb1 x335a GW325.out); have hn335_2 : ad335.block ≠ gb325 := (by first | exact nb2 x335a GW325.out | exact nb1 x335a GW325.out); have hn335_3 : ad335.block ≠ gb325 := (by first | exact nb2 x335a GW325.out | exact nb1 x335a GW325.out); replace x335a := ce HB.out x335a; replace x335a := cfz (j := 0) (.int .i64 ((rd_T62 l0 a1).f0)) x335a hn335_0; replace x335a := cfz (j := 1) (.int .i64 ((rd_T62 l0 a1).f1)) x335a hn335_1; replace x335a := cfz (j := 2) (.string ((rd_T62 l0 a1).f2)) x335a hn335_2; replace x335a := cfz (j := 3) (.slice (some ad335) ((rd_T62 l0 a1).f3).length c324_3) x335a hn335_3; clear hn335_0; clear hn335_1; clear hn335_2; clear hn335_3; replace p335 := eq_true p335; replace q335 := eq_true q335) | ((with_reducible refine gate_callee (f := 52) rfl ?_); refine goL (some 85) Tryz.func52 #[.slice (some ad324) l0.length c0, .int .i64 (rd ((rd_T62 l0 a1).f3) 0)] ?_; (with_reducible refine (spec_l06Value.calls k _ _ l0 (rd ((rd_T62 l0 a1).f3) 0) t336 _ (cb HR0) HC0.out A57.out).mono ?_); rintro e w62 ⟨rfl, hb⟩; refine ⟨_, rfl, ?_⟩; replace BK325 := As.mk (blk_below (g := gb325) (o := .cells #[.int .i64 ((rd_T62 l0 a1).f0), .int .i64 ((rd_T62 l0 a1).f1), .string ((rd_T62 l0 a1).f2), .slice (some ad335) ((rd_T62 l0 a1).f3).length c324_3] 62 (0, 0)) (by exact pl (bp4 (bx BK325.out))) hb); replace HB := bs w hb; (try clear hb)))
  go_ret
  exact ⟨ez, be w⟩
 rw [if_neg c54] at H; have c54b0 : (((rd_T62 l0 a1).f0) == 19) = false := beq_eq_false_iff_ne.mpr c54; have c54b1 : (((rd_T62 l0 a1).f0) != 19) = true := bne_iff_ne.mpr c54
 by_cases c63 : ((rd_T62 l0 a1).f0) = 16
 rotate_left
 ·
  rw [if_neg c63] at H; have c63b0 : (((rd_T62 l0 a1).f0) == 16) = false := beq_eq_false_iff_ne.mpr c63; have c63b1 : (((rd_T62 l0 a1).f0) != 16) = true := bne_iff_ne.mpr c63; replace H := il H; obtain ⟨c86, c86b0, c86b1, c86b2, H⟩ := H; have c87 := i1 H; replace H := i2 H; have c87b0 := decide_eq_true c87; have c87b1 : decide (0 < ((rd_T62 l0 a1).f3).length) = true := decide_eq_true (by omega); clear c87; replace H := bo H; obtain ⟨t344, A88, H⟩ := H; replace H := il H; obtain ⟨c89, c89b0, c89b1, c89b2, H⟩ := H
  try have c89b4 : (9223372036854775807 < t326.size + 6 + t344.size) = False := eq_false (Nat.not_lt.2 (by have h_ := c89; simp only [ByteArray.size_append] at h_; exact h_))
  replace H := il H; obtain ⟨c90, c90b0, c90b1, c90b2, H⟩ := H
  try have c90b4 : (9223372036854775807 < t326.size + 6 + t344.size + 3) = False := eq_false (Nat.not_lt.2 (by have h_ := c90; simp only [ByteArray.size_append] at h_; exact h_))
  have c91 := i1 H; replace H := i2 H; have c91b0 := decide_eq_true c91; have c91b1 : decide (1 < ((rd_T62 l0 a1).f3).length) = true := decide_eq_true (by omega); clear c91; replace H := bo H; obtain ⟨t346, A92, H⟩ := H; replace H := il H; obtain ⟨c93, c93b0, c93b1, c93b2, H⟩ := H
  try have c93b4 : (9223372036854775807 < t326.size + 6 + t344.size + 3 + t346.size) = False := eq_false (Nat.not_lt.2 (by have h_ := c93; simp only [ByteArray.size_append] at h_; exact h_))
  replace H := il H; obtain ⟨c94, c94b0, c94b1, c94b2, H⟩ := H
  try have c94b4 : (9223372036854775807 < t326.size + 6 + t344.size + 3 + t346.size + t326.size) = False := eq_false (Nat.not_lt.2 (by have h_ := c94; simp only [ByteArray.size_append] at h_; exact h_))
  replace H := il H; obtain ⟨c95, c95b0, c95b1, c95b2, H⟩ := H
  try have c95b4 : (9223372036854775807 < t326.size + 6 + t344.size + 3 + t346.size + t326.size + 2) = False := eq_false (Nat.not_lt.2 (by have h_ := c95; simp only [ByteArray.size_append] at h_; exact h_))
  obtain rfl := sj H; obtain ⟨ad324, A324_3, c324_3, e324, p324, q324, x324a, x324b, x324c, x324d, HC324_3, HR324_3⟩ := bt_T62 (Below.refl _ _) HR0.out a1 od od; cases e324; go_enter Tryz.func45, Tryz.ntmps45
  try go_wp2_with (first | ((with_reducible refine gate_dst (N := 7) rfl ?_); refine bxe 7 #[.int .i64 0, .int .i64 0, .string (⟨#[]⟩ : ByteArray), .slice none 0 0] 62 ?_; intro gb325 hg w96 BK325 hb; have GW325 := As.mk (gs w hg); replace HB := bs w hb; clear hb hg; obtain ⟨y97a, y97b, y97c, y97d, v97a, v97b, v97c, v97d⟩ := cl4 BK325.out) | ((with_reducible refine gate_callee (f := 72) rfl ?_); refine goL (some 14) Tryz.func72 #[.int .i64 a2] ?_; (with_reducible refine (spec_l06In.calls k a2 t326 _ A6.out).mono ?_); rintro e w' ⟨rfl, ⟨nd, rfl⟩⟩; refine ⟨_, rfl, ?_⟩))
  generalize hW_ : ((((w96.setCell ⟨gb325, 0, none⟩ (.int .i64 ((rd_T62 l0 a1).f0))).setCell ⟨gb325, 1, none⟩ (.int .i64 ((rd_T62 l0 a1).f1))).setCell ⟨gb325, 2, none⟩ (.string ((rd_T62 l0 a1).f2))).setCell ⟨gb325, 3, none⟩ (.slice A324_3 ((rd_T62 l0 a1).f3).length c324_3)) = w98
  have n0_ : As (w98.heap[gb325]? = some (.cells #[.int .i64 ((rd_T62 l0 a1).f0), .int .i64 ((rd_T62 l0 a1).f1), .string ((rd_T62 l0 a1).f2), .slice A324_3 ((rd_T62 l0 a1).f3).length c324_3] 62 (0, 0))) := ⟨by rw [← hW_]; exact pl (bp4 (bx BK325.out))⟩; have n1_ : As (Below w.heap.size w w98) := ⟨by rw [← hW_]; exact be w⟩; (try clear BK325); (try clear HB); clear hW_; have BK325 := n0_; have HB := n1_; clear n0_ n1_; (try (rw [drewN_self w98]; generalize hq_ : World.drewN w98 _ = w98; have n0_ : As (w98.heap[gb325]? = some (.cells #[.int .i64 ((rd_T62 l0 a1).f0), .int .i64 ((rd_T62 l0 a1).f1), .string ((rd_T62 l0 a1).f2), .slice A324_3 ((rd_T62 l0 a1).f3).length c324_3] 62 (0, 0))) := ⟨by rw [← hq_]; exact (bx BK325.out)⟩; have n1_ : As (Below w.heap.size w w98) := ⟨by rw [← hq_]; exact (be w)⟩; clear BK325 HB hq_; have BK325 := n0_; have HB := n1_; clear n0_ n1_)); replace BK325 := As.mk (blk_drew BK325.out); replace HB := As.mk (below_drew1 HB.out); have p343 : 0 ≤ (0 : Int) := (by omega); have q343 : 0 < (((rd_T62 l0 a1).f3).length : Int) := od; obtain ⟨ad343, e343, x343a⟩ := Kd.at_int HR324_3.out 0 p343 q343; have hw343_0 := x343a; (try rw [show ((0 : Int)).toNat = 0 from rfl] at hw343_0); (try rw [show 0 * 1 = 0 from rfl] at hw343_0); (try rw [Addr.add_zero'] at hw343_0); cases e343; have qi343 : (0 < ((rd_T62 l0 a1).f3).length) = True := eq_true (by omega); (try rw [show ((0 : Int)).toNat = 0 from rfl] at x343a); (try rw [Addr.add_zero'] at x343a); replace x343a := ce HB.out x343a; replace p343 := eq_true p343; replace q343 := eq_true q343; have p345 : 0 ≤ (1 : Int) := (by omega); have q345 : 1 < (((rd_T62 l0 a1).f3).length : Int) := od; obtain ⟨ad345, e345, x345a⟩ := Kd.at_int HR324_3.out 1 p345 q345; have hw345_0 := x345a; (try rw [show ((1 : Int)).toNat = 1 from rfl] at hw345_0); (try rw [show 1 * 1 = 1 from rfl] at hw345_0); (try simp only [Nat.reduceMul, Nat.reduceEqDiff, Go.Addr.add, ↓reduceIte] at hw345_0); obtain rfl : ad343 = ad345 := (by injection e345); (try simp only [show (1 : Int).toNat = 1 from rfl, Nat.reduceMul, Nat.reduceEqDiff, Go.Addr.add, ↓reduceIte] at x345a); have qi345 : (1 < ((rd_T62 l0 a1).f3).length) = True := eq_true (by omega); (try rw [show ((1 : Int)).toNat = 1 from rfl] at x345a); replace x345a := ce HB.out x345a; replace p345 := eq_true p345; replace q345 := eq_true q345
  refine start_ (n := 23) (S := _) (ds := []) #[O,O,O,O,O,O,O,O,O,O,O,O,O,O,O,O,O,O,O,O,O,O,O] (by kernel_rfl) rfl rfl (ba (bf BK325.out) (ba (cf hw343_0) (cf hw345_0))) (fun hHeld => ?_); refine with_tabW spec_l06Step.tab16 spec_l06Step.bits16 (fun HT_ HW_ => ?_)
  generalize w98.drew = w99 at BK325 HB x343a x345a hHeld ⊢
  refine pq 0 124 HT_ _ _ ?_; refine pq 1 125 HT_ _ _ ?_; refine pq 2 126 HT_ _ _ ?_; refine pq 3 127 HT_ _ _ ?_; refine pq 10 134 HT_ _ _ ?_; refine pq 11 135 HT_ _ _ ?_; refine pq 15 139 HT_ _ _ ?_; refine pq 16 140 HT_ _ _ ?_; refine pq 19 143 HT_ _ _ ?_; refine tq_b4c1c1 4 128 HT_ HW_.out hHeld _ _ ?_; refine pq 5 129 HT_ _ _ ?_; refine tq_b4c1c1 6 130 HT_ HW_.out hHeld _ _ ?_; refine tq_b4c1c1 12 136 HT_ HW_.out hHeld _ _ ?_; refine pq 13 137 HT_ _ _ ?_; refine tq_b4c1c1 14 138 HT_ HW_.out hHeld _ _ ?_; refine on 7 (some 131) HT_ (fun K hK => ?_); refine goS Tryz.func52 #[.slice (some ad324) l0.length c0, .int .i64 (rd ((rd_T62 l0 a1).f3) 0)] ?_
  with_reducible refine (spec_l06Value.calls k _ _ l0 (rd ((rd_T62 l0 a1).f3) 0) t344 _ ?side1 ?side2 A88.out).mono ?_
  (case side1 => exact Kd.C_below HR0.out (be w))
  (case side2 => exact HC0.out)
  rintro e w100 ⟨rfl, hb⟩
  refine ⟨_, rfl, ?_⟩
  replace BK325 := bb BK325 hb; replace HB := bs w hb; (try clear hb); (try clear hb2); (try clear hk); (try clear hi)
  refine hK.out _ _ (ba (bf BK325.out) (ba (cf hw343_0) (cf hw345_0))) (fun hHeld => ?_)
  clear hK K; refine nm _ ?_; refine pq 8 132 HT_ _ _ ?_; refine pq 9 133 HT_ _ _ ?_; refine on 17 (some 141) HT_ (fun K hK => ?_); refine goS Tryz.func51 #[.slice (some ad324) l0.length c0, .int .i64 (rd ((rd_T62 l0 a1).f3) 1), .int .i64 (wrap64 (a2 + 1))] ?_
  with_reducible refine (ih_spec_l06Block k (by omega) _ _ l0 (rd ((rd_T62 l0 a1).f3) 1) (wrap64 (a2 + 1)) t346 _ ?side1 ?side2 A92.out).mono ?_
  (case side1 => exact Kd.C_below HR0.out (be w))
  (case side2 => exact HC0.out)
  rintro e w101 ⟨rfl, hb⟩
  refine ⟨_, rfl, ?_⟩
  replace BK325 := bb BK325 hb; replace HB := bs w hb; (try clear hb); (try clear hb2); (try clear hk); (try clear hi)
  refine hK.out _ _ (ba (bf BK325.out) (ba (cf hw343_0) (cf hw345_0))) (fun hHeld => ?_)
  clear hK K; refine nm _ ?_; refine pq 18 142 HT_ _ _ ?_; refine pq 20 144 HT_ _ _ ?_; refine pq 21 145 HT_ _ _ ?_; refine pq 22 6 HT_ _ _ ?_
  refine done_ (done_of HT_.out (by kernel_rfl)) ?_
  try go_wp2
  go_ret
  exact ⟨ez, be w⟩
 rw [if_pos c63] at H; have c63b0 : (((rd_T62 l0 a1).f0) == 16) = true := beq_iff_eq.mpr c63; have c63b1 : (((rd_T62 l0 a1).f0) != 16) = false := bne_eq_false_iff_eq.mpr c63; clear c63; replace H := il H; obtain ⟨c64, c64b0, c64b1, c64b2, H⟩ := H; have c65 := i1 H; replace H := i2 H; have c65b0 := decide_eq_true c65; have c65b1 : decide (0 < ((rd_T62 l0 a1).f3).length) = true := decide_eq_true (by omega); clear c65; replace H := bo H; obtain ⟨t338, A66, H⟩ := H; replace H := il H; obtain ⟨c67, c67b0, c67b1, c67b2, H⟩ := H
 try have c67b4 : (9223372036854775807 < t326.size + 3 + t338.size) = False := eq_false (Nat.not_lt.2 (by have h_ := c67; simp only [ByteArray.size_append] at h_; exact h_))
 replace H := il H; obtain ⟨c68, c68b0, c68b1, c68b2, H⟩ := H
 try have c68b4 : (9223372036854775807 < t326.size + 3 + t338.size + 3) = False := eq_false (Nat.not_lt.2 (by have h_ := c68; simp only [ByteArray.size_append] at h_; exact h_))
 have c69 := i1 H; replace H := i2 H; have c69b0 := decide_eq_true c69; have c69b1 : decide (1 < ((rd_T62 l0 a1).f3).length) = true := decide_eq_true (by omega); clear c69; replace H := bo H; obtain ⟨t340, A70, H⟩ := H; replace H := il H; obtain ⟨c71, c71b0, c71b1, c71b2, H⟩ := H
 try have c71b4 : (9223372036854775807 < t326.size + 3 + t338.size + 3 + t340.size) = False := eq_false (Nat.not_lt.2 (by have h_ := c71; simp only [ByteArray.size_append] at h_; exact h_))
 replace H := il H; obtain ⟨c72, c72b0, c72b1, c72b2, H⟩ := H
 try have c72b4 : (9223372036854775807 < t326.size + 3 + t338.size + 3 + t340.size + t326.size) = False := eq_false (Nat.not_lt.2 (by have h_ := c72; simp only [ByteArray.size_append] at h_; exact h_))
 replace H := il H; obtain ⟨c73, c73b0, c73b1, c73b2, H⟩ := H
 try have c73b4 : (9223372036854775807 < t326.size + 3 + t338.size + 3 + t340.size + t326.size + 9) = False := eq_false (Nat.not_lt.2 (by have h_ := c73; simp only [ByteArray.size_append] at h_; exact h_))
 have c74 := i1 H; replace H := i2 H; have c74b0 := decide_eq_true c74; have c74b1 : decide (2 < ((rd_T62 l0 a1).f3).length) = true := decide_eq_true (by omega); clear c74; replace H := bo H; obtain ⟨t342, A75, H⟩ := H; replace H := il H; obtain ⟨c76, c76b0, c76b1, c76b2, H⟩ := H
 try have c76b4 : (9223372036854775807 < t326.size + 3 + t338.size + 3 + t340.size + t326.size + 9 + t342.size) = False := eq_false (Nat.not_lt.2 (by have h_ := c76; simp only [ByteArray.size_append] at h_; exact h_))
 replace H := il H; obtain ⟨c77, c77b0, c77b1, c77b2, H⟩ := H
 try have c77b4 : (9223372036854775807 < t326.size + 3 + t338.size + 3 + t340.size + t326.size + 9 + t342.size + t326.size) = False := eq_false (Nat.not_lt.2 (by have h_ := c77; simp only [ByteArray.size_append] at h_; exact h_))
 replace H := il H; obtain ⟨c78, c78b0, c78b1, c78b2, H⟩ := H
 try have c78b4 : (9223372036854775807 < t326.size + 3 + t338.size + 3 + t340.size + t326.size + 9 + t342.size + t326.size + 2) = False := eq_false (Nat.not_lt.2 (by have h_ := c78; simp only [ByteArray.size_append] at h_; exact h_))
 obtain rfl := sj H; obtain ⟨ad324, A324_3, c324_3, e324, p324, q324, x324a, x324b, x324c, x324d, HC324_3, HR324_3⟩ := bt_T62 (Below.refl _ _) HR0.out a1 od od; cases e324; go_enter Tryz.func45, Tryz.ntmps45
 try go_wp2_with (first | ((with_reducible refine gate_dst (N := 7) rfl ?_); refine bxe 7 #[.int .i64 0, .int .i64 0, .string (⟨#[]⟩ : ByteArray), .slice none 0 0] 62 ?_; intro gb325 hg w79 BK325 hb; have GW325 := As.mk (gs w hg); replace HB := bs w hb; clear hb hg; obtain ⟨y80a, y80b, y80c, y80d, v80a, v80b, v80c, v80d⟩ := cl4 BK325.out) | ((with_reducible refine gate_callee (f := 72) rfl ?_); refine goL (some 14) Tryz.func72 #[.int .i64 a2] ?_; (with_reducible refine (spec_l06In.calls k a2 t326 _ A6.out).mono ?_); rintro e w' ⟨rfl, ⟨nd, rfl⟩⟩; refine ⟨_, rfl, ?_⟩))
 generalize hW_ : ((((w79.setCell ⟨gb325, 0, none⟩ (.int .i64 ((rd_T62 l0 a1).f0))).setCell ⟨gb325, 1, none⟩ (.int .i64 ((rd_T62 l0 a1).f1))).setCell ⟨gb325, 2, none⟩ (.string ((rd_T62 l0 a1).f2))).setCell ⟨gb325, 3, none⟩ (.slice A324_3 ((rd_T62 l0 a1).f3).length c324_3)) = w81
 have n0_ : As (w81.heap[gb325]? = some (.cells #[.int .i64 ((rd_T62 l0 a1).f0), .int .i64 ((rd_T62 l0 a1).f1), .string ((rd_T62 l0 a1).f2), .slice A324_3 ((rd_T62 l0 a1).f3).length c324_3] 62 (0, 0))) := ⟨by rw [← hW_]; exact pl (bp4 (bx BK325.out))⟩; have n1_ : As (Below w.heap.size w w81) := ⟨by rw [← hW_]; exact be w⟩; (try clear BK325); (try clear HB); clear hW_; have BK325 := n0_; have HB := n1_; clear n0_ n1_; (try (rw [drewN_self w81]; generalize hq_ : World.drewN w81 _ = w81; have n0_ : As (w81.heap[gb325]? = some (.cells #[.int .i64 ((rd_T62 l0 a1).f0), .int .i64 ((rd_T62 l0 a1).f1), .string ((rd_T62 l0 a1).f2), .slice A324_3 ((rd_T62 l0 a1).f3).length c324_3] 62 (0, 0))) := ⟨by rw [← hq_]; exact (bx BK325.out)⟩; have n1_ : As (Below w.heap.size w w81) := ⟨by rw [← hq_]; exact (be w)⟩; clear BK325 HB hq_; have BK325 := n0_; have HB := n1_; clear n0_ n1_)); replace BK325 := As.mk (blk_drew BK325.out); replace HB := As.mk (below_drew1 HB.out); have p337 : 0 ≤ (0 : Int) := (by omega); have q337 : 0 < (((rd_T62 l0 a1).f3).length : Int) := od; obtain ⟨ad337, e337, x337a⟩ := Kd.at_int HR324_3.out 0 p337 q337; have hw337_0 := x337a; (try rw [show ((0 : Int)).toNat = 0 from rfl] at hw337_0); (try rw [show 0 * 1 = 0 from rfl] at hw337_0); (try rw [Addr.add_zero'] at hw337_0); cases e337; have qi337 : (0 < ((rd_T62 l0 a1).f3).length) = True := eq_true (by omega); (try rw [show ((0 : Int)).toNat = 0 from rfl] at x337a); (try rw [Addr.add_zero'] at x337a); replace x337a := ce HB.out x337a; replace p337 := eq_true p337; replace q337 := eq_true q337; have p339 : 0 ≤ (1 : Int) := (by omega); have q339 : 1 < (((rd_T62 l0 a1).f3).length : Int) := od; obtain ⟨ad339, e339, x339a⟩ := Kd.at_int HR324_3.out 1 p339 q339; have hw339_0 := x339a; (try rw [show ((1 : Int)).toNat = 1 from rfl] at hw339_0); (try rw [show 1 * 1 = 1 from rfl] at hw339_0); (try simp only [Nat.reduceMul, Nat.reduceEqDiff, Go.Addr.add, ↓reduceIte] at hw339_0); obtain rfl : ad337 = ad339 := (by injection e339); (try simp only [show (1 : Int).toNat = 1 from rfl, Nat.reduceMul, Nat.reduceEqDiff, Go.Addr.add, ↓reduceIte] at x339a); have qi339 : (1 < ((rd_T62 l0 a1).f3).length) = True := eq_true (by omega); (try rw [show ((1 : Int)).toNat = 1 from rfl] at x339a); replace x339a := ce HB.out x339a; replace p339 := eq_true p339; replace q339 := eq_true q339; have p341 : 0 ≤ (2 : Int) := (by omega); have q341 : 2 < (((rd_T62 l0 a1).f3).length : Int) := od; obtain ⟨ad341, e341, x341a⟩ := Kd.at_int HR324_3.out 2 p341 q341; have hw341_0 := x341a; (try rw [show ((2 : Int)).toNat = 2 from rfl] at hw341_0); (try rw [show 2 * 1 = 2 from rfl] at hw341_0); (try simp only [Nat.reduceMul, Nat.reduceEqDiff, Go.Addr.add, ↓reduceIte] at hw341_0); obtain rfl : ad337 = ad341 := (by injection e341); (try simp only [show (2 : Int).toNat = 2 from rfl, Nat.reduceMul, Nat.reduceEqDiff, Go.Addr.add, ↓reduceIte] at x341a); have qi341 : (2 < ((rd_T62 l0 a1).f3).length) = True := eq_true (by omega); (try rw [show ((2 : Int)).toNat = 2 from rfl] at x341a); replace x341a := ce HB.out x341a; replace p341 := eq_true p341; replace q341 := eq_true q341
 refine start_ (n := 35) (S := _) (ds := []) #[O,O,O,O,O,O,O,O,O,O,O,O,O,O,O,O,O,O,O,O,O,O,O,O,O,O,O,O,O,O,O,O,O,O,O] (by kernel_rfl) rfl rfl (ba (bf BK325.out) (ba (cf hw337_0) (ba (cf hw339_0) (cf hw341_0)))) (fun hHeld => ?_); refine with_tabW spec_l06Step.tab15 spec_l06Step.bits15 (fun HT_ HW_ => ?_)
 generalize w81.drew = w82 at BK325 HB x337a x339a x341a hHeld ⊢
 refine pq 0 90 HT_ _ _ ?_; refine pq 1 91 HT_ _ _ ?_; refine pq 2 92 HT_ _ _ ?_; refine pq 3 93 HT_ _ _ ?_; refine pq 10 100 HT_ _ _ ?_; refine pq 11 101 HT_ _ _ ?_; refine pq 15 105 HT_ _ _ ?_; refine pq 16 106 HT_ _ _ ?_; refine pq 19 109 HT_ _ _ ?_; refine pq 22 112 HT_ _ _ ?_; refine pq 23 113 HT_ _ _ ?_; refine pq 27 117 HT_ _ _ ?_; refine pq 28 118 HT_ _ _ ?_; refine pq 31 121 HT_ _ _ ?_; refine tq_b4c1c1c1 4 94 HT_ HW_.out hHeld _ _ ?_; refine pq 5 95 HT_ _ _ ?_; refine tq_b4c1c1c1 6 96 HT_ HW_.out hHeld _ _ ?_; refine tq_b4c1c1c1 12 102 HT_ HW_.out hHeld _ _ ?_; refine pq 13 103 HT_ _ _ ?_; refine tq_b4c1c1c1 14 104 HT_ HW_.out hHeld _ _ ?_; refine tq_b4c1c1c1 24 114 HT_ HW_.out hHeld _ _ ?_; refine pq 25 115 HT_ _ _ ?_; refine tq_b4c1c1c1 26 116 HT_ HW_.out hHeld _ _ ?_; refine on 7 (some 97) HT_ (fun K hK => ?_); refine goS Tryz.func52 #[.slice (some ad324) l0.length c0, .int .i64 (rd ((rd_T62 l0 a1).f3) 0)] ?_
 with_reducible refine (spec_l06Value.calls k _ _ l0 (rd ((rd_T62 l0 a1).f3) 0) t338 _ ?side1 ?side2 A66.out).mono ?_
 (case side1 => exact Kd.C_below HR0.out (be w))
 (case side2 => exact HC0.out)
 rintro e w83 ⟨rfl, hb⟩
 refine ⟨_, rfl, ?_⟩
 replace BK325 := bb BK325 hb; replace HB := bs w hb; (try clear hb); (try clear hb2); (try clear hk); (try clear hi)
 refine hK.out _ _ (ba (bf BK325.out) (ba (cf hw337_0) (ba (cf hw339_0) (cf hw341_0)))) (fun hHeld => ?_)
 clear hK K; refine nm _ ?_; refine pq 8 98 HT_ _ _ ?_; refine pq 9 99 HT_ _ _ ?_; refine on 17 (some 107) HT_ (fun K hK => ?_); refine goS Tryz.func51 #[.slice (some ad324) l0.length c0, .int .i64 (rd ((rd_T62 l0 a1).f3) 1), .int .i64 (wrap64 (a2 + 1))] ?_
 with_reducible refine (ih_spec_l06Block k (by omega) _ _ l0 (rd ((rd_T62 l0 a1).f3) 1) (wrap64 (a2 + 1)) t340 _ ?side1 ?side2 A70.out).mono ?_
 (case side1 => exact Kd.C_below HR0.out (be w))
 (case side2 => exact HC0.out)
 rintro e w84 ⟨rfl, hb⟩
 refine ⟨_, rfl, ?_⟩
 replace BK325 := bb BK325 hb; replace HB := bs w hb; (try clear hb); (try clear hb2); (try clear hk); (try clear hi)
 refine hK.out _ _ (ba (bf BK325.out) (ba (cf hw337_0) (ba (cf hw339_0) (cf hw341_0)))) (fun hHeld => ?_)
 clear hK K; refine nm _ ?_; refine pq 18 108 HT_ _ _ ?_; refine pq 20 110 HT_ _ _ ?_; refine pq 21 111 HT_ _ _ ?_; refine on 29 (some 119) HT_ (fun K hK => ?_); refine goS Tryz.func51 #[.slice (some ad324) l0.length c0, .int .i64 (rd ((rd_T62 l0 a1).f3) 2), .int .i64 (wrap64 (a2 + 1))] ?_
 with_reducible refine (ih_spec_l06Block k (by omega) _ _ l0 (rd ((rd_T62 l0 a1).f3) 2) (wrap64 (a2 + 1)) t342 _ ?side1 ?side2 A75.out).mono ?_
 (case side1 => exact Kd.C_below HR0.out (be w))
 (case side2 => exact HC0.out)
 rintro e w85 ⟨rfl, hb⟩
 refine ⟨_, rfl, ?_⟩
 replace BK325 := bb BK325 hb; replace HB := bs w hb; (try clear hb); (try clear hb2); (try clear hk); (try clear hi)
 refine hK.out _ _ (ba (bf BK325.out) (ba (cf hw337_0) (ba (cf hw339_0) (cf hw341_0)))) (fun hHeld => ?_)
 clear hK K; refine nm _ ?_; refine pq 30 120 HT_ _ _ ?_; refine pq 32 122 HT_ _ _ ?_; refine pq 33 123 HT_ _ _ ?_; refine pq 34 6 HT_ _ _ ?_
 refine done_ (done_of HT_.out (by kernel_rfl)) ?_
 try go_wp2
 go_ret
 exact ⟨ez, be w⟩
set_option maxHeartbeats 8000000 in
set_option maxRecDepth 100000 in
theorem spec_l06Block.callsO (k : Nat) (ih_spec_l06Step : ∀ m_, m_ < k → spec_l06Step.C m_) (ih : ∀ m_, m_ < k → spec_l06Block.C m_) : spec_l06Block.C k := by
 intro A0 c0 l0 a1 a2 r w hr0 hc0 h
 cases k with
 | zero => exact absurd h (by simp [spec_l06Block.f])
 | succ k =>
 simp only [spec_l06Block.f] at h
 have HR0 := As.mk hr0; have HC0 := As.mk hc0; clear hr0 hc0; have HB := As.mk (Below.refl w.heap.size w); have H : (spec_l06Block.l0 k l0 a1 a2 (⟨#[]⟩ : ByteArray) 0) = some r := h; clear h; have H' := As.mk H; clear H; go_enter Tryz.func51, Tryz.ntmps51
 go_wp2
 go_loopg [7, 8] k (fun kq v7 v8 w' => ∃ (x7_1 : ByteArray) (x8_1 : Int), v7 = .string x7_1 ∧ v8 = .int .i64 x8_1 ∧ As (spec_l06Block.l0 kq l0 a1 a2 x7_1 x8_1 = some r) ∧ As (kq ≤ k) ∧ As (Below w.heap.size w w'))
 case atStart => exact ⟨((⟨#[]⟩ : ByteArray)), (0), (by first | rfl | (simp; done) | (simp [*]; done)), (by first | rfl | (simp; done) | (simp [*]; done)), H', ⟨Nat.le_refl _⟩, ⟨be w⟩⟩
 case round =>
  clear H'; obtain ⟨x7_1, x8_1, rfl, rfl, HA, HK1, HB⟩ := hrel
  cases gk with
  | zero => exact absurd HA.out (by simp [spec_l06Block.l0])
  | succ k1 =>
   have H := HA.out; clear HA
   simp only [spec_l06Block.l0] at H
   by_cases c4 : 0 ≤ a1
   rotate_left; · rw [if_neg c4] at H; exact absurd H (by simp)

   rw [if_pos c4] at H; have c4b0 := decide_eq_true c4; clear c4; replace H := ia H; obtain ⟨c5b0, H⟩ := H
   by_cases c6 : x8_1 < (((rd_T62 l0 a1).f3).length : Int)
   rotate_left
   ·
    rw [if_neg c6] at H; have c6b0 := decide_eq_false c6; clear c6; obtain rfl := sj H; obtain ⟨ad347, A347_3, c347_3, e347, p347, q347, x347a, x347b, x347c, x347d, HC347_3, HR347_3⟩ := bt_T62 HB.out HR0.out a1 od od; cases e347
    go_wp2
    go_ret
    exact ⟨ez, be w⟩
   rw [if_pos c6] at H; have c6b0 := decide_eq_true c6; clear c6; replace H := ia H; obtain ⟨c7b0, H⟩ := H; replace H := bo H; obtain ⟨t350, A8, H⟩ := H; replace H := il H; obtain ⟨c9, c9b0, c9b1, c9b2, H⟩ := H; have H' := As.mk H; clear H; obtain ⟨ad347, A347_3, c347_3, e347, p347, q347, x347a, x347b, x347c, x347d, HC347_3, HR347_3⟩ := bt_T62 HB.out HR0.out a1 od od; cases e347; have p348 : 0 ≤ (a1 : Int) := od; have q348 : a1 < (l0.length : Int) := od; obtain ⟨ad348, A348_3, c348_3, e348, x348a, x348b, x348c, x348d, hl348_3, hi348_3⟩ := at_T62 HR0.out a1 p348 q348; obtain rfl : ad347 = ad348 := (by injection e348); replace x348a := ce HB.out x348a; replace x348b := ce HB.out x348b; replace x348c := ce HB.out x348c; replace x348d := ce HB.out x348d; have HR348_3 := As.mk hi348_3; have HC348_3 := As.mk hl348_3; clear hi348_3 hl348_3; replace p348 := eq_true p348; replace q348 := eq_true q348; have ea_ := Option.some.inj (x347d.symm.trans x348d)
   injection ea_ with ea_ en_ ec_
   subst ea_; subst ec_; clear en_; have p349 : 0 ≤ (x8_1 : Int) := od; have q349 : x8_1 < (((rd_T62 l0 a1).f3).length : Int) := od; obtain ⟨ad349, e349, x349a⟩ := Kd.at_int HR348_3.out x8_1 p349 q349; cases e349; replace x349a := ce HB.out x349a; replace p349 := eq_true p349; replace q349 := eq_true q349
   go_wp2_with (first | ((with_reducible refine gate_callee (f := 45) rfl ?_); refine goL (some 30) Tryz.func45 #[.slice (some ad347) l0.length c0, .int .i64 (rd ((rd_T62 l0 a1).f3) x8_1), .int .i64 a2] ?_; (with_reducible refine (ih_spec_l06Step k1 (by have := HK1.out; omega) _ _ l0 (rd ((rd_T62 l0 a1).f3) x8_1) a2 t350 _ ?side1 ?side2 A8.out).mono ?_); (case side1 => exact Kd.C_below HR0.out (be w)); (case side2 => exact HC0.out); rintro e w10 ⟨rfl, hb⟩; refine ⟨_, rfl, ?_⟩; replace HB := bs w hb; (try clear hb)))
   go_roundg k1
   case measure => have := HK1.out; omega
   case rel => exact ⟨(x7_1 ++ t350), (wrap64 (x8_1 + 1)), (by first | rfl | (simp; done) | (simp [*]; done)), (by first | rfl | (simp; done) | (simp [*]; done)), H', ⟨by have := HK1.out; omega⟩, ⟨be w⟩⟩
theorem spec_l06Block.allO (k : Nat) : spec_l06Step.C k ∧ spec_l06Block.C k := by
  induction k using Nat.strongRecOn with
  | _ k ih => exact ⟨spec_l06Step.callsO k (fun m_ h_ => (ih m_ h_).1) (fun m_ h_ => (ih m_ h_).2), spec_l06Block.callsO k (fun m_ h_ => (ih m_ h_).1) (fun m_ h_ => (ih m_ h_).2)⟩
theorem spec_l06Step.calls (k : Nat) : ∀ (A0 : Option Addr) (c0 : Nat) (l0 : List (S62)) (a1 : Int) (a2 : Int) (r : ByteArray) (w : World) (hr0 : Kd.C k62 w A0 l0.length l0) (hc0 : l0.length ≤ c0) (h : spec_l06Step.f k l0 a1 a2 = some r),
  Calls Tryz.prog 45 #[.slice A0 l0.length c0, .int .i64 a1, .int .i64 a2] w fun e w' => e = .returned (.string r) ∧ Below w.heap.size w w' := (spec_l06Block.allO k).1
theorem spec_l06Block.calls (k : Nat) : ∀ (A0 : Option Addr) (c0 : Nat) (l0 : List (S62)) (a1 : Int) (a2 : Int) (r : ByteArray) (w : World) (hr0 : Kd.C k62 w A0 l0.length l0) (hc0 : l0.length ≤ c0) (h : spec_l06Block.f k l0 a1 a2 = some r),
  Calls Tryz.prog 51 #[.slice A0 l0.length c0, .int .i64 a1, .int .i64 a2] w fun e w' => e = .returned (.string r) ∧ Below w.heap.size w w' := (spec_l06Block.allO k).2

end Go.Proofs.YtcoapbnbakmkoaaGreatDoor.PFnExactShowProgram
