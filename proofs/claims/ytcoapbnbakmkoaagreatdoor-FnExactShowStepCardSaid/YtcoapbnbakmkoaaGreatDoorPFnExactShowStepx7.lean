/- Written by a program of this session (a turned copy of the kit's print): a contract for each Go function. No condition beside those in each statement. -/
import Derived.Test.YtcoapbnbakmkoaaGreatDoorPFnExactShowStepx0
import Derived.Test.YtcoapbnbakmkoaaGreatDoorPFnExactShowStepx6
namespace Go.Proofs.YtcoapbnbakmkoaaGreatDoor.PFnExactShowStep
open Go.RowKit Go.Proofs.YtcoapbnbakmkoaaGreatDoor.Given Go.Proofs.YtcoapbnbakmkoaaGreatDoorW.PrintWords Go.Proofs.YtcoapbnbakmkoaaGreatDoorW.PrintLast Go.Proofs.YtcoapbnbakmkoaaGreatDoorW.PrintMore
attribute [local go_sem] max2_int min2_int max_two min_two max_three min_three max_four min_four   -- for this text's walks alone
set_option linter.unusedVariables false
set_option linter.unusedSimpArgs false

/-! ### spec_l06Value: function 52 -/
/-! ### spec_l06Kid: function 79 -/
mutual
def spec_l06Kid.f : Nat → List (S62) → Int → Option (ByteArray)
  | 0, _, _ => none
  | k + 1, l0, a1 => if 0 ≤ a1 then (if a1 < (l0.length : Int) then ((spec_l06Pair.f ((rd_T62 l0 a1).f0)).bind fun t265 => (if t265 = true then ((spec_l06Value.f k l0 a1).bind fun t266 => (if 1 + t266.size ≤ 9223372036854775807 then (if ((⟨#[40]⟩ : ByteArray) ++ t266).size + 1 ≤ 9223372036854775807 then (some (((⟨#[40]⟩ : ByteArray) ++ t266) ++ (⟨#[41]⟩ : ByteArray))) else (none)) else (none))) else ((spec_l06Value.f k l0 a1).bind fun t267 => (some t267)))) else (none)) else (none)
def spec_l06Value.l0 : Nat → List (S62) → ByteArray → Int → Int → Int → ByteArray → List Int → Option (ByteArray)
  | 0, _, _, _, _, _, _, _ => none
  | k + 1, x0, x6, x7, x270000, x270001, x270002, x270003 => if x7 < (x270003.length : Int) then (if x7 > 0 then (if x6.size + 2 ≤ 9223372036854775807 then (if 0 ≤ x7 then ((spec_l06Value.f k x0 (rd x270003 x7)).bind fun t274 => (if (x6 ++ (⟨#[44, 32]⟩ : ByteArray)).size + t274.size ≤ 9223372036854775807 then (spec_l06Value.l0 k x0 ((x6 ++ (⟨#[44, 32]⟩ : ByteArray)) ++ t274) (wrap64 (x7 + 1)) x270000 x270001 x270002 x270003) else (none))) else (none)) else (none)) else (if 0 ≤ x7 then ((spec_l06Value.f k x0 (rd x270003 x7)).bind fun t276 => (if x6.size + t276.size ≤ 9223372036854775807 then (spec_l06Value.l0 k x0 (x6 ++ t276) (wrap64 (x7 + 1)) x270000 x270001 x270002 x270003) else (none))) else (none))) else (if x6.size + 1 ≤ 9223372036854775807 then (some (x6 ++ (⟨#[41]⟩ : ByteArray))) else (none))
def spec_l06Value.f : Nat → List (S62) → Int → Option (ByteArray)
  | 0, _, _ => none
  | k + 1, l0, a1 => if 0 ≤ a1 then (if a1 < (l0.length : Int) then (if ((rd_T62 l0 a1).f0) = 1 then ((spec_Decimal.f k ((rd_T62 l0 a1).f1)).bind fun t270 => (some t270)) else (if ((rd_T62 l0 a1).f0) = 2 then (some ((rd_T62 l0 a1).f2)) else (if ((rd_T62 l0 a1).f0) = 3 then (if 1 + ((rd_T62 l0 a1).f2).size ≤ 9223372036854775807 then (some ((⟨#[42]⟩ : ByteArray) ++ ((rd_T62 l0 a1).f2))) else (none)) else (if ((rd_T62 l0 a1).f0) = 4 then (if 6 + ((rd_T62 l0 a1).f2).size ≤ 9223372036854775807 then (some ((⟨#[99, 108, 111, 110, 101, 32]⟩ : ByteArray) ++ ((rd_T62 l0 a1).f2))) else (none)) else (if ((rd_T62 l0 a1).f0) = 5 then (if 1 + ((rd_T62 l0 a1).f2).size ≤ 9223372036854775807 then (some ((⟨#[38]⟩ : ByteArray) ++ ((rd_T62 l0 a1).f2))) else (none)) else (if ((rd_T62 l0 a1).f0) = 6 then (if 5 + ((rd_T62 l0 a1).f2).size ≤ 9223372036854775807 then (some ((⟨#[38, 109, 117, 116, 32]⟩ : ByteArray) ++ ((rd_T62 l0 a1).f2))) else (none)) else (if ((rd_T62 l0 a1).f0) = 7 then (some (⟨#[105, 110, 112, 117, 116]⟩ : ByteArray)) else (if ((rd_T62 l0 a1).f0) = 8 then (if 0 < (((rd_T62 l0 a1).f3).length : Int) then ((spec_l06Kid.f k l0 (rd ((rd_T62 l0 a1).f3) 0)).bind fun t272 => (if 4 + t272.size ≤ 9223372036854775807 then (some ((⟨#[110, 101, 119, 32]⟩ : ByteArray) ++ t272)) else (none))) else (none)) else (if ((rd_T62 l0 a1).f0) = 12 then (if ((rd_T62 l0 a1).f2).size + 1 ≤ 9223372036854775807 then (spec_l06Value.l0 k l0 (((rd_T62 l0 a1).f2) ++ (⟨#[40]⟩ : ByteArray)) 0 ((rd_T62 l0 a1).f0) ((rd_T62 l0 a1).f1) ((rd_T62 l0 a1).f2) ((rd_T62 l0 a1).f3)) else (none)) else (if 0 < (((rd_T62 l0 a1).f3).length : Int) then ((spec_l06Kid.f k l0 (rd ((rd_T62 l0 a1).f3) 0)).bind fun t278 => ((spec_l06Sign.f ((rd_T62 l0 a1).f0)).bind fun t279 => (if t278.size + t279.size ≤ 9223372036854775807 then (if 1 < (((rd_T62 l0 a1).f3).length : Int) then ((spec_l06Kid.f k l0 (rd ((rd_T62 l0 a1).f3) 1)).bind fun t281 => (if (t278 ++ t279).size + t281.size ≤ 9223372036854775807 then (some ((t278 ++ t279) ++ t281)) else (none))) else (none)) else (none)))) else (none))))))))))) else (none)) else (none)
end
theorem spec_l06Value.mono_l : ∀ k, (∀ y0 y1, LeO (spec_l06Kid.f k y0 y1) (spec_l06Kid.f (k + 1) y0 y1)) ∧ (∀ y0 y1, LeO (spec_l06Value.f k y0 y1) (spec_l06Value.f (k + 1) y0 y1)) ∧ (∀ y0 y1 y2 y3 y4 y5 y6, LeO (spec_l06Value.l0 k y0 y1 y2 y3 y4 y5 y6) (spec_l06Value.l0 (k + 1) y0 y1 y2 y3 y4 y5 y6))
  | 0 => ⟨fun _ _ r h => by simp [spec_l06Kid.f] at h, fun _ _ r h => by simp [spec_l06Value.f] at h, fun _ _ _ _ _ _ _ r h => by simp [spec_l06Value.l0] at h⟩
  | k + 1 => by
    obtain ⟨ih0, ih1, ih2⟩ := spec_l06Value.mono_l k
    refine ⟨?_, ?_, ?_⟩
    · intro y0 y1
      unfold spec_l06Kid.f
      repeat' first
      | (with_reducible exact ih0 _ _)
      | (with_reducible exact ih1 _ _)
      | (with_reducible exact ih2 _ _ _ _ _ _ _)
      | (with_reducible exact spec_Decimal.mono _ _)
      | (with_reducible exact LeO.refl _)
      | (with_reducible exact LeO.none _)
      | (with_reducible refine LeO.ite ?_ ?_)
      | (with_reducible refine LeO.bind ?_ (fun _ => ?_))
      | exact ih0 _ _
      | exact ih1 _ _
      | exact ih2 _ _ _ _ _ _ _
      | exact spec_Decimal.mono _ _
      | exact LeO.none _
      | refine LeO.ite ?_ ?_
      | refine LeO.bind ?_ (fun _ => ?_)
    · intro y0 y1
      unfold spec_l06Value.f
      repeat' first
      | (with_reducible exact ih0 _ _)
      | (with_reducible exact ih1 _ _)
      | (with_reducible exact ih2 _ _ _ _ _ _ _)
      | (with_reducible exact spec_Decimal.mono _ _)
      | (with_reducible exact LeO.refl _)
      | (with_reducible exact LeO.none _)
      | (with_reducible refine LeO.ite ?_ ?_)
      | (with_reducible refine LeO.bind ?_ (fun _ => ?_))
      | exact ih0 _ _
      | exact ih1 _ _
      | exact ih2 _ _ _ _ _ _ _
      | exact spec_Decimal.mono _ _
      | exact LeO.none _
      | refine LeO.ite ?_ ?_
      | refine LeO.bind ?_ (fun _ => ?_)
    · intro y0 y1 y2 y3 y4 y5 y6
      unfold spec_l06Value.l0
      repeat' first
      | (with_reducible exact ih0 _ _)
      | (with_reducible exact ih1 _ _)
      | (with_reducible exact ih2 _ _ _ _ _ _ _)
      | (with_reducible exact spec_Decimal.mono _ _)
      | (with_reducible exact LeO.refl _)
      | (with_reducible exact LeO.none _)
      | (with_reducible refine LeO.ite ?_ ?_)
      | (with_reducible refine LeO.bind ?_ (fun _ => ?_))
      | exact ih0 _ _
      | exact ih1 _ _
      | exact ih2 _ _ _ _ _ _ _
      | exact spec_Decimal.mono _ _
      | exact LeO.none _
      | refine LeO.ite ?_ ?_
      | refine LeO.bind ?_ (fun _ => ?_)
theorem spec_l06Kid.mono : ∀ a0 a1 k, LeO (spec_l06Kid.f k a0 a1) (spec_l06Kid.f (k + 1) a0 a1) := by
  intro a0 a1 k
  obtain ⟨ih0, ih1, ih2⟩ := spec_l06Value.mono_l k
  exact ih0 a0 a1
theorem spec_l06Value.mono : ∀ a0 a1 k, LeO (spec_l06Value.f k a0 a1) (spec_l06Value.f (k + 1) a0 a1) := by
  intro a0 a1 k
  obtain ⟨ih0, ih1, ih2⟩ := spec_l06Value.mono_l k
  exact ih1 a0 a1
abbrev spec_l06Kid.C (k : Nat) : Prop := ∀ (A0 : Option Addr) (c0 : Nat) (l0 : List (S62)) (a1 : Int) (r : ByteArray) (w : World) (hr0 : Kd.C k62 w A0 l0.length l0) (hc0 : l0.length ≤ c0) (h : spec_l06Kid.f k l0 a1 = some r),
  Calls Tryz.prog 79 #[.slice A0 l0.length c0, .int .i64 a1] w fun e w' => e = .returned (.string r) ∧ Below w.heap.size w w'
abbrev spec_l06Value.C (k : Nat) : Prop := ∀ (A0 : Option Addr) (c0 : Nat) (l0 : List (S62)) (a1 : Int) (r : ByteArray) (w : World) (hr0 : Kd.C k62 w A0 l0.length l0) (hc0 : l0.length ≤ c0) (h : spec_l06Value.f k l0 a1 = some r),
  Calls Tryz.prog 52 #[.slice A0 l0.length c0, .int .i64 a1] w fun e w' => e = .returned (.string r) ∧ Below w.heap.size w w'
set_option maxHeartbeats 8000000 in
set_option maxRecDepth 100000 in
theorem spec_l06Kid.callsO (k : Nat) (ih : ∀ m_, m_ < k → spec_l06Kid.C m_) (ih_spec_l06Value : ∀ m_, m_ < k → spec_l06Value.C m_) : spec_l06Kid.C k := by
 intro A0 c0 l0 a1 r w hr0 hc0 h
 cases k with
 | zero => exact absurd h (by simp [spec_l06Kid.f])
 | succ k =>
 simp only [spec_l06Kid.f] at h
 have HR0 := As.mk hr0
 have HC0 := As.mk hc0
 clear hr0 hc0
 have HB := As.mk (Below.refl w.heap.size w)
 have H : (if 0 ≤ a1 then (if a1 < (l0.length : Int) then ((spec_l06Pair.f ((rd_T62 l0 a1).f0)).bind fun t265 => (if t265 = true then ((spec_l06Value.f k l0 a1).bind fun t266 => (if 1 + t266.size ≤ 9223372036854775807 then (if ((⟨#[40]⟩ : ByteArray) ++ t266).size + 1 ≤ 9223372036854775807 then (some (((⟨#[40]⟩ : ByteArray) ++ t266) ++ (⟨#[41]⟩ : ByteArray))) else (none)) else (none))) else ((spec_l06Value.f k l0 a1).bind fun t267 => (some t267)))) else (none)) else (none)) = some r := h
 clear h
 by_cases c3 : 0 ≤ a1
 rotate_left; · rw [if_neg c3] at H; exact absurd H (by simp)

 rw [if_pos c3] at H
 have c3b0 := decide_eq_true c3
 clear c3
 have c4 := i1 H; replace H := i2 H
 have c4b0 := decide_eq_true c4
 clear c4
 obtain ⟨t265, A50, H⟩ := Option.bind_eq_some_iff.mp H
 try dsimp only at H
 have A5 := As.mk A50
 clear A50
 by_cases c6 : t265 = true
 rotate_left
 ·
  replace c6 := Bool.eq_false_iff.mpr c6
  subst c6
  rw [if_neg (show ¬ (false = true) by decide)] at H
  obtain ⟨t267, A110, H⟩ := Option.bind_eq_some_iff.mp H
  try dsimp only at H
  have A11 := As.mk A110
  clear A110
  obtain rfl := Option.some.inj H
  have p264 : 0 ≤ (a1 : Int) := od
  have q264 : a1 < (l0.length : Int) := od
  obtain ⟨ad264, A264_3, c264_3, e264, hx264_0, hx264_1, hx264_2, hx264_3, hl264_3, hi264_3⟩ := at_T62 HR0.out a1 p264 q264
  cases e264
  have HR264_3 := As.mk hi264_3
  have HC264_3 := As.mk hl264_3
  clear hi264_3 hl264_3
  replace p264 := eq_true p264
  replace q264 := eq_true q264
  go_enter Tryz.func79, Tryz.ntmps79
  go_wp2_with (first | ((with_reducible refine gate_callee (f := 106) rfl ?_); refine goesL_ (some 10) rfl rfl Tryz.func106 (by kernel_rfl) rfl #[.int .i64 ((rd_T62 l0 a1).f0)] rfl gl ?_; (with_reducible refine (spec_l06Pair.calls ((rd_T62 l0 a1).f0) false _ A5.out).mono ?_); rintro e w' ⟨rfl, ⟨nd, rfl⟩⟩; refine ⟨_, rfl, ?_⟩) | ((with_reducible refine gate_callee (f := 52) rfl ?_); refine goesL_ (some 18) rfl rfl Tryz.func52 (by kernel_rfl) rfl #[.slice (some ad264) l0.length c0, .int .i64 a1] rfl gl ?_; (with_reducible refine (ih_spec_l06Value k (by omega) _ _ l0 a1 t267 _ ?side1 ?side2 A11.out).mono ?_); (case side1 => repeat (first | exact HR0.out | (with_reducible refine Kd.C_alloc ?_ _) | (with_reducible refine Kd.C_drewN ?_ _) | (with_reducible refine Kd.C_drew ?_))); (case side2 => exact HC0.out); rintro e w12 ⟨rfl, hb⟩; refine ⟨_, rfl, ?_⟩; replace HB := As.mk (below_step (be w) hb); (try clear hb)))
  go_ret
  exact ⟨ez, be w⟩
 subst c6
 rw [if_pos rfl] at H
 obtain ⟨t266, A70, H⟩ := Option.bind_eq_some_iff.mp H
 try dsimp only at H
 have A7 := As.mk A70
 clear A70
 have c8 := i1 H; replace H := i2 H
 have c8b0 := eq_true c8
 have c8b1 := decide_eq_true c8
 try have c8b2 := eq_false (Nat.not_lt.2 c8)
 have c9 := i1 H; replace H := i2 H
 have c9b0 := eq_true c9
 have c9b1 := decide_eq_true c9
 try have c9b2 := eq_false (Nat.not_lt.2 c9)
 try have c9b4 : (9223372036854775807 < 1 + t266.size + 1) = False := eq_false (Nat.not_lt.2 (by have h_ := c9; simp only [ByteArray.size_append] at h_; exact h_))
 obtain rfl := Option.some.inj H
 have p264 : 0 ≤ (a1 : Int) := od
 have q264 : a1 < (l0.length : Int) := od
 obtain ⟨ad264, A264_3, c264_3, e264, hx264_0, hx264_1, hx264_2, hx264_3, hl264_3, hi264_3⟩ := at_T62 HR0.out a1 p264 q264
 cases e264
 have HR264_3 := As.mk hi264_3
 have HC264_3 := As.mk hl264_3
 clear hi264_3 hl264_3
 replace p264 := eq_true p264
 replace q264 := eq_true q264
 go_enter Tryz.func79, Tryz.ntmps79
 go_wp2_with (first | ((with_reducible refine gate_callee (f := 106) rfl ?_); refine goesL_ (some 10) rfl rfl Tryz.func106 (by kernel_rfl) rfl #[.int .i64 ((rd_T62 l0 a1).f0)] rfl gl ?_; (with_reducible refine (spec_l06Pair.calls ((rd_T62 l0 a1).f0) true _ A5.out).mono ?_); rintro e w' ⟨rfl, ⟨nd, rfl⟩⟩; refine ⟨_, rfl, ?_⟩) | ((with_reducible refine gate_callee (f := 52) rfl ?_); refine goesL_ (some 13) rfl rfl Tryz.func52 (by kernel_rfl) rfl #[.slice (some ad264) l0.length c0, .int .i64 a1] rfl gl ?_; (with_reducible refine (ih_spec_l06Value k (by omega) _ _ l0 a1 t266 _ ?side1 ?side2 A7.out).mono ?_); (case side1 => repeat (first | exact HR0.out | (with_reducible refine Kd.C_alloc ?_ _) | (with_reducible refine Kd.C_drewN ?_ _) | (with_reducible refine Kd.C_drew ?_))); (case side2 => exact HC0.out); rintro e w10 ⟨rfl, hb⟩; refine ⟨_, rfl, ?_⟩; replace HB := As.mk (below_step (be w) hb); (try clear hb)))
 go_ret
 exact ⟨ez, be w⟩
def spec_l06Value.T28 : Bool × List (List Nat × List Nat) := (true, [([], []), ([], []), ([1], [1]), ([2], [2]), ([3], [3]), ([0, 4], [0, 4]), ([], []), ([6], [6]), ([7, 5], [7]), ([5, 8], [5, 8]), ([], []), ([], []), ([11], [11]), ([12], [12]), ([13], [13]), ([10, 14, 8], [10, 14]), ([9, 15], [9, 15]), ([16, 15, 0, 1, 2, 3, 4, 5, 6, 7, 8, 9, 10, 11, 12, 13, 14, 15, 16], [16])])
def spec_l06Value.B28 : List Nat := [0, 0, 2, 6, 14, 31, 0, 64, 255, 511, 0, 0, 2048, 6144, 14336, 32255, 65535, 131071]
theorem spec_l06Value.tab28 : rtab .any (opsOf Tryz.f52 28) = spec_l06Value.T28 := by kernel_rfl
theorem spec_l06Value.bits28 : waitsOk spec_l06Value.T28.2 spec_l06Value.B28 = true := by kernel_rfl
set_option maxHeartbeats 8000000 in
set_option maxRecDepth 100000 in
theorem spec_l06Value.callsO (k : Nat) (ih_spec_l06Kid : ∀ m_, m_ < k → spec_l06Kid.C m_) (ih : ∀ m_, m_ < k → spec_l06Value.C m_) : spec_l06Value.C k := by
 intro A0 c0 l0 a1 r w hr0 hc0 h
 cases k with
 | zero => exact absurd h (by simp [spec_l06Value.f])
 | succ k =>
 simp only [spec_l06Value.f] at h
 have hu62 := Tryz.underlying62
 have HR0 := As.mk hr0
 have HC0 := As.mk hc0
 clear hr0 hc0
 have HB := As.mk (Below.refl w.heap.size w)
 have H : (if 0 ≤ a1 then (if a1 < (l0.length : Int) then (if ((rd_T62 l0 a1).f0) = 1 then ((spec_Decimal.f k ((rd_T62 l0 a1).f1)).bind fun t270 => (some t270)) else (if ((rd_T62 l0 a1).f0) = 2 then (some ((rd_T62 l0 a1).f2)) else (if ((rd_T62 l0 a1).f0) = 3 then (if 1 + ((rd_T62 l0 a1).f2).size ≤ 9223372036854775807 then (some ((⟨#[42]⟩ : ByteArray) ++ ((rd_T62 l0 a1).f2))) else (none)) else (if ((rd_T62 l0 a1).f0) = 4 then (if 6 + ((rd_T62 l0 a1).f2).size ≤ 9223372036854775807 then (some ((⟨#[99, 108, 111, 110, 101, 32]⟩ : ByteArray) ++ ((rd_T62 l0 a1).f2))) else (none)) else (if ((rd_T62 l0 a1).f0) = 5 then (if 1 + ((rd_T62 l0 a1).f2).size ≤ 9223372036854775807 then (some ((⟨#[38]⟩ : ByteArray) ++ ((rd_T62 l0 a1).f2))) else (none)) else (if ((rd_T62 l0 a1).f0) = 6 then (if 5 + ((rd_T62 l0 a1).f2).size ≤ 9223372036854775807 then (some ((⟨#[38, 109, 117, 116, 32]⟩ : ByteArray) ++ ((rd_T62 l0 a1).f2))) else (none)) else (if ((rd_T62 l0 a1).f0) = 7 then (some (⟨#[105, 110, 112, 117, 116]⟩ : ByteArray)) else (if ((rd_T62 l0 a1).f0) = 8 then (if 0 < (((rd_T62 l0 a1).f3).length : Int) then ((spec_l06Kid.f k l0 (rd ((rd_T62 l0 a1).f3) 0)).bind fun t272 => (if 4 + t272.size ≤ 9223372036854775807 then (some ((⟨#[110, 101, 119, 32]⟩ : ByteArray) ++ t272)) else (none))) else (none)) else (if ((rd_T62 l0 a1).f0) = 12 then (if ((rd_T62 l0 a1).f2).size + 1 ≤ 9223372036854775807 then (spec_l06Value.l0 k l0 (((rd_T62 l0 a1).f2) ++ (⟨#[40]⟩ : ByteArray)) 0 ((rd_T62 l0 a1).f0) ((rd_T62 l0 a1).f1) ((rd_T62 l0 a1).f2) ((rd_T62 l0 a1).f3)) else (none)) else (if 0 < (((rd_T62 l0 a1).f3).length : Int) then ((spec_l06Kid.f k l0 (rd ((rd_T62 l0 a1).f3) 0)).bind fun t278 => ((spec_l06Sign.f ((rd_T62 l0 a1).f0)).bind fun t279 => (if t278.size + t279.size ≤ 9223372036854775807 then (if 1 < (((rd_T62 l0 a1).f3).length : Int) then ((spec_l06Kid.f k l0 (rd ((rd_T62 l0 a1).f3) 1)).bind fun t281 => (if (t278 ++ t279).size + t281.size ≤ 9223372036854775807 then (some ((t278 ++ t279) ++ t281)) else (none))) else (none)) else (none)))) else (none))))))))))) else (none)) else (none)) = some r := h
 clear h
 by_cases c3 : 0 ≤ a1
 rotate_left; · rw [if_neg c3] at H; exact absurd H (by simp)

 rw [if_pos c3] at H
 have c3b0 := decide_eq_true c3
 clear c3
 have c4 := i1 H; replace H := i2 H
 have c4b0 := decide_eq_true c4
 clear c4
 by_cases c5 : ((rd_T62 l0 a1).f0) = 1
 ·
  rw [if_pos c5] at H
  have c5b0 : (((rd_T62 l0 a1).f0) == 1) = true := beq_iff_eq.mpr c5
  have c5b1 : (((rd_T62 l0 a1).f0) != 1) = false := bne_eq_false_iff_eq.mpr c5
  clear c5
  obtain ⟨t270, A60, H⟩ := Option.bind_eq_some_iff.mp H
  try dsimp only at H
  have A6 := As.mk A60
  clear A60
  obtain rfl := Option.some.inj H
  have p268 : 0 ≤ (a1 : Int) := od
  have q268 : a1 < (l0.length : Int) := od
  obtain ⟨ad268, A268_3, c268_3, e268, hx268_0, hx268_1, hx268_2, hx268_3, hl268_3, hi268_3⟩ := at_T62 HR0.out a1 p268 q268
  cases e268
  have HR268_3 := As.mk hi268_3
  have HC268_3 := As.mk hl268_3
  clear hi268_3 hl268_3
  replace p268 := eq_true p268
  replace q268 := eq_true q268
  go_enter Tryz.func52, Tryz.ntmps52
  go_wp2_with (first | ((with_reducible refine gate_dst (N := 5) rfl ?_); refine box_event ?hg (N := 5) ?hd (cs := #[.int .i64 0, .int .i64 0, .string (⟨#[]⟩ : ByteArray), .slice none 0 0]) (t := 62) ?hr ?_; (case hd => rfl); (case hg => rfl); (case hr => first | (go_simp; done) | (go_simp; rfl)); intro gb269 hg w7 hbox hb; have BK269 := As.mk (hbox); have GW269 := As.mk (gs w hg); replace HB := As.mk (below_step (be w) hb); clear hb hbox hg; obtain ⟨hcz8_0, hcz8_1, hcz8_2, hcz8_3, hfz8_0, hfz8_1, hfz8_2, hfz8_3⟩ := cl4 BK269.out) | ((with_reducible refine gate_callee (f := 78) rfl ?_); refine goesL_ (some 18) rfl rfl Tryz.func78 (by kernel_rfl) rfl #[.int .i64 ((rd_T62 l0 a1).f1)] rfl gl ?_; (with_reducible refine (spec_Decimal.calls k ((rd_T62 l0 a1).f1) t270 _ A6.out).mono ?_); rintro e w9 ⟨rfl, hb⟩; refine ⟨_, rfl, ?_⟩; replace BK269 := As.mk (blk_below (g := gb269) (o := .cells #[.int .i64 ((rd_T62 l0 a1).f0), .int .i64 ((rd_T62 l0 a1).f1), .string ((rd_T62 l0 a1).f2), .slice A268_3 ((rd_T62 l0 a1).f3).length c268_3] 62 (0, 0)) (by refine pl ?_; refine blk_put (cs := #[.int .i64 ((rd_T62 l0 a1).f0), .int .i64 ((rd_T62 l0 a1).f1), .string ((rd_T62 l0 a1).f2), .slice none 0 0]) ?_ 3 _ rfl; refine pl ?_; refine blk_put (cs := #[.int .i64 ((rd_T62 l0 a1).f0), .int .i64 ((rd_T62 l0 a1).f1), .string (⟨#[]⟩ : ByteArray), .slice none 0 0]) ?_ 2 _ rfl; refine pl ?_; refine blk_put (cs := #[.int .i64 ((rd_T62 l0 a1).f0), .int .i64 0, .string (⟨#[]⟩ : ByteArray), .slice none 0 0]) ?_ 1 _ rfl; refine pl ?_; refine blk_put (cs := #[.int .i64 0, .int .i64 0, .string (⟨#[]⟩ : ByteArray), .slice none 0 0]) ?_ 0 _ rfl; exact bx BK269.out) hb); replace HB := As.mk (below_step (be w) hb); (try clear hb)))
  go_ret
  exact ⟨ez, be w⟩
 rw [if_neg c5] at H
 have c5b0 : (((rd_T62 l0 a1).f0) == 1) = false := beq_eq_false_iff_ne.mpr c5
 have c5b1 : (((rd_T62 l0 a1).f0) != 1) = true := bne_iff_ne.mpr c5
 by_cases c10 : ((rd_T62 l0 a1).f0) = 2
 ·
  rw [if_pos c10] at H
  have c10b0 : (((rd_T62 l0 a1).f0) == 2) = true := beq_iff_eq.mpr c10
  have c10b1 : (((rd_T62 l0 a1).f0) != 2) = false := bne_eq_false_iff_eq.mpr c10
  clear c10
  obtain rfl := Option.some.inj H
  have p268 : 0 ≤ (a1 : Int) := od
  have q268 : a1 < (l0.length : Int) := od
  obtain ⟨ad268, A268_3, c268_3, e268, hx268_0, hx268_1, hx268_2, hx268_3, hl268_3, hi268_3⟩ := at_T62 HR0.out a1 p268 q268
  cases e268
  have HR268_3 := As.mk hi268_3
  have HC268_3 := As.mk hl268_3
  clear hi268_3 hl268_3
  replace p268 := eq_true p268
  replace q268 := eq_true q268
  go_enter Tryz.func52, Tryz.ntmps52
  go_wp2_with (first | ((with_reducible refine gate_dst (N := 5) rfl ?_); refine box_event ?hg (N := 5) ?hd (cs := #[.int .i64 0, .int .i64 0, .string (⟨#[]⟩ : ByteArray), .slice none 0 0]) (t := 62) ?hr ?_; (case hd => rfl); (case hg => rfl); (case hr => first | (go_simp; done) | (go_simp; rfl)); intro gb269 hg w11 hbox hb; have BK269 := As.mk (hbox); have GW269 := As.mk (gs w hg); replace HB := As.mk (below_step (be w) hb); clear hb hbox hg; obtain ⟨hcz12_0, hcz12_1, hcz12_2, hcz12_3, hfz12_0, hfz12_1, hfz12_2, hfz12_3⟩ := cl4 BK269.out))
  go_ret
  exact ⟨ez, be w⟩
 rw [if_neg c10] at H
 have c10b0 : (((rd_T62 l0 a1).f0) == 2) = false := beq_eq_false_iff_ne.mpr c10
 have c10b1 : (((rd_T62 l0 a1).f0) != 2) = true := bne_iff_ne.mpr c10
 by_cases c13 : ((rd_T62 l0 a1).f0) = 3
 ·
  rw [if_pos c13] at H
  have c13b0 : (((rd_T62 l0 a1).f0) == 3) = true := beq_iff_eq.mpr c13
  have c13b1 : (((rd_T62 l0 a1).f0) != 3) = false := bne_eq_false_iff_eq.mpr c13
  clear c13
  have c14 := i1 H; replace H := i2 H
  have c14b0 := eq_true c14
  have c14b1 := decide_eq_true c14
  try have c14b2 := eq_false (Nat.not_lt.2 c14)
  obtain rfl := Option.some.inj H
  have p268 : 0 ≤ (a1 : Int) := od
  have q268 : a1 < (l0.length : Int) := od
  obtain ⟨ad268, A268_3, c268_3, e268, hx268_0, hx268_1, hx268_2, hx268_3, hl268_3, hi268_3⟩ := at_T62 HR0.out a1 p268 q268
  cases e268
  have HR268_3 := As.mk hi268_3
  have HC268_3 := As.mk hl268_3
  clear hi268_3 hl268_3
  replace p268 := eq_true p268
  replace q268 := eq_true q268
  go_enter Tryz.func52, Tryz.ntmps52
  go_wp2_with (first | ((with_reducible refine gate_dst (N := 5) rfl ?_); refine box_event ?hg (N := 5) ?hd (cs := #[.int .i64 0, .int .i64 0, .string (⟨#[]⟩ : ByteArray), .slice none 0 0]) (t := 62) ?hr ?_; (case hd => rfl); (case hg => rfl); (case hr => first | (go_simp; done) | (go_simp; rfl)); intro gb269 hg w15 hbox hb; have BK269 := As.mk (hbox); have GW269 := As.mk (gs w hg); replace HB := As.mk (below_step (be w) hb); clear hb hbox hg; obtain ⟨hcz16_0, hcz16_1, hcz16_2, hcz16_3, hfz16_0, hfz16_1, hfz16_2, hfz16_3⟩ := cl4 BK269.out))
  go_ret
  exact ⟨ez, be w⟩
 rw [if_neg c13] at H
 have c13b0 : (((rd_T62 l0 a1).f0) == 3) = false := beq_eq_false_iff_ne.mpr c13
 have c13b1 : (((rd_T62 l0 a1).f0) != 3) = true := bne_iff_ne.mpr c13
 by_cases c17 : ((rd_T62 l0 a1).f0) = 4
 ·
  rw [if_pos c17] at H
  have c17b0 : (((rd_T62 l0 a1).f0) == 4) = true := beq_iff_eq.mpr c17
  have c17b1 : (((rd_T62 l0 a1).f0) != 4) = false := bne_eq_false_iff_eq.mpr c17
  clear c17
  have c18 := i1 H; replace H := i2 H
  have c18b0 := eq_true c18
  have c18b1 := decide_eq_true c18
  try have c18b2 := eq_false (Nat.not_lt.2 c18)
  obtain rfl := Option.some.inj H
  have p268 : 0 ≤ (a1 : Int) := od
  have q268 : a1 < (l0.length : Int) := od
  obtain ⟨ad268, A268_3, c268_3, e268, hx268_0, hx268_1, hx268_2, hx268_3, hl268_3, hi268_3⟩ := at_T62 HR0.out a1 p268 q268
  cases e268
  have HR268_3 := As.mk hi268_3
  have HC268_3 := As.mk hl268_3
  clear hi268_3 hl268_3
  replace p268 := eq_true p268
  replace q268 := eq_true q268
  go_enter Tryz.func52, Tryz.ntmps52
  go_wp2_with (first | ((with_reducible refine gate_dst (N := 5) rfl ?_); refine box_event ?hg (N := 5) ?hd (cs := #[.int .i64 0, .int .i64 0, .string (⟨#[]⟩ : ByteArray), .slice none 0 0]) (t := 62) ?hr ?_; (case hd => rfl); (case hg => rfl); (case hr => first | (go_simp; done) | (go_simp; rfl)); intro gb269 hg w19 hbox hb; have BK269 := As.mk (hbox); have GW269 := As.mk (gs w hg); replace HB := As.mk (below_step (be w) hb); clear hb hbox hg; obtain ⟨hcz20_0, hcz20_1, hcz20_2, hcz20_3, hfz20_0, hfz20_1, hfz20_2, hfz20_3⟩ := cl4 BK269.out))
  go_ret
  exact ⟨ez, be w⟩
 rw [if_neg c17] at H
 have c17b0 : (((rd_T62 l0 a1).f0) == 4) = false := beq_eq_false_iff_ne.mpr c17
 have c17b1 : (((rd_T62 l0 a1).f0) != 4) = true := bne_iff_ne.mpr c17
 by_cases c21 : ((rd_T62 l0 a1).f0) = 5
 ·
  rw [if_pos c21] at H
  have c21b0 : (((rd_T62 l0 a1).f0) == 5) = true := beq_iff_eq.mpr c21
  have c21b1 : (((rd_T62 l0 a1).f0) != 5) = false := bne_eq_false_iff_eq.mpr c21
  clear c21
  have c22 := i1 H; replace H := i2 H
  have c22b0 := eq_true c22
  have c22b1 := decide_eq_true c22
  try have c22b2 := eq_false (Nat.not_lt.2 c22)
  obtain rfl := Option.some.inj H
  have p268 : 0 ≤ (a1 : Int) := od
  have q268 : a1 < (l0.length : Int) := od
  obtain ⟨ad268, A268_3, c268_3, e268, hx268_0, hx268_1, hx268_2, hx268_3, hl268_3, hi268_3⟩ := at_T62 HR0.out a1 p268 q268
  cases e268
  have HR268_3 := As.mk hi268_3
  have HC268_3 := As.mk hl268_3
  clear hi268_3 hl268_3
  replace p268 := eq_true p268
  replace q268 := eq_true q268
  go_enter Tryz.func52, Tryz.ntmps52
  go_wp2_with (first | ((with_reducible refine gate_dst (N := 5) rfl ?_); refine box_event ?hg (N := 5) ?hd (cs := #[.int .i64 0, .int .i64 0, .string (⟨#[]⟩ : ByteArray), .slice none 0 0]) (t := 62) ?hr ?_; (case hd => rfl); (case hg => rfl); (case hr => first | (go_simp; done) | (go_simp; rfl)); intro gb269 hg w23 hbox hb; have BK269 := As.mk (hbox); have GW269 := As.mk (gs w hg); replace HB := As.mk (below_step (be w) hb); clear hb hbox hg; obtain ⟨hcz24_0, hcz24_1, hcz24_2, hcz24_3, hfz24_0, hfz24_1, hfz24_2, hfz24_3⟩ := cl4 BK269.out))
  go_ret
  exact ⟨ez, be w⟩
 rw [if_neg c21] at H
 have c21b0 : (((rd_T62 l0 a1).f0) == 5) = false := beq_eq_false_iff_ne.mpr c21
 have c21b1 : (((rd_T62 l0 a1).f0) != 5) = true := bne_iff_ne.mpr c21
 by_cases c25 : ((rd_T62 l0 a1).f0) = 6
 ·
  rw [if_pos c25] at H
  have c25b0 : (((rd_T62 l0 a1).f0) == 6) = true := beq_iff_eq.mpr c25
  have c25b1 : (((rd_T62 l0 a1).f0) != 6) = false := bne_eq_false_iff_eq.mpr c25
  clear c25
  have c26 := i1 H; replace H := i2 H
  have c26b0 := eq_true c26
  have c26b1 := decide_eq_true c26
  try have c26b2 := eq_false (Nat.not_lt.2 c26)
  obtain rfl := Option.some.inj H
  have p268 : 0 ≤ (a1 : Int) := od
  have q268 : a1 < (l0.length : Int) := od
  obtain ⟨ad268, A268_3, c268_3, e268, hx268_0, hx268_1, hx268_2, hx268_3, hl268_3, hi268_3⟩ := at_T62 HR0.out a1 p268 q268
  cases e268
  have HR268_3 := As.mk hi268_3
  have HC268_3 := As.mk hl268_3
  clear hi268_3 hl268_3
  replace p268 := eq_true p268
  replace q268 := eq_true q268
  go_enter Tryz.func52, Tryz.ntmps52
  go_wp2_with (first | ((with_reducible refine gate_dst (N := 5) rfl ?_); refine box_event ?hg (N := 5) ?hd (cs := #[.int .i64 0, .int .i64 0, .string (⟨#[]⟩ : ByteArray), .slice none 0 0]) (t := 62) ?hr ?_; (case hd => rfl); (case hg => rfl); (case hr => first | (go_simp; done) | (go_simp; rfl)); intro gb269 hg w27 hbox hb; have BK269 := As.mk (hbox); have GW269 := As.mk (gs w hg); replace HB := As.mk (below_step (be w) hb); clear hb hbox hg; obtain ⟨hcz28_0, hcz28_1, hcz28_2, hcz28_3, hfz28_0, hfz28_1, hfz28_2, hfz28_3⟩ := cl4 BK269.out))
  go_ret
  exact ⟨ez, be w⟩
 rw [if_neg c25] at H
 have c25b0 : (((rd_T62 l0 a1).f0) == 6) = false := beq_eq_false_iff_ne.mpr c25
 have c25b1 : (((rd_T62 l0 a1).f0) != 6) = true := bne_iff_ne.mpr c25
 by_cases c29 : ((rd_T62 l0 a1).f0) = 7
 ·
  rw [if_pos c29] at H
  have c29b0 : (((rd_T62 l0 a1).f0) == 7) = true := beq_iff_eq.mpr c29
  have c29b1 : (((rd_T62 l0 a1).f0) != 7) = false := bne_eq_false_iff_eq.mpr c29
  clear c29
  obtain rfl := Option.some.inj H
  have p268 : 0 ≤ (a1 : Int) := od
  have q268 : a1 < (l0.length : Int) := od
  obtain ⟨ad268, A268_3, c268_3, e268, hx268_0, hx268_1, hx268_2, hx268_3, hl268_3, hi268_3⟩ := at_T62 HR0.out a1 p268 q268
  cases e268
  have HR268_3 := As.mk hi268_3
  have HC268_3 := As.mk hl268_3
  clear hi268_3 hl268_3
  replace p268 := eq_true p268
  replace q268 := eq_true q268
  go_enter Tryz.func52, Tryz.ntmps52
  go_wp2_with (first | ((with_reducible refine gate_dst (N := 5) rfl ?_); refine box_event ?hg (N := 5) ?hd (cs := #[.int .i64 0, .int .i64 0, .string (⟨#[]⟩ : ByteArray), .slice none 0 0]) (t := 62) ?hr ?_; (case hd => rfl); (case hg => rfl); (case hr => first | (go_simp; done) | (go_simp; rfl)); intro gb269 hg w30 hbox hb; have BK269 := As.mk (hbox); have GW269 := As.mk (gs w hg); replace HB := As.mk (below_step (be w) hb); clear hb hbox hg; obtain ⟨hcz31_0, hcz31_1, hcz31_2, hcz31_3, hfz31_0, hfz31_1, hfz31_2, hfz31_3⟩ := cl4 BK269.out))
  go_ret
  exact ⟨ez, be w⟩
 rw [if_neg c29] at H
 have c29b0 : (((rd_T62 l0 a1).f0) == 7) = false := beq_eq_false_iff_ne.mpr c29
 have c29b1 : (((rd_T62 l0 a1).f0) != 7) = true := bne_iff_ne.mpr c29
 by_cases c32 : ((rd_T62 l0 a1).f0) = 8
 ·
  rw [if_pos c32] at H
  have c32b0 : (((rd_T62 l0 a1).f0) == 8) = true := beq_iff_eq.mpr c32
  have c32b1 : (((rd_T62 l0 a1).f0) != 8) = false := bne_eq_false_iff_eq.mpr c32
  clear c32
  have c33 := i1 H; replace H := i2 H
  have c33b0 := decide_eq_true c33
  have c33b1 : decide (0 < ((rd_T62 l0 a1).f3).length) = true := decide_eq_true (by omega)
  clear c33
  obtain ⟨t272, A340, H⟩ := Option.bind_eq_some_iff.mp H
  try dsimp only at H
  have A34 := As.mk A340
  clear A340
  have c35 := i1 H; replace H := i2 H
  have c35b0 := eq_true c35
  have c35b1 := decide_eq_true c35
  try have c35b2 := eq_false (Nat.not_lt.2 c35)
  obtain rfl := Option.some.inj H
  have p268 : 0 ≤ (a1 : Int) := od
  have q268 : a1 < (l0.length : Int) := od
  obtain ⟨ad268, A268_3, c268_3, e268, hx268_0, hx268_1, hx268_2, hx268_3, hl268_3, hi268_3⟩ := at_T62 HR0.out a1 p268 q268
  cases e268
  have HR268_3 := As.mk hi268_3
  have HC268_3 := As.mk hl268_3
  clear hi268_3 hl268_3
  replace p268 := eq_true p268
  replace q268 := eq_true q268
  go_enter Tryz.func52, Tryz.ntmps52
  go_wp2_with (first | ((with_reducible refine gate_dst (N := 5) rfl ?_); refine box_event ?hg (N := 5) ?hd (cs := #[.int .i64 0, .int .i64 0, .string (⟨#[]⟩ : ByteArray), .slice none 0 0]) (t := 62) ?hr ?_; (case hd => rfl); (case hg => rfl); (case hr => first | (go_simp; done) | (go_simp; rfl)); intro gb269 hg w36 hbox hb; have BK269 := As.mk (hbox); have GW269 := As.mk (gs w hg); replace HB := As.mk (below_step (be w) hb); clear hb hbox hg; obtain ⟨hcz37_0, hcz37_1, hcz37_2, hcz37_3, hfz37_0, hfz37_1, hfz37_2, hfz37_3⟩ := cl4 BK269.out; have p271 : 0 ≤ (0 : Int) := (by omega); have q271 : 0 < (((rd_T62 l0 a1).f3).length : Int) := od; obtain ⟨ad271, e271, hx271_0⟩ := Kd.at_int HR268_3.out 0 p271 q271; cases e271; have qi271 : (0 < ((rd_T62 l0 a1).f3).length) = True := eq_true (by omega); (try rw [show ((0 : Int)).toNat = 0 from rfl] at hx271_0); (try rw [Addr.add_zero'] at hx271_0); have hn271_0 : ad271.block ≠ gb269 := (by first | exact nb2 hx271_0 GW269.out | exact nb1 hx271_0 GW269.out); have hn271_1 : ad271.block ≠ gb269 := (by first | exact nb2 hx271_0 GW269.out | exact nb1 hx271_0 GW269.out); have hn271_2 : ad271.block ≠ gb269 := (by first | exact nb2 hx271_0 GW269.out | exact nb1 hx271_0 GW269.out); have hn271_3 : ad271.block ≠ gb269 := (by first | exact nb2 hx271_0 GW269.out | exact nb1 hx271_0 GW269.out); replace hx271_0 := ce HB.out hx271_0; replace hx271_0 := cfz (j := 0) (.int .i64 ((rd_T62 l0 a1).f0)) hx271_0 hn271_0; replace hx271_0 := cfz (j := 1) (.int .i64 ((rd_T62 l0 a1).f1)) hx271_0 hn271_1; replace hx271_0 := cfz (j := 2) (.string ((rd_T62 l0 a1).f2)) hx271_0 hn271_2; replace hx271_0 := cfz (j := 3) (.slice (some ad271) ((rd_T62 l0 a1).f3).length c268_3) hx271_0 hn271_3; clear hn271_0; clear hn271_1; clear hn271_2; clear hn271_3; replace p271 := eq_true p271; replace q271 := eq_true q271) | ((with_reducible refine gate_callee (f := 79) rfl ?_); refine goesL_ (some 52) rfl rfl Tryz.func79 (by kernel_rfl) rfl #[.slice (some ad268) l0.length c0, .int .i64 (rd ((rd_T62 l0 a1).f3) 0)] rfl gl ?_; (with_reducible refine (ih_spec_l06Kid k (by omega) _ _ l0 (rd ((rd_T62 l0 a1).f3) 0) t272 _ ?side1 ?side2 A34.out).mono ?_); (case side1 => exact Kd.C_below HR0.out (be w)); (case side2 => exact HC0.out); rintro e w38 ⟨rfl, hb⟩; refine ⟨_, rfl, ?_⟩; replace BK269 := As.mk (blk_below (g := gb269) (o := .cells #[.int .i64 ((rd_T62 l0 a1).f0), .int .i64 ((rd_T62 l0 a1).f1), .string ((rd_T62 l0 a1).f2), .slice (some ad271) ((rd_T62 l0 a1).f3).length c268_3] 62 (0, 0)) (by refine pl ?_; refine blk_put (cs := #[.int .i64 ((rd_T62 l0 a1).f0), .int .i64 ((rd_T62 l0 a1).f1), .string ((rd_T62 l0 a1).f2), .slice none 0 0]) ?_ 3 _ rfl; refine pl ?_; refine blk_put (cs := #[.int .i64 ((rd_T62 l0 a1).f0), .int .i64 ((rd_T62 l0 a1).f1), .string (⟨#[]⟩ : ByteArray), .slice none 0 0]) ?_ 2 _ rfl; refine pl ?_; refine blk_put (cs := #[.int .i64 ((rd_T62 l0 a1).f0), .int .i64 0, .string (⟨#[]⟩ : ByteArray), .slice none 0 0]) ?_ 1 _ rfl; refine pl ?_; refine blk_put (cs := #[.int .i64 0, .int .i64 0, .string (⟨#[]⟩ : ByteArray), .slice none 0 0]) ?_ 0 _ rfl; exact bx BK269.out) hb); replace HB := As.mk (below_step (be w) hb); (try clear hb)))
  go_ret
  exact ⟨ez, be w⟩
 rw [if_neg c32] at H
 have c32b0 : (((rd_T62 l0 a1).f0) == 8) = false := beq_eq_false_iff_ne.mpr c32
 have c32b1 : (((rd_T62 l0 a1).f0) != 8) = true := bne_iff_ne.mpr c32
 by_cases c39 : ((rd_T62 l0 a1).f0) = 12
 ·
  rw [if_pos c39] at H
  have c39b0 : (((rd_T62 l0 a1).f0) == 12) = true := beq_iff_eq.mpr c39
  have c39b1 : (((rd_T62 l0 a1).f0) != 12) = false := bne_eq_false_iff_eq.mpr c39
  clear c39
  have c40 := i1 H; replace H := i2 H
  have c40b0 := eq_true c40
  have c40b1 := decide_eq_true c40
  try have c40b2 := eq_false (Nat.not_lt.2 c40)
  have H' := As.mk H
  clear H
  have p268 : 0 ≤ (a1 : Int) := od
  have q268 : a1 < (l0.length : Int) := od
  obtain ⟨ad268, A268_3, c268_3, e268, hx268_0, hx268_1, hx268_2, hx268_3, hl268_3, hi268_3⟩ := at_T62 HR0.out a1 p268 q268
  cases e268
  have HR268_3 := As.mk hi268_3
  have HC268_3 := As.mk hl268_3
  clear hi268_3 hl268_3
  replace p268 := eq_true p268
  replace q268 := eq_true q268
  go_enter Tryz.func52, Tryz.ntmps52
  go_wp2_with (first | ((with_reducible refine gate_dst (N := 5) rfl ?_); refine box_event ?hg (N := 5) ?hd (cs := #[.int .i64 0, .int .i64 0, .string (⟨#[]⟩ : ByteArray), .slice none 0 0]) (t := 62) ?hr ?_; (case hd => rfl); (case hg => rfl); (case hr => first | (go_simp; done) | (go_simp; rfl)); intro gb269 hg w41 hbox hb; have BK269 := As.mk (hbox); have GW269 := As.mk (gs w hg); replace HB := As.mk (below_step (be w) hb); clear hb hbox hg; obtain ⟨hcz42_0, hcz42_1, hcz42_2, hcz42_3, hfz42_0, hfz42_1, hfz42_2, hfz42_3⟩ := cl4 BK269.out))
  go_loopg [6, 7] k (fun kq v6 v7 w' => ∃ (x6_1 : ByteArray) (x7_1 : Int), v6 = .string x6_1 ∧ v7 = .int .i64 x7_1 ∧ As (spec_l06Value.l0 kq l0 x6_1 x7_1 ((rd_T62 l0 a1).f0) ((rd_T62 l0 a1).f1) ((rd_T62 l0 a1).f2) ((rd_T62 l0 a1).f3) = some r) ∧ As (kq ≤ k) ∧ As (w'.heap[gb269]? = some (.cells #[.int .i64 ((rd_T62 l0 a1).f0), .int .i64 ((rd_T62 l0 a1).f1), .string ((rd_T62 l0 a1).f2), (.slice A268_3 ((rd_T62 l0 a1).f3).length c268_3)] 62 (0, 0))) ∧ As (Below w.heap.size w w'))
  case atStart => exact ⟨(((rd_T62 l0 a1).f2) ++ (⟨#[40]⟩ : ByteArray)), (0), (by first | rfl | (simp; done) | (simp [*]; done)), (by first | rfl | (simp; done) | (simp [*]; done)), H', ⟨Nat.le_refl _⟩, ⟨by refine pl ?_; refine blk_put (cs := #[.int .i64 ((rd_T62 l0 a1).f0), .int .i64 ((rd_T62 l0 a1).f1), .string ((rd_T62 l0 a1).f2), .slice none 0 0]) ?_ 3 _ rfl; refine pl ?_; refine blk_put (cs := #[.int .i64 ((rd_T62 l0 a1).f0), .int .i64 ((rd_T62 l0 a1).f1), .string (⟨#[]⟩ : ByteArray), .slice none 0 0]) ?_ 2 _ rfl; refine pl ?_; refine blk_put (cs := #[.int .i64 ((rd_T62 l0 a1).f0), .int .i64 0, .string (⟨#[]⟩ : ByteArray), .slice none 0 0]) ?_ 1 _ rfl; refine pl ?_; refine blk_put (cs := #[.int .i64 0, .int .i64 0, .string (⟨#[]⟩ : ByteArray), .slice none 0 0]) ?_ 0 _ rfl; exact bx BK269.out⟩, ⟨be w⟩⟩
  case round =>
   clear H'
   (try clear c3); (try clear c3b0); (try clear c4); (try clear c4b0); (try clear c5); (try clear c5b0); (try clear c5b1); (try clear c10); (try clear c10b0); (try clear c10b1); (try clear c13); (try clear c13b0); (try clear c13b1); (try clear c17); (try clear c17b0); (try clear c17b1); (try clear c21); (try clear c21b0); (try clear c21b1); (try clear c25); (try clear c25b0); (try clear c25b1); (try clear c29); (try clear c29b0); (try clear c29b1); (try clear c32); (try clear c32b0); (try clear c32b1); (try clear c39); (try clear c39b0); (try clear c39b1); (try clear c40); (try clear c40b0); (try clear c40b1); (try clear c40b2); (try clear hcz42_0); (try clear hcz42_1); (try clear hcz42_2); (try clear hcz42_3); (try clear hfz42_0); (try clear hfz42_1); (try clear hfz42_2); (try clear hfz42_3); (try clear hx268_0); (try clear hx268_1); (try clear hx268_2); (try clear hx268_3); (try clear p268); (try clear q268)
   obtain ⟨x6_1, x7_1, rfl, rfl, HA, HK1, BK269, HB⟩ := hrel
   cases gk with
   | zero => exact absurd HA.out (by simp [spec_l06Value.l0])
   | succ k1 =>
    have H := HA.out
    clear HA
    simp only [spec_l06Value.l0] at H
    by_cases c43 : x7_1 < (((rd_T62 l0 a1).f3).length : Int)
    rotate_left
    ·
     rw [if_neg c43] at H
     have c43b0 : decide (x7_1 < (((rd_T62 l0 a1).f3).length : Int)) = false := decide_eq_false c43
     clear c43
     have c56 := i1 H; replace H := i2 H
     have c56b0 := eq_true c56
     have c56b1 := decide_eq_true c56
     try have c56b2 := eq_false (Nat.not_lt.2 c56)
     obtain rfl := Option.some.inj H
     obtain ⟨hcz57_0, hcz57_1, hcz57_2, hcz57_3, hfz57_0, hfz57_1, hfz57_2, hfz57_3⟩ := cl4 BK269.out
     go_wp2
     go_ret
     exact ⟨ez, be w⟩
    rw [if_pos c43] at H
    have c43b0 := decide_eq_true c43
    clear c43
    by_cases c44 : x7_1 > 0
    rotate_left
    ·
     rw [if_neg c44] at H
     have c44b0 : decide (0 < x7_1) = false := decide_eq_false c44
     clear c44
     have c51 := i1 H; replace H := i2 H
     have c51b0 := decide_eq_true c51
     clear c51
     obtain ⟨t276, A520, H⟩ := Option.bind_eq_some_iff.mp H
     try dsimp only at H
     have A52 := As.mk A520
     clear A520
     have c53 := i1 H; replace H := i2 H
     have c53b0 := eq_true c53
     have c53b1 := decide_eq_true c53
     try have c53b2 := eq_false (Nat.not_lt.2 c53)
     have H' := As.mk H
     clear H
     obtain ⟨hcz54_0, hcz54_1, hcz54_2, hcz54_3, hfz54_0, hfz54_1, hfz54_2, hfz54_3⟩ := cl4 BK269.out
     have p275 : 0 ≤ (x7_1 : Int) := od
     have q275 : x7_1 < (((rd_T62 l0 a1).f3).length : Int) := od
     obtain ⟨ad275, e275, hx275_0⟩ := Kd.at_int HR268_3.out x7_1 p275 q275
     cases e275
     replace hx275_0 := ce HB.out hx275_0
     replace p275 := eq_true p275
     replace q275 := eq_true q275
     go_wp2_with (first | ((with_reducible refine gate_callee (f := 52) rfl ?_); refine goesL_ (some 77) rfl rfl Tryz.func52 (by kernel_rfl) rfl #[.slice (some ad268) l0.length c0, .int .i64 (rd ((rd_T62 l0 a1).f3) x7_1)] rfl gl ?_; (with_reducible refine (ih k1 (by have := HK1.out; omega) _ _ l0 (rd ((rd_T62 l0 a1).f3) x7_1) t276 _ ?side1 ?side2 A52.out).mono ?_); (case side1 => exact Kd.C_below HR0.out (be w)); (case side2 => exact HC0.out); rintro e w55 ⟨rfl, hb⟩; refine ⟨_, rfl, ?_⟩; replace BK269 := As.mk (blk_below (bx BK269.out) hb); replace HB := As.mk (below_step (be w) hb); (try clear hb)))
     go_roundg k1
     case measure => have := HK1.out; omega
     case rel => exact ⟨(x6_1 ++ t276), (wrap64 (x7_1 + 1)), (by first | rfl | (simp; done) | (simp [*]; done)), (by first | rfl | (simp; done) | (simp [*]; done)), H', ⟨by have := HK1.out; omega⟩, ⟨bx BK269.out⟩, ⟨be w⟩⟩
    rw [if_pos c44] at H
    have c44b0 : decide (0 < x7_1) = true := decide_eq_true c44
    clear c44
    have c45 := i1 H; replace H := i2 H
    have c45b0 := eq_true c45
    have c45b1 := decide_eq_true c45
    try have c45b2 := eq_false (Nat.not_lt.2 c45)
    have c46 := i1 H; replace H := i2 H
    have c46b0 := decide_eq_true c46
    clear c46
    obtain ⟨t274, A470, H⟩ := Option.bind_eq_some_iff.mp H
    try dsimp only at H
    have A47 := As.mk A470
    clear A470
    have c48 := i1 H; replace H := i2 H
    have c48b0 := eq_true c48
    have c48b1 := decide_eq_true c48
    try have c48b2 := eq_false (Nat.not_lt.2 c48)
    try have c48b4 : (9223372036854775807 < x6_1.size + 2 + t274.size) = False := eq_false (Nat.not_lt.2 (by have h_ := c48; simp only [ByteArray.size_append] at h_; exact h_))
    have H' := As.mk H
    clear H
    obtain ⟨hcz49_0, hcz49_1, hcz49_2, hcz49_3, hfz49_0, hfz49_1, hfz49_2, hfz49_3⟩ := cl4 BK269.out
    have p273 : 0 ≤ (x7_1 : Int) := od
    have q273 : x7_1 < (((rd_T62 l0 a1).f3).length : Int) := od
    obtain ⟨ad273, e273, hx273_0⟩ := Kd.at_int HR268_3.out x7_1 p273 q273
    cases e273
    replace hx273_0 := ce HB.out hx273_0
    replace p273 := eq_true p273
    replace q273 := eq_true q273
    go_wp2_with (first | ((with_reducible refine gate_callee (f := 52) rfl ?_); refine goesL_ (some 77) rfl rfl Tryz.func52 (by kernel_rfl) rfl #[.slice (some ad268) l0.length c0, .int .i64 (rd ((rd_T62 l0 a1).f3) x7_1)] rfl gl ?_; (with_reducible refine (ih k1 (by have := HK1.out; omega) _ _ l0 (rd ((rd_T62 l0 a1).f3) x7_1) t274 _ ?side1 ?side2 A47.out).mono ?_); (case side1 => exact Kd.C_below HR0.out (be w)); (case side2 => exact HC0.out); rintro e w50 ⟨rfl, hb⟩; refine ⟨_, rfl, ?_⟩; replace BK269 := As.mk (blk_below (bx BK269.out) hb); replace HB := As.mk (below_step (be w) hb); (try clear hb)))
    go_roundg k1
    case measure => have := HK1.out; omega
    case rel => exact ⟨((x6_1 ++ (⟨#[44, 32]⟩ : ByteArray)) ++ t274), (wrap64 (x7_1 + 1)), (by first | rfl | (simp; done) | (simp [*]; done)), (by first | rfl | (simp; done) | (simp [*]; done)), H', ⟨by have := HK1.out; omega⟩, ⟨bx BK269.out⟩, ⟨be w⟩⟩
 rw [if_neg c39] at H
 have c39b0 : (((rd_T62 l0 a1).f0) == 12) = false := beq_eq_false_iff_ne.mpr c39
 have c39b1 : (((rd_T62 l0 a1).f0) != 12) = true := bne_iff_ne.mpr c39
 have c58 := i1 H; replace H := i2 H
 have c58b0 := decide_eq_true c58
 have c58b1 : decide (0 < ((rd_T62 l0 a1).f3).length) = true := decide_eq_true (by omega)
 clear c58
 obtain ⟨t278, A590, H⟩ := Option.bind_eq_some_iff.mp H
 try dsimp only at H
 have A59 := As.mk A590
 clear A590
 obtain ⟨t279, A600, H⟩ := Option.bind_eq_some_iff.mp H
 try dsimp only at H
 have A60 := As.mk A600
 clear A600
 have c61 := i1 H; replace H := i2 H
 have c61b0 := eq_true c61
 have c61b1 := decide_eq_true c61
 try have c61b2 := eq_false (Nat.not_lt.2 c61)
 have c62 := i1 H; replace H := i2 H
 have c62b0 := decide_eq_true c62
 have c62b1 : decide (1 < ((rd_T62 l0 a1).f3).length) = true := decide_eq_true (by omega)
 clear c62
 obtain ⟨t281, A630, H⟩ := Option.bind_eq_some_iff.mp H
 try dsimp only at H
 have A63 := As.mk A630
 clear A630
 have c64 := i1 H; replace H := i2 H
 have c64b0 := eq_true c64
 have c64b1 := decide_eq_true c64
 try have c64b2 := eq_false (Nat.not_lt.2 c64)
 try have c64b4 : (9223372036854775807 < t278.size + t279.size + t281.size) = False := eq_false (Nat.not_lt.2 (by have h_ := c64; simp only [ByteArray.size_append] at h_; exact h_))
 obtain rfl := Option.some.inj H
 have p268 : 0 ≤ (a1 : Int) := od
 have q268 : a1 < (l0.length : Int) := od
 obtain ⟨ad268, A268_3, c268_3, e268, hx268_0, hx268_1, hx268_2, hx268_3, hl268_3, hi268_3⟩ := at_T62 HR0.out a1 p268 q268
 cases e268
 have HR268_3 := As.mk hi268_3
 have HC268_3 := As.mk hl268_3
 clear hi268_3 hl268_3
 replace p268 := eq_true p268
 replace q268 := eq_true q268
 go_enter Tryz.func52, Tryz.ntmps52
 try go_wp2_with (first | ((with_reducible refine gate_dst (N := 5) rfl ?_); refine box_event ?hg (N := 5) ?hd (cs := #[.int .i64 0, .int .i64 0, .string (⟨#[]⟩ : ByteArray), .slice none 0 0]) (t := 62) ?hr ?_; (case hd => rfl); (case hg => rfl); (case hr => first | (go_simp; done) | (go_simp; rfl)); intro gb269 hg w65 hbox hb; have BK269 := As.mk (hbox); have GW269 := As.mk (gs w hg); replace HB := As.mk (below_step (be w) hb); clear hb hbox hg; obtain ⟨hcz66_0, hcz66_1, hcz66_2, hcz66_3, hfz66_0, hfz66_1, hfz66_2, hfz66_3⟩ := cl4 BK269.out))
 have n0_ : As (((((w65.setCell ⟨gb269, 0, none⟩ (.int .i64 ((rd_T62 l0 a1).f0))).setCell ⟨gb269, 1, none⟩ (.int .i64 ((rd_T62 l0 a1).f1))).setCell ⟨gb269, 2, none⟩ (.string ((rd_T62 l0 a1).f2))).setCell ⟨gb269, 3, none⟩ (.slice A268_3 ((rd_T62 l0 a1).f3).length c268_3)).heap[gb269]? = some (.cells #[.int .i64 ((rd_T62 l0 a1).f0), .int .i64 ((rd_T62 l0 a1).f1), .string ((rd_T62 l0 a1).f2), .slice A268_3 ((rd_T62 l0 a1).f3).length c268_3] 62 (0, 0))) := ⟨by refine pl ?_; refine blk_put (cs := #[.int .i64 ((rd_T62 l0 a1).f0), .int .i64 ((rd_T62 l0 a1).f1), .string ((rd_T62 l0 a1).f2), .slice none 0 0]) ?_ 3 _ rfl; refine pl ?_; refine blk_put (cs := #[.int .i64 ((rd_T62 l0 a1).f0), .int .i64 ((rd_T62 l0 a1).f1), .string (⟨#[]⟩ : ByteArray), .slice none 0 0]) ?_ 2 _ rfl; refine pl ?_; refine blk_put (cs := #[.int .i64 ((rd_T62 l0 a1).f0), .int .i64 0, .string (⟨#[]⟩ : ByteArray), .slice none 0 0]) ?_ 1 _ rfl; refine pl ?_; refine blk_put (cs := #[.int .i64 0, .int .i64 0, .string (⟨#[]⟩ : ByteArray), .slice none 0 0]) ?_ 0 _ rfl; exact bx BK269.out⟩
 have n1_ : As (Below w.heap.size w ((((w65.setCell ⟨gb269, 0, none⟩ (.int .i64 ((rd_T62 l0 a1).f0))).setCell ⟨gb269, 1, none⟩ (.int .i64 ((rd_T62 l0 a1).f1))).setCell ⟨gb269, 2, none⟩ (.string ((rd_T62 l0 a1).f2))).setCell ⟨gb269, 3, none⟩ (.slice A268_3 ((rd_T62 l0 a1).f3).length c268_3))) := ⟨be w⟩
 (try clear BK269)
 (try clear HB)
 generalize ((((w65.setCell ⟨gb269, 0, none⟩ (.int .i64 ((rd_T62 l0 a1).f0))).setCell ⟨gb269, 1, none⟩ (.int .i64 ((rd_T62 l0 a1).f1))).setCell ⟨gb269, 2, none⟩ (.string ((rd_T62 l0 a1).f2))).setCell ⟨gb269, 3, none⟩ (.slice A268_3 ((rd_T62 l0 a1).f3).length c268_3)) = w67 at n0_ n1_ ⊢
 have BK269 := n0_
 have HB := n1_
 clear n0_ n1_
 replace BK269 := As.mk (blk_drew BK269.out)
 replace HB := As.mk (below_drew1 HB.out)
 have p277 : 0 ≤ (0 : Int) := (by omega)
 have q277 : 0 < (((rd_T62 l0 a1).f3).length : Int) := od
 obtain ⟨ad277, e277, hx277_0⟩ := Kd.at_int HR268_3.out 0 p277 q277
 have hw277_0 := hx277_0
 (try rw [show ((0 : Int)).toNat = 0 from rfl] at hw277_0)
 (try rw [show 0 * 1 = 0 from rfl] at hw277_0)
 (try rw [Addr.add_zero'] at hw277_0)
 cases e277
 have qi277 : (0 < ((rd_T62 l0 a1).f3).length) = True := eq_true (by omega)
 (try rw [show ((0 : Int)).toNat = 0 from rfl] at hx277_0)
 (try rw [Addr.add_zero'] at hx277_0)
 replace hx277_0 := ce HB.out hx277_0
 replace p277 := eq_true p277
 replace q277 := eq_true q277
 have p280 : 0 ≤ (1 : Int) := (by omega)
 have q280 : 1 < (((rd_T62 l0 a1).f3).length : Int) := od
 obtain ⟨ad280, e280, hx280_0⟩ := Kd.at_int HR268_3.out 1 p280 q280
 have hw280_0 := hx280_0
 (try rw [show ((1 : Int)).toNat = 1 from rfl] at hw280_0)
 (try rw [show 1 * 1 = 1 from rfl] at hw280_0)
 (try simp only [Nat.reduceMul, Nat.reduceEqDiff, Go.Addr.add, ↓reduceIte] at hw280_0)
 obtain rfl : ad277 = ad280 := (by injection e280)
 (try simp only [show (1 : Int).toNat = 1 from rfl, Nat.reduceMul, Nat.reduceEqDiff, Go.Addr.add, ↓reduceIte] at hx280_0)
 have qi280 : (1 < ((rd_T62 l0 a1).f3).length) = True := eq_true (by omega)
 (try rw [show ((1 : Int)).toNat = 1 from rfl] at hx280_0)
 replace hx280_0 := ce HB.out hx280_0
 replace p280 := eq_true p280
 replace q280 := eq_true q280
 refine start_ (n := 18) (S := fun w' => w'.cell? ⟨gb269, 0, none⟩ = some (.int .i64 ((rd_T62 l0 a1).f0)) ∧ w'.cell? ⟨gb269, 1, none⟩ = some (.int .i64 ((rd_T62 l0 a1).f1)) ∧ w'.cell? ⟨gb269, 2, none⟩ = some (.string ((rd_T62 l0 a1).f2)) ∧ w'.cell? ⟨gb269, 3, none⟩ = some (.slice (some ad277) ((rd_T62 l0 a1).f3).length c268_3) ∧ w'.cell? ad277 = some (.int .i64 (rd ((rd_T62 l0 a1).f3) 0)) ∧ w'.cell? ⟨ad277.block, ad277.off + 1, none⟩ = some (.int .i64 (rd ((rd_T62 l0 a1).f3) 1))) (ds := []) #[O,O,O,O,O,O,O,O,O,O,O,O,O,O,O,O,O,O] (by kernel_rfl) rfl rfl ⟨(blk_cell BK269.out 0).trans rfl, (blk_cell BK269.out 1).trans rfl, (blk_cell BK269.out 2).trans rfl, (blk_cell BK269.out 3).trans rfl, (ce HB.out hw277_0 :), (ce HB.out hw280_0 :)⟩ (fun hHeld => ?_); refine with_tabW spec_l06Value.tab28 spec_l06Value.bits28 (fun HT_ HW_ => ?_)
 generalize w67.drew = w68 at BK269 HB hx277_0 hx280_0 hHeld ⊢
 refine pq 0 81 #[I,O,O,O,O,O,O,O,O,O,O,O,O,O,O,O,O,O] HT_.out rfl rfl ?_ (fun _ _ _ h => h) ?_ ?_ ?_ ?_
 rotate_left; · intro w'; go_simp; with_reducible rfl
 rotate_left; · simp only [pk, i64_w, i32_w]; rfl
 refine pq 1 82 #[I,I,O,O,O,O,O,O,O,O,O,O,O,O,O,O,O,O] HT_.out rfl rfl ?_ (fun _ _ _ h => h) ?_ ?_ ?_ ?_
 rotate_left; · intro w'; go_simp; with_reducible rfl
 rotate_left; · simp only [pk, i64_w, i32_w]; rfl
 refine pq 6 87 #[I,I,O,O,O,O,I,O,O,O,O,O,O,O,O,O,O,O] HT_.out rfl rfl ?_ (fun _ _ _ h => h) ?_ ?_ ?_ ?_
 rotate_left; · intro w'; go_simp; with_reducible rfl
 rotate_left; · simp only [pk, i64_w, i32_w]; rfl
 refine pq 10 91 #[I,I,O,O,O,O,I,O,O,O,I,O,O,O,O,O,O,O] HT_.out rfl rfl ?_ (fun _ _ _ h => h) ?_ ?_ ?_ ?_
 rotate_left; · intro w'; go_simp; with_reducible rfl
 rotate_left; · simp only [pk, i64_w, i32_w]; rfl
 refine pq 11 92 #[I,I,O,O,O,O,I,O,O,O,I,I,O,O,O,O,O,O] HT_.out rfl rfl ?_ (fun _ _ _ h => h) ?_ ?_ ?_ ?_
 rotate_left; · intro w'; go_simp; with_reducible rfl
 rotate_left; · simp only [pk, i64_w, i32_w]; rfl
 refine tq 2 83 #[I,I,I,O,O,O,I,O,O,O,I,I,O,O,O,O,O,O] HT_.out HW_.out rfl rfl ?_ (fun _ _ _ h => h) ?_ hHeld ?_ ?_ ?_
 rotate_left; · rintro w' ⟨s0, s1, s2, s3, s4, s5⟩; go_simp; with_reducible rfl
 rotate_left; · simp only [pk, i64_w, i32_w]; rfl
 refine pq 3 84 #[I,I,I,I,O,O,I,O,O,O,I,I,O,O,O,O,O,O] HT_.out rfl rfl ?_ (fun _ _ _ h => h) ?_ ?_ ?_ ?_
 rotate_left; · intro w'; go_simp; with_reducible rfl
 rotate_left; · simp only [pk, i64_w, i32_w]; rfl
 refine tq 4 85 #[I,I,I,I,I,O,I,O,O,O,I,I,O,O,O,O,O,O] HT_.out HW_.out rfl rfl ?_ (fun _ _ _ h => h) ?_ hHeld ?_ ?_ ?_
 rotate_left; · rintro w' ⟨s0, s1, s2, s3, s4, s5⟩; go_simp; with_reducible rfl
 rotate_left; · simp only [pk, i64_w, i32_w]; rfl
 refine tq 7 88 #[I,I,I,I,I,O,I,I,O,O,I,I,O,O,O,O,O,O] HT_.out HW_.out rfl rfl ?_ (fun _ _ _ h => h) ?_ hHeld ?_ ?_ ?_
 rotate_left; · rintro w' ⟨s0, s1, s2, s3, s4, s5⟩; go_simp; with_reducible rfl
 rotate_left; · simp only [pk, i64_w, i32_w]; rfl
 refine tq 12 93 #[I,I,I,I,I,O,I,I,O,O,I,I,I,O,O,O,O,O] HT_.out HW_.out rfl rfl ?_ (fun _ _ _ h => h) ?_ hHeld ?_ ?_ ?_
 rotate_left; · rintro w' ⟨s0, s1, s2, s3, s4, s5⟩; go_simp; with_reducible rfl
 rotate_left; · simp only [pk, i64_w, i32_w]; rfl
 refine pq 13 94 #[I,I,I,I,I,O,I,I,O,O,I,I,I,I,O,O,O,O] HT_.out rfl rfl ?_ (fun _ _ _ h => h) ?_ ?_ ?_ ?_
 rotate_left; · intro w'; go_simp; with_reducible rfl
 rotate_left; · simp only [pk, i64_w, i32_w]; rfl
 refine tq 14 95 #[I,I,I,I,I,O,I,I,O,O,I,I,I,I,I,O,O,O] HT_.out HW_.out rfl rfl ?_ (fun _ _ _ h => h) ?_ hHeld ?_ ?_ ?_
 rotate_left; · rintro w' ⟨s0, s1, s2, s3, s4, s5⟩; go_simp; with_reducible rfl
 rotate_left; · simp only [pk, i64_w, i32_w]; rfl
 refine one_ (i := 5) (N := some 86) #[I,I,I,I,I,I,I,I,O,O,I,I,I,I,I,O,O,O] rfl rfl (one_of HT_.out (by kernel_rfl)) (by decide) (fun K hK => ?_)
 refine goes_ Tryz.func79 (by kernel_rfl) rfl #[.slice (some ad268) l0.length c0, .int .i64 (rd ((rd_T62 l0 a1).f3) 0)] (by rfl) rfl rfl gl ?_
 with_reducible refine (ih_spec_l06Kid k (by omega) _ _ l0 (rd ((rd_T62 l0 a1).f3) 0) t278 _ ?side1 ?side2 A59.out).mono ?_
 (case side1 => exact Kd.C_below HR0.out (be w))
 (case side2 => exact HC0.out)
 rintro e w69 ⟨rfl, hb⟩
 refine ⟨_, rfl, ?_⟩
 replace BK269 := As.mk (blk_below (bx BK269.out) hb)
 replace HB := As.mk (below_step (be w) hb)
 (try clear hb)
 (try clear hb2)
 (try clear hk)
 (try clear hi)
 refine hK.out _ _ ⟨(blk_cell BK269.out 0).trans rfl, (blk_cell BK269.out 1).trans rfl, (blk_cell BK269.out 2).trans rfl, (blk_cell BK269.out 3).trans rfl, (ce HB.out hw277_0 :), (ce HB.out hw280_0 :)⟩ (fun hHeld => ?_)
 clear hK K
 refine norm_ (a' := ?_) ?_ ?_
 rotate_left
 ·
  show Act.put _ (some 86) _ = _
  simp only [pk, i64_w, i32_w]
  rfl
 refine one_ (i := 8) (N := some 89) #[I,I,I,I,I,I,I,I,I,O,I,I,I,I,I,O,O,O] rfl rfl (one_of HT_.out (by kernel_rfl)) (by decide) (fun K hK => ?_)
 refine goes_ Tryz.func80 (by kernel_rfl) rfl #[.int .i64 ((rd_T62 l0 a1).f0)] (by rfl) rfl rfl gl ?_
 with_reducible refine (spec_l06Sign.calls ((rd_T62 l0 a1).f0) t279 _ A60.out).mono ?_
 rintro e w' ⟨rfl, ⟨nd, rfl⟩⟩
 refine ⟨_, rfl, ?_⟩
 refine hK.out _ _ ⟨(blk_cell BK269.out 0).trans rfl, (blk_cell BK269.out 1).trans rfl, (blk_cell BK269.out 2).trans rfl, (blk_cell BK269.out 3).trans rfl, (ce HB.out hw277_0 :), (ce HB.out hw280_0 :)⟩ (fun hHeld => ?_)
 clear hK K
 refine norm_ (a' := ?_) ?_ ?_
 rotate_left
 ·
  show Act.put _ (some 89) _ = _
  simp only [pk, i64_w, i32_w]
  rfl
 refine pq 9 90 #[I,I,I,I,I,I,I,I,I,I,I,I,I,I,I,O,O,O] HT_.out rfl rfl ?_ (fun _ _ _ h => h) ?_ ?_ ?_ ?_
 rotate_left; · intro w'; go_simp; with_reducible rfl
 rotate_left; · simp only [pk, i64_w, i32_w]; rfl
 refine one_ (i := 15) (N := some 96) #[I,I,I,I,I,I,I,I,I,I,I,I,I,I,I,I,O,O] rfl rfl (one_of HT_.out (by kernel_rfl)) (by decide) (fun K hK => ?_)
 refine goes_ Tryz.func79 (by kernel_rfl) rfl #[.slice (some ad268) l0.length c0, .int .i64 (rd ((rd_T62 l0 a1).f3) 1)] (by rfl) rfl rfl gl ?_
 with_reducible refine (ih_spec_l06Kid k (by omega) _ _ l0 (rd ((rd_T62 l0 a1).f3) 1) t281 _ ?side1 ?side2 A63.out).mono ?_
 (case side1 => exact Kd.C_below HR0.out (be w))
 (case side2 => exact HC0.out)
 rintro e w70 ⟨rfl, hb⟩
 refine ⟨_, rfl, ?_⟩
 replace BK269 := As.mk (blk_below (bx BK269.out) hb)
 replace HB := As.mk (below_step (be w) hb)
 (try clear hb)
 (try clear hb2)
 (try clear hk)
 (try clear hi)
 refine hK.out _ _ ⟨(blk_cell BK269.out 0).trans rfl, (blk_cell BK269.out 1).trans rfl, (blk_cell BK269.out 2).trans rfl, (blk_cell BK269.out 3).trans rfl, (ce HB.out hw277_0 :), (ce HB.out hw280_0 :)⟩ (fun hHeld => ?_)
 clear hK K
 refine norm_ (a' := ?_) ?_ ?_
 rotate_left
 ·
  show Act.put _ (some 96) _ = _
  simp only [pk, i64_w, i32_w]
  rfl
 refine pq 16 97 #[I,I,I,I,I,I,I,I,I,I,I,I,I,I,I,I,I,O] HT_.out rfl rfl ?_ (fun _ _ _ h => h) ?_ ?_ ?_ ?_
 rotate_left; · intro w'; go_simp; with_reducible rfl
 rotate_left; · simp only [pk, i64_w, i32_w]; rfl
 refine pq 17 4 #[I,I,I,I,I,I,I,I,I,I,I,I,I,I,I,I,I,I] HT_.out rfl rfl ?_ (fun _ _ _ h => h) ?_ ?_ ?_ ?_
 rotate_left; · intro w'; go_simp; with_reducible rfl
 rotate_left; · simp only [pk, i64_w, i32_w]; rfl
 refine done_ (done_of HT_.out (by kernel_rfl)) ?_
 try go_wp2
 go_ret
 exact ⟨ez, be w⟩
theorem spec_l06Value.allO (k : Nat) : spec_l06Kid.C k ∧ spec_l06Value.C k := by
  induction k using Nat.strongRecOn with
  | _ k ih => exact ⟨spec_l06Kid.callsO k (fun m_ h_ => (ih m_ h_).1) (fun m_ h_ => (ih m_ h_).2), spec_l06Value.callsO k (fun m_ h_ => (ih m_ h_).1) (fun m_ h_ => (ih m_ h_).2)⟩
theorem spec_l06Kid.calls (k : Nat) : ∀ (A0 : Option Addr) (c0 : Nat) (l0 : List (S62)) (a1 : Int) (r : ByteArray) (w : World) (hr0 : Kd.C k62 w A0 l0.length l0) (hc0 : l0.length ≤ c0) (h : spec_l06Kid.f k l0 a1 = some r),
  Calls Tryz.prog 79 #[.slice A0 l0.length c0, .int .i64 a1] w fun e w' => e = .returned (.string r) ∧ Below w.heap.size w w' := (spec_l06Value.allO k).1
theorem spec_l06Value.calls (k : Nat) : ∀ (A0 : Option Addr) (c0 : Nat) (l0 : List (S62)) (a1 : Int) (r : ByteArray) (w : World) (hr0 : Kd.C k62 w A0 l0.length l0) (hc0 : l0.length ≤ c0) (h : spec_l06Value.f k l0 a1 = some r),
  Calls Tryz.prog 52 #[.slice A0 l0.length c0, .int .i64 a1] w fun e w' => e = .returned (.string r) ∧ Below w.heap.size w w' := (spec_l06Value.allO k).2

/-! ### spec_l06In: function 72 -/
def spec_l06In.l0 : Nat → Int → ByteArray → Int → Option (ByteArray)
 | 0, _, _, _ => none
 | k + 1, x0, x3, x4 => if x4 < x0 then (if x4 < 20 then (if x3.size + 2 ≤ 9223372036854775807 then (spec_l06In.l0 k x0 (x3 ++ (⟨#[32, 32]⟩ : ByteArray)) (wrap64 (x4 + 1))) else (none)) else (some x3)) else (some x3)
def spec_l06In.f (k : Nat) (a0 : Int) : Option (ByteArray) := spec_l06In.l0 k a0 (⟨#[]⟩ : ByteArray) 0
theorem spec_l06In.mono_l : ∀ k, (∀ y0 y1 y2, LeO (spec_l06In.l0 k y0 y1 y2) (spec_l06In.l0 (k + 1) y0 y1 y2))
 | 0 => fun _ _ _ r h => by simp [spec_l06In.l0] at h
 | k + 1 => by
  have ih0 := spec_l06In.mono_l k
  ·
   intro y0 y1 y2
   unfold spec_l06In.l0
   with_reducible repeat' first | exact ih0 _ _ _ | exact LeO.refl _ | exact LeO.none _ | refine LeO.ite ?_ ?_ | refine LeO.bind ?_ (fun _ => ?_)
theorem spec_l06In.mono : ∀ a0 k, LeO (spec_l06In.f k a0) (spec_l06In.f (k + 1) a0) := by
 intro a0 k
 have ih0 := spec_l06In.mono_l k
 unfold spec_l06In.f
 with_reducible repeat' first | exact ih0 _ _ _ | exact LeO.refl _ | exact LeO.none _ | refine LeO.ite ?_ ?_ | refine LeO.bind ?_ (fun _ => ?_)
set_option maxHeartbeats 8000000 in
set_option maxRecDepth 100000 in
theorem spec_l06In.calls (k : Nat) (a0 : Int) (r : ByteArray) (w : World) (h : spec_l06In.f k a0 = some r) :
  Calls Tryz.prog 72 #[.int .i64 a0] w fun e w' => e = .returned (.string r) ∧ Drawn0 w w' := by
 have H : (spec_l06In.l0 k a0 (⟨#[]⟩ : ByteArray) 0) = some r := h
 clear h
 have H' := As.mk H
 clear H
 go_enter Tryz.func72, Tryz.ntmps72
 go_wp2
 go_loopg [3, 4] k (fun kq v3 v4 w' => ∃ (x3_1 : ByteArray) (x4_1 : Int), v3 = .string x3_1 ∧ v4 = .int .i64 x4_1 ∧ As (spec_l06In.l0 kq a0 x3_1 x4_1 = some r) ∧ As (kq ≤ k) ∧ Drawn0 w w')
 case atStart => exact ⟨((⟨#[]⟩ : ByteArray)), (0), (by first | rfl | (simp; done) | (simp [*]; done)), (by first | rfl | (simp; done) | (simp [*]; done)), H', ⟨Nat.le_refl _⟩, by repeat (first | exact Drawn0.refl _ | apply Drawn0.step)⟩
 case round =>
  clear H'
  obtain ⟨x3_1, x4_1, rfl, rfl, HA, HK1, ⟨m1, rfl⟩⟩ := hrel
  cases gk with
  | zero => exact absurd HA.out (by simp [spec_l06In.l0])
  | succ k1 =>
   have H := HA.out
   clear HA
   simp only [spec_l06In.l0] at H
   by_cases c2 : x4_1 < a0
   rotate_left
   ·
    rw [if_neg c2] at H
    have c2b0 : decide (x4_1 < a0) = false := decide_eq_false c2
    clear c2
    obtain rfl := Option.some.inj H
    go_wp2
    go_ret
    exact dw

   rw [if_pos c2] at H
   have c2b0 := decide_eq_true c2
   clear c2
   by_cases c3 : x4_1 < 20
   rotate_left
   ·
    rw [if_neg c3] at H
    have c3b0 : decide (x4_1 < 20) = false := decide_eq_false c3
    clear c3
    obtain rfl := Option.some.inj H
    go_wp2
    go_ret
    exact dw
   rw [if_pos c3] at H
   have c3b0 := decide_eq_true c3
   clear c3
   have c4 := i1 H; replace H := i2 H
   have c4b0 := eq_true c4
   have c4b1 := decide_eq_true c4
   try have c4b2 := eq_false (Nat.not_lt.2 c4)
   have H' := As.mk H
   clear H
   go_wp2
   go_roundg k1
   case measure => have := HK1.out; omega
   case rel => exact ⟨(x3_1 ++ (⟨#[32, 32]⟩ : ByteArray)), (wrap64 (x4_1 + 1)), (by first | rfl | (simp; done) | (simp [*]; done)), (by first | rfl | (simp; done) | (simp [*]; done)), H', ⟨by have := HK1.out; omega⟩, by repeat (first | exact Drawn0.refl _ | apply Drawn0.step)⟩
end Go.Proofs.YtcoapbnbakmkoaaGreatDoor.PFnExactShowStep
