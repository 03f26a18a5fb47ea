/- Written by a program of this session (a turned copy of the kit's print): a contract for each Go function. No condition beside those in each statement. -/
import Derived.Test.YtcoapbnbakmkoaaGreatDoorPFnExactShowValuex0
import Derived.Test.YtcoapbnbakmkoaaGreatDoorPFnExactShowValuex4
import Derived.Test.YtcoapbnbakmkoaaGreatDoorPFnExactShowValuex6
namespace Go.Proofs.YtcoapbnbakmkoaaGreatDoor.PFnExactShowValue
open Go.RowKit Go.Proofs.YtcoapbnbakmkoaaGreatDoor.Given Go.Proofs.YtcoapbnbakmkoaaGreatDoorW.PrintWords Go.Proofs.YtcoapbnbakmkoaaGreatDoorW.PrintLast Go.Proofs.YtcoapbnbakmkoaaGreatDoorW.PrintMore
attribute [local go_sem] max2_int min2_int max_two min_two max_three min_three max_four min_four   -- for this text's walks alone
set_option linter.unusedVariables false
set_option linter.unusedSimpArgs false

/-! ### spec_l06Value: function 52 -/
/-! ### spec_l06Kid: function 79 -/
mutual
def spec_l06Kid.f : Nat → List (S62) → Int → Option (ByteArray)
  | 0, _, _ => none
  | k + 1, l0, a1 => if 0 ≤ a1 then (if a1 < (l0.length : Int) then ((spec_l06Pair.f ((rd_T62 l0 a1).f0)).bind fun t265 => (if t265 = true then ((spec_l06Value.f k l0 a1).bind fun t266 => (if 1 + t266.size ≤ 9223372036854775807 then (if ((⟨#[40]⟩ : ByteArray) ++ t266).size + 1 ≤ 9223372036854775807 then (some (((⟨#[40]⟩ : ByteArray) ++ t266) ++ (⟨#[41]⟩ : ByteArray))) else (none)) else (none))) else ((spec_l06Value.f k l0 a1).bind fun t267 => (some t267)))) else (none)) else (none)
def spec_l06Value.l0 : Nat → List (S62) → ByteArray → Int → Int → Int → ByteArray → List Int → Option (ByteArray)
  | 0, _, _, _, _, _, _, _ => none
  | k + 1, x0, x6, x7, x270000, x270001, x270002, x270003 => if x7 < (x270003.length : Int) then (if x7 > 0 then (if x6.size + 2 ≤ 9223372036854775807 then (if 0 ≤ x7 then ((spec_l06Value.f k x0 (rd x270003 x7)).bind fun t274 => (if (x6 ++ (⟨#[44, 32]⟩ : ByteArray)).size + t274.size ≤ 9223372036854775807 then (spec_l06Value.l0 k x0 ((x6 ++ (⟨#[44, 32]⟩ : ByteArray)) ++ t274) (wrap64 (x7 + 1)) x270000 x270001 x270002 x270003) else (none))) else (none)) else (none)) else (if 0 ≤ x7 then ((spec_l06Value.f k x0 (rd x270003 x7)).bind fun t276 => (if x6.size + t276.size ≤ 9223372036854775807 then (spec_l06Value.l0 k x0 (x6 ++ t276) (wrap64 (x7 + 1)) x270000 x270001 x270002 x270003) else (none))) else (none))) else (if x6.size + 1 ≤ 9223372036854775807 then (some (x6 ++ (⟨#[41]⟩ : ByteArray))) else (none))
def spec_l06Value.f : Nat → List (S62) → Int → Option (ByteArray)
  | 0, _, _ => none
  | k + 1, l0, a1 => if 0 ≤ a1 then (if a1 < (l0.length : Int) then (if ((rd_T62 l0 a1).f0) = 1 then ((spec_Decimal.f k ((rd_T62 l0 a1).f1)).bind fun t270 => (some t270)) else (if ((rd_T62 l0 a1).f0) = 2 then (some ((rd_T62 l0 a1).f2)) else (if ((rd_T62 l0 a1).f0) = 3 then (if 1 + ((rd_T62 l0 a1).f2).size ≤ 9223372036854775807 then (some ((⟨#[42]⟩ : ByteArray) ++ ((rd_T62 l0 a1).f2))) else (none)) else (if ((rd_T62 l0 a1).f0) = 4 then (if 6 + ((rd_T62 l0 a1).f2).size ≤ 9223372036854775807 then (some ((⟨#[99, 108, 111, 110, 101, 32]⟩ : ByteArray) ++ ((rd_T62 l0 a1).f2))) else (none)) else (if ((rd_T62 l0 a1).f0) = 5 then (if 1 + ((rd_T62 l0 a1).f2).size ≤ 9223372036854775807 then (some ((⟨#[38]⟩ : ByteArray) ++ ((rd_T62 l0 a1).f2))) else (none)) else (if ((rd_T62 l0 a1).f0) = 6 then (if 5 + ((rd_T62 l0 a1).f2).size ≤ 9223372036854775807 then (some ((⟨#[38, 109, 117, 116, 32]⟩ : ByteArray) ++ ((rd_T62 l0 a1).f2))) else (none)) else (if ((rd_T62 l0 a1).f0) = 7 then (some (⟨#[105, 110, 112, 117, 116]⟩ : ByteArray)) else (if ((rd_T62 l0 a1).f0) = 8 then (if 0 < (((rd_T62 l0 a1).f3).length : Int) then ((spec_l06Kid.f k l0 (rd ((rd_T62 l0 a1).f3) 0)).bind fun t272 => (if 4 + t272.size ≤ 9223372036854775807 then (some ((⟨#[110, 101, 119, 32]⟩ : ByteArray) ++ t272)) else (none))) else (none)) else (if ((rd_T62 l0 a1).f0) = 12 then (if ((rd_T62 l0 a1).f2).size + 1 ≤ 9223372036854775807 then (spec_l06Value.l0 k l0 (((rd_T62 l0 a1).f2) ++ (⟨#[40]⟩ : ByteArray)) 0 ((rd_T62 l0 a1).f0) ((rd_T62 l0 a1).f1) ((rd_T62 l0 a1).f2) ((rd_T62 l0 a1).f3)) else (none)) else (if 0 < (((rd_T62 l0 a1).f3).length : Int) then ((spec_l06Kid.f k l0 (rd ((rd_T62 l0 a1).f3) 0)).bind fun t278 => ((spec_l06Sign.f ((rd_T62 l0 a1).f0)).bind fun t279 => (if t278.size + t279.size ≤ 9223372036854775807 then (if 1 < (((rd_T62 l0 a1).f3).length : Int) then ((spec_l06Kid.f k l0 (rd ((rd_T62 l0 a1).f3) 1)).bind fun t281 => (if (t278 ++ t279).size + t281.size ≤ 9223372036854775807 then (some ((t278 ++ t279) ++ t281)) else (none))) else (none)) else (none)))) else (none))))))))))) else (none)) else (none)
end
theorem spec_l06Value.mono_l : ∀ k, (∀ y0 y1, LeO (spec_l06Kid.f k y0 y1) (spec_l06Kid.f (k + 1) y0 y1)) ∧ (∀ y0 y1, LeO (spec_l06Value.f k y0 y1) (spec_l06Value.f (k + 1) y0 y1)) ∧ (∀ y0 y1 y2 y3 y4 y5 y6, LeO (spec_l06Value.l0 k y0 y1 y2 y3 y4 y5 y6) (spec_l06Value.l0 (k + 1) y0 y1 y2 y3 y4 y5 y6))
  | 0 => ⟨fun _ _ r h => by simp [spec_l06Kid.f] at h, fun _ _ r h => by simp [spec_l06Value.f] at h, fun _ _ _ _ _ _ _ r h => by simp [spec_l06Value.l0] at h⟩
  | k + 1 => by
    obtain ⟨ih0, ih1, ih2⟩ := spec_l06Value.mono_l k
    refine ⟨?_, ?_, ?_⟩
    · intro y0 y1
      unfold spec_l06Kid.f
      repeat' first
      | (with_reducible exact ih0 _ _)
      | (with_reducible exact ih1 _ _)
      | (with_reducible exact ih2 _ _ _ _ _ _ _)
      | (with_reducible exact spec_Decimal.mono _ _)
      | (with_reducible exact LeO.refl _)
      | (with_reducible exact LeO.none _)
      | (with_reducible refine LeO.ite ?_ ?_)
      | (with_reducible refine LeO.bind ?_ (fun _ => ?_))
      | exact ih0 _ _
      | exact ih1 _ _
      | exact ih2 _ _ _ _ _ _ _
      | exact spec_Decimal.mono _ _
      | exact LeO.none _
      | refine LeO.ite ?_ ?_
      | refine LeO.bind ?_ (fun _ => ?_)
    · intro y0 y1
      unfold spec_l06Value.f
      repeat' first
      | (with_reducible exact ih0 _ _)
      | (with_reducible exact ih1 _ _)
      | (with_reducible exact ih2 _ _ _ _ _ _ _)
      | (with_reducible exact spec_Decimal.mono _ _)
      | (with_reducible exact LeO.refl _)
      | (with_reducible exact LeO.none _)
      | (with_reducible refine LeO.ite ?_ ?_)
      | (with_reducible refine LeO.bind ?_ (fun _ => ?_))
      | exact ih0 _ _
      | exact ih1 _ _
      | exact ih2 _ _ _ _ _ _ _
      | exact spec_Decimal.mono _ _
      | exact LeO.none _
      | refine LeO.ite ?_ ?_
      | refine LeO.bind ?_ (fun _ => ?_)
    · intro y0 y1 y2 y3 y4 y5 y6
      unfold spec_l06Value.l0
      repeat' first
      | (with_reducible exact ih0 _ _)
      | (with_reducible exact ih1 _ _)
      | (with_reducible exact ih2 _ _ _ _ _ _ _)
      | (with_reducible exact spec_Decimal.mono _ _)
      | (with_reducible exact LeO.refl _)
      | (with_reducible exact LeO.none _)
      | (with_reducible refine LeO.ite ?_ ?_)
      | (with_reducible refine LeO.bind ?_ (fun _ => ?_))
      | exact ih0 _ _
      | exact ih1 _ _
      | exact ih2 _ _ _ _ _ _ _
      | exact spec_Decimal.mono _ _
      | exact LeO.none _
      | refine LeO.ite ?_ ?_
      | refine LeO.bind ?_ (fun _ => ?_)
theorem spec_l06Kid.mono : ∀ a0 a1 k, LeO (spec_l06Kid.f k a0 a1) (spec_l06Kid.f (k + 1) a0 a1) := by
  intro a0 a1 k
  obtain ⟨ih0, ih1, ih2⟩ := spec_l06Value.mono_l k
  exact ih0 a0 a1
theorem spec_l06Value.mono : ∀ a0 a1 k, LeO (spec_l06Value.f k a0 a1) (spec_l06Value.f (k + 1) a0 a1) := by
  intro a0 a1 k
  obtain ⟨ih0, ih1, ih2⟩ := spec_l06Value.mono_l k
  exact ih1 a0 a1
abbrev spec_l06Kid.C (k : Nat) : Prop := ∀ (A0 : Option Addr) (c0 : Nat) (l0 : List (S62)) (a1 : Int) (r : ByteArray) (w : World) (hr0 : Kd.C k62 w A0 l0.length l0) (hc0 : l0.length ≤ c0) (h : spec_l06Kid.f k l0 a1 = some r),
  Calls Tryz.prog 79 #[.slice A0 l0.length c0, .int .i64 a1] w fun e w' => e = .returned (.string r) ∧ Below w.heap.size w w'
abbrev spec_l06Value.C (k : Nat) : Prop := ∀ (A0 : Option Addr) (c0 : Nat) (l0 : List (S62)) (a1 : Int) (r : ByteArray) (w : World) (hr0 : Kd.C k62 w A0 l0.length l0) (hc0 : l0.length ≤ c0) (h : spec_l06Value.f k l0 a1 = some r),
  Calls Tryz.prog 52 #[.slice A0 l0.length c0, .int .i64 a1] w fun e w' => e = .returned (.string r) ∧ Below w.heap.size w w'
set_option maxHeartbeats 8000000 in
set_option maxRecDepth 100000 in
theorem spec_l06Kid.callsO (k : Nat) (ih : ∀ m_, m_ < k → spec_l06Kid.C m_) (ih_spec_l06Value : ∀ m_, m_ < k → spec_l06Value.C m_) : spec_l06Kid.C k := by
 intro A0 c0 l0 a1 r w hr0 hc0 h
 cases k with
 | zero => exact absurd h (by simp [spec_l06Kid.f])
 | succ k =>
 simp only [spec_l06Kid.f] at h
 have HR0 := As.mk hr0
 have HC0 := As.mk hc0
 clear hr0 hc0
 have HB := As.mk (Below.refl w.heap.size w)
 have H : (if 0 ≤ a1 then (if a1 < (l0.length : Int) then ((spec_l06Pair.f ((rd_T62 l0 a1).f0)).bind fun t265 => (if t265 = true then ((spec_l06Value.f k l0 a1).bind fun t266 => (if 1 + t266.size ≤ 9223372036854775807 then (if ((⟨#[40]⟩ : ByteArray) ++ t266).size + 1 ≤ 9223372036854775807 then (some (((⟨#[40]⟩ : ByteArray) ++ t266) ++ (⟨#[41]⟩ : ByteArray))) else (none)) else (none))) else ((spec_l06Value.f k l0 a1).bind fun t267 => (some t267)))) else (none)) else (none)) = some r := h
 clear h
 by_cases c3 : 0 ≤ a1
 rotate_left; · rw [if_neg c3] at H; exact absurd H (by simp)

 rw [if_pos c3] at H
 have c3b0 : decide (0 ≤ a1) = true := decide_eq_true c3
 clear c3
 by_cases c4 : a1 < (l0.length : Int)
 rotate_left; · rw [if_neg c4] at H; exact absurd H (by simp)
 rw [if_pos c4] at H
 have c4b0 : decide (a1 < (l0.length : Int)) = true := decide_eq_true c4
 clear c4
 obtain ⟨t265, A50, H⟩ := Option.bind_eq_some_iff.mp H
 try dsimp only at H
 have A5 := As.mk A50
 clear A50
 by_cases c6 : t265 = true
 rotate_left
 ·
  replace c6 := Bool.eq_false_iff.mpr c6
  subst c6
  rw [if_neg (show ¬ (false = true) by decide)] at H
  obtain ⟨t267, A110, H⟩ := Option.bind_eq_some_iff.mp H
  try dsimp only at H
  have A11 := As.mk A110
  clear A110
  obtain rfl := Option.some.inj H
  have p264 : 0 ≤ (a1 : Int) := od
  have q264 : a1 < (l0.length : Int) := od
  obtain ⟨ad264, A264_3, c264_3, e264, hx264_0, hx264_1, hx264_2, hx264_3, hl264_3, hi264_3⟩ := at_T62 HR0.out a1 p264 q264
  cases e264
  have HR264_3 := As.mk hi264_3
  have HC264_3 := As.mk hl264_3
  clear hi264_3 hl264_3
  replace p264 := eq_true p264
  replace q264 := eq_true q264
  go_enter Tryz.func79, Tryz.ntmps79
  go_wp2_with (first | ((with_reducible refine gate_callee (f := 106) rfl ?_); refine goesL_ (some 10) rfl rfl Tryz.func106 (by kernel_rfl) rfl #[.int .i64 ((rd_T62 l0 a1).f0)] rfl (by (try simp only [lm]); first | done | rfl | (simp only [List.length_drop, List.length_take]; rfl)) ?_; (with_reducible refine (spec_l06Pair.calls ((rd_T62 l0 a1).f0) false _ A5.out).mono ?_); rintro e w' ⟨rfl, ⟨nd, rfl⟩⟩; refine ⟨_, rfl, ?_⟩) | ((with_reducible refine gate_callee (f := 52) rfl ?_); refine goesL_ (some 18) rfl rfl Tryz.func52 (by kernel_rfl) rfl #[.slice (some ad264) l0.length c0, .int .i64 a1] rfl (by (try simp only [lm]); first | done | rfl | (simp only [List.length_drop, List.length_take]; rfl)) ?_; (with_reducible refine (ih_spec_l06Value k (by omega) _ _ l0 a1 t267 _ ?side1 ?side2 A11.out).mono ?_); (case side1 => repeat (first | exact HR0.out | (with_reducible refine Kd.C_alloc ?_ _) | (with_reducible refine Kd.C_drewN ?_ _) | (with_reducible refine Kd.C_drew ?_))); (case side2 => exact HC0.out); rintro e w12 ⟨rfl, hb⟩; refine ⟨_, rfl, ?_⟩; replace HB := As.mk (below_step (be w) hb); (try clear hb); (try clear hb2); (try clear hk); (try clear hi)))
  go_ret
  exact ⟨ez, be w⟩
 subst c6
 rw [if_pos rfl] at H
 obtain ⟨t266, A70, H⟩ := Option.bind_eq_some_iff.mp H
 try dsimp only at H
 have A7 := As.mk A70
 clear A70
 by_cases c8 : 1 + t266.size ≤ 9223372036854775807
 rotate_left; · rw [if_neg c8] at H; exact absurd H (by simp)
 rw [if_pos c8] at H
 have c8b0 := eq_true c8
 have c8b1 : decide (1 + t266.size ≤ 9223372036854775807) = true := decide_eq_true c8
 try have c8b2 : (9223372036854775807 < 1 + t266.size) = False := eq_false (Nat.not_lt.2 c8)
 by_cases c9 : ((⟨#[40]⟩ : ByteArray) ++ t266).size + 1 ≤ 9223372036854775807
 rotate_left; · rw [if_neg c9] at H; exact absurd H (by simp)
 rw [if_pos c9] at H
 have c9b0 := eq_true c9
 have c9b1 : decide (((⟨#[40]⟩ : ByteArray) ++ t266).size + 1 ≤ 9223372036854775807) = true := decide_eq_true c9
 try have c9b2 : (9223372036854775807 < ((⟨#[40]⟩ : ByteArray) ++ t266).size + 1) = False := eq_false (Nat.not_lt.2 c9)
 try have c9b4 : (9223372036854775807 < 1 + t266.size + 1) = False := eq_false (Nat.not_lt.2 (by have h_ := c9; simp only [ByteArray.size_append] at h_; exact h_))
 obtain rfl := Option.some.inj H
 have p264 : 0 ≤ (a1 : Int) := od
 have q264 : a1 < (l0.length : Int) := od
 obtain ⟨ad264, A264_3, c264_3, e264, hx264_0, hx264_1, hx264_2, hx264_3, hl264_3, hi264_3⟩ := at_T62 HR0.out a1 p264 q264
 cases e264
 have HR264_3 := As.mk hi264_3
 have HC264_3 := As.mk hl264_3
 clear hi264_3 hl264_3
 replace p264 := eq_true p264
 replace q264 := eq_true q264
 go_enter Tryz.func79, Tryz.ntmps79
 go_wp2_with (first | ((with_reducible refine gate_callee (f := 106) rfl ?_); refine goesL_ (some 10) rfl rfl Tryz.func106 (by kernel_rfl) rfl #[.int .i64 ((rd_T62 l0 a1).f0)] rfl (by (try simp only [lm]); first | done | rfl | (simp only [List.length_drop, List.length_take]; rfl)) ?_; (with_reducible refine (spec_l06Pair.calls ((rd_T62 l0 a1).f0) true _ A5.out).mono ?_); rintro e w' ⟨rfl, ⟨nd, rfl⟩⟩; refine ⟨_, rfl, ?_⟩) | ((with_reducible refine gate_callee (f := 52) rfl ?_); refine goesL_ (some 13) rfl rfl Tryz.func52 (by kernel_rfl) rfl #[.slice (some ad264) l0.length c0, .int .i64 a1] rfl (by (try simp only [lm]); first | done | rfl | (simp only [List.length_drop, List.length_take]; rfl)) ?_; (with_reducible refine (ih_spec_l06Value k (by omega) _ _ l0 a1 t266 _ ?side1 ?side2 A7.out).mono ?_); (case side1 => repeat (first | exact HR0.out | (with_reducible refine Kd.C_alloc ?_ _) | (with_reducible refine Kd.C_drewN ?_ _) | (with_reducible refine Kd.C_drew ?_))); (case side2 => exact HC0.out); rintro e w10 ⟨rfl, hb⟩; refine ⟨_, rfl, ?_⟩; replace HB := As.mk (below_step (be w) hb); (try clear hb); (try clear hb2); (try clear hk); (try clear hi)))
 go_ret
 exact ⟨ez, be w⟩
def spec_l06Value.T28 : Bool × List (List Nat × List Nat) := (true, [([], []), ([], []), ([1], [1]), ([2], [2]), ([3], [3]), ([0, 4], [0, 4]), ([], []), ([6], [6]), ([7, 5], [7]), ([5, 8], [5, 8]), ([], []), ([], []), ([11], [11]), ([12], [12]), ([13], [13]), ([10, 14, 8], [10, 14]), ([9, 15], [9, 15]), ([16, 15, 0, 1, 2, 3, 4, 5, 6, 7, 8, 9, 10, 11, 12, 13, 14, 15, 16], [16])])
def spec_l06Value.B28 : List Nat := [0, 0, 2, 6, 14, 31, 0, 64, 255, 511, 0, 0, 2048, 6144, 14336, 32255, 65535, 131071]
theorem spec_l06Value.tab28 : rtab .any (opsOf Tryz.f52 28) = spec_l06Value.T28 := by kernel_rfl
theorem spec_l06Value.bits28 : waitsOk spec_l06Value.T28.2 spec_l06Value.B28 = true := by kernel_rfl
set_option maxHeartbeats 8000000 in
set_option maxRecDepth 100000 in
theorem spec_l06Value.callsO (k : Nat) (ih_spec_l06Kid : ∀ m_, m_ < k → spec_l06Kid.C m_) (ih : ∀ m_, m_ < k → spec_l06Value.C m_) : spec_l06Value.C k := by
 intro A0 c0 l0 a1 r w hr0 hc0 h
 cases k with
 | zero => exact absurd h (by simp [spec_l06Value.f])
 | succ k =>
 simp only [spec_l06Value.f] at h
 have hu62 := Tryz.underlying62
 have HR0 := As.mk hr0
 have HC0 := As.mk hc0
 clear hr0 hc0
 have HB := As.mk (Below.refl w.heap.size w)
 have H : (if 0 ≤ a1 then (if a1 < (l0.length : Int) then (if ((rd_T62 l0 a1).f0) = 1 then ((spec_Decimal.f k ((rd_T62 l0 a1).f1)).bind fun t270 => (some t270)) else (if ((rd_T62 l0 a1).f0) = 2 then (some ((rd_T62 l0 a1).f2)) else (if ((rd_T62 l0 a1).f0) = 3 then (if 1 + ((rd_T62 l0 a1).f2).size ≤ 9223372036854775807 then (some ((⟨#[42]⟩ : ByteArray) ++ ((rd_T62 l0 a1).f2))) else (none)) else (if ((rd_T62 l0 a1).f0) = 4 then (if 6 + ((rd_T62 l0 a1).f2).size ≤ 9223372036854775807 then (some ((⟨#[99, 108, 111, 110, 101, 32]⟩ : ByteArray) ++ ((rd_T62 l0 a1).f2))) else (none)) else (if ((rd_T62 l0 a1).f0) = 5 then (if 1 + ((rd_T62 l0 a1).f2).size ≤ 9223372036854775807 then (some ((⟨#[38]⟩ : ByteArray) ++ ((rd_T62 l0 a1).f2))) else (none)) else (if ((rd_T62 l0 a1).f0) = 6 then (if 5 + ((rd_T62 l0 a1).f2).size ≤ 9223372036854775807 then (some ((⟨#[38, 109, 117, 116, 32]⟩ : ByteArray) ++ ((rd_T62 l0 a1).f2))) else (none)) else (if ((rd_T62 l0 a1).f0) = 7 then (some (⟨#[105, 110, 112, 117, 116]⟩ : ByteArray)) else (if ((rd_T62 l0 a1).f0) = 8 then (if 0 < (((rd_T62 l0 a1).f3).length : Int) then ((spec_l06Kid.f k l0 (rd ((rd_T62 l0 a1).f3) 0)).bind fun t272 => (if 4 + t272.size ≤ 9223372036854775807 then (some ((⟨#[110, 101, 119, 32]⟩ : ByteArray) ++ t272)) else (none))) else (none)) else (if ((rd_T62 l0 a1).f0) = 12 then (if ((rd_T62 l0 a1).f2).size + 1 ≤ 9223372036854775807 then (spec_l06Value.l0 k l0 (((rd_T62 l0 a1).f2) ++ (⟨#[40]⟩ : ByteArray)) 0 ((rd_T62 l0 a1).f0) ((rd_T62 l0 a1).f1) ((rd_T62 l0 a1).f2) ((rd_T62 l0 a1).f3)) else (none)) else (if 0 < (((rd_T62 l0 a1).f3).length : Int) then ((spec_l06Kid.f k l0 (rd ((rd_T62 l0 a1).f3) 0)).bind fun t278 => ((spec_l06Sign.f ((rd_T62 l0 a1).f0)).bind fun t279 => (if t278.size + t279.size ≤ 9223372036854775807 then (if 1 < (((rd_T62 l0 a1).f3).length : Int) then ((spec_l06Kid.f k l0 (rd ((rd_T62 l0 a1).f3) 1)).bind fun t281 => (if (t278 ++ t279).size + t281.size ≤ 9223372036854775807 then (some ((t278 ++ t279) ++ t281)) else (none))) else (none)) else (none)))) else (none))))))))))) else (none)) else (none)) = some r := h
 clear h
 by_cases c3 : 0 ≤ a1
 rotate_left; · rw [if_neg c3] at H; exact absurd H (by simp)

 rw [if_pos c3] at H
 have c3b0 : decide (0 ≤ a1) = true := decide_eq_true c3
 clear c3
 by_cases c4 : a1 < (l0.length : Int)
 rotate_left; · rw [if_neg c4] at H; exact absurd H (by simp)
 rw [if_pos c4] at H
 have c4b0 : decide (a1 < (l0.length : Int)) = true := decide_eq_true c4
 clear c4
 by_cases c5 : ((rd_T62 l0 a1).f0) = 1
 ·
  rw [if_pos c5] at H
  have c5b0 : (((rd_T62 l0 a1).f0) == 1) = true := beq_iff_eq.mpr c5
  have c5b1 : (((rd_T62 l0 a1).f0) != 1) = false := bne_eq_false_iff_eq.mpr c5
  clear c5
  obtain ⟨t270, A60, H⟩ := Option.bind_eq_some_iff.mp H
  try dsimp only at H
  have A6 := As.mk A60
  clear A60
  obtain rfl := Option.some.inj H
  have p268 : 0 ≤ (a1 : Int) := od
  have q268 : a1 < (l0.length : Int) := od
  obtain ⟨ad268, A268_3, c268_3, e268, hx268_0, hx268_1, hx268_2, hx268_3, hl268_3, hi268_3⟩ := at_T62 HR0.out a1 p268 q268
  cases e268
  have HR268_3 := As.mk hi268_3
  have HC268_3 := As.mk hl268_3
  clear hi268_3 hl268_3
  replace p268 := eq_true p268
  replace q268 := eq_true q268
  go_enter Tryz.func52, Tryz.ntmps52
  go_wp2_with (first | ((with_reducible refine gate_dst (N := 5) rfl ?_); refine box_event ?hg (N := 5) ?hd (cs := #[.int .i64 0, .int .i64 0, .string (⟨#[]⟩ : ByteArray), .slice none 0 0]) (t := 62) ?hr ?_; (case hd => rfl); (case hg => rfl); (case hr => first | (go_simp; done) | (go_simp; rfl)); intro gb269 hg w7 hbox hb; have BK269 := As.mk (hbox); have GW269 := As.mk (gs w hg); have GE269 := As.mk (gs w hg); replace HB := As.mk (below_step (be w) hb); clear hb hbox hg; obtain ⟨hcz8_0, hcz8_1, hcz8_2, hcz8_3, hfz8_0, hfz8_1, hfz8_2, hfz8_3⟩ := cl4 BK269.out) | ((with_reducible refine gate_callee (f := 78) rfl ?_); refine goesL_ (some 18) rfl rfl Tryz.func78 (by kernel_rfl) rfl #[.int .i64 ((rd_T62 l0 a1).f1)] rfl (by (try simp only [lm]); first | done | rfl | (simp only [List.length_drop, List.length_take]; rfl)) ?_; (with_reducible refine (spec_Decimal.calls k ((rd_T62 l0 a1).f1) t270 _ A6.out).mono ?_); rintro e w9 ⟨rfl, hb⟩; refine ⟨_, rfl, ?_⟩; replace BK269 := As.mk (blk_below (g := gb269) (o := .cells #[.int .i64 ((rd_T62 l0 a1).f0), .int .i64 ((rd_T62 l0 a1).f1), .string ((rd_T62 l0 a1).f2), .slice A268_3 ((rd_T62 l0 a1).f3).length c268_3] 62 (0, 0)) (by refine pl ?_; refine blk_put (cs := #[.int .i64 ((rd_T62 l0 a1).f0), .int .i64 ((rd_T62 l0 a1).f1), .string ((rd_T62 l0 a1).f2), .slice none 0 0]) ?_ 3 _ rfl; refine pl ?_; refine blk_put (cs := #[.int .i64 ((rd_T62 l0 a1).f0), .int .i64 ((rd_T62 l0 a1).f1), .string (⟨#[]⟩ : ByteArray), .slice none 0 0]) ?_ 2 _ rfl; refine pl ?_; refine blk_put (cs := #[.int .i64 ((rd_T62 l0 a1).f0), .int .i64 0, .string (⟨#[]⟩ : ByteArray), .slice none 0 0]) ?_ 1 _ rfl; refine pl ?_; refine blk_put (cs := #[.int .i64 0, .int .i64 0, .string (⟨#[]⟩ : ByteArray), .slice none 0 0]) ?_ 0 _ rfl; exact bx BK269.out) hb); replace HB := As.mk (below_step (be w) hb); (try clear hb); (try clear hb2); (try clear hk); (try clear hi)))
  go_ret
  exact ⟨ez, be w⟩
 rw [if_neg c5] at H
 have c5b0 : (((rd_T62 l0 a1).f0) == 1) = false := beq_eq_false_iff_ne.mpr c5
 have c5b1 : (((rd_T62 l0 a1).f0) != 1) = true := bne_iff_ne.mpr c5
 by_cases c10 : ((rd_T62 l0 a1).f0) = 2
 ·
  rw [if_pos c10] at H
  have c10b0 : (((rd_T62 l0 a1).f0) == 2) = true := beq_iff_eq.mpr c10
  have c10b1 : (((rd_T62 l0 a1).f0) != 2) = false := bne_eq_false_iff_eq.mpr c10
  clear c10
  obtain rfl := Option.some.inj H
  have p268 : 0 ≤ (a1 : Int) := od
  have q268 : a1 < (l0.length : Int) := od
  obtain ⟨ad268, A268_3, c268_3, e268, hx268_0, hx268_1, hx268_2, hx268_3, hl268_3, hi268_3⟩ := at_T62 HR0.out a1 p268 q268
  cases e268
  have HR268_3 := As.mk hi268_3
  have HC268_3 := As.mk hl268_3
  clear hi268_3 hl268_3
  replace p268 := eq_true p268
  replace q268 := eq_true q268
  go_enter Tryz.func52, Tryz.ntmps52
  go_wp2_with (first | ((with_reducible refine gate_dst (N := 5) rfl ?_); refine box_event ?hg (N := 5) ?hd (cs := #[.int .i64 0, .int .i64 0, .string (⟨#[]⟩ : ByteArray), .slice none 0 0]) (t := 62) ?hr ?_; (case hd => rfl); (case hg => rfl); (case hr => first | (go_simp; done) | (go_simp; rfl)); intro gb269 hg w11 hbox hb; have BK269 := As.mk (hbox); have GW269 := As.mk (gs w hg); have GE269 := As.mk (gs w hg); replace HB := As.mk (below_step (be w) hb); clear hb hbox hg; obtain ⟨hcz12_0, hcz12_1, hcz12_2, hcz12_3, hfz12_0, hfz12_1, hfz12_2, hfz12_3⟩ := cl4 BK269.out))
  go_ret
  exact ⟨ez, be w⟩
 rw [if_neg c10] at H
 have c10b0 : (((rd_T62 l0 a1).f0) == 2) = false := beq_eq_false_iff_ne.mpr c10
 have c10b1 : (((rd_T62 l0 a1).f0) != 2) = true := bne_iff_ne.mpr c10
 by_cases c13 : ((rd_T62 l0 a1).f0) = 3
 ·
  rw [if_pos c13] at H
  have c13b0 : (((rd_T62 l0 a1).f0) == 3) = true := beq_iff_eq.mpr c13
  have c13b1 : (((rd_T62 l0 a1).f0) != 3) = false := bne_eq_false_iff_eq.mpr c13
  clear c13
  by_cases c14 : 1 + ((rd_T62 l0 a1).f2).size ≤ 9223372036854775807
  rotate_left; · rw [if_neg c14] at H; exact absurd H (by simp)
  rw [if_pos c14] at H
  have c14b0 := eq_true c14
  have c14b1 : decide (1 + ((rd_T62 l0 a1).f2).size ≤ 9223372036854775807) = true := decide_eq_true c14
  try have c14b2 : (9223372036854775807 < 1 + ((rd_T62 l0 a1).f2).size) = False := eq_false (Nat.not_lt.2 c14)
  obtain rfl := Option.some.inj H
  have p268 : 0 ≤ (a1 : Int) := od
  have q268 : a1 < (l0.length : Int) := od
  obtain ⟨ad268, A268_3, c268_3, e268, hx268_0, hx268_1, hx268_2, hx268_3, hl268_3, hi268_3⟩ := at_T62 HR0.out a1 p268 q268
  cases e268
  have HR268_3 := As.mk hi268_3
  have HC268_3 := As.mk hl268_3
  clear hi268_3 hl268_3
  replace p268 := eq_true p268
  replace q268 := eq_true q268
  go_enter Tryz.func52, Tryz.ntmps52
  go_wp2_with (first | ((with_reducible refine gate_dst (N := 5) rfl ?_); refine box_event ?hg (N := 5) ?hd (cs := #[.int .i64 0, .int .i64 0, .string (⟨#[]⟩ : ByteArray), .slice none 0 0]) (t := 62) ?hr ?_; (case hd => rfl); (case hg => rfl); (case hr => first | (go_simp; done) | (go_simp; rfl)); intro gb269 hg w15 hbox hb; have BK269 := As.mk (hbox); have GW269 := As.mk (gs w hg); have GE269 := As.mk (gs w hg); replace HB := As.mk (below_step (be w) hb); clear hb hbox hg; obtain ⟨hcz16_0, hcz16_1, hcz16_2, hcz16_3, hfz16_0, hfz16_1, hfz16_2, hfz16_3⟩ := cl4 BK269.out))
  go_ret
  exact ⟨ez, be w⟩
 rw [if_neg c13] at H
 have c13b0 : (((rd_T62 l0 a1).f0) == 3) = false := beq_eq_false_iff_ne.mpr c13
 have c13b1 : (((rd_T62 l0 a1).f0) != 3) = true := bne_iff_ne.mpr c13
 by_cases c17 : ((rd_T62 l0 a1).f0) = 4
 ·
  rw [if_pos c17] at H
  have c17b0 : (((rd_T62 l0 a1).f0) == 4) = true := beq_iff_eq.mpr c17
  have c17b1 : (((rd_T62 l0 a1).f0) != 4) = false := bne_eq_false_iff_eq.mpr c17
  clear c17
  by_cases c18 : 6 + ((rd_T62 l0 a1).f2).size ≤ 9223372036854775807
  rotate_left; · rw [if_neg c18] at H; exact absurd H (by simp)
  rw [if_pos c18] at H
  have c18b0 := eq_true c18
  have c18b1 : decide (6 + ((rd_T62 l0 a1).f2).size ≤ 9223372036854775807) = true := decide_eq_true c18
  try have c18b2 : (9223372036854775807 < 6 + ((rd_T62 l0 a1).f2).size) = False := eq_false (Nat.not_lt.2 c18)
  obtain rfl := Option.some.inj H
  have p268 : 0 ≤ (a1 : Int) := od
  have q268 : a1 < (l0.length : Int) := od
  obtain ⟨ad268, A268_3, c268_3, e268, hx268_0, hx268_1, hx268_2, hx268_3, hl268_3, hi268_3⟩ := at_T62 HR0.out a1 p268 q268
  cases e268
  have HR268_3 := As.mk hi268_3
  have HC268_3 := As.mk hl268_3
  clear hi268_3 hl268_3
  replace p268 := eq_true p268
  replace q268 := eq_true q268
  go_enter Tryz.func52, Tryz.ntmps52
  go_wp2_with (first | ((with_reducible refine gate_dst (N := 5) rfl ?_); refine box_event ?hg (N := 5) ?hd (cs := #[.int .i64 0, .int .i64 0, .string (⟨#[]⟩ : ByteArray), .slice none 0 0]) (t := 62) ?hr ?_; (case hd => rfl); (case hg => rfl); (case hr => first | (go_simp; done) | (go_simp; rfl)); intro gb269 hg w19 hbox hb; have BK269 := As.mk (hbox); have GW269 := As.mk (gs w hg); have GE269 := As.mk (gs w hg); replace HB := As.mk (below_step (be w) hb); clear hb hbox hg; obtain ⟨hcz20_0, hcz20_1, hcz20_2, hcz20_3, hfz20_0, hfz20_1, hfz20_2, hfz20_3⟩ := cl4 BK269.out))
  go_ret
  exact ⟨ez, be w⟩
 rw [if_neg c17] at H
 have c17b0 : (((rd_T62 l0 a1).f0) == 4) = false := beq_eq_false_iff_ne.mpr c17
 have c17b1 : (((rd_T62 l0 a1).f0) != 4) = true := bne_iff_ne.mpr c17
 by_cases c21 : ((rd_T62 l0 a1).f0) = 5
 ·
  rw [if_pos c21] at H
  have c21b0 : (((rd_T62 l0 a1).f0) == 5) = true := beq_iff_eq.mpr c21
  have c21b1 : (((rd_T62 l0 a1).f0) != 5) = false := bne_eq_false_iff_eq.mpr c21
  clear c21
  by_cases c22 : 1 + ((rd_T62 l0 a1).f2).size ≤ 9223372036854775807
  rotate_left; · rw [if_neg c22] at H; exact absurd H (by simp)
  rw [if_pos c22] at H
  have c22b0 := eq_true c22
  have c22b1 : decide (1 + ((rd_T62 l0 a1).f2).size ≤ 9223372036854775807) = true := decide_eq_true c22
  try have c22b2 : (9223372036854775807 < 1 + ((rd_T62 l0 a1).f2).size) = False := eq_false (Nat.not_lt.2 c22)
  obtain rfl := Option.some.inj H
  have p268 : 0 ≤ (a1 : Int) := od
  have q268 : a1 < (l0.length : Int) := od
  obtain ⟨ad268, A268_3, c268_3, e268, hx268_0, hx268_1, hx268_2, hx268_3, hl268_3, hi268_3⟩ := at_T62 HR0.out a1 p268 q268
  cases e268
  have HR268_3 := As.mk hi268_3
  have HC268_3 := As.mk hl268_3
  clear hi268_3 hl268_3
  replace p268 := eq_true p268
  replace q268 := eq_true q268
  go_enter Tryz.func52, Tryz.ntmps52
  go_wp2_with (first | ((with_reducible refine gate_dst (N := 5) rfl ?_); refine box_event ?hg (N := 5) ?hd (cs := #[.int .i64 0, .int .i64 0, .string (⟨#[]⟩ : ByteArray), .slice none 0 0]) (t := 62) ?hr ?_; (case hd => rfl); (case hg => rfl); (case hr => first | (go_simp; done) | (go_simp; rfl)); intro gb269 hg w23 hbox hb; have BK269 := As.mk (hbox); have GW269 := As.mk (gs w hg); have GE269 := As.mk (gs w hg); replace HB := As.mk (below_step (be w) hb); clear hb hbox hg; obtain ⟨hcz24_0, hcz24_1, hcz24_2, hcz24_3, hfz24_0, hfz24_1, hfz24_2, hfz24_3⟩ := cl4 BK269.out))
  go_ret
  exact ⟨ez, be w⟩
 rw [if_neg c21] at H
 have c21b0 : (((rd_T62 l0 a1).f0) == 5) = false := beq_eq_false_iff_ne.mpr c21
 have c21b1 : (((rd_T62 l0 a1).f0) != 5) = true := bne_iff_ne.mpr c21
 by_cases c25 : ((rd_T62 l0 a1).f0) = 6
 ·
  rw [if_pos c25] at H
  have c25b0 : (((rd_T62 l0 a1).f0) == 6) = true := beq_iff_eq.mpr c25
  have c25b1 : (((rd_T62 l0 a1).f0) != 6) = false := bne_eq_false_iff_eq.mpr c25
  clear c25
  by_cases c26 : 5 + ((rd_T62 l0 a1).f2).size ≤ 9223372036854775807
  rotate_left; · rw [if_neg c26] at H; exact absurd H (by simp)
  rw [if_pos c26] at H
  have c26b0 := eq_true c26
  have c26b1 : decide (5 + ((rd_T62 l0 a1).f2).size ≤ 9223372036854775807) = true := decide_eq_true c26
  try have c26b2 : (9223372036854775807 < 5 + ((rd_T62 l0 a1).f2).size) = False := eq_false (Nat.not_lt.2 c26)
  obtain rfl := Option.some.inj H
  have p268 : 0 ≤ (a1 : Int) := od
  have q268 : a1 < (l0.length : Int) := od
  obtain ⟨ad268, A268_3, c268_3, e268, hx268_0, hx268_1, hx268_2, hx268_3, hl268_3, hi268_3⟩ := at_T62 HR0.out a1 p268 q268
  cases e268
  have HR268_3 := As.mk hi268_3
  have HC268_3 := As.mk hl268_3
  clear hi268_3 hl268_3
  replace p268 := eq_true p268
  replace q268 := eq_true q268
  go_enter Tryz.func52, Tryz.ntmps52
  go_wp2_with (first | ((with_reducible refine gate_dst (N := 5) rfl ?_); refine box_event ?hg (N := 5) ?hd (cs := #[.int .i64 0, .int .i64 0, .string (⟨#[]⟩ : ByteArray), .slice none 0 0]) (t := 62) ?hr ?_; (case hd => rfl); (case hg => rfl); (case hr => first | (go_simp; done) | (go_simp; rfl)); intro gb269 hg w27 hbox hb; have BK269 := As.mk (hbox); have GW269 := As.mk (gs w hg); have GE269 := As.mk (gs w hg); replace HB := As.mk (below_step (be w) hb); clear hb hbox hg; obtain ⟨hcz28_0, hcz28_1, hcz28_2, hcz28_3, hfz28_0, hfz28_1, hfz28_2, hfz28_3⟩ := cl4 BK269.out))
  go_ret
  exact ⟨ez, be w⟩
 rw [if_neg c25] at H
 have c25b0 : (((rd_T62 l0 a1).f0) == 6) = false := beq_eq_false_iff_ne.mpr c25
 have c25b1 : (((rd_T62 l0 a1).f0) != 6) = true := bne_iff_ne.mpr c25
 by_cases c29 : ((rd_T62 l0 a1).f0) = 7
 ·
  rw [if_pos c29] at H
  have c29b0 : (((rd_T62 l0 a1).f0) == 7) = true := beq_iff_eq.mpr c29
  have c29b1 : (((rd_T62 l0 a1).f0) != 7) = false := bne_eq_false_iff_eq.mpr c29
  clear c29
  obtain rfl := Option.some.inj H
  have p268 : 0 ≤ (a1 : Int) := od
  have q268 : a1 < (l0.length : Int) := od
  obtain ⟨ad268, A268_3, c268_3, e268, hx268_0, hx268_1, hx268_2, hx268_3, hl268_3, hi268_3⟩ := at_T62 HR0.out a1 p268 q268
  cases e268
  have HR268_3 := As.mk hi268_3
  have HC268_3 := As.mk hl268_3
  clear hi268_3 hl268_3
  replace p268 := eq_true p268
  replace q268 := eq_true q268
  go_enter Tryz.func52, Tryz.ntmps52
  go_wp2_with (first | ((with_reducible refine gate_dst (N := 5) rfl ?_); refine box_event ?hg (N := 5) ?hd (cs := #[.int .i64 0, .int .i64 0, .string (⟨#[]⟩ : ByteArray), .slice none 0 0]) (t := 62) ?hr ?_; (case hd => rfl); (case hg => rfl); (case hr => first | (go_simp; done) | (go_simp; rfl)); intro gb269 hg w30 hbox hb; have BK269 := As.mk (hbox); have GW269 := As.mk (gs w hg); have GE269 := As.mk (gs w hg); replace HB := As.mk (below_step (be w) hb); clear hb hbox hg; obtain ⟨hcz31_0, hcz31_1, hcz31_2, hcz31_3, hfz31_0, hfz31_1, hfz31_2, hfz31_3⟩ := cl4 BK269.out))
  go_ret
  exact ⟨ez, be w⟩
 rw [if_neg c29] at H
 have c29b0 : (((rd_T62 l0 a1).f0) == 7) = false := beq_eq_false_iff_ne.mpr c29
 have c29b1 : (((rd_T62 l0 a1).f0) != 7) = true := bne_iff_ne.mpr c29
 by_cases c32 : ((rd_T62 l0 a1).f0) = 8
 ·
  rw [if_pos c32] at H
  have c32b0 : (((rd_T62 l0 a1).f0) == 8) = true := beq_iff_eq.mpr c32
  have c32b1 : (((rd_T62 l0 a1).f0) != 8) = false := bne_eq_false_iff_eq.mpr c32
  clear c32
  by_cases c33 : 0 < (((rd_T62 l0 a1).f3).length : Int)
  rotate_left; · rw [if_neg c33] at H; exact absurd H (by simp)
  rw [if_pos c33] at H
  have c33b0 : decide (0 < (((rd_T62 l0 a1).f3).length : Int)) = true := decide_eq_true c33
  have c33b1 : decide (0 < ((rd_T62 l0 a1).f3).length) = true := decide_eq_true (by omega)
  clear c33
  obtain ⟨t272, A340, H⟩ := Option.bind_eq_some_iff.mp H
  try dsimp only at H
  have A34 := As.mk A340
  clear A340
  by_cases c35 : 4 + t272.size ≤ 9223372036854775807
  rotate_left; · rw [if_neg c35] at H; exact absurd H (by simp)
  rw [if_pos c35] at H
  have c35b0 := eq_true c35
  have c35b1 : decide (4 + t272.size ≤ 9223372036854775807) = true := decide_eq_true c35
  try have c35b2 : (9223372036854775807 < 4 + t272.size) = False := eq_false (Nat.not_lt.2 c35)
  obtain rfl := Option.some.inj H
  have p268 : 0 ≤ (a1 : Int) := od
  have q268 : a1 < (l0.length : Int) := od
  obtain ⟨ad268, A268_3, c268_3, e268, hx268_0, hx268_1, hx268_2, hx268_3, hl268_3, hi268_3⟩ := at_T62 HR0.out a1 p268 q268
  cases e268
  have HR268_3 := As.mk hi268_3
  have HC268_3 := As.mk hl268_3
  clear hi268_3 hl268_3
  replace p268 := eq_true p268
  replace q268 := eq_true q268
  go_enter Tryz.func52, Tryz.ntmps52
  go_wp2_with (first | ((with_reducible refine gate_dst (N := 5) rfl ?_); refine box_event ?hg (N := 5) ?hd (cs := #[.int .i64 0, .int .i64 0, .string (⟨#[]⟩ : ByteArray), .slice none 0 0]) (t := 62) ?hr ?_; (case hd => rfl); (case hg => rfl); (case hr => first | (go_simp; done) | (go_simp; rfl)); intro gb269 hg w36 hbox hb; have BK269 := As.mk (hbox); have GW269 := As.mk (gs w hg); have GE269 := As.mk (gs w hg); replace HB := As.mk (below_step (be w) hb); clear hb hbox hg; obtain ⟨hcz37_0, hcz37_1, hcz37_2, hcz37_3, hfz37_0, hfz37_1, hfz37_2, hfz37_3⟩ := cl4 BK269.out; have p271 : 0 ≤ (0 : Int) := (by omega); have q271 : 0 < (((rd_T62 l0 a1).f3).length : Int) := od; obtain ⟨ad271, e271, hx271_0⟩ := Kd.at_int HR268_3.out 0 p271 q271; cases e271; have qi271 : (0 < ((rd_T62 l0 a1).f3).length) = True := eq_true (by omega); (try rw [show ((0 : Int)).toNat = 0 from rfl] at hx271_0); (try rw [Addr.add_zero'] at hx271_0); have hn271_0 : ad271.block ≠ gb269 := (by first | exact nb2 hx271_0 GW269.out | exact nb1 hx271_0 GW269.out); have hn271_1 : ad271.block ≠ gb269 := (by first | exact nb2 hx271_0 GW269.out | exact nb1 hx271_0 GW269.out); have hn271_2 : ad271.block ≠ gb269 := (by first | exact nb2 hx271_0 GW269.out | exact nb1 hx271_0 GW269.out); have hn271_3 : ad271.block ≠ gb269 := (by first | exact nb2 hx271_0 GW269.out | exact nb1 hx271_0 GW269.out); replace hx271_0 := ce HB.out hx271_0; replace hx271_0 := cfz (j := 0) (.int .i64 ((rd_T62 l0 a1).f0)) hx271_0 hn271_0; replace hx271_0 := cfz (j := 1) (.int .i64 ((rd_T62 l0 a1).f1)) hx271_0 hn271_1; replace hx271_0 := cfz (j := 2) (.string ((rd_T62 l0 a1).f2)) hx271_0 hn271_2; replace hx271_0 := cfz (j := 3) (.slice (some ad271) ((rd_T62 l0 a1).f3).length c268_3) hx271_0 hn271_3; clear hn271_0; clear hn271_1; clear hn271_2; clear hn271_3; replace p271 := eq_true p271; replace q271 := eq_true q271) | ((with_reducible refine gate_callee (f := 79) rfl ?_); refine goesL_ (some 52) rfl rfl Tryz.func79 (by kernel_rfl) rfl #[.slice (some ad268) l0.length c0, .int .i64 (rd ((rd_T62 l0 a1).f3) 0)] rfl (by (try simp only [lm]); first | done | rfl | (simp only [List.length_drop, List.length_take]; rfl)) ?_; (with_reducible refine (ih_spec_l06Kid k (by omega) _ _ l0 (rd ((rd_T62 l0 a1).f3) 0) t272 _ ?side1 ?side2 A34.out).mono ?_); (case side1 => exact Kd.C_below HR0.out (be w)); (case side2 => exact HC0.out); rintro e w38 ⟨rfl, hb⟩; refine ⟨_, rfl, ?_⟩; replace BK269 := As.mk (blk_below (g := gb269) (o := .cells #[.int .i64 ((rd_T62 l0 a1).f0), .int .i64 ((rd_T62 l0 a1).f1), .string ((rd_T62 l0 a1).f2), .slice (some ad271) ((rd_T62 l0 a1).f3).length c268_3] 62 (0, 0)) (by refine pl ?_; refine blk_put (cs := #[.int .i64 ((rd_T62 l0 a1).f0), .int .i64 ((rd_T62 l0 a1).f1), .string ((rd_T62 l0 a1).f2), .slice none 0 0]) ?_ 3 _ rfl; refine pl ?_; refine blk_put (cs := #[.int .i64 ((rd_T62 l0 a1).f0), .int .i64 ((rd_T62 l0 a1).f1), .string (⟨#[]⟩ : ByteArray), .slice none 0 0]) ?_ 2 _ rfl; refine pl ?_; refine blk_put (cs := #[.int .i64 ((rd_T62 l0 a1).f0), .int .i64 0, .string (⟨#[]⟩ : ByteArray), .slice none 0 0]) ?_ 1 _ rfl; refine pl ?_; refine blk_put (cs := #[.int .i64 0, .int .i64 0, .string (⟨#[]⟩ : ByteArray), .slice none 0 0]) ?_ 0 _ rfl; exact bx BK269.out) hb); replace HB := As.mk (below_step (be w) hb); (try clear hb); (try clear hb2); (try clear hk); (try clear hi)))
  go_ret
  exact ⟨ez, be w⟩
 rw [if_neg c32] at H
 have c32b0 : (((rd_T62 l0 a1).f0) == 8) = false := beq_eq_false_iff_ne.mpr c32
 have c32b1 : (((rd_T62 l0 a1).f0) != 8) = true := bne_iff_ne.mpr c32
 by_cases c39 : ((rd_T62 l0 a1).f0) = 12
 ·
  rw [if_pos c39] at H
  have c39b0 : (((rd_T62 l0 a1).f0) == 12) = true := beq_iff_eq.mpr c39
  have c39b1 : (((rd_T62 l0 a1).f0) != 12) = false := bne_eq_false_iff_eq.mpr c39
  clear c39
  by_cases c40 : ((rd_T62 l0 a1).f2).size + 1 ≤ 9223372036854775807
  rotate_left; · rw [if_neg c40] at H; exact absurd H (by simp)
  rw [if_pos c40] at H
  have c40b0 := eq_true c40
  have c40b1 : decide (((rd_T62 l0 a1).f2).size + 1 ≤ 9223372036854775807) = true := decide_eq_true c40
  try have c40b2 : (9223372036854775807 < ((rd_T62 l0 a1).f2).size + 1) = False := eq_false (Nat.not_lt.2 c40)
  have H' := As.mk H
  clear H
  have p268 : 0 ≤ (a1 : Int) := od
  have q268 : a1 < (l0.length : Int) := od
  obtain ⟨ad268, A268_3, c268_3, e268, hx268_0, hx268_1, hx268_2, hx268_3, hl268_3, hi268_3⟩ := at_T62 HR0.out a1 p268 q268
  cases e268
  have HR268_3 := As.mk hi268_3
  have HC268_3 := As.mk hl268_3
  clear hi268_3 hl268_3
  replace p268 := eq_true p268
  replace q268 := eq_true q268
  go_enter Tryz.func52, Tryz.ntmps52
  go_wp2_with (first | ((with_reducible refine gate_dst (N := 5) rfl ?_); refine box_event ?hg (N := 5) ?hd (cs := #[.int .i64 0, .int .i64 0, .string (⟨#[]⟩ : ByteArray), .slice none 0 0]) (t := 62) ?hr ?_; (case hd => rfl); (case hg => rfl); (case hr => first | (go_simp; done) | (go_simp; rfl)); intro gb269 hg w41 hbox hb; have BK269 := As.mk (hbox); have GW269 := As.mk (gs w hg); have GE269 := As.mk (gs w hg); replace HB := As.mk (below_step (be w) hb); clear hb hbox hg; obtain ⟨hcz42_0, hcz42_1, hcz42_2, hcz42_3, hfz42_0, hfz42_1, hfz42_2, hfz42_3⟩ := cl4 BK269.out))
  go_loopg [6, 7] k (fun kq v6 v7 w' => ∃ (x6_1 : ByteArray) (x7_1 : Int), v6 = .string x6_1 ∧ v7 = .int .i64 x7_1 ∧ As (spec_l06Value.l0 kq l0 x6_1 x7_1 ((rd_T62 l0 a1).f0) ((rd_T62 l0 a1).f1) ((rd_T62 l0 a1).f2) ((rd_T62 l0 a1).f3) = some r) ∧ As (kq ≤ k) ∧ As (w'.heap[gb269]? = some (.cells #[.int .i64 ((rd_T62 l0 a1).f0), .int .i64 ((rd_T62 l0 a1).f1), .string ((rd_T62 l0 a1).f2), (.slice A268_3 ((rd_T62 l0 a1).f3).length c268_3)] 62 (0, 0))) ∧ As (Below w.heap.size w w'))
  case atStart => exact ⟨(((rd_T62 l0 a1).f2) ++ (⟨#[40]⟩ : ByteArray)), (0), (by first | rfl | (simp; done) | (simp [*]; done)), (by first | rfl | (simp; done) | (simp [*]; done)), H', ⟨Nat.le_refl _⟩, ⟨by refine pl ?_; refine blk_put (cs := #[.int .i64 ((rd_T62 l0 a1).f0), .int .i64 ((rd_T62 l0 a1).f1), .string ((rd_T62 l0 a1).f2), .slice none 0 0]) ?_ 3 _ rfl; refine pl ?_; refine blk_put (cs := #[.int .i64 ((rd_T62 l0 a1).f0), .int .i64 ((rd_T62 l0 a1).f1), .string (⟨#[]⟩ : ByteArray), .slice none 0 0]) ?_ 2 _ rfl; refine pl ?_; refine blk_put (cs := #[.int .i64 ((rd_T62 l0 a1).f0), .int .i64 0, .string (⟨#[]⟩ : ByteArray), .slice none 0 0]) ?_ 1 _ rfl; refine pl ?_; refine blk_put (cs := #[.int .i64 0, .int .i64 0, .string (⟨#[]⟩ : ByteArray), .slice none 0 0]) ?_ 0 _ rfl; exact bx BK269.out⟩, ⟨be w⟩⟩
  case round =>
   clear H'
   (try clear c3); (try clear c3b0); (try clear c4); (try clear c4b0); (try clear c5); (try clear c5b0); (try clear c5b1); (try clear c10); (try clear c10b0); (try clear c10b1); (try clear c13); (try clear c13b0); (try clear c13b1); (try clear c17); (try clear c17b0); (try clear c17b1); (try clear c21); (try clear c21b0); (try clear c21b1); (try clear c25); (try clear c25b0); (try clear c25b1); (try clear c29); (try clear c29b0); (try clear c29b1); (try clear c32); (try clear c32b0); (try clear c32b1); (try clear c39); (try clear c39b0); (try clear c39b1); (try clear c40); (try clear c40b0); (try clear c40b1); (try clear c40b2); (try clear hcz42_0); (try clear hcz42_1); (try clear hcz42_2); (try clear hcz42_3); (try clear hfz42_0); (try clear hfz42_1); (try clear hfz42_2); (try clear hfz42_3); (try clear hx268_0); (try clear hx268_1); (try clear hx268_2); (try clear hx268_3); (try clear p268); (try clear q268)
   obtain ⟨x6_1, x7_1, rfl, rfl, HA, HK1, BK269, HB⟩ := hrel
   cases gk with
   | zero => exact absurd HA.out (by simp [spec_l06Value.l0])
   | succ k1 =>
    have H := HA.out
    clear HA
    simp only [spec_l06Value.l0] at H
    by_cases c43 : x7_1 < (((rd_T62 l0 a1).f3).length : Int)
    rotate_left
    ·
     rw [if_neg c43] at H
     have c43b0 : decide (x7_1 < (((rd_T62 l0 a1).f3).length : Int)) = false := decide_eq_false c43
     clear c43
     by_cases c56 : x6_1.size + 1 ≤ 9223372036854775807
     rotate_left; · rw [if_neg c56] at H; exact absurd H (by simp)
     rw [if_pos c56] at H
     have c56b0 := eq_true c56
     have c56b1 : decide (x6_1.size + 1 ≤ 9223372036854775807) = true := decide_eq_true c56
     try have c56b2 : (9223372036854775807 < x6_1.size + 1) = False := eq_false (Nat.not_lt.2 c56)
     obtain rfl := Option.some.inj H
     obtain ⟨hcz57_0, hcz57_1, hcz57_2, hcz57_3, hfz57_0, hfz57_1, hfz57_2, hfz57_3⟩ := cl4 BK269.out
     go_wp2
     go_ret
     exact ⟨ez, be w⟩
    rw [if_pos c43] at H
    have c43b0 : decide (x7_1 < (((rd_T62 l0 a1).f3).length : Int)) = true := decide_eq_true c43
    clear c43
    by_cases c44 : x7_1 > 0
    rotate_left
    ·
     rw [if_neg c44] at H
     have c44b0 : decide (0 < x7_1) = false := decide_eq_false c44
     clear c44
     by_cases c51 : 0 ≤ x7_1
     rotate_left; · rw [if_neg c51] at H; exact absurd H (by simp)
     rw [if_pos c51] at H
     have c51b0 : decide (0 ≤ x7_1) = true := decide_eq_true c51
     clear c51
     obtain ⟨t276, A520, H⟩ := Option.bind_eq_some_iff.mp H
     try dsimp only at H
     have A52 := As.mk A520
     clear A520
     by_cases c53 : x6_1.size + t276.size ≤ 9223372036854775807
     rotate_left; · rw [if_neg c53] at H; exact absurd H (by simp)
     rw [if_pos c53] at H
     have c53b0 := eq_true c53
     have c53b1 : decide (x6_1.size + t276.size ≤ 9223372036854775807) = true := decide_eq_true c53
     try have c53b2 : (9223372036854775807 < x6_1.size + t276.size) = False := eq_false (Nat.not_lt.2 c53)
     have H' := As.mk H
     clear H
     obtain ⟨hcz54_0, hcz54_1, hcz54_2, hcz54_3, hfz54_0, hfz54_1, hfz54_2, hfz54_3⟩ := cl4 BK269.out
     have p275 : 0 ≤ (x7_1 : Int) := od
     have q275 : x7_1 < (((rd_T62 l0 a1).f3).length : Int) := od
     obtain ⟨ad275, e275, hx275_0⟩ := Kd.at_int HR268_3.out x7_1 p275 q275
     cases e275
     replace hx275_0 := ce HB.out hx275_0
     replace p275 := eq_true p275
     replace q275 := eq_true q275
     go_wp2_with (first | ((with_reducible refine gate_callee (f := 52) rfl ?_); refine goesL_ (some 77) rfl rfl Tryz.func52 (by kernel_rfl) rfl #[.slice (some ad268) l0.length c0, .int .i64 (rd ((rd_T62 l0 a1).f3) x7_1)] rfl (by (try simp only [lm]); first | done | rfl | (simp only [List.length_drop, List.length_take]; rfl)) ?_; (with_reducible refine (ih k1 (by have := HK1.out; omega) _ _ l0 (rd ((rd_T62 l0 a1).f3) x7_1) t276 _ ?side1 ?side2 A52.out).mono ?_); (case side1 => exact Kd.C_below HR0.out (be w)); (case side2 => exact HC0.out); rintro e w55 ⟨rfl, hb⟩; refine ⟨_, rfl, ?_⟩; replace BK269 := As.mk (blk_below (bx BK269.out) hb); replace HB := As.mk (below_step (be w) hb); (try clear hb); (try clear hb2); (try clear hk); (try clear hi)))
     go_roundg k1
     case measure => have := HK1.out; omega
     case rel => exact ⟨(x6_1 ++ t276), (wrap64 (x7_1 + 1)), (by first | rfl | (simp; done) | (simp [*]; done)), (by first | rfl | (simp; done) | (simp [*]; done)), H', ⟨by have := HK1.out; omega⟩, ⟨bx BK269.out⟩, ⟨be w⟩⟩
    rw [if_pos c44] at H
    have c44b0 : decide (0 < x7_1) = true := decide_eq_true c44
    clear c44
    by_cases c45 : x6_1.size + 2 ≤ 9223372036854775807
    rotate_left; · rw [if_neg c45] at H; exact absurd H (by simp)
    rw [if_pos c45] at H
    have c45b0 := eq_true c45
    have c45b1 : decide (x6_1.size + 2 ≤ 9223372036854775807) = true := decide_eq_true c45
    try have c45b2 : (9223372036854775807 < x6_1.size + 2) = False := eq_false (Nat.not_lt.2 c45)
    by_cases c46 : 0 ≤ x7_1
    rotate_left; · rw [if_neg c46] at H; exact absurd H (by simp)
    rw [if_pos c46] at H
    have c46b0 : decide (0 ≤ x7_1) = true := decide_eq_true c46
    clear c46
    obtain ⟨t274, A470, H⟩ := Option.bind_eq_some_iff.mp H
    try dsimp only at H
    have A47 := As.mk A470
    clear A470
    by_cases c48 : (x6_1 ++ (⟨#[44, 32]⟩ : ByteArray)).size + t274.size ≤ 9223372036854775807
    rotate_left; · rw [if_neg c48] at H; exact absurd H (by simp)
    rw [if_pos c48] at H
    have c48b0 := eq_true c48
    have c48b1 : decide ((x6_1 ++ (⟨#[44, 32]⟩ : ByteArray)).size + t274.size ≤ 9223372036854775807) = true := decide_eq_true c48
    try have c48b2 : (9223372036854775807 < (x6_1 ++ (⟨#[44, 32]⟩ : ByteArray)).size + t274.size) = False := eq_false (Nat.not_lt.2 c48)
    try have c48b4 : (9223372036854775807 < x6_1.size + 2 + t274.size) = False := eq_false (Nat.not_lt.2 (by have h_ := c48; simp only [ByteArray.size_append] at h_; exact h_))
    have H' := As.mk H
    clear H
    obtain ⟨hcz49_0, hcz49_1, hcz49_2, hcz49_3, hfz49_0, hfz49_1, hfz49_2, hfz49_3⟩ := cl4 BK269.out
    have p273 : 0 ≤ (x7_1 : Int) := od
    have q273 : x7_1 < (((rd_T62 l0 a1).f3).length : Int) := od
    obtain ⟨ad273, e273, hx273_0⟩ := Kd.at_int HR268_3.out x7_1 p273 q273
    cases e273
    replace hx273_0 := ce HB.out hx273_0
    replace p273 := eq_true p273
    replace q273 := eq_true q273
    go_wp2_with (first | ((with_reducible refine gate_callee (f := 52) rfl ?_); refine goesL_ (some 77) rfl rfl Tryz.func52 (by kernel_rfl) rfl #[.slice (some ad268) l0.length c0, .int .i64 (rd ((rd_T62 l0 a1).f3) x7_1)] rfl (by (try simp only [lm]); first | done | rfl | (simp only [List.length_drop, List.length_take]; rfl)) ?_; (with_reducible refine (ih k1 (by have := HK1.out; omega) _ _ l0 (rd ((rd_T62 l0 a1).f3) x7_1) t274 _ ?side1 ?side2 A47.out).mono ?_); (case side1 => exact Kd.C_below HR0.out (be w)); (case side2 => exact HC0.out); rintro e w50 ⟨rfl, hb⟩; refine ⟨_, rfl, ?_⟩; replace BK269 := As.mk (blk_below (bx BK269.out) hb); replace HB := As.mk (below_step (be w) hb); (try clear hb); (try clear hb2); (try clear hk); (try clear hi)))
    go_roundg k1
    case measure => have := HK1.out; omega
    case rel => exact ⟨((x6_1 ++ (⟨#[44, 32]⟩ : ByteArray)) ++ t274), (wrap64 (x7_1 + 1)), (by first | rfl | (simp; done) | (simp [*]; done)), (by first | rfl | (simp; done) | (simp [*]; done)), H', ⟨by have := HK1.out; omega⟩, ⟨bx BK269.out⟩, ⟨be w⟩⟩
 rw [if_neg c39] at H
 have c39b0 : (((rd_T62 l0 a1).f0) == 12) = false := beq_eq_false_iff_ne.mpr c39
 have c39b1 : (((rd_T62 l0 a1).f0) != 12) = true := bne_iff_ne.mpr c39
 by_cases c58 : 0 < (((rd_T62 l0 a1).f3).length : Int)
 rotate_left; · rw [if_neg c58] at H; exact absurd H (by simp)
 rw [if_pos c58] at H
 have c58b0 : decide (0 < (((rd_T62 l0 a1).f3).length : Int)) = true := decide_eq_true c58
 have c58b1 : decide (0 < ((rd_T62 l0 a1).f3).length) = true := decide_eq_true (by omega)
 clear c58
 obtain ⟨t278, A590, H⟩ := Option.bind_eq_some_iff.mp H
 try dsimp only at H
 have A59 := As.mk A590
 clear A590
 obtain ⟨t279, A600, H⟩ := Option.bind_eq_some_iff.mp H
 try dsimp only at H
 have A60 := As.mk A600
 clear A600
 by_cases c61 : t278.size + t279.size ≤ 9223372036854775807
 rotate_left; · rw [if_neg c61] at H; exact absurd H (by simp)
 rw [if_pos c61] at H
 have c61b0 := eq_true c61
 have c61b1 : decide (t278.size + t279.size ≤ 9223372036854775807) = true := decide_eq_true c61
 try have c61b2 : (9223372036854775807 < t278.size + t279.size) = False := eq_false (Nat.not_lt.2 c61)
 by_cases c62 : 1 < (((rd_T62 l0 a1).f3).length : Int)
 rotate_left; · rw [if_neg c62] at H; exact absurd H (by simp)
 rw [if_pos c62] at H
 have c62b0 : decide (1 < (((rd_T62 l0 a1).f3).length : Int)) = true := decide_eq_true c62
 have c62b1 : decide (1 < ((rd_T62 l0 a1).f3).length) = true := decide_eq_true (by omega)
 clear c62
 obtain ⟨t281, A630, H⟩ := Option.bind_eq_some_iff.mp H
 try dsimp only at H
 have A63 := As.mk A630
 clear A630
 by_cases c64 : (t278 ++ t279).size + t281.size ≤ 9223372036854775807
 rotate_left; · rw [if_neg c64] at H; exact absurd H (by simp)
 rw [if_pos c64] at H
 have c64b0 := eq_true c64
 have c64b1 : decide ((t278 ++ t279).size + t281.size ≤ 9223372036854775807) = true := decide_eq_true c64
 try have c64b2 : (9223372036854775807 < (t278 ++ t279).size + t281.size) = False := eq_false (Nat.not_lt.2 c64)
 try have c64b4 : (9223372036854775807 < t278.size + t279.size + t281.size) = False := eq_false (Nat.not_lt.2 (by have h_ := c64; simp only [ByteArray.size_append] at h_; exact h_))
 obtain rfl := Option.some.inj H
 have p268 : 0 ≤ (a1 : Int) := od
 have q268 : a1 < (l0.length : Int) := od
 obtain ⟨ad268, A268_3, c268_3, e268, hx268_0, hx268_1, hx268_2, hx268_3, hl268_3, hi268_3⟩ := at_T62 HR0.out a1 p268 q268
 cases e268
 have HR268_3 := As.mk hi268_3
 have HC268_3 := As.mk hl268_3
 clear hi268_3 hl268_3
 replace p268 := eq_true p268
 replace q268 := eq_true q268
 go_enter Tryz.func52, Tryz.ntmps52
 try go_wp2_with (first | ((with_reducible refine gate_dst (N := 5) rfl ?_); refine box_event ?hg (N := 5) ?hd (cs := #[.int .i64 0, .int .i64 0, .string (⟨#[]⟩ : ByteArray), .slice none 0 0]) (t := 62) ?hr ?_; (case hd => rfl); (case hg => rfl); (case hr => first | (go_simp; done) | (go_simp; rfl)); intro gb269 hg w65 hbox hb; have BK269 := As.mk (hbox); have GW269 := As.mk (gs w hg); have GE269 := As.mk (gs w hg); replace HB := As.mk (below_step (be w) hb); clear hb hbox hg; obtain ⟨hcz66_0, hcz66_1, hcz66_2, hcz66_3, hfz66_0, hfz66_1, hfz66_2, hfz66_3⟩ := cl4 BK269.out))
 have n0_ : As (((((w65.setCell ⟨gb269, 0, none⟩ (.int .i64 ((rd_T62 l0 a1).f0))).setCell ⟨gb269, 1, none⟩ (.int .i64 ((rd_T62 l0 a1).f1))).setCell ⟨gb269, 2, none⟩ (.string ((rd_T62 l0 a1).f2))).setCell ⟨gb269, 3, none⟩ (.slice A268_3 ((rd_T62 l0 a1).f3).length c268_3)).heap[gb269]? = some (.cells #[.int .i64 ((rd_T62 l0 a1).f0), .int .i64 ((rd_T62 l0 a1).f1), .string ((rd_T62 l0 a1).f2), .slice A268_3 ((rd_T62 l0 a1).f3).length c268_3] 62 (0, 0))) := ⟨by refine pl ?_; refine blk_put (cs := #[.int .i64 ((rd_T62 l0 a1).f0), .int .i64 ((rd_T62 l0 a1).f1), .string ((rd_T62 l0 a1).f2), .slice none 0 0]) ?_ 3 _ rfl; refine pl ?_; refine blk_put (cs := #[.int .i64 ((rd_T62 l0 a1).f0), .int .i64 ((rd_T62 l0 a1).f1), .string (⟨#[]⟩ : ByteArray), .slice none 0 0]) ?_ 2 _ rfl; refine pl ?_; refine blk_put (cs := #[.int .i64 ((rd_T62 l0 a1).f0), .int .i64 0, .string (⟨#[]⟩ : ByteArray), .slice none 0 0]) ?_ 1 _ rfl; refine pl ?_; refine blk_put (cs := #[.int .i64 0, .int .i64 0, .string (⟨#[]⟩ : ByteArray), .slice none 0 0]) ?_ 0 _ rfl; exact bx BK269.out⟩
 have n1_ : As (Below w.heap.size w ((((w65.setCell ⟨gb269, 0, none⟩ (.int .i64 ((rd_T62 l0 a1).f0))).setCell ⟨gb269, 1, none⟩ (.int .i64 ((rd_T62 l0 a1).f1))).setCell ⟨gb269, 2, none⟩ (.string ((rd_T62 l0 a1).f2))).setCell ⟨gb269, 3, none⟩ (.slice A268_3 ((rd_T62 l0 a1).f3).length c268_3))) := ⟨be w⟩
 (try clear BK269)
 (try clear HB)
 generalize ((((w65.setCell ⟨gb269, 0, none⟩ (.int .i64 ((rd_T62 l0 a1).f0))).setCell ⟨gb269, 1, none⟩ (.int .i64 ((rd_T62 l0 a1).f1))).setCell ⟨gb269, 2, none⟩ (.string ((rd_T62 l0 a1).f2))).setCell ⟨gb269, 3, none⟩ (.slice A268_3 ((rd_T62 l0 a1).f3).length c268_3)) = w67 at n0_ n1_ ⊢
 have BK269 := n0_
 have HB := n1_
 clear n0_ n1_
 replace BK269 := As.mk (blk_drew BK269.out)
 replace HB := As.mk (below_drew1 HB.out)
 have p277 : 0 ≤ (0 : Int) := (by omega)
 have q277 : 0 < (((rd_T62 l0 a1).f3).length : Int) := od
 obtain ⟨ad277, e277, hx277_0⟩ := Kd.at_int HR268_3.out 0 p277 q277
 have hw277_0 := hx277_0
 (try rw [show ((0 : Int)).toNat = 0 from rfl] at hw277_0)
 (try rw [show 0 * 1 = 0 from rfl] at hw277_0)
 (try rw [Addr.add_zero'] at hw277_0)
 cases e277
 have qi277 : (0 < ((rd_T62 l0 a1).f3).length) = True := eq_true (by omega)
 (try rw [show ((0 : Int)).toNat = 0 from rfl] at hx277_0)
 (try rw [Addr.add_zero'] at hx277_0)
 replace hx277_0 := ce HB.out hx277_0
 replace p277 := eq_true p277
 replace q277 := eq_true q277
 have p280 : 0 ≤ (1 : Int) := (by omega)
 have q280 : 1 < (((rd_T62 l0 a1).f3).length : Int) := od
 obtain ⟨ad280, e280, hx280_0⟩ := Kd.at_int HR268_3.out 1 p280 q280
 have hw280_0 := hx280_0
 (try rw [show ((1 : Int)).toNat = 1 from rfl] at hw280_0)
 (try rw [show 1 * 1 = 1 from rfl] at hw280_0)
 (try simp only [Nat.reduceMul, Nat.reduceEqDiff, Go.Addr.add, ↓reduceIte] at hw280_0)
 obtain rfl : ad277 = ad280 := (by injection e280)
 (try simp only [show (1 : Int).toNat = 1 from rfl, Nat.reduceMul, Nat.reduceEqDiff, Go.Addr.add, ↓reduceIte] at hx280_0)
 have qi280 : (1 < ((rd_T62 l0 a1).f3).length) = True := eq_true (by omega)
 (try rw [show ((1 : Int)).toNat = 1 from rfl] at hx280_0)
 replace hx280_0 := ce HB.out hx280_0
 replace p280 := eq_true p280
 replace q280 := eq_true q280
 refine start_ (n := 18) (S := fun w' => w'.cell? ⟨gb269, 0, none⟩ = some (.int .i64 ((rd_T62 l0 a1).f0)) ∧ w'.cell? ⟨gb269, 1, none⟩ = some (.int .i64 ((rd_T62 l0 a1).f1)) ∧ w'.cell? ⟨gb269, 2, none⟩ = some (.string ((rd_T62 l0 a1).f2)) ∧ w'.cell? ⟨gb269, 3, none⟩ = some (.slice (some ad277) ((rd_T62 l0 a1).f3).length c268_3) ∧ w'.cell? ad277 = some (.int .i64 (rd ((rd_T62 l0 a1).f3) 0)) ∧ w'.cell? ⟨ad277.block, ad277.off + 1, none⟩ = some (.int .i64 (rd ((rd_T62 l0 a1).f3) 1))) (ds := []) #[O, O, O, O, O, O, O, O, O, O, O, O, O, O, O, O, O, O] (by kernel_rfl) rfl rfl ⟨(blk_cell BK269.out 0).trans rfl, (blk_cell BK269.out 1).trans rfl, (blk_cell BK269.out 2).trans rfl, (blk_cell BK269.out 3).trans rfl, (ce HB.out hw277_0 :), (ce HB.out hw280_0 :)⟩ (fun hHeld => ?_); refine with_tabW spec_l06Value.tab28 spec_l06Value.bits28 (fun HT_ HW_ => ?_)
 generalize w67.drew = w68 at BK269 HB hx277_0 hx280_0 hHeld ⊢
 refine pure_ (i := 0) (N := some 81) (v := ?_) (a' := ?_) #[I, O, O, O, O, O, O, O, O, O, O, O, O, O, O, O, O, O] rfl rfl (any_of HT_.out (by kernel_rfl)) (fun _ _ _ h => h) (Or.inl ⟨by rfl, ?_⟩) ?_ ?_
 rotate_left; · intro w'; go_simp; with_reducible rfl
 rotate_left; · simp only [pk, i64_w, i32_w]; rfl
 refine pure_ (i := 1) (N := some 82) (v := ?_) (a' := ?_) #[I, I, O, O, O, O, O, O, O, O, O, O, O, O, O, O, O, O] rfl rfl (any_of HT_.out (by kernel_rfl)) (fun _ _ _ h => h) (Or.inl ⟨by rfl, ?_⟩) ?_ ?_
 rotate_left; · intro w'; go_simp; with_reducible rfl
 rotate_left; · simp only [pk, i64_w, i32_w]; rfl
 refine pure_ (i := 6) (N := some 87) (v := ?_) (a' := ?_) #[I, I, O, O, O, O, I, O, O, O, O, O, O, O, O, O, O, O] rfl rfl (any_of HT_.out (by kernel_rfl)) (fun _ _ _ h => h) (Or.inl ⟨by rfl, ?_⟩) ?_ ?_
 rotate_left; · intro w'; go_simp; with_reducible rfl
 rotate_left; · simp only [pk, i64_w, i32_w]; rfl
 refine pure_ (i := 10) (N := some 91) (v := ?_) (a' := ?_) #[I, I, O, O, O, O, I, O, O, O, I, O, O, O, O, O, O, O] rfl rfl (any_of HT_.out (by kernel_rfl)) (fun _ _ _ h => h) (Or.inl ⟨by rfl, ?_⟩) ?_ ?_
 rotate_left; · intro w'; go_simp; with_reducible rfl
 rotate_left; · simp only [pk, i64_w, i32_w]; rfl
 refine pure_ (i := 11) (N := some 92) (v := ?_) (a' := ?_) #[I, I, O, O, O, O, I, O, O, O, I, I, O, O, O, O, O, O] rfl rfl (any_of HT_.out (by kernel_rfl)) (fun _ _ _ h => h) (Or.inl ⟨by rfl, ?_⟩) ?_ ?_
 rotate_left; · intro w'; go_simp; with_reducible rfl
 rotate_left; · simp only [pk, i64_w, i32_w]; rfl
 refine take_ (i := 2) (N := some 83) (v := ?_) (a' := ?_) #[I, I, I, O, O, O, I, O, O, O, I, I, O, O, O, O, O, O] rfl rfl (take_ofW HT_.out HW_.out (by kernel_rfl)) (fun _ _ _ h => h) (Or.inl ⟨by rfl, ?_⟩) hHeld ?_ ?_
 rotate_left; · rintro w' ⟨s0, s1, s2, s3, s4, s5⟩; go_simp; with_reducible rfl
 rotate_left; · simp only [pk, i64_w, i32_w]; rfl
 refine pure_ (i := 3) (N := some 84) (v := ?_) (a' := ?_) #[I, I, I, I, O, O, I, O, O, O, I, I, O, O, O, O, O, O] rfl rfl (any_of HT_.out (by kernel_rfl)) (fun _ _ _ h => h) (Or.inl ⟨by rfl, ?_⟩) ?_ ?_
 rotate_left; · intro w'; go_simp; with_reducible rfl
 rotate_left; · simp only [pk, i64_w, i32_w]; rfl
 refine take_ (i := 4) (N := some 85) (v := ?_) (a' := ?_) #[I, I, I, I, I, O, I, O, O, O, I, I, O, O, O, O, O, O] rfl rfl (take_ofW HT_.out HW_.out (by kernel_rfl)) (fun _ _ _ h => h) (Or.inl ⟨by rfl, ?_⟩) hHeld ?_ ?_
 rotate_left; · rintro w' ⟨s0, s1, s2, s3, s4, s5⟩; go_simp; with_reducible rfl
 rotate_left; · simp only [pk, i64_w, i32_w]; rfl
 refine take_ (i := 7) (N := some 88) (v := ?_) (a' := ?_) #[I, I, I, I, I, O, I, I, O, O, I, I, O, O, O, O, O, O] rfl rfl (take_ofW HT_.out HW_.out (by kernel_rfl)) (fun _ _ _ h => h) (Or.inl ⟨by rfl, ?_⟩) hHeld ?_ ?_
 rotate_left; · rintro w' ⟨s0, s1, s2, s3, s4, s5⟩; go_simp; with_reducible rfl
 rotate_left; · simp only [pk, i64_w, i32_w]; rfl
 refine take_ (i := 12) (N := some 93) (v := ?_) (a' := ?_) #[I, I, I, I, I, O, I, I, O, O, I, I, I, O, O, O, O, O] rfl rfl (take_ofW HT_.out HW_.out (by kernel_rfl)) (fun _ _ _ h => h) (Or.inl ⟨by rfl, ?_⟩) hHeld ?_ ?_
 rotate_left; · rintro w' ⟨s0, s1, s2, s3, s4, s5⟩; go_simp; with_reducible rfl
 rotate_left; · simp only [pk, i64_w, i32_w]; rfl
 refine pure_ (i := 13) (N := some 94) (v := ?_) (a' := ?_) #[I, I, I, I, I, O, I, I, O, O, I, I, I, I, O, O, O, O] rfl rfl (any_of HT_.out (by kernel_rfl)) (fun _ _ _ h => h) (Or.inl ⟨by rfl, ?_⟩) ?_ ?_
 rotate_left; · intro w'; go_simp; with_reducible rfl
 rotate_left; · simp only [pk, i64_w, i32_w]; rfl
 refine take_ (i := 14) (N := some 95) (v := ?_) (a' := ?_) #[I, I, I, I, I, O, I, I, O, O, I, I, I, I, I, O, O, O] rfl rfl (take_ofW HT_.out HW_.out (by kernel_rfl)) (fun _ _ _ h => h) (Or.inl ⟨by rfl, ?_⟩) hHeld ?_ ?_
 rotate_left; · rintro w' ⟨s0, s1, s2, s3, s4, s5⟩; go_simp; with_reducible rfl
 rotate_left; · simp only [pk, i64_w, i32_w]; rfl
 refine one_ (i := 5) (N := some 86) #[I, I, I, I, I, I, I, I, O, O, I, I, I, I, I, O, O, O] rfl rfl (one_of HT_.out (by kernel_rfl)) (by decide) (fun K hK => ?_)
 refine goes_ Tryz.func79 (by kernel_rfl) rfl #[.slice (some ad268) l0.length c0, .int .i64 (rd ((rd_T62 l0 a1).f3) 0)] (by rfl) rfl rfl (by (try simp only [lm]); first | done | rfl | (simp only [List.length_drop, List.length_take]; rfl)) ?_
 with_reducible refine (ih_spec_l06Kid k (by omega) _ _ l0 (rd ((rd_T62 l0 a1).f3) 0) t278 _ ?side1 ?side2 A59.out).mono ?_
 (case side1 => exact Kd.C_below HR0.out (be w))
 (case side2 => exact HC0.out)
 rintro e w69 ⟨rfl, hb⟩
 refine ⟨_, rfl, ?_⟩
 replace BK269 := As.mk (blk_below (bx BK269.out) hb)
 replace HB := As.mk (below_step (be w) hb)
 (try clear hb)
 (try clear hb2)
 (try clear hk)
 (try clear hi)
 refine hK.out _ _ ⟨(blk_cell BK269.out 0).trans rfl, (blk_cell BK269.out 1).trans rfl, (blk_cell BK269.out 2).trans rfl, (blk_cell BK269.out 3).trans rfl, (ce HB.out hw277_0 :), (ce HB.out hw280_0 :)⟩ (fun hHeld => ?_)
 clear hK K
 refine norm_ (a' := ?_) ?_ ?_
 rotate_left
 ·
  show Act.put _ (some 86) _ = _
  simp only [pk, i64_w, i32_w]
  rfl
 refine one_ (i := 8) (N := some 89) #[I, I, I, I, I, I, I, I, I, O, I, I, I, I, I, O, O, O] rfl rfl (one_of HT_.out (by kernel_rfl)) (by decide) (fun K hK => ?_)
 refine goes_ Tryz.func80 (by kernel_rfl) rfl #[.int .i64 ((rd_T62 l0 a1).f0)] (by rfl) rfl rfl (by (try simp only [lm]); first | done | rfl | (simp only [List.length_drop, List.length_take]; rfl)) ?_
 with_reducible refine (spec_l06Sign.calls ((rd_T62 l0 a1).f0) t279 _ A60.out).mono ?_
 rintro e w' ⟨rfl, ⟨nd, rfl⟩⟩
 refine ⟨_, rfl, ?_⟩
 refine hK.out _ _ ⟨(blk_cell BK269.out 0).trans rfl, (blk_cell BK269.out 1).trans rfl, (blk_cell BK269.out 2).trans rfl, (blk_cell BK269.out 3).trans rfl, (ce HB.out hw277_0 :), (ce HB.out hw280_0 :)⟩ (fun hHeld => ?_)
 clear hK K
 refine norm_ (a' := ?_) ?_ ?_
 rotate_left
 ·
  show Act.put _ (some 89) _ = _
  simp only [pk, i64_w, i32_w]
  rfl
 refine pure_ (i := 9) (N := some 90) (v := ?_) (a' := ?_) #[I, I, I, I, I, I, I, I, I, I, I, I, I, I, I, O, O, O] rfl rfl (any_of HT_.out (by kernel_rfl)) (fun _ _ _ h => h) (Or.inl ⟨by rfl, ?_⟩) ?_ ?_
 rotate_left; · intro w'; go_simp; with_reducible rfl
 rotate_left; · simp only [pk, i64_w, i32_w]; rfl
 refine one_ (i := 15) (N := some 96) #[I, I, I, I, I, I, I, I, I, I, I, I, I, I, I, I, O, O] rfl rfl (one_of HT_.out (by kernel_rfl)) (by decide) (fun K hK => ?_)
 refine goes_ Tryz.func79 (by kernel_rfl) rfl #[.slice (some ad268) l0.length c0, .int .i64 (rd ((rd_T62 l0 a1).f3) 1)] (by rfl) rfl rfl (by (try simp only [lm]); first | done | rfl | (simp only [List.length_drop, List.length_take]; rfl)) ?_
 with_reducible refine (ih_spec_l06Kid k (by omega) _ _ l0 (rd ((rd_T62 l0 a1).f3) 1) t281 _ ?side1 ?side2 A63.out).mono ?_
 (case side1 => exact Kd.C_below HR0.out (be w))
 (case side2 => exact HC0.out)
 rintro e w70 ⟨rfl, hb⟩
 refine ⟨_, rfl, ?_⟩
 replace BK269 := As.mk (blk_below (bx BK269.out) hb)
 replace HB := As.mk (below_step (be w) hb)
 (try clear hb)
 (try clear hb2)
 (try clear hk)
 (try clear hi)
 refine hK.out _ _ ⟨(blk_cell BK269.out 0).trans rfl, (blk_cell BK269.out 1).trans rfl, (blk_cell BK269.out 2).trans rfl, (blk_cell BK269.out 3).trans rfl, (ce HB.out hw277_0 :), (ce HB.out hw280_0 :)⟩ (fun hHeld => ?_)
 clear hK K
 refine norm_ (a' := ?_) ?_ ?_
 rotate_left
 ·
  show Act.put _ (some 96) _ = _
  simp only [pk, i64_w, i32_w]
  rfl
 refine pure_ (i := 16) (N := some 97) (v := ?_) (a' := ?_) #[I, I, I, I, I, I, I, I, I, I, I, I, I, I, I, I, I, O] rfl rfl (any_of HT_.out (by kernel_rfl)) (fun _ _ _ h => h) (Or.inl ⟨by rfl, ?_⟩) ?_ ?_
 rotate_left; · intro w'; go_simp; with_reducible rfl
 rotate_left; · simp only [pk, i64_w, i32_w]; rfl
 refine pure_ (i := 17) (N := some 4) (v := ?_) (a' := ?_) #[I, I, I, I, I, I, I, I, I, I, I, I, I, I, I, I, I, I] rfl rfl (any_of HT_.out (by kernel_rfl)) (fun _ _ _ h => h) (Or.inl ⟨by rfl, ?_⟩) ?_ ?_
 rotate_left; · intro w'; go_simp; with_reducible rfl
 rotate_left; · simp only [pk, i64_w, i32_w]; rfl
 refine done_ (done_of HT_.out (by kernel_rfl)) ?_
 try go_wp2
 go_ret
 exact ⟨ez, be w⟩
theorem spec_l06Value.allO (k : Nat) : spec_l06Kid.C k ∧ spec_l06Value.C k := by
  induction k using Nat.strongRecOn with
  | _ k ih => exact ⟨spec_l06Kid.callsO k (fun m_ h_ => (ih m_ h_).1) (fun m_ h_ => (ih m_ h_).2), spec_l06Value.callsO k (fun m_ h_ => (ih m_ h_).1) (fun m_ h_ => (ih m_ h_).2)⟩
theorem spec_l06Kid.calls (k : Nat) : ∀ (A0 : Option Addr) (c0 : Nat) (l0 : List (S62)) (a1 : Int) (r : ByteArray) (w : World) (hr0 : Kd.C k62 w A0 l0.length l0) (hc0 : l0.length ≤ c0) (h : spec_l06Kid.f k l0 a1 = some r),
  Calls Tryz.prog 79 #[.slice A0 l0.length c0, .int .i64 a1] w fun e w' => e = .returned (.string r) ∧ Below w.heap.size w w' := (spec_l06Value.allO k).1
theorem spec_l06Value.calls (k : Nat) : ∀ (A0 : Option Addr) (c0 : Nat) (l0 : List (S62)) (a1 : Int) (r : ByteArray) (w : World) (hr0 : Kd.C k62 w A0 l0.length l0) (hc0 : l0.length ≤ c0) (h : spec_l06Value.f k l0 a1 = some r),
  Calls Tryz.prog 52 #[.slice A0 l0.length c0, .int .i64 a1] w fun e w' => e = .returned (.string r) ∧ Below w.heap.size w w' := (spec_l06Value.allO k).2

/-! ### spec_ShowValue: function 22 -/
def spec_ShowValue.f (k : Nat) (l0_0 : List (S62)) (l0_1 : List (S56)) (a1 : Int) : Option (ByteArray) := (spec_DeepOf.f k l0_0 a1).bind fun t283 => (if t283 = 0 then (some (⟨#[]⟩ : ByteArray)) else (if 0 ≤ a1 then (if a1 < (l0_0.length : Int) then ((spec_l04Value.f ((rd_T62 l0_0 a1).f0)).bind fun t285 => (if t285 = true then ((spec_l06Value.f k l0_0 a1).bind fun t286 => (some t286)) else (some (⟨#[]⟩ : ByteArray)))) else (none)) else (none)))
theorem spec_ShowValue.mono : ∀ a0 a1 a2 k, LeO (spec_ShowValue.f k a0 a1 a2) (spec_ShowValue.f (k + 1) a0 a1 a2) := by
 intro a0 a1 a2 k
 unfold spec_ShowValue.f
 with_reducible repeat' first | exact spec_DeepOf.mono _ _ _ | exact spec_l06Value.mono _ _ _ | exact LeO.refl _ | exact LeO.none _ | refine LeO.ite ?_ ?_ | refine LeO.bind ?_ (fun _ => ?_)
set_option maxHeartbeats 8000000 in
set_option maxRecDepth 100000 in
theorem spec_ShowValue.calls (k : Nat) (A0_0 : Option Addr) (c0_0 : Nat) (l0_0 : List (S62)) (A0_1 : Option Addr) (c0_1 : Nat) (l0_1 : List (S56)) (a1 : Int) (r : ByteArray) (w : World) (hr0_0 : Kd.C k62 w A0_0 l0_0.length l0_0) (hc0_0 : l0_0.length ≤ c0_0) (hr0_1 : Kd.C k56 w A0_1 l0_1.length l0_1) (hc0_1 : l0_1.length ≤ c0_1) (h : spec_ShowValue.f k l0_0 l0_1 a1 = some r) :
  Calls Tryz.prog 22 #[.agg #[.slice A0_0 l0_0.length c0_0, .slice A0_1 l0_1.length c0_1], .int .i64 a1] w fun e w' => e = .returned (.string r) ∧ Below w.heap.size w w' := by
 have hu32 := Tryz.underlying32
 have HR0_0 := As.mk hr0_0
 have HC0_0 := As.mk hc0_0
 clear hr0_0 hc0_0
 have HR0_1 := As.mk hr0_1
 have HC0_1 := As.mk hc0_1
 clear hr0_1 hc0_1
 have HB := As.mk (Below.refl w.heap.size w)
 have H : ((spec_DeepOf.f k l0_0 a1).bind fun t283 => (if t283 = 0 then (some (⟨#[]⟩ : ByteArray)) else (if 0 ≤ a1 then (if a1 < (l0_0.length : Int) then ((spec_l04Value.f ((rd_T62 l0_0 a1).f0)).bind fun t285 => (if t285 = true then ((spec_l06Value.f k l0_0 a1).bind fun t286 => (some t286)) else (some (⟨#[]⟩ : ByteArray)))) else (none)) else (none)))) = some r := h
 clear h
 obtain ⟨t283, A30, H⟩ := Option.bind_eq_some_iff.mp H
 try dsimp only at H
 have A3 := As.mk A30
 clear A30
 by_cases c4 : t283 = 0
 ·
  rw [if_pos c4] at H
  have c4b0 : (t283 == 0) = true := beq_iff_eq.mpr c4
  have c4b1 : (t283 != 0) = false := bne_eq_false_iff_eq.mpr c4
  clear c4
  obtain rfl := Option.some.inj H
  go_enter Tryz.func22, Tryz.ntmps22
  go_wp2_with (first | ((with_reducible refine gate_dst (N := 2) rfl ?_); refine box_event ?hg (N := 2) ?hd (cs := #[.slice A0_0 l0_0.length c0_0, .slice A0_1 l0_1.length c0_1]) (t := 32) ?hr ?_; (case hd => rfl); (case hg => rfl); (case hr => first | (go_simp; done) | (go_simp; rfl)); intro gb282 hg w5 hbox hb; have BK282 := As.mk (hbox); have GW282 := As.mk (gs w hg); have GE282 := As.mk (gs w hg); replace HB := As.mk (below_step (be w) hb); clear hb hbox hg; obtain ⟨hcz6_0, hcz6_1, hfz6_0, hfz6_1⟩ := cl2 BK282.out) | ((with_reducible refine gate_callee (f := 43) rfl ?_); refine goesL_ (some 8) rfl rfl Tryz.func43 (by kernel_rfl) rfl #[.slice A0_0 l0_0.length c0_0, .int .i64 a1] rfl (by (try simp only [lm]); first | done | rfl | (simp only [List.length_drop, List.length_take]; rfl)) ?_; (with_reducible refine (spec_DeepOf.calls k _ _ l0_0 a1 t283 _ ?side1 ?side2 A3.out).mono ?_); (case side1 => exact Kd.C_below HR0_0.out (be w)); (case side2 => exact HC0_0.out); rintro e w7 ⟨rfl, hb⟩; refine ⟨_, rfl, ?_⟩; replace HB := As.mk (below_step (be w) hb); (try clear hb); (try clear hb2); (try clear hk); (try clear hi)))
  go_ret
  exact ⟨ez, be w⟩
 rw [if_neg c4] at H
 have c4b0 : (t283 == 0) = false := beq_eq_false_iff_ne.mpr c4
 have c4b1 : (t283 != 0) = true := bne_iff_ne.mpr c4
 by_cases c8 : 0 ≤ a1
 rotate_left; · rw [if_neg c8] at H; exact absurd H (by simp)

 rw [if_pos c8] at H
 have c8b0 : decide (0 ≤ a1) = true := decide_eq_true c8
 clear c8
 by_cases c9 : a1 < (l0_0.length : Int)
 rotate_left; · rw [if_neg c9] at H; exact absurd H (by simp)
 rw [if_pos c9] at H
 have c9b0 : decide (a1 < (l0_0.length : Int)) = true := decide_eq_true c9
 clear c9
 obtain ⟨t285, A100, H⟩ := Option.bind_eq_some_iff.mp H
 try dsimp only at H
 have A10 := As.mk A100
 clear A100
 by_cases c11 : t285 = true
 rotate_left
 ·
  replace c11 := Bool.eq_false_iff.mpr c11
  subst c11
  rw [if_neg (show ¬ (false = true) by decide)] at H
  obtain rfl := Option.some.inj H
  go_enter Tryz.func22, Tryz.ntmps22
  go_wp2_with (first | ((with_reducible refine gate_dst (N := 2) rfl ?_); refine box_event ?hg (N := 2) ?hd (cs := #[.slice A0_0 l0_0.length c0_0, .slice A0_1 l0_1.length c0_1]) (t := 32) ?hr ?_; (case hd => rfl); (case hg => rfl); (case hr => first | (go_simp; done) | (go_simp; rfl)); intro gb282 hg w18 hbox hb; have BK282 := As.mk (hbox); have GW282 := As.mk (gs w hg); have GE282 := As.mk (gs w hg); replace HB := As.mk (below_step (be w) hb); clear hb hbox hg; obtain ⟨hcz19_0, hcz19_1, hfz19_0, hfz19_1⟩ := cl2 BK282.out) | ((with_reducible refine gate_callee (f := 43) rfl ?_); refine goesL_ (some 8) rfl rfl Tryz.func43 (by kernel_rfl) rfl #[.slice A0_0 l0_0.length c0_0, .int .i64 a1] rfl (by (try simp only [lm]); first | done | rfl | (simp only [List.length_drop, List.length_take]; rfl)) ?_; (with_reducible refine (spec_DeepOf.calls k _ _ l0_0 a1 t283 _ ?side1 ?side2 A3.out).mono ?_); (case side1 => exact Kd.C_below HR0_0.out (be w)); (case side2 => exact HC0_0.out); rintro e w20 ⟨rfl, hb⟩; refine ⟨_, rfl, ?_⟩; replace BK282 := As.mk (blk_below (bx BK282.out) hb); replace HB := As.mk (below_step (be w) hb); (try clear hb); (try clear hb2); (try clear hk); (try clear hi); obtain ⟨hcz21_0, hcz21_1, hfz21_0, hfz21_1⟩ := cl2 BK282.out; have p284 : 0 ≤ (a1 : Int) := od; have q284 : a1 < (l0_0.length : Int) := od; obtain ⟨ad284, A284_3, c284_3, e284, hx284_0, hx284_1, hx284_2, hx284_3, hl284_3, hi284_3⟩ := at_T62 HR0_0.out a1 p284 q284; cases e284; replace hx284_0 := ce HB.out hx284_0; replace hx284_1 := ce HB.out hx284_1; replace hx284_2 := ce HB.out hx284_2; replace hx284_3 := ce HB.out hx284_3; have HR284_3 := As.mk hi284_3; have HC284_3 := As.mk hl284_3; clear hi284_3 hl284_3; replace p284 := eq_true p284; replace q284 := eq_true q284) | (go_at_call 55; (with_reducible refine (spec_l04Value.calls ((rd_T62 l0_0 a1).f0) false _ A10.out).mono ?_); rintro e w' ⟨rfl, ⟨nd, rfl⟩⟩))
  go_ret
  exact ⟨ez, be w⟩
 subst c11
 rw [if_pos rfl] at H
 obtain ⟨t286, A120, H⟩ := Option.bind_eq_some_iff.mp H
 try dsimp only at H
 have A12 := As.mk A120
 clear A120
 obtain rfl := Option.some.inj H
 go_enter Tryz.func22, Tryz.ntmps22
 go_wp2_with (first | ((with_reducible refine gate_dst (N := 2) rfl ?_); refine box_event ?hg (N := 2) ?hd (cs := #[.slice A0_0 l0_0.length c0_0, .slice A0_1 l0_1.length c0_1]) (t := 32) ?hr ?_; (case hd => rfl); (case hg => rfl); (case hr => first | (go_simp; done) | (go_simp; rfl)); intro gb282 hg w13 hbox hb; have BK282 := As.mk (hbox); have GW282 := As.mk (gs w hg); have GE282 := As.mk (gs w hg); replace HB := As.mk (below_step (be w) hb); clear hb hbox hg; obtain ⟨hcz14_0, hcz14_1, hfz14_0, hfz14_1⟩ := cl2 BK282.out) | ((with_reducible refine gate_callee (f := 43) rfl ?_); refine goesL_ (some 8) rfl rfl Tryz.func43 (by kernel_rfl) rfl #[.slice A0_0 l0_0.length c0_0, .int .i64 a1] rfl (by (try simp only [lm]); first | done | rfl | (simp only [List.length_drop, List.length_take]; rfl)) ?_; (with_reducible refine (spec_DeepOf.calls k _ _ l0_0 a1 t283 _ ?side1 ?side2 A3.out).mono ?_); (case side1 => exact Kd.C_below HR0_0.out (be w)); (case side2 => exact HC0_0.out); rintro e w15 ⟨rfl, hb⟩; refine ⟨_, rfl, ?_⟩; replace BK282 := As.mk (blk_below (bx BK282.out) hb); replace HB := As.mk (below_step (be w) hb); (try clear hb); (try clear hb2); (try clear hk); (try clear hi); obtain ⟨hcz16_0, hcz16_1, hfz16_0, hfz16_1⟩ := cl2 BK282.out; have p284 : 0 ≤ (a1 : Int) := od; have q284 : a1 < (l0_0.length : Int) := od; obtain ⟨ad284, A284_3, c284_3, e284, hx284_0, hx284_1, hx284_2, hx284_3, hl284_3, hi284_3⟩ := at_T62 HR0_0.out a1 p284 q284; cases e284; replace hx284_0 := ce HB.out hx284_0; replace hx284_1 := ce HB.out hx284_1; replace hx284_2 := ce HB.out hx284_2; replace hx284_3 := ce HB.out hx284_3; have HR284_3 := As.mk hi284_3; have HC284_3 := As.mk hl284_3; clear hi284_3 hl284_3; replace p284 := eq_true p284; replace q284 := eq_true q284) | (go_at_call 55; (with_reducible refine (spec_l04Value.calls ((rd_T62 l0_0 a1).f0) true _ A10.out).mono ?_); rintro e w' ⟨rfl, ⟨nd, rfl⟩⟩) | ((with_reducible refine gate_callee (f := 52) rfl ?_); refine goesL_ (some 23) rfl rfl Tryz.func52 (by kernel_rfl) rfl #[.slice (some ad284) l0_0.length c0_0, .int .i64 a1] rfl (by (try simp only [lm]); first | done | rfl | (simp only [List.length_drop, List.length_take]; rfl)) ?_; (with_reducible refine (spec_l06Value.calls k _ _ l0_0 a1 t286 _ ?side1 ?side2 A12.out).mono ?_); (case side1 => exact Kd.C_below HR0_0.out (be w)); (case side2 => exact HC0_0.out); rintro e w17 ⟨rfl, hb⟩; refine ⟨_, rfl, ?_⟩; replace HB := As.mk (below_step (be w) hb); (try clear hb); (try clear hb2); (try clear hk); (try clear hi)))
 go_ret
 exact ⟨ez, be w⟩
/-! ### impl_in: function 36 -/
def impl_in.f (a0 : Int) (a1 : Int) (a2 : Int) : Option (Bool) := if a0 ≥ a1 then (some (decide (a0 ≤ a2))) else (some false)
set_option maxHeartbeats 8000000 in
set_option maxRecDepth 100000 in
theorem impl_in.calls (a0 : Int) (a1 : Int) (a2 : Int) (r : Bool) (w : World) (h : impl_in.f a0 a1 a2 = some r) :
  Calls Tryz.prog 36 #[.int .i64 a0, .int .i64 a1, .int .i64 a2] w fun e w' => e = .returned (.bool r) ∧ Drawn0 w w' := by
 have H : (if a0 ≥ a1 then (some (decide (a0 ≤ a2))) else (some false)) = some r := h
 clear h
 by_cases c4 : a0 ≥ a1
 ·
  rw [if_pos c4] at H
  have c4b0 : decide (a1 ≤ a0) = true := decide_eq_true c4
  clear c4
  obtain rfl := Option.some.inj H
  go_enter Tryz.func36, Tryz.ntmps36
  go_wp2
  go_ret
  exact dw
 rw [if_neg c4] at H
 have c4b0 : decide (a1 ≤ a0) = false := decide_eq_false c4
 clear c4
 obtain rfl := Option.some.inj H
 go_enter Tryz.func36, Tryz.ntmps36
 go_wp2
 go_ret
 exact dw

end Go.Proofs.YtcoapbnbakmkoaaGreatDoor.PFnExactShowValue
