/- Written by a program of this session (a turned copy of the kit's print): a contract for each Go function. No condition beside those in each statement. -/
import Derived.Test.YtcoapbnbakmkoaaGreatDoorPFnExactShowProgramx0
import Derived.Test.YtcoapbnbakmkoaaGreatDoorPFnExactShowProgramx9
namespace Go.Proofs.YtcoapbnbakmkoaaGreatDoor.PFnExactShowProgram
open Go.RowKit Go.Proofs.YtcoapbnbakmkoaaGreatDoor.Given Go.Proofs.YtcoapbnbakmkoaaGreatDoorW.PrintWords Go.Proofs.YtcoapbnbakmkoaaGreatDoorW.PrintLast Go.Proofs.YtcoapbnbakmkoaaGreatDoorW.PrintMore
attribute [local go_sem] max2_int min2_int max_two min_two max_three min_three max_four min_four   -- for this text's walks alone
set_option linter.unusedVariables false
set_option linter.unusedSimpArgs false

/-! ### spec_l06Value: function 52 -/
/-! ### spec_l06Kid: function 79 -/
mutual
def spec_l06Kid.f : Nat → List (S62) → Int → Option (ByteArray)
  | 0, _, _ => none
  | k + 1, l0, a1 => if 0 ≤ a1 then (if a1 < (l0.length : Int) then ((spec_l06Pair.f ((rd_T62 l0 a1).f0)).bind fun t307 => (if t307 = true then ((spec_l06Value.f k l0 a1).bind fun t308 => (if 1 + t308.size ≤ 9223372036854775807 then (if ((⟨#[40]⟩ : ByteArray) ++ t308).size + 1 ≤ 9223372036854775807 then (some (((⟨#[40]⟩ : ByteArray) ++ t308) ++ (⟨#[41]⟩ : ByteArray))) else (none)) else (none))) else ((spec_l06Value.f k l0 a1).bind fun t309 => (some t309)))) else (none)) else (none)
def spec_l06Value.l0 : Nat → List (S62) → ByteArray → Int → Int → Int → ByteArray → List Int → Option (ByteArray)
  | 0, _, _, _, _, _, _, _ => none
  | k + 1, x0, x6, x7, x312000, x312001, x312002, x312003 => if x7 < (x312003.length : Int) then (if x7 > 0 then (if x6.size + 2 ≤ 9223372036854775807 then (if 0 ≤ x7 then ((spec_l06Value.f k x0 (rd x312003 x7)).bind fun t316 => (if (x6 ++ (⟨#[44, 32]⟩ : ByteArray)).size + t316.size ≤ 9223372036854775807 then (spec_l06Value.l0 k x0 ((x6 ++ (⟨#[44, 32]⟩ : ByteArray)) ++ t316) (wrap64 (x7 + 1)) x312000 x312001 x312002 x312003) else (none))) else (none)) else (none)) else (if 0 ≤ x7 then ((spec_l06Value.f k x0 (rd x312003 x7)).bind fun t318 => (if x6.size + t318.size ≤ 9223372036854775807 then (spec_l06Value.l0 k x0 (x6 ++ t318) (wrap64 (x7 + 1)) x312000 x312001 x312002 x312003) else (none))) else (none))) else (if x6.size + 1 ≤ 9223372036854775807 then (some (x6 ++ (⟨#[41]⟩ : ByteArray))) else (none))
def spec_l06Value.f : Nat → List (S62) → Int → Option (ByteArray)
  | 0, _, _ => none
  | k + 1, l0, a1 => if 0 ≤ a1 then (if a1 < (l0.length : Int) then (if ((rd_T62 l0 a1).f0) = 1 then ((spec_Decimal.f k ((rd_T62 l0 a1).f1)).bind fun t312 => (some t312)) else (if ((rd_T62 l0 a1).f0) = 2 then (some ((rd_T62 l0 a1).f2)) else (if ((rd_T62 l0 a1).f0) = 3 then (if 1 + ((rd_T62 l0 a1).f2).size ≤ 9223372036854775807 then (some ((⟨#[42]⟩ : ByteArray) ++ ((rd_T62 l0 a1).f2))) else (none)) else (if ((rd_T62 l0 a1).f0) = 4 then (if 6 + ((rd_T62 l0 a1).f2).size ≤ 9223372036854775807 then (some ((⟨#[99, 108, 111, 110, 101, 32]⟩ : ByteArray) ++ ((rd_T62 l0 a1).f2))) else (none)) else (if ((rd_T62 l0 a1).f0) = 5 then (if 1 + ((rd_T62 l0 a1).f2).size ≤ 9223372036854775807 then (some ((⟨#[38]⟩ : ByteArray) ++ ((rd_T62 l0 a1).f2))) else (none)) else (if ((rd_T62 l0 a1).f0) = 6 then (if 5 + ((rd_T62 l0 a1).f2).size ≤ 9223372036854775807 then (some ((⟨#[38, 109, 117, 116, 32]⟩ : ByteArray) ++ ((rd_T62 l0 a1).f2))) else (none)) else (if ((rd_T62 l0 a1).f0) = 7 then (some (⟨#[105, 110, 112, 117, 116]⟩ : ByteArray)) else (if ((rd_T62 l0 a1).f0) = 8 then (if 0 < (((rd_T62 l0 a1).f3).length : Int) then ((spec_l06Kid.f k l0 (rd ((rd_T62 l0 a1).f3) 0)).bind fun t314 => (if 4 + t314.size ≤ 9223372036854775807 then (some ((⟨#[110, 101, 119, 32]⟩ : ByteArray) ++ t314)) else (none))) else (none)) else (if ((rd_T62 l0 a1).f0) = 12 then (if ((rd_T62 l0 a1).f2).size + 1 ≤ 9223372036854775807 then (spec_l06Value.l0 k l0 (((rd_T62 l0 a1).f2) ++ (⟨#[40]⟩ : ByteArray)) 0 ((rd_T62 l0 a1).f0) ((rd_T62 l0 a1).f1) ((rd_T62 l0 a1).f2) ((rd_T62 l0 a1).f3)) else (none)) else (if 0 < (((rd_T62 l0 a1).f3).length : Int) then ((spec_l06Kid.f k l0 (rd ((rd_T62 l0 a1).f3) 0)).bind fun t320 => ((spec_l06Sign.f ((rd_T62 l0 a1).f0)).bind fun t321 => (if t320.size + t321.size ≤ 9223372036854775807 then (if 1 < (((rd_T62 l0 a1).f3).length : Int) then ((spec_l06Kid.f k l0 (rd ((rd_T62 l0 a1).f3) 1)).bind fun t323 => (if (t320 ++ t321).size + t323.size ≤ 9223372036854775807 then (some ((t320 ++ t321) ++ t323)) else (none))) else (none)) else (none)))) else (none))))))))))) else (none)) else (none)
end
theorem spec_l06Value.mono_l : ∀ k, (∀ y0 y1, LeO (spec_l06Kid.f k y0 y1) (spec_l06Kid.f (k + 1) y0 y1)) ∧ (∀ y0 y1, LeO (spec_l06Value.f k y0 y1) (spec_l06Value.f (k + 1) y0 y1)) ∧ (∀ y0 y1 y2 y3 y4 y5 y6, LeO (spec_l06Value.l0 k y0 y1 y2 y3 y4 y5 y6) (spec_l06Value.l0 (k + 1) y0 y1 y2 y3 y4 y5 y6))
  | 0 => ⟨fun _ _ r h => by simp [spec_l06Kid.f] at h, fun _ _ r h => by simp [spec_l06Value.f] at h, fun _ _ _ _ _ _ _ r h => by simp [spec_l06Value.l0] at h⟩
  | k + 1 => by
    obtain ⟨ih0, ih1, ih2⟩ := spec_l06Value.mono_l k
    refine ⟨?_, ?_, ?_⟩
    · intro y0 y1
      unfold spec_l06Kid.f
      repeat' first
      | (with_reducible exact ih0 _ _)
      | (with_reducible exact ih1 _ _)
      | (with_reducible exact ih2 _ _ _ _ _ _ _)
      | (with_reducible exact spec_Decimal.mono _ _)
      | (with_reducible exact LeO.refl _)
      | (with_reducible exact LeO.none _)
      | (with_reducible refine LeO.ite ?_ ?_)
      | (with_reducible refine LeO.bind ?_ (fun _ => ?_))
      | exact ih0 _ _
      | exact ih1 _ _
      | exact ih2 _ _ _ _ _ _ _
      | exact spec_Decimal.mono _ _
      | exact LeO.none _
      | refine LeO.ite ?_ ?_
      | refine LeO.bind ?_ (fun _ => ?_)
    · intro y0 y1
      unfold spec_l06Value.f
      repeat' first
      | (with_reducible exact ih0 _ _)
      | (with_reducible exact ih1 _ _)
      | (with_reducible exact ih2 _ _ _ _ _ _ _)
      | (with_reducible exact spec_Decimal.mono _ _)
      | (with_reducible exact LeO.refl _)
      | (with_reducible exact LeO.none _)
      | (with_reducible refine LeO.ite ?_ ?_)
      | (with_reducible refine LeO.bind ?_ (fun _ => ?_))
      | exact ih0 _ _
      | exact ih1 _ _
      | exact ih2 _ _ _ _ _ _ _
      | exact spec_Decimal.mono _ _
      | exact LeO.none _
      | refine LeO.ite ?_ ?_
      | refine LeO.bind ?_ (fun _ => ?_)
    · intro y0 y1 y2 y3 y4 y5 y6
      unfold spec_l06Value.l0
      repeat' first
      | (with_reducible exact ih0 _ _)
      | (with_reducible exact ih1 _ _)
      | (with_reducible exact ih2 _ _ _ _ _ _ _)
      | (with_reducible exact spec_Decimal.mono _ _)
      | (with_reducible exact LeO.refl _)
      | (with_reducible exact LeO.none _)
      | (with_reducible refine LeO.ite ?_ ?_)
      | (with_reducible refine LeO.bind ?_ (fun _ => ?_))
      | exact ih0 _ _
      | exact ih1 _ _
      | exact ih2 _ _ _ _ _ _ _
      | exact spec_Decimal.mono _ _
      | exact LeO.none _
      | refine LeO.ite ?_ ?_
      | refine LeO.bind ?_ (fun _ => ?_)
theorem spec_l06Kid.mono : ∀ a0 a1 k, LeO (spec_l06Kid.f k a0 a1) (spec_l06Kid.f (k + 1) a0 a1) := by
  intro a0 a1 k; obtain ⟨ih0, ih1, ih2⟩ := spec_l06Value.mono_l k
  exact ih0 a0 a1
theorem spec_l06Value.mono : ∀ a0 a1 k, LeO (spec_l06Value.f k a0 a1) (spec_l06Value.f (k + 1) a0 a1) := by
  intro a0 a1 k; obtain ⟨ih0, ih1, ih2⟩ := spec_l06Value.mono_l k
  exact ih1 a0 a1
abbrev spec_l06Kid.C (k : Nat) : Prop := ∀ (A0 : Option Addr) (c0 : Nat) (l0 : List (S62)) (a1 : Int) (r : ByteArray) (w : World) (hr0 : Kd.C k62 w A0 l0.length l0) (hc0 : l0.length ≤ c0) (h : spec_l06Kid.f k l0 a1 = some r),
  Calls Tryz.prog 79 #[.slice A0 l0.length c0, .int .i64 a1] w fun e w' => e = .returned (.string r) ∧ Below w.heap.size w w'
abbrev spec_l06Value.C (k : Nat) : Prop := ∀ (A0 : Option Addr) (c0 : Nat) (l0 : List (S62)) (a1 : Int) (r : ByteArray) (w : World) (hr0 : Kd.C k62 w A0 l0.length l0) (hc0 : l0.length ≤ c0) (h : spec_l06Value.f k l0 a1 = some r),
  Calls Tryz.prog 52 #[.slice A0 l0.length c0, .int .i64 a1] w fun e w' => e = .returned (.string r) ∧ Below w.heap.size w w'
set_option maxHeartbeats 8000000 in
set_option maxRecDepth 100000 in
theorem spec_l06Kid.callsO (k : Nat) (ih : ∀ m_, m_ < k → spec_l06Kid.C m_) (ih_spec_l06Value : ∀ m_, m_ < k → spec_l06Value.C m_) : spec_l06Kid.C k := by
 intro A0 c0 l0 a1 r w hr0 hc0 h
 cases k with
 | zero => exact absurd h (by simp [spec_l06Kid.f])
 | succ k =>
 simp only [spec_l06Kid.f] at h
 have HR0 := As.mk hr0; have HC0 := As.mk hc0; clear hr0 hc0; have HB := As.mk (Below.refl w.heap.size w); have H : (if 0 ≤ a1 then (if a1 < (l0.length : Int) then ((spec_l06Pair.f ((rd_T62 l0 a1).f0)).bind fun t307 => (if t307 = true then ((spec_l06Value.f k l0 a1).bind fun t308 => (if 1 + t308.size ≤ 9223372036854775807 then (if ((⟨#[40]⟩ : ByteArray) ++ t308).size + 1 ≤ 9223372036854775807 then (some (((⟨#[40]⟩ : ByteArray) ++ t308) ++ (⟨#[41]⟩ : ByteArray))) else (none)) else (none))) else ((spec_l06Value.f k l0 a1).bind fun t309 => (some t309)))) else (none)) else (none)) = some r := h; clear h
 by_cases c3 : 0 ≤ a1
 rotate_left; · rw [if_neg c3] at H; exact absurd H (by simp)

 rw [if_pos c3] at H; have c3b0 := decide_eq_true c3; clear c3; replace H := ia H; obtain ⟨c4b0, H⟩ := H; replace H := bo H; obtain ⟨t307, A5, H⟩ := H
 by_cases c6 : t307 = true
 rotate_left
 ·
  replace c6 := Bool.eq_false_iff.mpr c6; subst c6; rw [if_neg ft] at H; replace H := bo H; obtain ⟨t309, A11, H⟩ := H; obtain rfl := sj H; obtain ⟨ad306, A306_3, c306_3, e306, p306, q306, x306a, x306b, x306c, x306d, HC306_3, HR306_3⟩ := bt_T62 (Below.refl _ _) HR0.out a1 od od; cases e306; go_enter Tryz.func79, Tryz.ntmps79
  go_wp2_with (first | ((with_reducible refine gate_callee (f := 106) rfl ?_); refine goL (some 10) Tryz.func106 #[.int .i64 ((rd_T62 l0 a1).f0)] ?_; (with_reducible refine (spec_l06Pair.calls ((rd_T62 l0 a1).f0) false _ A5.out).mono ?_); rintro e w' ⟨rfl, ⟨nd, rfl⟩⟩; refine ⟨_, rfl, ?_⟩) | ((with_reducible refine gate_callee (f := 52) rfl ?_); refine goL (some 18) Tryz.func52 #[.slice (some ad306) l0.length c0, .int .i64 a1] ?_; (with_reducible refine (ih_spec_l06Value k (by omega) _ _ l0 a1 t309 _ ?side1 ?side2 A11.out).mono ?_); (case side1 => repeat (first | exact HR0.out | (with_reducible refine Kd.C_alloc ?_ _) | (with_reducible refine Kd.C_drewN ?_ _) | (with_reducible refine Kd.C_drew ?_))); (case side2 => exact HC0.out); rintro e w12 ⟨rfl, hb⟩; refine ⟨_, rfl, ?_⟩; replace HB := bs w hb; (try clear hb)))
  go_ret
  exact ⟨ez, be w⟩
 subst c6; rw [if_pos rfl] at H; replace H := bo H; obtain ⟨t308, A7, H⟩ := H; replace H := il H; obtain ⟨c8, c8b0, c8b1, c8b2, H⟩ := H; replace H := il H; obtain ⟨c9, c9b0, c9b1, c9b2, H⟩ := H
 try have c9b4 : (9223372036854775807 < 1 + t308.size + 1) = False := eq_false (Nat.not_lt.2 (by have h_ := c9; simp only [ByteArray.size_append] at h_; exact h_))
 obtain rfl := sj H; obtain ⟨ad306, A306_3, c306_3, e306, p306, q306, x306a, x306b, x306c, x306d, HC306_3, HR306_3⟩ := bt_T62 (Below.refl _ _) HR0.out a1 od od; cases e306; go_enter Tryz.func79, Tryz.ntmps79
 go_wp2_with (first | ((with_reducible refine gate_callee (f := 106) rfl ?_); refine goL (some 10) Tryz.func106 #[.int .i64 ((rd_T62 l0 a1).f0)] ?_; (with_reducible refine (spec_l06Pair.calls ((rd_T62 l0 a1).f0) true _ A5.out).mono ?_); rintro e w' ⟨rfl, ⟨nd, rfl⟩⟩; refine ⟨_, rfl, ?_⟩) | ((with_reducible refine gate_callee (f := 52) rfl ?_); refine goL (some 13) Tryz.func52 #[.slice (some ad306) l0.length c0, .int .i64 a1] ?_; (with_reducible refine (ih_spec_l06Value k (by omega) _ _ l0 a1 t308 _ ?side1 ?side2 A7.out).mono ?_); (case side1 => repeat (first | exact HR0.out | (with_reducible refine Kd.C_alloc ?_ _) | (with_reducible refine Kd.C_drewN ?_ _) | (with_reducible refine Kd.C_drew ?_))); (case side2 => exact HC0.out); rintro e w10 ⟨rfl, hb⟩; refine ⟨_, rfl, ?_⟩; replace HB := bs w hb; (try clear hb)))
 go_ret
 exact ⟨ez, be w⟩
def spec_l06Value.T28 : Bool × List (List Nat × List Nat) := (true, [([], []), ([], []), ([1], [1]), ([2], [2]), ([3], [3]), ([0, 4], [0, 4]), ([], []), ([6], [6]), ([7, 5], [7]), ([5, 8], [5, 8]), ([], []), ([], []), ([11], [11]), ([12], [12]), ([13], [13]), ([10, 14, 8], [10, 14]), ([9, 15], [9, 15]), ([16, 15, 0, 1, 2, 3, 4, 5, 6, 7, 8, 9, 10, 11, 12, 13, 14, 15, 16], [16])])
def spec_l06Value.B28 : List Nat := [0, 0, 2, 6, 14, 31, 0, 64, 255, 511, 0, 0, 2048, 6144, 14336, 32255, 65535, 131071]
theorem spec_l06Value.tab28 : rtab .any (opsOf Tryz.f52 28) = spec_l06Value.T28 := by kernel_rfl
theorem spec_l06Value.bits28 : waitsOk spec_l06Value.T28.2 spec_l06Value.B28 = true := by kernel_rfl
set_option maxHeartbeats 8000000 in
set_option maxRecDepth 100000 in
theorem spec_l06Value.callsO (k : Nat) (ih_spec_l06Kid : ∀ m_, m_ < k → spec_l06Kid.C m_) (ih : ∀ m_, m_ < k → spec_l06Value.C m_) : spec_l06Value.C k := by
 intro A0 c0 l0 a1 r w hr0 hc0 h
 cases k with
 | zero => exact absurd h (by simp [spec_l06Value.f])
 | succ k =>
 simp only [spec_l06Value.f] at h
 have hu62 := Tryz.underlying62; have HR0 := As.mk hr0; have HC0 := As.mk hc0; clear hr0 hc0; have HB := As.mk (Below.refl w.heap.size w); have H : (if 0 ≤ a1 then (if a1 < (l0.length : Int) then (if ((rd_T62 l0 a1).f0) = 1 then ((spec_Decimal.f k ((rd_T62 l0 a1).f1)).bind fun t312 => (some t312)) else (if ((rd_T62 l0 a1).f0) = 2 then (some ((rd_T62 l0 a1).f2)) else (if ((rd_T62 l0 a1).f0) = 3 then (if 1 + ((rd_T62 l0 a1).f2).size ≤ 9223372036854775807 then (some ((⟨#[42]⟩ : ByteArray) ++ ((rd_T62 l0 a1).f2))) else (none)) else (if ((rd_T62 l0 a1).f0) = 4 then (if 6 + ((rd_T62 l0 a1).f2).size ≤ 9223372036854775807 then (some ((⟨#[99, 108, 111, 110, 101, 32]⟩ : ByteArray) ++ ((rd_T62 l0 a1).f2))) else (none)) else (if ((rd_T62 l0 a1).f0) = 5 then (if 1 + ((rd_T62 l0 a1).f2).size ≤ 9223372036854775807 then (some ((⟨#[38]⟩ : ByteArray) ++ ((rd_T62 l0 a1).f2))) else (none)) else (if ((rd_T62 l0 a1).f0) = 6 then (if 5 + ((rd_T62 l0 a1).f2).size ≤ 9223372036854775807 then (some ((⟨#[38, 109, 117, 116, 32]⟩ : ByteArray) ++ ((rd_T62 l0 a1).f2))) else (none)) else (if ((rd_T62 l0 a1).f0) = 7 then (some (⟨#[105, 110, 112, 117, 116]⟩ : ByteArray)) else (if ((rd_T62 l0 a1).f0) = 8 then (if 0 < (((rd_T62 l0 a1).f3).length : Int) then ((spec_l06Kid.f k l0 (rd ((rd_T62 l0 a1).f3) 0)).bind fun t314 => (if 4 + t314.size ≤ 9223372036854775807 then (some ((⟨#[110, 101, 119, 32]⟩ : ByteArray) ++ t314)) else (none))) else (none)) else (if ((rd_T62 l0 a1).f0) = 12 then (if ((rd_T62 l0 a1).f2).size + 1 ≤ 9223372036854775807 then (spec_l06Value.l0 k l0 (((rd_T62 l0 a1).f2) ++ (⟨#[40]⟩ : ByteArray)) 0 ((rd_T62 l0 a1).f0) ((rd_T62 l0 a1).f1) ((rd_T62 l0 a1).f2) ((rd_T62 l0 a1).f3)) else (none)) else (if 0 < (((rd_T62 l0 a1).f3).length : Int) then ((spec_l06Kid.f k l0 (rd ((rd_T62 l0 a1).f3) 0)).bind fun t320 => ((spec_l06Sign.f ((rd_T62 l0 a1).f0)).bind fun t321 => (if t320.size + t321.size ≤ 9223372036854775807 then (if 1 < (((rd_T62 l0 a1).f3).length : Int) then ((spec_l06Kid.f k l0 (rd ((rd_T62 l0 a1).f3) 1)).bind fun t323 => (if (t320 ++ t321).size + t323.size ≤ 9223372036854775807 then (some ((t320 ++ t321) ++ t323)) else (none))) else (none)) else (none)))) else (none))))))))))) else (none)) else (none)) = some r := h; clear h
 by_cases c3 : 0 ≤ a1
 rotate_left; · rw [if_neg c3] at H; exact absurd H (by simp)

 rw [if_pos c3] at H; have c3b0 := decide_eq_true c3; clear c3; replace H := ia H; obtain ⟨c4b0, H⟩ := H
 by_cases c5 : ((rd_T62 l0 a1).f0) = 1
 ·
  rw [if_pos c5] at H; have c5b0 : (((rd_T62 l0 a1).f0) == 1) = true := beq_iff_eq.mpr c5; have c5b1 : (((rd_T62 l0 a1).f0) != 1) = false := bne_eq_false_iff_eq.mpr c5; clear c5; replace H := bo H; obtain ⟨t312, A6, H⟩ := H; obtain rfl := sj H; obtain ⟨ad310, A310_3, c310_3, e310, p310, q310, x310a, x310b, x310c, x310d, HC310_3, HR310_3⟩ := bt_T62 (Below.refl _ _) HR0.out a1 od od; cases e310; go_enter Tryz.func52, Tryz.ntmps52
  go_wp2_with (first | ((with_reducible refine gate_dst (N := 5) rfl ?_); refine bxe 5 #[.int .i64 0, .int .i64 0, .string (⟨#[]⟩ : ByteArray), .slice none 0 0] 62 ?_; intro gb311 hg w7 BK311 hb; have GW311 := As.mk (gs w hg); replace HB := bs w hb; clear hb hg; obtain ⟨y8a, y8b, y8c, y8d, v8a, v8b, v8c, v8d⟩ := cl4 BK311.out) | ((with_reducible refine gate_callee (f := 78) rfl ?_); refine goL (some 18) Tryz.func78 #[.int .i64 ((rd_T62 l0 a1).f1)] ?_; (with_reducible refine (spec_Decimal.calls k ((rd_T62 l0 a1).f1) t312 _ A6.out).mono ?_); rintro e w9 ⟨rfl, hb⟩; refine ⟨_, rfl, ?_⟩; replace BK311 := As.mk (blk_below (g := gb311) (o := .cells #[.int .i64 ((rd_T62 l0 a1).f0), .int .i64 ((rd_T62 l0 a1).f1), .string ((rd_T62 l0 a1).f2), .slice A310_3 ((rd_T62 l0 a1).f3).length c310_3] 62 (0, 0)) (by exact pl (bp4 (bx BK311.out))) hb); replace HB := bs w hb; (try clear hb)))
  go_ret
  exact ⟨ez, be w⟩
 rw [if_neg c5] at H; have c5b0 : (((rd_T62 l0 a1).f0) == 1) = false := beq_eq_false_iff_ne.mpr c5; have c5b1 : (((rd_T62 l0 a1).f0) != 1) = true := bne_iff_ne.mpr c5
 by_cases c10 : ((rd_T62 l0 a1).f0) = 2
 ·
  rw [if_pos c10] at H; have c10b0 : (((rd_T62 l0 a1).f0) == 2) = true := beq_iff_eq.mpr c10; have c10b1 : (((rd_T62 l0 a1).f0) != 2) = false := bne_eq_false_iff_eq.mpr c10; clear c10; obtain rfl := sj H; obtain ⟨ad310, A310_3, c310_3, e310, p310, q310, x310a, x310b, x310c, x310d, HC310_3, HR310_3⟩ := bt_T62 (Below.refl _ _) HR0.out a1 od od; cases e310; go_enter Tryz.func52, Tryz.ntmps52
  go_wp2_with (first | ((with_reducible refine gate_dst (N := 5) rfl ?_); refine bxe 5 #[.int .i64 0, .int .i64 0, .string (⟨#[]⟩ : ByteArray), .slice none 0 0] 62 ?_; intro gb311 hg w11 BK311 hb; have GW311 := As.mk (gs w hg); replace HB := bs w hb; clear hb hg; obtain ⟨y12a, y12b, y12c, y12d, v12a, v12b, v12c, v12d⟩ := cl4 BK311.out))
  go_ret
  exact ⟨ez, be w⟩
 rw [if_neg c10] at H; have c10b0 : (((rd_T62 l0 a1).f0) == 2) = false := beq_eq_false_iff_ne.mpr c10; have c10b1 : (((rd_T62 l0 a1).f0) != 2) = true := bne_iff_ne.mpr c10
 by_cases c13 : ((rd_T62 l0 a1).f0) = 3
 ·
  rw [if_pos c13] at H; have c13b0 : (((rd_T62 l0 a1).f0) == 3) = true := beq_iff_eq.mpr c13; have c13b1 : (((rd_T62 l0 a1).f0) != 3) = false := bne_eq_false_iff_eq.mpr c13; clear c13; replace H := il H; obtain ⟨c14, c14b0, c14b1, c14b2, H⟩ := H; obtain rfl := sj H; obtain ⟨ad310, A310_3, c310_3, e310, p310, q310, x310a, x310b, x310c, x310d, HC310_3, HR310_3⟩ := bt_T62 (Below.refl _ _) HR0.out a1 od od; cases e310; go_enter Tryz.func52, Tryz.ntmps52
  go_wp2_with (first | ((with_reducible refine gate_dst (N := 5) rfl ?_); refine bxe 5 #[.int .i64 0, .int .i64 0, .string (⟨#[]⟩ : ByteArray), .slice none 0 0] 62 ?_; intro gb311 hg w15 BK311 hb; have GW311 := As.mk (gs w hg); replace HB := bs w hb; clear hb hg; obtain ⟨y16a, y16b, y16c, y16d, v16a, v16b, v16c, v16d⟩ := cl4 BK311.out))
  go_ret
  exact ⟨ez, be w⟩
 rw [if_neg c13] at H; have c13b0 : (((rd_T62 l0 a1).f0) == 3) = false := beq_eq_false_iff_ne.mpr c13; have c13b1 : (((rd_T62 l0 a1).f0) != 3) = true := bne_iff_ne.mpr c13
 by_cases c17 : ((rd_T62 l0 a1).f0) = 4
 ·
  rw [if_pos c17] at H; have c17b0 : (((rd_T62 l0 a1).f0) == 4) = true := beq_iff_eq.mpr c17; have c17b1 : (((rd_T62 l0 a1).f0) != 4) = false := bne_eq_false_iff_eq.mpr c17; clear c17; replace H := il H; obtain ⟨c18, c18b0, c18b1, c18b2, H⟩ := H; obtain rfl := sj H; obtain ⟨ad310, A310_3, c310_3, e310, p310, q310, x310a, x310b, x310c, x310d, HC310_3, HR310_3⟩ := bt_T62 (Below.refl _ _) HR0.out a1 od od; cases e310; go_enter Tryz.func52, Tryz.ntmps52
  go_wp2_with (first | ((with_reducible refine gate_dst (N := 5) rfl ?_); refine bxe 5 #[.int .i64 0, .int .i64 0, .string (⟨#[]⟩ : ByteArray), .slice none 0 0] 62 ?_; intro gb311 hg w19 BK311 hb; have GW311 := As.mk (gs w hg); replace HB := bs w hb; clear hb hg; obtain ⟨y20a, y20b, y20c, y20d, v20a, v20b, v20c, v20d⟩ := cl4 BK311.out))
  go_ret
  exact ⟨ez, be w⟩
 rw [if_neg c17] at H; have c17b0 : (((rd_T62 l0 a1).f0) == 4) = false := beq_eq_false_iff_ne.mpr c17; have c17b1 : (((rd_T62 l0 a1).f0) != 4) = true := bne_iff_ne.mpr c17
 by_cases c21 : ((rd_T62 l0 a1).f0) = 5
 ·
  rw [if_pos c21] at H; have c21b0 : (((rd_T62 l0 a1).f0) == 5) = true := beq_iff_eq.mpr c21; have c21b1 : (((rd_T62 l0 a1).f0) != 5) = false := bne_eq_false_iff_eq.mpr c21; clear c21; replace H := il H; obtain ⟨c22, c22b0, c22b1, c22b2, H⟩ := H; obtain rfl := sj H; obtain ⟨ad310, A310_3, c310_3, e310, p310, q310, x310a, x310b, x310c, x310d, HC310_3, HR310_3⟩ := bt_T62 (Below.refl _ _) HR0.out a1 od od; cases e310; go_enter Tryz.func52, Tryz.ntmps52
  go_wp2_with (first | ((with_reducible refine gate_dst (N := 5) rfl ?_); refine bxe 5 #[.int .i64 0, .int .i64 0, .string (⟨#[]⟩ : ByteArray), .slice none 0 0] 62 ?_; intro gb311 hg w23 BK311 hb; have GW311 := As.mk (gs w hg); replace HB := bs w hb; clear hb hg; obtain ⟨y24a, y24b, y24c, y24d, v24a, v24b, v24c, v24d⟩ := cl4 BK311.out))
  go_ret
  exact ⟨ez, be w⟩
 rw [if_neg c21] at H; have c21b0 : (((rd_T62 l0 a1).f0) == 5) = false := beq_eq_false_iff_ne.mpr c21; have c21b1 : (((rd_T62 l0 a1).f0) != 5) = true := bne_iff_ne.mpr c21
 by_cases c25 : ((rd_T62 l0 a1).f0) = 6
 ·
  rw [if_pos c25] at H; have c25b0 : (((rd_T62 l0 a1).f0) == 6) = true := beq_iff_eq.mpr c25; have c25b1 : (((rd_T62 l0 a1).f0) != 6) = false := bne_eq_false_iff_eq.mpr c25; clear c25; replace H := il H; obtain ⟨c26, c26b0, c26b1, c26b2, H⟩ := H; obtain rfl := sj H; obtain ⟨ad310, A310_3, c310_3, e310, p310, q310, x310a, x310b, x310c, x310d, HC310_3, HR310_3⟩ := bt_T62 (Below.refl _ _) HR0.out a1 od od; cases e310; go_enter Tryz.func52, Tryz.ntmps52
  go_wp2_with (first | ((with_reducible refine gate_dst (N := 5) rfl ?_); refine bxe 5 #[.int .i64 0, .int .i64 0, .string (⟨#[]⟩ : ByteArray), .slice none 0 0] 62 ?_; intro gb311 hg w27 BK311 hb; have GW311 := As.mk (gs w hg); replace HB := bs w hb; clear hb hg; obtain ⟨y28a, y28b, y28c, y28d, v28a, v28b, v28c, v28d⟩ := cl4 BK311.out))
  go_ret
  exact ⟨ez, be w⟩
 rw [if_neg c25] at H; have c25b0 : (((rd_T62 l0 a1).f0) == 6) = false := beq_eq_false_iff_ne.mpr c25; have c25b1 : (((rd_T62 l0 a1).f0) != 6) = true := bne_iff_ne.mpr c25
 by_cases c29 : ((rd_T62 l0 a1).f0) = 7
 ·
  rw [if_pos c29] at H; have c29b0 : (((rd_T62 l0 a1).f0) == 7) = true := beq_iff_eq.mpr c29; have c29b1 : (((rd_T62 l0 a1).f0) != 7) = false := bne_eq_false_iff_eq.mpr c29; clear c29; obtain rfl := sj H; obtain ⟨ad310, A310_3, c310_3, e310, p310, q310, x310a, x310b, x310c, x310d, HC310_3, HR310_3⟩ := bt_T62 (Below.refl _ _) HR0.out a1 od od; cases e310; go_enter Tryz.func52, Tryz.ntmps52
  go_wp2_with (first | ((with_reducible refine gate_dst (N := 5) rfl ?_); refine bxe 5 #[.int .i64 0, .int .i64 0, .string (⟨#[]⟩ : ByteArray), .slice none 0 0] 62 ?_; intro gb311 hg w30 BK311 hb; have GW311 := As.mk (gs w hg); replace HB := bs w hb; clear hb hg; obtain ⟨y31a, y31b, y31c, y31d, v31a, v31b, v31c, v31d⟩ := cl4 BK311.out))
  go_ret
  exact ⟨ez, be w⟩
 rw [if_neg c29] at H; have c29b0 : (((rd_T62 l0 a1).f0) == 7) = false := beq_eq_false_iff_ne.mpr c29; have c29b1 : (((rd_T62 l0 a1).f0) != 7) = true := bne_iff_ne.mpr c29
 by_cases c32 : ((rd_T62 l0 a1).f0) = 8
 ·
  rw [if_pos c32] at H; have c32b0 : (((rd_T62 l0 a1).f0) == 8) = true := beq_iff_eq.mpr c32; have c32b1 : (((rd_T62 l0 a1).f0) != 8) = false := bne_eq_false_iff_eq.mpr c32; clear c32; have c33 := i1 H; replace H := i2 H; have c33b0 := decide_eq_true c33; have c33b1 : decide (0 < ((rd_T62 l0 a1).f3).length) = true := decide_eq_true (by omega); clear c33; replace H := bo H; obtain ⟨t314, A34, H⟩ := H; replace H := il H; obtain ⟨c35, c35b0, c35b1, c35b2, H⟩ := H; obtain rfl := sj H; obtain ⟨ad310, A310_3, c310_3, e310, p310, q310, x310a, x310b, x310c, x310d, HC310_3, HR310_3⟩ := bt_T62 (Below.refl _ _) HR0.out a1 od od; cases e310; go_enter Tryz.func52, Tryz.ntmps52
  go_wp2_with (first | ((with_reducible refine gate_dst (N := 5) rfl ?_); refine bxe 5 #[.int .i64 0, .int .i64 0, .string (⟨#[]⟩ : ByteArray), .slice none 0 0] 62 ?_; intro gb311 hg w36 BK311 hb; have GW311 := As.mk (gs w hg); replace HB := bs w hb; clear hb hg; obtain ⟨y37a, y37b, y37c, y37d, v37a, v37b, v37c, v37d⟩ := cl4 BK311.out; have p313 : 0 ≤ (0 : Int) := (by omega); have q313 : 0 < (((rd_T62 l0 a1).f3).length : Int) := od; obtain ⟨ad313, e313, x313a⟩ := Kd.at_int HR310_3.out 0 p313 q313; cases e313; have qi313 : (0 < ((rd_T62 l0 a1).f3).length) = True := eq_true (by omega); (try rw [show ((0 : Int)).toNat = 0 from rfl] at x313a); (try rw [Addr.add_zero'] at x313a); have hn313_0 : ad313.block ≠ gb311 := (by first | exact nb2 x313a GW311.out | exact nb1 x313a GW311.out); have hn313_1 : ad313.block ≠ gb311 := (by first | exact nb2 x313a GW311.out | exact nb1 x313a GW311.out); have hn313_2 : ad313.block ≠ gb311 := (by first | exact nb2 x313a GW311.out | exact nb1 x313a GW311.out); have hn313_3 : ad313.block ≠ gb311 := (by first | exact nb2 x313a GW311.out | exact nb1 x313a GW311.out); replace x313a := ce HB.out x313a; replace x313a := cfz (j := 0) (.int .i64 ((rd_T62 l0 a1).f0)) x313a hn313_0; replace x313a := cfz (j := 1) (.int .i64 ((rd_T62 l0 a1).f1)) x313a hn313_1; replace x313a := cfz (j := 2) (.string ((rd_T62 l0 a1).f2)) x313a hn313_2; replace x313a := cfz (j := 3) (.slice (some ad313) ((rd_T62 l0 a1).f3).length c310_3) x313a hn313_3; clear hn313_0; clear hn313_1; clear hn313_2; clear hn313_3; replace p313 := eq_true p313; replace q313 := eq_true q313) | ((with_reducible refine gate_callee (f := 79) rfl ?_); refine goL (some 52) Tryz.func79 #[.slice (some ad310) l0.length c0, .int .i64 (rd ((rd_T62 l0 a1).f3) 0)] ?_; (with_reducible refine (ih_spec_l06Kid k (by omega) _ _ l0 (rd ((rd_T62 l0 a1).f3) 0) t314 _ ?side1 ?side2 A34.out).mono ?_); (case side1 => exact Kd.C_below HR0.out (be w)); (case side2 => exact HC0.out); rintro e w38 ⟨rfl, hb⟩; refine ⟨_, rfl, ?_⟩; replace BK311 := As.mk (blk_below (g := gb311) (o := .cells #[.int .i64 ((rd_T62 l0 a1).f0), .int .i64 ((rd_T62 l0 a1).f1), .string ((rd_T62 l0 a1).f2), .slice (some ad313) ((rd_T62 l0 a1).f3).length c310_3] 62 (0, 0)) (by exact pl (bp4 (bx BK311.out))) hb); replace HB := bs w hb; (try clear hb)))
  go_ret
  exact ⟨ez, be w⟩
 rw [if_neg c32] at H; have c32b0 : (((rd_T62 l0 a1).f0) == 8) = false := beq_eq_false_iff_ne.mpr c32; have c32b1 : (((rd_T62 l0 a1).f0) != 8) = true := bne_iff_ne.mpr c32
 by_cases c39 : ((rd_T62 l0 a1).f0) = 12
 ·
  rw [if_pos c39] at H; have c39b0 : (((rd_T62 l0 a1).f0) == 12) = true := beq_iff_eq.mpr c39; have c39b1 : (((rd_T62 l0 a1).f0) != 12) = false := bne_eq_false_iff_eq.mpr c39; clear c39; replace H := il H; obtain ⟨c40, c40b0, c40b1, c40b2, H⟩ := H; have H' := As.mk H; clear H; obtain ⟨ad310, A310_3, c310_3, e310, p310, q310, x310a, x310b, x310c, x310d, HC310_3, HR310_3⟩ := bt_T62 (Below.refl _ _) HR0.out a1 od od; cases e310; go_enter Tryz.func52, Tryz.ntmps52
  go_wp2_with (first | ((with_reducible refine gate_dst (N := 5) rfl ?_); refine bxe 5 #[.int .i64 0, .int .i64 0, .string (⟨#[]⟩ : ByteArray), .slice none 0 0] 62 ?_; intro gb311 hg w41 BK311 hb; have GW311 := As.mk (gs w hg); replace HB := bs w hb; clear hb hg; obtain ⟨y42a, y42b, y42c, y42d, v42a, v42b, v42c, v42d⟩ := cl4 BK311.out))
  go_loopg [6, 7] k (fun kq v6 v7 w' => ∃ (x6_1 : ByteArray) (x7_1 : Int), v6 = .string x6_1 ∧ v7 = .int .i64 x7_1 ∧ As (spec_l06Value.l0 kq l0 x6_1 x7_1 ((rd_T62 l0 a1).f0) ((rd_T62 l0 a1).f1) ((rd_T62 l0 a1).f2) ((rd_T62 l0 a1).f3) = some r) ∧ As (kq ≤ k) ∧ As (w'.heap[gb311]? = some (.cells #[.int .i64 ((rd_T62 l0 a1).f0), .int .i64 ((rd_T62 l0 a1).f1), .string ((rd_T62 l0 a1).f2), (.slice A310_3 ((rd_T62 l0 a1).f3).length c310_3)] 62 (0, 0))) ∧ As (Below w.heap.size w w'))
  case atStart => exact ⟨(((rd_T62 l0 a1).f2) ++ (⟨#[40]⟩ : ByteArray)), (0), (by first | rfl | (simp; done) | (simp [*]; done)), (by first | rfl | (simp; done) | (simp [*]; done)), H', ⟨Nat.le_refl _⟩, ⟨by exact pl (bp4 (bx BK311.out))⟩, ⟨be w⟩⟩
  case round =>
   clear H'; (try clear c3); (try clear c3b0); (try clear c4); (try clear c4b0); (try clear c5); (try clear c5b0); (try clear c5b1); (try clear c10); (try clear c10b0); (try clear c10b1); (try clear c13); (try clear c13b0); (try clear c13b1); (try clear c17); (try clear c17b0); (try clear c17b1); (try clear c21); (try clear c21b0); (try clear c21b1); (try clear c25); (try clear c25b0); (try clear c25b1); (try clear c29); (try clear c29b0); (try clear c29b1); (try clear c32); (try clear c32b0); (try clear c32b1); (try clear c39); (try clear c39b0); (try clear c39b1); (try clear c40); (try clear c40b0); (try clear c40b1); (try clear c40b2); (try clear y42a); (try clear y42b); (try clear y42c); (try clear y42d); (try clear v42a); (try clear v42b); (try clear v42c); (try clear v42d); (try clear x310a); (try clear x310b); (try clear x310c); (try clear x310d); (try clear p310); (try clear q310); obtain ⟨x6_1, x7_1, rfl, rfl, HA, HK1, BK311, HB⟩ := hrel
   cases gk with
   | zero => exact absurd HA.out (by simp [spec_l06Value.l0])
   | succ k1 =>
    have H := HA.out; clear HA
    simp only [spec_l06Value.l0] at H
    by_cases c43 : x7_1 < (((rd_T62 l0 a1).f3).length : Int)
    rotate_left
    ·
     rw [if_neg c43] at H; have c43b0 := decide_eq_false c43; clear c43; replace H := il H; obtain ⟨c56, c56b0, c56b1, c56b2, H⟩ := H; obtain rfl := sj H; obtain ⟨y57a, y57b, y57c, y57d, v57a, v57b, v57c, v57d⟩ := cl4 BK311.out
     go_wp2
     go_ret
     exact ⟨ez, be w⟩
    rw [if_pos c43] at H; have c43b0 := decide_eq_true c43; clear c43
    by_cases c44 : x7_1 > 0
    rotate_left
    ·
     rw [if_neg c44] at H; have c44b0 : decide (0 < x7_1) = false := decide_eq_false c44; clear c44; replace H := ia H; obtain ⟨c51b0, H⟩ := H; replace H := bo H; obtain ⟨t318, A52, H⟩ := H; replace H := il H; obtain ⟨c53, c53b0, c53b1, c53b2, H⟩ := H; have H' := As.mk H; clear H; obtain ⟨y54a, y54b, y54c, y54d, v54a, v54b, v54c, v54d⟩ := cl4 BK311.out; have p317 : 0 ≤ (x7_1 : Int) := od; have q317 : x7_1 < (((rd_T62 l0 a1).f3).length : Int) := od; obtain ⟨ad317, e317, x317a⟩ := Kd.at_int HR310_3.out x7_1 p317 q317; cases e317; replace x317a := ce HB.out x317a; replace p317 := eq_true p317; replace q317 := eq_true q317
     go_wp2_with (first | ((with_reducible refine gate_callee (f := 52) rfl ?_); refine goL (some 77) Tryz.func52 #[.slice (some ad310) l0.length c0, .int .i64 (rd ((rd_T62 l0 a1).f3) x7_1)] ?_; (with_reducible refine (ih k1 (by have := HK1.out; omega) _ _ l0 (rd ((rd_T62 l0 a1).f3) x7_1) t318 _ ?side1 ?side2 A52.out).mono ?_); (case side1 => exact Kd.C_below HR0.out (be w)); (case side2 => exact HC0.out); rintro e w55 ⟨rfl, hb⟩; refine ⟨_, rfl, ?_⟩; replace BK311 := bb BK311 hb; replace HB := bs w hb; (try clear hb)))
     go_roundg k1
     case measure => have := HK1.out; omega
     case rel => exact ⟨(x6_1 ++ t318), (wrap64 (x7_1 + 1)), (by first | rfl | (simp; done) | (simp [*]; done)), (by first | rfl | (simp; done) | (simp [*]; done)), H', ⟨by have := HK1.out; omega⟩, ⟨bx BK311.out⟩, ⟨be w⟩⟩
    rw [if_pos c44] at H; have c44b0 : decide (0 < x7_1) = true := decide_eq_true c44; clear c44; replace H := il H; obtain ⟨c45, c45b0, c45b1, c45b2, H⟩ := H; replace H := ia H; obtain ⟨c46b0, H⟩ := H; replace H := bo H; obtain ⟨t316, A47, H⟩ := H; replace H := il H; obtain ⟨c48, c48b0, c48b1, c48b2, H⟩ := H
    try have c48b4 : (9223372036854775807 < x6_1.size + 2 + t316.size) = False := eq_false (Nat.not_lt.2 (by have h_ := c48; simp only [ByteArray.size_append] at h_; exact h_))
    have H' := As.mk H; clear H; obtain ⟨y49a, y49b, y49c, y49d, v49a, v49b, v49c, v49d⟩ := cl4 BK311.out; have p315 : 0 ≤ (x7_1 : Int) := od; have q315 : x7_1 < (((rd_T62 l0 a1).f3).length : Int) := od; obtain ⟨ad315, e315, x315a⟩ := Kd.at_int HR310_3.out x7_1 p315 q315; cases e315; replace x315a := ce HB.out x315a; replace p315 := eq_true p315; replace q315 := eq_true q315
    go_wp2_with (first | ((with_reducible refine gate_callee (f := 52) rfl ?_); refine goL (some 77) Tryz.func52 #[.slice (some ad310) l0.length c0, .int .i64 (rd ((rd_T62 l0 a1).f3) x7_1)] ?_; (with_reducible refine (ih k1 (by have := HK1.out; omega) _ _ l0 (rd ((rd_T62 l0 a1).f3) x7_1) t316 _ ?side1 ?side2 A47.out).mono ?_); (case side1 => exact Kd.C_below HR0.out (be w)); (case side2 => exact HC0.out); rintro e w50 ⟨rfl, hb⟩; refine ⟨_, rfl, ?_⟩; replace BK311 := bb BK311 hb; replace HB := bs w hb; (try clear hb)))
    go_roundg k1
    case measure => have := HK1.out; omega
    case rel => exact ⟨((x6_1 ++ (⟨#[44, 32]⟩ : ByteArray)) ++ t316), (wrap64 (x7_1 + 1)), (by first | rfl | (simp; done) | (simp [*]; done)), (by first | rfl | (simp; done) | (simp [*]; done)), H', ⟨by have := HK1.out; omega⟩, ⟨bx BK311.out⟩, ⟨be w⟩⟩
 rw [if_neg c39] at H; have c39b0 : (((rd_T62 l0 a1).f0) == 12) = false := beq_eq_false_iff_ne.mpr c39; have c39b1 : (((rd_T62 l0 a1).f0) != 12) = true := bne_iff_ne.mpr c39; have c58 := i1 H; replace H := i2 H; have c58b0 := decide_eq_true c58; have c58b1 : decide (0 < ((rd_T62 l0 a1).f3).length) = true := decide_eq_true (by omega); clear c58; replace H := bo H; obtain ⟨t320, A59, H⟩ := H; replace H := bo H; obtain ⟨t321, A60, H⟩ := H; replace H := il H; obtain ⟨c61, c61b0, c61b1, c61b2, H⟩ := H; have c62 := i1 H; replace H := i2 H; have c62b0 := decide_eq_true c62; have c62b1 : decide (1 < ((rd_T62 l0 a1).f3).length) = true := decide_eq_true (by omega); clear c62; replace H := bo H; obtain ⟨t323, A63, H⟩ := H; replace H := il H; obtain ⟨c64, c64b0, c64b1, c64b2, H⟩ := H
 try have c64b4 : (9223372036854775807 < t320.size + t321.size + t323.size) = False := eq_false (Nat.not_lt.2 (by have h_ := c64; simp only [ByteArray.size_append] at h_; exact h_))
 obtain rfl := sj H; obtain ⟨ad310, A310_3, c310_3, e310, p310, q310, x310a, x310b, x310c, x310d, HC310_3, HR310_3⟩ := bt_T62 (Below.refl _ _) HR0.out a1 od od; cases e310; go_enter Tryz.func52, Tryz.ntmps52
 try go_wp2_with (first | ((with_reducible refine gate_dst (N := 5) rfl ?_); refine bxe 5 #[.int .i64 0, .int .i64 0, .string (⟨#[]⟩ : ByteArray), .slice none 0 0] 62 ?_; intro gb311 hg w65 BK311 hb; have GW311 := As.mk (gs w hg); replace HB := bs w hb; clear hb hg; obtain ⟨y66a, y66b, y66c, y66d, v66a, v66b, v66c, v66d⟩ := cl4 BK311.out))
 generalize hW_ : ((((w65.setCell ⟨gb311, 0, none⟩ (.int .i64 ((rd_T62 l0 a1).f0))).setCell ⟨gb311, 1, none⟩ (.int .i64 ((rd_T62 l0 a1).f1))).setCell ⟨gb311, 2, none⟩ (.string ((rd_T62 l0 a1).f2))).setCell ⟨gb311, 3, none⟩ (.slice A310_3 ((rd_T62 l0 a1).f3).length c310_3)) = w67
 have n0_ : As (w67.heap[gb311]? = some (.cells #[.int .i64 ((rd_T62 l0 a1).f0), .int .i64 ((rd_T62 l0 a1).f1), .string ((rd_T62 l0 a1).f2), .slice A310_3 ((rd_T62 l0 a1).f3).length c310_3] 62 (0, 0))) := ⟨by rw [← hW_]; exact pl (bp4 (bx BK311.out))⟩; have n1_ : As (Below w.heap.size w w67) := ⟨by rw [← hW_]; exact be w⟩; (try clear BK311); (try clear HB); clear hW_; have BK311 := n0_; have HB := n1_; clear n0_ n1_; replace BK311 := As.mk (blk_drew BK311.out); replace HB := As.mk (below_drew1 HB.out); have p319 : 0 ≤ (0 : Int) := (by omega); have q319 : 0 < (((rd_T62 l0 a1).f3).length : Int) := od; obtain ⟨ad319, e319, x319a⟩ := Kd.at_int HR310_3.out 0 p319 q319; have hw319_0 := x319a; (try rw [show ((0 : Int)).toNat = 0 from rfl] at hw319_0); (try rw [show 0 * 1 = 0 from rfl] at hw319_0); (try rw [Addr.add_zero'] at hw319_0); cases e319; have qi319 : (0 < ((rd_T62 l0 a1).f3).length) = True := eq_true (by omega); (try rw [show ((0 : Int)).toNat = 0 from rfl] at x319a); (try rw [Addr.add_zero'] at x319a); replace x319a := ce HB.out x319a; replace p319 := eq_true p319; replace q319 := eq_true q319; have p322 : 0 ≤ (1 : Int) := (by omega); have q322 : 1 < (((rd_T62 l0 a1).f3).length : Int) := od; obtain ⟨ad322, e322, x322a⟩ := Kd.at_int HR310_3.out 1 p322 q322; have hw322_0 := x322a; (try rw [show ((1 : Int)).toNat = 1 from rfl] at hw322_0); (try rw [show 1 * 1 = 1 from rfl] at hw322_0); (try simp only [Nat.reduceMul, Nat.reduceEqDiff, Go.Addr.add, ↓reduceIte] at hw322_0); obtain rfl : ad319 = ad322 := (by injection e322); (try simp only [show (1 : Int).toNat = 1 from rfl, Nat.reduceMul, Nat.reduceEqDiff, Go.Addr.add, ↓reduceIte] at x322a); have qi322 : (1 < ((rd_T62 l0 a1).f3).length) = True := eq_true (by omega); (try rw [show ((1 : Int)).toNat = 1 from rfl] at x322a); replace x322a := ce HB.out x322a; replace p322 := eq_true p322; replace q322 := eq_true q322
 refine start_ (n := 18) (S := _) (ds := []) #[O,O,O,O,O,O,O,O,O,O,O,O,O,O,O,O,O,O] (by kernel_rfl) rfl rfl (ba (bf BK311.out) (ba (cf hw319_0) (cf hw322_0))) (fun hHeld => ?_); refine with_tabW spec_l06Value.tab28 spec_l06Value.bits28 (fun HT_ HW_ => ?_)
 generalize w67.drew = w68 at BK311 HB x319a x322a hHeld ⊢
 refine pq 0 81 HT_ _ _ ?_; refine pq 1 82 HT_ _ _ ?_; refine pq 6 87 HT_ _ _ ?_; refine pq 10 91 HT_ _ _ ?_; refine pq 11 92 HT_ _ _ ?_; refine tq_b4c1c1 2 83 HT_ HW_.out hHeld _ _ ?_; refine pq 3 84 HT_ _ _ ?_; refine tq_b4c1c1 4 85 HT_ HW_.out hHeld _ _ ?_; refine tq_b4c1c1 7 88 HT_ HW_.out hHeld _ _ ?_; refine tq_b4c1c1 12 93 HT_ HW_.out hHeld _ _ ?_; refine pq 13 94 HT_ _ _ ?_; refine tq_b4c1c1 14 95 HT_ HW_.out hHeld _ _ ?_; refine on 5 (some 86) HT_ (fun K hK => ?_); refine goS Tryz.func79 #[.slice (some ad310) l0.length c0, .int .i64 (rd ((rd_T62 l0 a1).f3) 0)] ?_
 with_reducible refine (ih_spec_l06Kid k (by omega) _ _ l0 (rd ((rd_T62 l0 a1).f3) 0) t320 _ ?side1 ?side2 A59.out).mono ?_
 (case side1 => exact Kd.C_below HR0.out (be w))
 (case side2 => exact HC0.out)
 rintro e w69 ⟨rfl, hb⟩
 refine ⟨_, rfl, ?_⟩
 replace BK311 := bb BK311 hb; replace HB := bs w hb; (try clear hb); (try clear hb2); (try clear hk); (try clear hi)
 refine hK.out _ _ (ba (bf BK311.out) (ba (cf hw319_0) (cf hw322_0))) (fun hHeld => ?_)
 clear hK K; refine nm _ ?_; refine on 8 (some 89) HT_ (fun K hK => ?_); refine goS Tryz.func80 #[.int .i64 ((rd_T62 l0 a1).f0)] ?_
 with_reducible refine (spec_l06Sign.calls ((rd_T62 l0 a1).f0) t321 _ A60.out).mono ?_
 rintro e w' ⟨rfl, ⟨nd, rfl⟩⟩
 refine ⟨_, rfl, ?_⟩
 refine hK.out _ _ (ba (bf BK311.out) (ba (cf hw319_0) (cf hw322_0))) (fun hHeld => ?_)
 clear hK K; refine nm _ ?_; refine pq 9 90 HT_ _ _ ?_; refine on 15 (some 96) HT_ (fun K hK => ?_); refine goS Tryz.func79 #[.slice (some ad310) l0.length c0, .int .i64 (rd ((rd_T62 l0 a1).f3) 1)] ?_
 with_reducible refine (ih_spec_l06Kid k (by omega) _ _ l0 (rd ((rd_T62 l0 a1).f3) 1) t323 _ ?side1 ?side2 A63.out).mono ?_
 (case side1 => exact Kd.C_below HR0.out (be w))
 (case side2 => exact HC0.out)
 rintro e w70 ⟨rfl, hb⟩
 refine ⟨_, rfl, ?_⟩
 replace BK311 := bb BK311 hb; replace HB := bs w hb; (try clear hb); (try clear hb2); (try clear hk); (try clear hi)
 refine hK.out _ _ (ba (bf BK311.out) (ba (cf hw319_0) (cf hw322_0))) (fun hHeld => ?_)
 clear hK K; refine nm _ ?_; refine pq 16 97 HT_ _ _ ?_; refine pq 17 4 HT_ _ _ ?_
 refine done_ (done_of HT_.out (by kernel_rfl)) ?_
 try go_wp2
 go_ret
 exact ⟨ez, be w⟩
theorem spec_l06Value.allO (k : Nat) : spec_l06Kid.C k ∧ spec_l06Value.C k := by
  induction k using Nat.strongRecOn with
  | _ k ih => exact ⟨spec_l06Kid.callsO k (fun m_ h_ => (ih m_ h_).1) (fun m_ h_ => (ih m_ h_).2), spec_l06Value.callsO k (fun m_ h_ => (ih m_ h_).1) (fun m_ h_ => (ih m_ h_).2)⟩
theorem spec_l06Kid.calls (k : Nat) : ∀ (A0 : Option Addr) (c0 : Nat) (l0 : List (S62)) (a1 : Int) (r : ByteArray) (w : World) (hr0 : Kd.C k62 w A0 l0.length l0) (hc0 : l0.length ≤ c0) (h : spec_l06Kid.f k l0 a1 = some r),
  Calls Tryz.prog 79 #[.slice A0 l0.length c0, .int .i64 a1] w fun e w' => e = .returned (.string r) ∧ Below w.heap.size w w' := (spec_l06Value.allO k).1
theorem spec_l06Value.calls (k : Nat) : ∀ (A0 : Option Addr) (c0 : Nat) (l0 : List (S62)) (a1 : Int) (r : ByteArray) (w : World) (hr0 : Kd.C k62 w A0 l0.length l0) (hc0 : l0.length ≤ c0) (h : spec_l06Value.f k l0 a1 = some r),
  Calls Tryz.prog 52 #[.slice A0 l0.length c0, .int .i64 a1] w fun e w' => e = .returned (.string r) ∧ Below w.heap.size w w' := (spec_l06Value.allO k).2

/-! ### spec_l06In: function 72 -/
def spec_l06In.l0 : Nat → Int → ByteArray → Int → Option (ByteArray)
 | 0, _, _, _ => none
 | k + 1, x0, x3, x4 => if x4 < x0 then (if x4 < 20 then (if x3.size + 2 ≤ 9223372036854775807 then (spec_l06In.l0 k x0 (x3 ++ (⟨#[32, 32]⟩ : ByteArray)) (wrap64 (x4 + 1))) else (none)) else (some x3)) else (some x3)
def spec_l06In.f (k : Nat) (a0 : Int) : Option (ByteArray) := spec_l06In.l0 k a0 (⟨#[]⟩ : ByteArray) 0
theorem spec_l06In.mono_l : ∀ k, (∀ y0 y1 y2, LeO (spec_l06In.l0 k y0 y1 y2) (spec_l06In.l0 (k + 1) y0 y1 y2))
 | 0 => fun _ _ _ r h => by simp [spec_l06In.l0] at h
 | k + 1 => by
  have ih0 := spec_l06In.mono_l k
  ·
   intro y0 y1 y2
   unfold spec_l06In.l0
   with_reducible repeat' first | exact ih0 _ _ _ | exact LeO.refl _ | exact LeO.none _ | refine LeO.ite ?_ ?_ | refine LeO.bind ?_ (fun _ => ?_)
theorem spec_l06In.mono : ∀ a0 k, LeO (spec_l06In.f k a0) (spec_l06In.f (k + 1) a0) := by
 intro a0 k; have ih0 := spec_l06In.mono_l k
 unfold spec_l06In.f
 with_reducible repeat' first | exact ih0 _ _ _ | exact LeO.refl _ | exact LeO.none _ | refine LeO.ite ?_ ?_ | refine LeO.bind ?_ (fun _ => ?_)
set_option maxHeartbeats 8000000 in
set_option maxRecDepth 100000 in
theorem spec_l06In.calls (k : Nat) (a0 : Int) (r : ByteArray) (w : World) (h : spec_l06In.f k a0 = some r) :
  Calls Tryz.prog 72 #[.int .i64 a0] w fun e w' => e = .returned (.string r) ∧ Drawn0 w w' := by
 have H : (spec_l06In.l0 k a0 (⟨#[]⟩ : ByteArray) 0) = some r := h; clear h; have H' := As.mk H; clear H; go_enter Tryz.func72, Tryz.ntmps72
 go_wp2
 go_loopg [3, 4] k (fun kq v3 v4 w' => ∃ (x3_1 : ByteArray) (x4_1 : Int), v3 = .string x3_1 ∧ v4 = .int .i64 x4_1 ∧ As (spec_l06In.l0 kq a0 x3_1 x4_1 = some r) ∧ As (kq ≤ k) ∧ Drawn0 w w')
 case atStart => exact ⟨((⟨#[]⟩ : ByteArray)), (0), (by first | rfl | (simp; done) | (simp [*]; done)), (by first | rfl | (simp; done) | (simp [*]; done)), H', ⟨Nat.le_refl _⟩, by repeat (first | exact Drawn0.refl _ | apply Drawn0.step)⟩
 case round =>
  clear H'; obtain ⟨x3_1, x4_1, rfl, rfl, HA, HK1, ⟨m1, rfl⟩⟩ := hrel
  cases gk with
  | zero => exact absurd HA.out (by simp [spec_l06In.l0])
  | succ k1 =>
   have H := HA.out; clear HA
   simp only [spec_l06In.l0] at H
   by_cases c2 : x4_1 < a0
   rotate_left
   ·
    rw [if_neg c2] at H; have c2b0 := decide_eq_false c2; clear c2; obtain rfl := sj H
    go_wp2
    go_ret
    exact dw

   rw [if_pos c2] at H; have c2b0 := decide_eq_true c2; clear c2
   by_cases c3 : x4_1 < 20
   rotate_left
   ·
    rw [if_neg c3] at H; have c3b0 := decide_eq_false c3; clear c3; obtain rfl := sj H
    go_wp2
    go_ret
    exact dw
   rw [if_pos c3] at H; have c3b0 := decide_eq_true c3; clear c3; replace H := il H; obtain ⟨c4, c4b0, c4b1, c4b2, H⟩ := H; have H' := As.mk H; clear H
   go_wp2
   go_roundg k1
   case measure => have := HK1.out; omega
   case rel => exact ⟨(x3_1 ++ (⟨#[32, 32]⟩ : ByteArray)), (wrap64 (x4_1 + 1)), (by first | rfl | (simp; done) | (simp [*]; done)), (by first | rfl | (simp; done) | (simp [*]; done)), H', ⟨by have := HK1.out; omega⟩, by repeat (first | exact Drawn0.refl _ | apply Drawn0.step)⟩
end Go.Proofs.YtcoapbnbakmkoaaGreatDoor.PFnExactShowProgram
