/- Written by a program of this session (a turned copy of the kit's print): a contract for each Go function. No condition beside those in each statement. -/
import Derived.Test.YtcoapbnbakmkoaaGreatDoorPFnExactShowProgramx0
import Derived.Test.YtcoapbnbakmkoaaGreatDoorPFnExactShowProgramx12
import Derived.Test.YtcoapbnbakmkoaaGreatDoorPFnExactShowProgramx16
namespace Go.Proofs.YtcoapbnbakmkoaaGreatDoor.PFnExactShowProgram
open Go.RowKit Go.Proofs.YtcoapbnbakmkoaaGreatDoor.Given Go.Proofs.YtcoapbnbakmkoaaGreatDoorW.PrintWords Go.Proofs.YtcoapbnbakmkoaaGreatDoorW.PrintLast Go.Proofs.YtcoapbnbakmkoaaGreatDoorW.PrintMore
attribute [local go_sem] max2_int min2_int max_two min_two max_three min_three max_four min_four   -- for this text's walks alone
set_option linter.unusedVariables false
set_option linter.unusedSimpArgs false

/-! ### impl_showValue: function 57 -/
/-! ### impl_showIn: function 86 -/
mutual
def impl_showIn.f : Nat → List (S62) → List (S56) → Int → Option (ByteArray)
  | 0, _, _, _ => none
  | k + 1, l0_0, l0_1, a1 => if 0 ≤ a1 then (if a1 < (l0_0.length : Int) then ((impl_in.f ((rd_T62 l0_0 a1).f0) 9 11).bind fun t451 => (if t451 = true then ((impl_showValue.f k l0_0 l0_1 a1).bind fun t452 => (if 1 + t452.size ≤ 9223372036854775807 then (if ((⟨#[40]⟩ : ByteArray) ++ t452).size + 1 ≤ 9223372036854775807 then (some (((⟨#[40]⟩ : ByteArray) ++ t452) ++ (⟨#[41]⟩ : ByteArray))) else (none)) else (none))) else ((impl_showValue.f k l0_0 l0_1 a1).bind fun t453 => (some t453)))) else (none)) else (none)
def impl_showValue.l0 : Nat → List ByteArray → List Int → Int → Int → List (S62) → List (S56) → Int → Int → ByteArray → List Int → Option (ByteArray)
  | 0, _, _, _, _, _, _, _, _, _, _ => none
  | k + 1, x6, x103, x104, x105, x455000, x455001, x457000, x457001, x457002, x457003 => if x105 < x104 then (if 0 ≤ x105 then (if x105 < (x103.length : Int) then ((impl_showValue.f k x455000 x455001 (rd x103 x105)).bind fun t473 => (if x6.length < 8796093022208 then (impl_showValue.l0 k (x6 ++ [t473]) x103 x104 (wrap64 (x105 + 1)) x455000 x455001 x457000 x457001 x457002 x457003) else (none))) else (none)) else (none)) else (if x457002.size + 1 ≤ 9223372036854775807 then ((strings_Join.f x6 (⟨#[44, 32]⟩ : ByteArray)).bind fun t477 => (if (x457002 ++ (⟨#[40]⟩ : ByteArray)).size + t477.size ≤ 9223372036854775807 then (if ((x457002 ++ (⟨#[40]⟩ : ByteArray)) ++ t477).size + 1 ≤ 9223372036854775807 then (some (((x457002 ++ (⟨#[40]⟩ : ByteArray)) ++ t477) ++ (⟨#[41]⟩ : ByteArray))) else (none)) else (none))) else (none))
def impl_showValue.f : Nat → List (S62) → List (S56) → Int → Option (ByteArray)
  | 0, _, _, _ => none
  | k + 1, l0_0, l0_1, a1 => if 0 ≤ a1 then (if a1 < (l0_0.length : Int) then (if ((rd_T62 l0_0 a1).f0) = 1 then ((impl_Decimal.f ((rd_T62 l0_0 a1).f1)).bind fun t457 => (some t457)) else (if ((rd_T62 l0_0 a1).f0) = 3 then (if 1 + ((rd_T62 l0_0 a1).f2).size ≤ 9223372036854775807 then (some ((⟨#[42]⟩ : ByteArray) ++ ((rd_T62 l0_0 a1).f2))) else (none)) else (if ((rd_T62 l0_0 a1).f0) = 4 then (if 6 + ((rd_T62 l0_0 a1).f2).size ≤ 9223372036854775807 then (some ((⟨#[99, 108, 111, 110, 101, 32]⟩ : ByteArray) ++ ((rd_T62 l0_0 a1).f2))) else (none)) else (if ((rd_T62 l0_0 a1).f0) = 5 then (if 1 + ((rd_T62 l0_0 a1).f2).size ≤ 9223372036854775807 then (some ((⟨#[38]⟩ : ByteArray) ++ ((rd_T62 l0_0 a1).f2))) else (none)) else (if ((rd_T62 l0_0 a1).f0) = 6 then (if 5 + ((rd_T62 l0_0 a1).f2).size ≤ 9223372036854775807 then (some ((⟨#[38, 109, 117, 116, 32]⟩ : ByteArray) ++ ((rd_T62 l0_0 a1).f2))) else (none)) else (if ((rd_T62 l0_0 a1).f0) = 7 then (some (⟨#[105, 110, 112, 117, 116]⟩ : ByteArray)) else (if ((rd_T62 l0_0 a1).f0) = 8 then (if 0 < (((rd_T62 l0_0 a1).f3).length : Int) then ((impl_showIn.f k l0_0 l0_1 (rd ((rd_T62 l0_0 a1).f3) 0)).bind fun t459 => (if 4 + t459.size ≤ 9223372036854775807 then (some ((⟨#[110, 101, 119, 32]⟩ : ByteArray) ++ t459)) else (none))) else (none)) else (if ((rd_T62 l0_0 a1).f0) = 9 then (if 0 < (((rd_T62 l0_0 a1).f3).length : Int) then ((impl_showIn.f k l0_0 l0_1 (rd ((rd_T62 l0_0 a1).f3) 0)).bind fun t461 => (if t461.size + 3 ≤ 9223372036854775807 then (if 1 < (((rd_T62 l0_0 a1).f3).length : Int) then ((impl_showIn.f k l0_0 l0_1 (rd ((rd_T62 l0_0 a1).f3) 1)).bind fun t463 => (if (t461 ++ (⟨#[32, 43, 32]⟩ : ByteArray)).size + t463.size ≤ 9223372036854775807 then (some ((t461 ++ (⟨#[32, 43, 32]⟩ : ByteArray)) ++ t463)) else (none))) else (none)) else (none))) else (none)) else (if ((rd_T62 l0_0 a1).f0) = 10 then (if 0 < (((rd_T62 l0_0 a1).f3).length : Int) then ((impl_showIn.f k l0_0 l0_1 (rd ((rd_T62 l0_0 a1).f3) 0)).bind fun t465 => (if t465.size + 3 ≤ 9223372036854775807 then (if 1 < (((rd_T62 l0_0 a1).f3).length : Int) then ((impl_showIn.f k l0_0 l0_1 (rd ((rd_T62 l0_0 a1).f3) 1)).bind fun t467 => (if (t465 ++ (⟨#[32, 60, 32]⟩ : ByteArray)).size + t467.size ≤ 9223372036854775807 then (some ((t465 ++ (⟨#[32, 60, 32]⟩ : ByteArray)) ++ t467)) else (none))) else (none)) else (none))) else (none)) else (if ((rd_T62 l0_0 a1).f0) = 11 then (if 0 < (((rd_T62 l0_0 a1).f3).length : Int) then ((impl_showIn.f k l0_0 l0_1 (rd ((rd_T62 l0_0 a1).f3) 0)).bind fun t469 => (if t469.size + 4 ≤ 9223372036854775807 then (if 1 < (((rd_T62 l0_0 a1).f3).length : Int) then ((impl_showIn.f k l0_0 l0_1 (rd ((rd_T62 l0_0 a1).f3) 1)).bind fun t471 => (if (t469 ++ (⟨#[32, 61, 61, 32]⟩ : ByteArray)).size + t471.size ≤ 9223372036854775807 then (some ((t469 ++ (⟨#[32, 61, 61, 32]⟩ : ByteArray)) ++ t471)) else (none))) else (none)) else (none))) else (none)) else (if ((rd_T62 l0_0 a1).f0) = 12 then (impl_showValue.l0 k ([] : List ByteArray) ((rd_T62 l0_0 a1).f3) (((rd_T62 l0_0 a1).f3).length : Int) 0 l0_0 l0_1 ((rd_T62 l0_0 a1).f0) ((rd_T62 l0_0 a1).f1) ((rd_T62 l0_0 a1).f2) ((rd_T62 l0_0 a1).f3)) else (some ((rd_T62 l0_0 a1).f2))))))))))))) else (none)) else (none)
end
theorem impl_showValue.mono_l : ∀ k, (∀ y0 y1 y2, LeO (impl_showIn.f k y0 y1 y2) (impl_showIn.f (k + 1) y0 y1 y2)) ∧ (∀ y0 y1 y2, LeO (impl_showValue.f k y0 y1 y2) (impl_showValue.f (k + 1) y0 y1 y2)) ∧ (∀ y0 y1 y2 y3 y4 y5 y6 y7 y8 y9, LeO (impl_showValue.l0 k y0 y1 y2 y3 y4 y5 y6 y7 y8 y9) (impl_showValue.l0 (k + 1) y0 y1 y2 y3 y4 y5 y6 y7 y8 y9))
  | 0 => ⟨fun _ _ _ r h => by simp [impl_showIn.f] at h, fun _ _ _ r h => by simp [impl_showValue.f] at h, fun _ _ _ _ _ _ _ _ _ _ r h => by simp [impl_showValue.l0] at h⟩
  | k + 1 => by
    obtain ⟨ih0, ih1, ih2⟩ := impl_showValue.mono_l k
    refine ⟨?_, ?_, ?_⟩
    · intro y0 y1 y2
      unfold impl_showIn.f
      repeat' first
      | (with_reducible exact ih0 _ _ _)
      | (with_reducible exact ih1 _ _ _)
      | (with_reducible exact ih2 _ _ _ _ _ _ _ _ _ _)
      | (with_reducible exact LeO.refl _)
      | (with_reducible exact LeO.none _)
      | (with_reducible refine LeO.ite ?_ ?_)
      | (with_reducible refine LeO.bind ?_ (fun _ => ?_))
      | exact ih0 _ _ _
      | exact ih1 _ _ _
      | exact ih2 _ _ _ _ _ _ _ _ _ _
      | exact LeO.none _
      | refine LeO.ite ?_ ?_
      | refine LeO.bind ?_ (fun _ => ?_)
    · intro y0 y1 y2
      unfold impl_showValue.f
      repeat' first
      | (with_reducible exact ih0 _ _ _)
      | (with_reducible exact ih1 _ _ _)
      | (with_reducible exact ih2 _ _ _ _ _ _ _ _ _ _)
      | (with_reducible exact LeO.refl _)
      | (with_reducible exact LeO.none _)
      | (with_reducible refine LeO.ite ?_ ?_)
      | (with_reducible refine LeO.bind ?_ (fun _ => ?_))
      | exact ih0 _ _ _
      | exact ih1 _ _ _
      | exact ih2 _ _ _ _ _ _ _ _ _ _
      | exact LeO.none _
      | refine LeO.ite ?_ ?_
      | refine LeO.bind ?_ (fun _ => ?_)
    · intro y0 y1 y2 y3 y4 y5 y6 y7 y8 y9
      unfold impl_showValue.l0
      repeat' first
      | (with_reducible exact ih0 _ _ _)
      | (with_reducible exact ih1 _ _ _)
      | (with_reducible exact ih2 _ _ _ _ _ _ _ _ _ _)
      | (with_reducible exact LeO.refl _)
      | (with_reducible exact LeO.none _)
      | (with_reducible refine LeO.ite ?_ ?_)
      | (with_reducible refine LeO.bind ?_ (fun _ => ?_))
      | exact ih0 _ _ _
      | exact ih1 _ _ _
      | exact ih2 _ _ _ _ _ _ _ _ _ _
      | exact LeO.none _
      | refine LeO.ite ?_ ?_
      | refine LeO.bind ?_ (fun _ => ?_)
theorem impl_showIn.mono : ∀ a0 a1 a2 k, LeO (impl_showIn.f k a0 a1 a2) (impl_showIn.f (k + 1) a0 a1 a2) := by
  intro a0 a1 a2 k; obtain ⟨ih0, ih1, ih2⟩ := impl_showValue.mono_l k
  exact ih0 a0 a1 a2
theorem impl_showValue.mono : ∀ a0 a1 a2 k, LeO (impl_showValue.f k a0 a1 a2) (impl_showValue.f (k + 1) a0 a1 a2) := by
  intro a0 a1 a2 k; obtain ⟨ih0, ih1, ih2⟩ := impl_showValue.mono_l k
  exact ih1 a0 a1 a2
abbrev impl_showIn.C (k : Nat) : Prop := ∀ (A0_0 : Option Addr) (c0_0 : Nat) (l0_0 : List (S62)) (A0_1 : Option Addr) (c0_1 : Nat) (l0_1 : List (S56)) (a1 : Int) (r : ByteArray) (w : World) (hr0_0 : Kd.C k62 w A0_0 l0_0.length l0_0) (hc0_0 : l0_0.length ≤ c0_0) (hr0_1 : Kd.C k56 w A0_1 l0_1.length l0_1) (hc0_1 : l0_1.length ≤ c0_1) (hTab : TabW w) (h : impl_showIn.f k l0_0 l0_1 a1 = some r),
  Calls Tryz.prog 86 #[.agg #[.slice A0_0 l0_0.length c0_0, .slice A0_1 l0_1.length c0_1], .int .i64 a1] w fun e w' => e = .returned (.string r) ∧ Below w.heap.size w w'
abbrev impl_showValue.C (k : Nat) : Prop := ∀ (A0_0 : Option Addr) (c0_0 : Nat) (l0_0 : List (S62)) (A0_1 : Option Addr) (c0_1 : Nat) (l0_1 : List (S56)) (a1 : Int) (r : ByteArray) (w : World) (hr0_0 : Kd.C k62 w A0_0 l0_0.length l0_0) (hc0_0 : l0_0.length ≤ c0_0) (hr0_1 : Kd.C k56 w A0_1 l0_1.length l0_1) (hc0_1 : l0_1.length ≤ c0_1) (hTab : TabW w) (h : impl_showValue.f k l0_0 l0_1 a1 = some r),
  Calls Tryz.prog 57 #[.agg #[.slice A0_0 l0_0.length c0_0, .slice A0_1 l0_1.length c0_1], .int .i64 a1] w fun e w' => e = .returned (.string r) ∧ Below w.heap.size w w'
set_option maxHeartbeats 8000000 in
set_option maxRecDepth 100000 in
theorem impl_showIn.callsO (k : Nat) (ih : ∀ m_, m_ < k → impl_showIn.C m_) (ih_impl_showValue : ∀ m_, m_ < k → impl_showValue.C m_) : impl_showIn.C k := by
 intro A0_0 c0_0 l0_0 A0_1 c0_1 l0_1 a1 r w hr0_0 hc0_0 hr0_1 hc0_1 hTab h; have HTAB := As.mk hTab; clear hTab
 cases k with
 | zero => exact absurd h (by simp [impl_showIn.f])
 | succ k =>
 simp only [impl_showIn.f] at h
 have hu32 := Tryz.underlying32; have HR0_0 := As.mk hr0_0; have HC0_0 := As.mk hc0_0; clear hr0_0 hc0_0; have HR0_1 := As.mk hr0_1; have HC0_1 := As.mk hc0_1; clear hr0_1 hc0_1; have HB := As.mk (Below.refl w.heap.size w); have H : (if 0 ≤ a1 then (if a1 < (l0_0.length : Int) then ((impl_in.f ((rd_T62 l0_0 a1).f0) 9 11).bind fun t451 => (if t451 = true then ((impl_showValue.f k l0_0 l0_1 a1).bind fun t452 => (if 1 + t452.size ≤ 9223372036854775807 then (if ((⟨#[40]⟩ : ByteArray) ++ t452).size + 1 ≤ 9223372036854775807 then (some (((⟨#[40]⟩ : ByteArray) ++ t452) ++ (⟨#[41]⟩ : ByteArray))) else (none)) else (none))) else ((impl_showValue.f k l0_0 l0_1 a1).bind fun t453 => (some t453)))) else (none)) else (none)) = some r := h; clear h
 by_cases c3 : 0 ≤ a1
 rotate_left; · rw [if_neg c3] at H; exact absurd H (by simp)

 rw [if_pos c3] at H; have c3b0 := decide_eq_true c3; clear c3; replace H := ia H; obtain ⟨c4b0, H⟩ := H; replace H := bo H; obtain ⟨t451, A5, H⟩ := H
 by_cases c6 : t451 = true
 rotate_left
 ·
  replace c6 := Bool.eq_false_iff.mpr c6; subst c6; rw [if_neg ft] at H; replace H := bo H; obtain ⟨t453, A13, H⟩ := H; obtain rfl := sj H; go_enter Tryz.func86, Tryz.ntmps86
  go_wp2_with (first | ((with_reducible refine gate_dst (N := 2) rfl ?_); refine bxe 2 #[.slice A0_0 l0_0.length c0_0, .slice A0_1 l0_1.length c0_1] 32 ?_; intro gb449 hg w14 BK449 hb; have GW449 := As.mk (gs w hg); replace HB := bs w hb; clear hb hg; obtain ⟨y15a, y15b, v15a, v15b⟩ := cl2 BK449.out; obtain ⟨ad450, A450_3, c450_3, e450, p450, q450, x450a, x450b, x450c, x450d, HC450_3, HR450_3⟩ := bt_T62 HB.out HR0_0.out a1 od od; cases e450) | ((with_reducible refine gate_callee (f := 36) rfl ?_); refine goL (some 11) Tryz.func36 #[.int .i64 ((rd_T62 l0_0 a1).f0), .int .i64 9, .int .i64 11] ?_; (with_reducible refine (impl_in.calls ((rd_T62 l0_0 a1).f0) 9 11 false _ A5.out).mono ?_); rintro e w' ⟨rfl, ⟨nd, rfl⟩⟩; refine ⟨_, rfl, ?_⟩) | ((with_reducible refine gate_callee (f := 57) rfl ?_); refine goL (some 19) Tryz.func57 #[.agg #[.slice (some ad450) l0_0.length c0_0, .slice A0_1 l0_1.length c0_1], .int .i64 a1] ?_; (with_reducible refine (ih_impl_showValue k (by omega) _ _ l0_0 _ _ l0_1 a1 t453 _ ?side1 ?side2 ?side3 ?side4 (by first | (with_reducible exact HTAB.out) | exact tabW_below HTAB.out (be w)) A13.out).mono ?_); (case side1 => exact Kd.C_below HR0_0.out (be w)); (case side2 => exact HC0_0.out); (case side3 => exact Kd.C_below HR0_1.out (be w)); (case side4 => exact HC0_1.out); rintro e w16 ⟨rfl, hb⟩; refine ⟨_, rfl, ?_⟩; replace HB := bs w hb; (try clear hb)))
  go_ret
  exact ⟨ez, be w⟩
 subst c6; rw [if_pos rfl] at H; replace H := bo H; obtain ⟨t452, A7, H⟩ := H; replace H := il H; obtain ⟨c8, c8b0, c8b1, c8b2, H⟩ := H; replace H := il H; obtain ⟨c9, c9b0, c9b1, c9b2, H⟩ := H
 try have c9b4 : (9223372036854775807 < 1 + t452.size + 1) = False := eq_false (Nat.not_lt.2 (by have h_ := c9; simp only [ByteArray.size_append] at h_; exact h_))
 obtain rfl := sj H; go_enter Tryz.func86, Tryz.ntmps86
 go_wp2_with (first | ((with_reducible refine gate_dst (N := 2) rfl ?_); refine bxe 2 #[.slice A0_0 l0_0.length c0_0, .slice A0_1 l0_1.length c0_1] 32 ?_; intro gb449 hg w10 BK449 hb; have GW449 := As.mk (gs w hg); replace HB := bs w hb; clear hb hg; obtain ⟨y11a, y11b, v11a, v11b⟩ := cl2 BK449.out; obtain ⟨ad450, A450_3, c450_3, e450, p450, q450, x450a, x450b, x450c, x450d, HC450_3, HR450_3⟩ := bt_T62 HB.out HR0_0.out a1 od od; cases e450) | ((with_reducible refine gate_callee (f := 36) rfl ?_); refine goL (some 11) Tryz.func36 #[.int .i64 ((rd_T62 l0_0 a1).f0), .int .i64 9, .int .i64 11] ?_; (with_reducible refine (impl_in.calls ((rd_T62 l0_0 a1).f0) 9 11 true _ A5.out).mono ?_); rintro e w' ⟨rfl, ⟨nd, rfl⟩⟩; refine ⟨_, rfl, ?_⟩) | ((with_reducible refine gate_callee (f := 57) rfl ?_); refine goL (some 14) Tryz.func57 #[.agg #[.slice (some ad450) l0_0.length c0_0, .slice A0_1 l0_1.length c0_1], .int .i64 a1] ?_; (with_reducible refine (ih_impl_showValue k (by omega) _ _ l0_0 _ _ l0_1 a1 t452 _ ?side1 ?side2 ?side3 ?side4 (by first | (with_reducible exact HTAB.out) | exact tabW_below HTAB.out (be w)) A7.out).mono ?_); (case side1 => exact Kd.C_below HR0_0.out (be w)); (case side2 => exact HC0_0.out); (case side3 => exact Kd.C_below HR0_1.out (be w)); (case side4 => exact HC0_1.out); rintro e w12 ⟨rfl, hb⟩; refine ⟨_, rfl, ?_⟩; replace HB := bs w hb; (try clear hb)))
 go_ret
 exact ⟨ez, be w⟩
def impl_showValue.T16 : Bool × List (List Nat × List Nat) := (true, [([], []), ([], []), ([1], [1]), ([2], [2]), ([3], [3]), ([0, 4], [0, 4]), ([5], [5]), ([6, 5, 0, 1, 2, 3, 4, 5, 6], [6])])
def impl_showValue.B16 : List Nat := [0, 0, 2, 6, 14, 31, 63, 127]
theorem impl_showValue.tab16 : rtab .any (opsOf Tryz.f57 16) = impl_showValue.T16 := by kernel_rfl
theorem impl_showValue.bits16 : waitsOk impl_showValue.T16.2 impl_showValue.B16 = true := by kernel_rfl
def impl_showValue.T18 : Bool × List (List Nat × List Nat) := (true, [([], []), ([], []), ([1], [1]), ([2], [2]), ([3], [3]), ([0, 4], [0, 4]), ([5], [5]), ([], []), ([], []), ([8], [8]), ([9], [9]), ([10], [10]), ([7, 11, 5], [7, 11]), ([6, 12], [6, 12]), ([13, 12, 0, 1, 2, 3, 4, 5, 6, 7, 8, 9, 10, 11, 12, 13], [13])])
def impl_showValue.B18 : List Nat := [0, 0, 2, 6, 14, 31, 63, 0, 0, 256, 768, 1792, 4031, 8191, 16383]
theorem impl_showValue.tab18 : rtab .any (opsOf Tryz.f57 18) = impl_showValue.T18 := by kernel_rfl
theorem impl_showValue.bits18 : waitsOk impl_showValue.T18.2 impl_showValue.B18 = true := by kernel_rfl
def impl_showValue.T20 : Bool × List (List Nat × List Nat) := (true, [([], []), ([], []), ([1], [1]), ([2], [2]), ([3], [3]), ([0, 4], [0, 4]), ([5], [5]), ([], []), ([], []), ([8], [8]), ([9], [9]), ([10], [10]), ([7, 11, 5], [7, 11]), ([6, 12], [6, 12]), ([13, 12, 0, 1, 2, 3, 4, 5, 6, 7, 8, 9, 10, 11, 12, 13], [13])])
def impl_showValue.B20 : List Nat := [0, 0, 2, 6, 14, 31, 63, 0, 0, 256, 768, 1792, 4031, 8191, 16383]
theorem impl_showValue.tab20 : rtab .any (opsOf Tryz.f57 20) = impl_showValue.T20 := by kernel_rfl
theorem impl_showValue.bits20 : waitsOk impl_showValue.T20.2 impl_showValue.B20 = true := by kernel_rfl
def impl_showValue.T22 : Bool × List (List Nat × List Nat) := (true, [([], []), ([], []), ([1], [1]), ([2], [2]), ([3], [3]), ([0, 4], [0, 4]), ([5], [5]), ([], []), ([], []), ([8], [8]), ([9], [9]), ([10], [10]), ([7, 11, 5], [7, 11]), ([6, 12], [6, 12]), ([13, 12, 0, 1, 2, 3, 4, 5, 6, 7, 8, 9, 10, 11, 12, 13], [13])])
def impl_showValue.B22 : List Nat := [0, 0, 2, 6, 14, 31, 63, 0, 0, 256, 768, 1792, 4031, 8191, 16383]
theorem impl_showValue.tab22 : rtab .any (opsOf Tryz.f57 22) = impl_showValue.T22 := by kernel_rfl
theorem impl_showValue.bits22 : waitsOk impl_showValue.T22.2 impl_showValue.B22 = true := by kernel_rfl
def impl_showValue.T30 : Bool × List (List Nat × List Nat) := (true, [([], []), ([0], [0]), ([1], [1]), ([], []), ([3], [3]), ([2, 4], [2, 4]), ([5], [5]), ([6, 4, 0, 1, 2, 3, 4, 5, 6], [6])])
def impl_showValue.B30 : List Nat := [0, 1, 3, 0, 8, 31, 63, 127]
theorem impl_showValue.tab30 : rtab .any (opsOf Tryz.f57 30) = impl_showValue.T30 := by kernel_rfl
theorem impl_showValue.bits30 : waitsOk impl_showValue.T30.2 impl_showValue.B30 = true := by kernel_rfl
set_option maxHeartbeats 8000000 in
set_option maxRecDepth 100000 in
theorem impl_showValue.callsO (k : Nat) (ih_impl_showIn : ∀ m_, m_ < k → impl_showIn.C m_) (ih : ∀ m_, m_ < k → impl_showValue.C m_) : impl_showValue.C k := by
 intro A0_0 c0_0 l0_0 A0_1 c0_1 l0_1 a1 r w hr0_0 hc0_0 hr0_1 hc0_1 hTab h; have HTAB := As.mk hTab; clear hTab
 cases k with
 | zero => exact absurd h (by simp [impl_showValue.f])
 | succ k =>
 simp only [impl_showValue.f] at h
 have hu32 := Tryz.underlying32; have hu62 := Tryz.underlying62; have HR0_0 := As.mk hr0_0; have HC0_0 := As.mk hc0_0; clear hr0_0 hc0_0; have HR0_1 := As.mk hr0_1; have HC0_1 := As.mk hc0_1; clear hr0_1 hc0_1; have HB := As.mk (Below.refl w.heap.size w); have H := h; clear h
 by_cases c3 : 0 ≤ a1
 rotate_left; · rw [if_neg c3] at H; exact absurd H (by simp)

 rw [if_pos c3] at H; have c3b0 := decide_eq_true c3; clear c3; replace H := ia H; obtain ⟨c4b0, H⟩ := H
 by_cases c5 : ((rd_T62 l0_0 a1).f0) = 1
 ·
  rw [if_pos c5] at H; have c5b0 : (((rd_T62 l0_0 a1).f0) == 1) = true := beq_iff_eq.mpr c5; have c5b1 : (((rd_T62 l0_0 a1).f0) != 1) = false := bne_eq_false_iff_eq.mpr c5; clear c5; replace H := bo H; obtain ⟨t457, A6, H⟩ := H; obtain rfl := sj H; go_enter Tryz.func57, Tryz.ntmps57
  go_wp2_with (first | ((with_reducible refine gate_dst (N := 2) rfl ?_); refine bxe 2 #[.slice A0_0 l0_0.length c0_0, .slice A0_1 l0_1.length c0_1] 32 ?_; intro gb454 hg w7 BK454 hb; have GW454 := As.mk (gs w hg); replace HB := bs w hb; clear hb hg; obtain ⟨y8a, y8b, v8a, v8b⟩ := cl2 BK454.out; obtain ⟨ad455, A455_3, c455_3, e455, p455, q455, x455a, x455b, x455c, x455d, HC455_3, HR455_3⟩ := bt_T62 HB.out HR0_0.out a1 od od; cases e455) | ((with_reducible refine gate_dst (N := 5) rfl ?_); refine bxe 5 #[.int .i64 0, .int .i64 0, .string (⟨#[]⟩ : ByteArray), .slice none 0 0] 62 ?_; intro gb456 hg w9 BK456 hb; have GW456 := As.mk (gs w hg); replace HB := bs w hb; clear hb hg; obtain ⟨y10a, y10b, y10c, y10d, v10a, v10b, v10c, v10d⟩ := cl4 BK456.out) | ((with_reducible refine gate_callee (f := 85) rfl ?_); refine goL (some 20) Tryz.func85 #[.int .i64 ((rd_T62 l0_0 a1).f1)] ?_; (with_reducible refine (impl_Decimal.calls ((rd_T62 l0_0 a1).f1) t457 _ (by first | (with_reducible exact HTAB.out) | exact tabW_below HTAB.out (be w)) A6.out).mono ?_); rintro e w11 ⟨rfl, hb⟩; refine ⟨_, rfl, ?_⟩; replace BK456 := As.mk (blk_below (g := gb456) (o := .cells #[.int .i64 ((rd_T62 l0_0 a1).f0), .int .i64 ((rd_T62 l0_0 a1).f1), .string ((rd_T62 l0_0 a1).f2), .slice A455_3 ((rd_T62 l0_0 a1).f3).length c455_3] 62 (0, 0)) (by exact pl (bp4 (bx BK456.out))) hb); replace HB := bs w hb; (try clear hb)))
  go_ret
  exact ⟨ez, be w⟩
 rw [if_neg c5] at H; have c5b0 : (((rd_T62 l0_0 a1).f0) == 1) = false := beq_eq_false_iff_ne.mpr c5; have c5b1 : (((rd_T62 l0_0 a1).f0) != 1) = true := bne_iff_ne.mpr c5
 by_cases c12 : ((rd_T62 l0_0 a1).f0) = 3
 ·
  rw [if_pos c12] at H; have c12b0 : (((rd_T62 l0_0 a1).f0) == 3) = true := beq_iff_eq.mpr c12; have c12b1 : (((rd_T62 l0_0 a1).f0) != 3) = false := bne_eq_false_iff_eq.mpr c12; clear c12; replace H := il H; obtain ⟨c13, c13b0, c13b1, c13b2, H⟩ := H; obtain rfl := sj H; go_enter Tryz.func57, Tryz.ntmps57
  go_wp2_with (first | ((with_reducible refine gate_dst (N := 2) rfl ?_); refine bxe 2 #[.slice A0_0 l0_0.length c0_0, .slice A0_1 l0_1.length c0_1] 32 ?_; intro gb454 hg w14 BK454 hb; have GW454 := As.mk (gs w hg); replace HB := bs w hb; clear hb hg; obtain ⟨y15a, y15b, v15a, v15b⟩ := cl2 BK454.out; obtain ⟨ad455, A455_3, c455_3, e455, p455, q455, x455a, x455b, x455c, x455d, HC455_3, HR455_3⟩ := bt_T62 HB.out HR0_0.out a1 od od; cases e455) | ((with_reducible refine gate_dst (N := 5) rfl ?_); refine bxe 5 #[.int .i64 0, .int .i64 0, .string (⟨#[]⟩ : ByteArray), .slice none 0 0] 62 ?_; intro gb456 hg w16 BK456 hb; have GW456 := As.mk (gs w hg); replace HB := bs w hb; clear hb hg; obtain ⟨y17a, y17b, y17c, y17d, v17a, v17b, v17c, v17d⟩ := cl4 BK456.out))
  go_ret
  exact ⟨ez, be w⟩
 rw [if_neg c12] at H; have c12b0 : (((rd_T62 l0_0 a1).f0) == 3) = false := beq_eq_false_iff_ne.mpr c12; have c12b1 : (((rd_T62 l0_0 a1).f0) != 3) = true := bne_iff_ne.mpr c12
 by_cases c18 : ((rd_T62 l0_0 a1).f0) = 4
 ·
  rw [if_pos c18] at H; have c18b0 : (((rd_T62 l0_0 a1).f0) == 4) = true := beq_iff_eq.mpr c18; have c18b1 : (((rd_T62 l0_0 a1).f0) != 4) = false := bne_eq_false_iff_eq.mpr c18; clear c18; replace H := il H; obtain ⟨c19, c19b0, c19b1, c19b2, H⟩ := H; obtain rfl := sj H; go_enter Tryz.func57, Tryz.ntmps57
  go_wp2_with (first | ((with_reducible refine gate_dst (N := 2) rfl ?_); refine bxe 2 #[.slice A0_0 l0_0.length c0_0, .slice A0_1 l0_1.length c0_1] 32 ?_; intro gb454 hg w20 BK454 hb; have GW454 := As.mk (gs w hg); replace HB := bs w hb; clear hb hg; obtain ⟨y21a, y21b, v21a, v21b⟩ := cl2 BK454.out; obtain ⟨ad455, A455_3, c455_3, e455, p455, q455, x455a, x455b, x455c, x455d, HC455_3, HR455_3⟩ := bt_T62 HB.out HR0_0.out a1 od od; cases e455) | ((with_reducible refine gate_dst (N := 5) rfl ?_); refine bxe 5 #[.int .i64 0, .int .i64 0, .string (⟨#[]⟩ : ByteArray), .slice none 0 0] 62 ?_; intro gb456 hg w22 BK456 hb; have GW456 := As.mk (gs w hg); replace HB := bs w hb; clear hb hg; obtain ⟨y23a, y23b, y23c, y23d, v23a, v23b, v23c, v23d⟩ := cl4 BK456.out))
  go_ret
  exact ⟨ez, be w⟩
 rw [if_neg c18] at H; have c18b0 : (((rd_T62 l0_0 a1).f0) == 4) = false := beq_eq_false_iff_ne.mpr c18; have c18b1 : (((rd_T62 l0_0 a1).f0) != 4) = true := bne_iff_ne.mpr c18
 by_cases c24 : ((rd_T62 l0_0 a1).f0) = 5
 ·
  rw [if_pos c24] at H; have c24b0 : (((rd_T62 l0_0 a1).f0) == 5) = true := beq_iff_eq.mpr c24; have c24b1 : (((rd_T62 l0_0 a1).f0) != 5) = false := bne_eq_false_iff_eq.mpr c24; clear c24; replace H := il H; obtain ⟨c25, c25b0, c25b1, c25b2, H⟩ := H; obtain rfl := sj H; go_enter Tryz.func57, Tryz.ntmps57
  go_wp2_with (first | ((with_reducible refine gate_dst (N := 2) rfl ?_); refine bxe 2 #[.slice A0_0 l0_0.length c0_0, .slice A0_1 l0_1.length c0_1] 32 ?_; intro gb454 hg w26 BK454 hb; have GW454 := As.mk (gs w hg); replace HB := bs w hb; clear hb hg; obtain ⟨y27a, y27b, v27a, v27b⟩ := cl2 BK454.out; obtain ⟨ad455, A455_3, c455_3, e455, p455, q455, x455a, x455b, x455c, x455d, HC455_3, HR455_3⟩ := bt_T62 HB.out HR0_0.out a1 od od; cases e455) | ((with_reducible refine gate_dst (N := 5) rfl ?_); refine bxe 5 #[.int .i64 0, .int .i64 0, .string (⟨#[]⟩ : ByteArray), .slice none 0 0] 62 ?_; intro gb456 hg w28 BK456 hb; have GW456 := As.mk (gs w hg); replace HB := bs w hb; clear hb hg; obtain ⟨y29a, y29b, y29c, y29d, v29a, v29b, v29c, v29d⟩ := cl4 BK456.out))
  go_ret
  exact ⟨ez, be w⟩
 rw [if_neg c24] at H; have c24b0 : (((rd_T62 l0_0 a1).f0) == 5) = false := beq_eq_false_iff_ne.mpr c24; have c24b1 : (((rd_T62 l0_0 a1).f0) != 5) = true := bne_iff_ne.mpr c24
 by_cases c30 : ((rd_T62 l0_0 a1).f0) = 6
 ·
  rw [if_pos c30] at H; have c30b0 : (((rd_T62 l0_0 a1).f0) == 6) = true := beq_iff_eq.mpr c30; have c30b1 : (((rd_T62 l0_0 a1).f0) != 6) = false := bne_eq_false_iff_eq.mpr c30; clear c30; replace H := il H; obtain ⟨c31, c31b0, c31b1, c31b2, H⟩ := H; obtain rfl := sj H; go_enter Tryz.func57, Tryz.ntmps57
  go_wp2_with (first | ((with_reducible refine gate_dst (N := 2) rfl ?_); refine bxe 2 #[.slice A0_0 l0_0.length c0_0, .slice A0_1 l0_1.length c0_1] 32 ?_; intro gb454 hg w32 BK454 hb; have GW454 := As.mk (gs w hg); replace HB := bs w hb; clear hb hg; obtain ⟨y33a, y33b, v33a, v33b⟩ := cl2 BK454.out; obtain ⟨ad455, A455_3, c455_3, e455, p455, q455, x455a, x455b, x455c, x455d, HC455_3, HR455_3⟩ := bt_T62 HB.out HR0_0.out a1 od od; cases e455) | ((with_reducible refine gate_dst (N := 5) rfl ?_); refine bxe 5 #[.int .i64 0, .int .i64 0, .string (⟨#[]⟩ : ByteArray), .slice none 0 0] 62 ?_; intro gb456 hg w34 BK456 hb; have GW456 := As.mk (gs w hg); replace HB := bs w hb; clear hb hg; obtain ⟨y35a, y35b, y35c, y35d, v35a, v35b, v35c, v35d⟩ := cl4 BK456.out))
  go_ret
  exact ⟨ez, be w⟩
 rw [if_neg c30] at H; have c30b0 : (((rd_T62 l0_0 a1).f0) == 6) = false := beq_eq_false_iff_ne.mpr c30; have c30b1 : (((rd_T62 l0_0 a1).f0) != 6) = true := bne_iff_ne.mpr c30
 by_cases c36 : ((rd_T62 l0_0 a1).f0) = 7
 ·
  rw [if_pos c36] at H; have c36b0 : (((rd_T62 l0_0 a1).f0) == 7) = true := beq_iff_eq.mpr c36; have c36b1 : (((rd_T62 l0_0 a1).f0) != 7) = false := bne_eq_false_iff_eq.mpr c36; clear c36; obtain rfl := sj H; go_enter Tryz.func57, Tryz.ntmps57
  go_wp2_with (first | ((with_reducible refine gate_dst (N := 2) rfl ?_); refine bxe 2 #[.slice A0_0 l0_0.length c0_0, .slice A0_1 l0_1.length c0_1] 32 ?_; intro gb454 hg w37 BK454 hb; have GW454 := As.mk (gs w hg); replace HB := bs w hb; clear hb hg; obtain ⟨y38a, y38b, v38a, v38b⟩ := cl2 BK454.out; obtain ⟨ad455, A455_3, c455_3, e455, p455, q455, x455a, x455b, x455c, x455d, HC455_3, HR455_3⟩ := bt_T62 HB.out HR0_0.out a1 od od; cases e455) | ((with_reducible refine gate_dst (N := 5) rfl ?_); refine bxe 5 #[.int .i64 0, .int .i64 0, .string (⟨#[]⟩ : ByteArray), .slice none 0 0] 62 ?_; intro gb456 hg w39 BK456 hb; have GW456 := As.mk (gs w hg); replace HB := bs w hb; clear hb hg; obtain ⟨y40a, y40b, y40c, y40d, v40a, v40b, v40c, v40d⟩ := cl4 BK456.out))
  go_ret
  exact ⟨ez, be w⟩
 rw [if_neg c36] at H; have c36b0 : (((rd_T62 l0_0 a1).f0) == 7) = false := beq_eq_false_iff_ne.mpr c36; have c36b1 : (((rd_T62 l0_0 a1).f0) != 7) = true := bne_iff_ne.mpr c36
 by_cases c41 : ((rd_T62 l0_0 a1).f0) = 8
 ·
  rw [if_pos c41] at H; have c41b0 : (((rd_T62 l0_0 a1).f0) == 8) = true := beq_iff_eq.mpr c41; have c41b1 : (((rd_T62 l0_0 a1).f0) != 8) = false := bne_eq_false_iff_eq.mpr c41; clear c41; have c42 := i1 H; replace H := i2 H; have c42b0 := decide_eq_true c42; have c42b1 : decide (0 < ((rd_T62 l0_0 a1).f3).length) = true := decide_eq_true (by omega); clear c42; replace H := bo H; obtain ⟨t459, A43, H⟩ := H; replace H := il H; obtain ⟨c44, c44b0, c44b1, c44b2, H⟩ := H; obtain rfl := sj H; go_enter Tryz.func57, Tryz.ntmps57
  try go_wp2_with (first | ((with_reducible refine gate_dst (N := 2) rfl ?_); refine bxe 2 #[.slice A0_0 l0_0.length c0_0, .slice A0_1 l0_1.length c0_1] 32 ?_; intro gb454 hg w45 BK454 hb; have GW454 := As.mk (gs w hg); replace HB := bs w hb; clear hb hg; obtain ⟨y46a, y46b, v46a, v46b⟩ := cl2 BK454.out; obtain ⟨ad455, A455_3, c455_3, e455, p455, q455, x455a, x455b, x455c, x455d, HC455_3, HR455_3⟩ := bt_T62 HB.out HR0_0.out a1 od od; cases e455) | ((with_reducible refine gate_dst (N := 5) rfl ?_); refine bxe 5 #[.int .i64 0, .int .i64 0, .string (⟨#[]⟩ : ByteArray), .slice none 0 0] 62 ?_; intro gb456 hg w47 BK456 hb; have GW456 := As.mk (gs w hg); replace HB := bs w hb; have NB454_456 := As.mk (nl hg (bx BK454.out)); have NB456_454 := As.mk (ng hg (bx BK454.out)); replace BK454 := bb BK454 hb; clear hb hg; have hnb48 := NB456_454.out; have hnc48 := NB454_456.out; obtain ⟨y49a, y49b, y49c, y49d, v49a, v49b, v49c, v49d⟩ := cl4 BK456.out))
  generalize hW_ : ((((w47.setCell ⟨gb456, 0, none⟩ (.int .i64 ((rd_T62 l0_0 a1).f0))).setCell ⟨gb456, 1, none⟩ (.int .i64 ((rd_T62 l0_0 a1).f1))).setCell ⟨gb456, 2, none⟩ (.string ((rd_T62 l0_0 a1).f2))).setCell ⟨gb456, 3, none⟩ (.slice A455_3 ((rd_T62 l0_0 a1).f3).length c455_3)) = w50
  have n0_ : As (w50.heap[gb454]? = some (.cells #[.slice (some ad455) l0_0.length c0_0, .slice A0_1 l0_1.length c0_1] 32 (0, 0))) := ⟨by rw [← hW_]; refine pl ?_; refine blk_far ?_ NB454_456.out _; refine pl ?_; refine blk_far ?_ NB454_456.out _; refine pl ?_; refine blk_far ?_ NB454_456.out _; refine pl ?_; refine blk_far ?_ NB454_456.out _; exact bx BK454.out⟩; have n1_ : As (w50.heap[gb456]? = some (.cells #[.int .i64 ((rd_T62 l0_0 a1).f0), .int .i64 ((rd_T62 l0_0 a1).f1), .string ((rd_T62 l0_0 a1).f2), .slice A455_3 ((rd_T62 l0_0 a1).f3).length c455_3] 62 (0, 0))) := ⟨by rw [← hW_]; exact pl (bp4 (bx BK456.out))⟩; have n2_ : As (Below w.heap.size w w50) := ⟨by rw [← hW_]; exact be w⟩; (try clear BK454); (try clear BK456); (try clear HB); clear hW_; have BK454 := n0_; have BK456 := n1_; have HB := n2_; clear n0_ n1_ n2_; replace BK454 := As.mk (blk_drew BK454.out); replace BK456 := As.mk (blk_drew BK456.out); replace HB := As.mk (below_drew1 HB.out); have p458 : 0 ≤ (0 : Int) := (by omega); have q458 : 0 < (((rd_T62 l0_0 a1).f3).length : Int) := od; obtain ⟨ad458, e458, x458a⟩ := Kd.at_int HR455_3.out 0 p458 q458; have hw458_0 := x458a; (try rw [show ((0 : Int)).toNat = 0 from rfl] at hw458_0); (try rw [show 0 * 1 = 0 from rfl] at hw458_0); (try rw [Addr.add_zero'] at hw458_0); cases e458; have qi458 : (0 < ((rd_T62 l0_0 a1).f3).length) = True := eq_true (by omega); (try rw [show ((0 : Int)).toNat = 0 from rfl] at x458a); (try rw [Addr.add_zero'] at x458a); replace x458a := ce HB.out x458a; replace p458 := eq_true p458; replace q458 := eq_true q458
  refine start_ (n := 8) (S := _) (ds := []) #[O,O,O,O,O,O,O,O] (by kernel_rfl) rfl rfl (ba (bf BK454.out) (ba (bf BK456.out) (cf hw458_0))) (fun hHeld => ?_); refine with_tabW impl_showValue.tab16 impl_showValue.bits16 (fun HT_ HW_ => ?_)
  generalize w50.drew = w51 at BK454 BK456 HB x458a hHeld ⊢
  refine pq 1 46 HT_ _ _ ?_; refine tq_b2b4c1 0 45 HT_ HW_.out hHeld _ _ ?_; refine tq_b2b4c1 2 47 HT_ HW_.out hHeld _ _ ?_; refine pq 3 48 HT_ _ _ ?_; refine tq_b2b4c1 4 49 HT_ HW_.out hHeld _ _ ?_; refine on 5 (some 50) HT_ (fun K hK => ?_); refine goS Tryz.func86 #[.agg #[.slice (some ad455) l0_0.length c0_0, .slice A0_1 l0_1.length c0_1], .int .i64 (rd ((rd_T62 l0_0 a1).f3) 0)] ?_
  with_reducible refine (ih_impl_showIn k (by omega) _ _ l0_0 _ _ l0_1 (rd ((rd_T62 l0_0 a1).f3) 0) t459 _ ?side1 ?side2 ?side3 ?side4 (by first | (with_reducible exact HTAB.out) | exact tabW_below HTAB.out (be w)) A43.out).mono ?_
  (case side1 => exact Kd.C_below HR0_0.out (be w))
  (case side2 => exact HC0_0.out)
  (case side3 => exact Kd.C_below HR0_1.out (be w))
  (case side4 => exact HC0_1.out)
  rintro e w52 ⟨rfl, hb⟩
  refine ⟨_, rfl, ?_⟩
  replace BK454 := bb BK454 hb; replace BK456 := bb BK456 hb; replace HB := bs w hb; (try clear hb); (try clear hb2); (try clear hk); (try clear hi)
  refine hK.out _ _ (ba (bf BK454.out) (ba (bf BK456.out) (cf hw458_0))) (fun hHeld => ?_)
  clear hK K; refine nm _ ?_; refine pq 6 51 HT_ _ _ ?_; refine pq 7 4 HT_ _ _ ?_
  refine done_ (done_of HT_.out (by kernel_rfl)) ?_
  try go_wp2
  go_ret
  exact ⟨ez, be w⟩
 rw [if_neg c41] at H; have c41b0 : (((rd_T62 l0_0 a1).f0) == 8) = false := beq_eq_false_iff_ne.mpr c41; have c41b1 : (((rd_T62 l0_0 a1).f0) != 8) = true := bne_iff_ne.mpr c41
 by_cases c53 : ((rd_T62 l0_0 a1).f0) = 9
 ·
  rw [if_pos c53] at H; have c53b0 : (((rd_T62 l0_0 a1).f0) == 9) = true := beq_iff_eq.mpr c53; have c53b1 : (((rd_T62 l0_0 a1).f0) != 9) = false := bne_eq_false_iff_eq.mpr c53; clear c53; have c54 := i1 H; replace H := i2 H; have c54b0 := decide_eq_true c54; have c54b1 : decide (0 < ((rd_T62 l0_0 a1).f3).length) = true := decide_eq_true (by omega); clear c54; replace H := bo H; obtain ⟨t461, A55, H⟩ := H; replace H := il H; obtain ⟨c56, c56b0, c56b1, c56b2, H⟩ := H; have c57 := i1 H; replace H := i2 H; have c57b0 := decide_eq_true c57; have c57b1 : decide (1 < ((rd_T62 l0_0 a1).f3).length) = true := decide_eq_true (by omega); clear c57; replace H := bo H; obtain ⟨t463, A58, H⟩ := H; replace H := il H; obtain ⟨c59, c59b0, c59b1, c59b2, H⟩ := H
  try have c59b4 : (9223372036854775807 < t461.size + 3 + t463.size) = False := eq_false (Nat.not_lt.2 (by have h_ := c59; simp only [ByteArray.size_append] at h_; exact h_))
  obtain rfl := sj H; go_enter Tryz.func57, Tryz.ntmps57
  try go_wp2_with (first | ((with_reducible refine gate_dst (N := 2) rfl ?_); refine bxe 2 #[.slice A0_0 l0_0.length c0_0, .slice A0_1 l0_1.length c0_1] 32 ?_; intro gb454 hg w60 BK454 hb; have GW454 := As.mk (gs w hg); replace HB := bs w hb; clear hb hg; obtain ⟨y61a, y61b, v61a, v61b⟩ := cl2 BK454.out; obtain ⟨ad455, A455_3, c455_3, e455, p455, q455, x455a, x455b, x455c, x455d, HC455_3, HR455_3⟩ := bt_T62 HB.out HR0_0.out a1 od od; cases e455) | ((with_reducible refine gate_dst (N := 5) rfl ?_); refine bxe 5 #[.int .i64 0, .int .i64 0, .string (⟨#[]⟩ : ByteArray), .slice none 0 0] 62 ?_; intro gb456 hg w62 BK456 hb; have GW456 := As.mk (gs w hg); replace HB := bs w hb; have NB454_456 := As.mk (nl hg (bx BK454.out)); have NB456_454 := As.mk (ng hg (bx BK454.out)); replace BK454 := bb BK454 hb; clear hb hg; have hnb63 := NB456_454.out; have hnc63 := NB454_456.out; obtain ⟨y64a, y64b, y64c, y64d, v64a, v64b, v64c, v64d⟩ := cl4 BK456.out))
  generalize hW_ : ((((w62.setCell ⟨gb456, 0, none⟩ (.int .i64 ((rd_T62 l0_0 a1).f0))).setCell ⟨gb456, 1, none⟩ (.int .i64 ((rd_T62 l0_0 a1).f1))).setCell ⟨gb456, 2, none⟩ (.string ((rd_T62 l0_0 a1).f2))).setCell ⟨gb456, 3, none⟩ (.slice A455_3 ((rd_T62 l0_0 a1).f3).length c455_3)) = w65
  have n0_ : As (w65.heap[gb454]? = some (.cells #[.slice (some ad455) l0_0.length c0_0, .slice A0_1 l0_1.length c0_1] 32 (0, 0))) := ⟨by rw [← hW_]; refine pl ?_; refine blk_far ?_ NB454_456.out _; refine pl ?_; refine blk_far ?_ NB454_456.out _; refine pl ?_; refine blk_far ?_ NB454_456.out _; refine pl ?_; refine blk_far ?_ NB454_456.out _; exact bx BK454.out⟩; have n1_ : As (w65.heap[gb456]? = some (.cells #[.int .i64 ((rd_T62 l0_0 a1).f0), .int .i64 ((rd_T62 l0_0 a1).f1), .string ((rd_T62 l0_0 a1).f2), .slice A455_3 ((rd_T62 l0_0 a1).f3).length c455_3] 62 (0, 0))) := ⟨by rw [← hW_]; exact pl (bp4 (bx BK456.out))⟩; have n2_ : As (Below w.heap.size w w65) := ⟨by rw [← hW_]; exact be w⟩; (try clear BK454); (try clear BK456); (try clear HB); clear hW_; have BK454 := n0_; have BK456 := n1_; have HB := n2_; clear n0_ n1_ n2_; replace BK454 := As.mk (blk_drew BK454.out); replace BK456 := As.mk (blk_drew BK456.out); replace HB := As.mk (below_drew1 HB.out); have p460 : 0 ≤ (0 : Int) := (by omega); have q460 : 0 < (((rd_T62 l0_0 a1).f3).length : Int) := od; obtain ⟨ad460, e460, x460a⟩ := Kd.at_int HR455_3.out 0 p460 q460; have hw460_0 := x460a; (try rw [show ((0 : Int)).toNat = 0 from rfl] at hw460_0); (try rw [show 0 * 1 = 0 from rfl] at hw460_0); (try rw [Addr.add_zero'] at hw460_0); cases e460; have qi460 : (0 < ((rd_T62 l0_0 a1).f3).length) = True := eq_true (by omega); (try rw [show ((0 : Int)).toNat = 0 from rfl] at x460a); (try rw [Addr.add_zero'] at x460a); replace x460a := ce HB.out x460a; replace p460 := eq_true p460; replace q460 := eq_true q460; have p462 : 0 ≤ (1 : Int) := (by omega); have q462 : 1 < (((rd_T62 l0_0 a1).f3).length : Int) := od; obtain ⟨ad462, e462, x462a⟩ := Kd.at_int HR455_3.out 1 p462 q462; have hw462_0 := x462a; (try rw [show ((1 : Int)).toNat = 1 from rfl] at hw462_0); (try rw [show 1 * 1 = 1 from rfl] at hw462_0); (try simp only [Nat.reduceMul, Nat.reduceEqDiff, Go.Addr.add, ↓reduceIte] at hw462_0); obtain rfl : ad460 = ad462 := (by injection e462); (try simp only [show (1 : Int).toNat = 1 from rfl, Nat.reduceMul, Nat.reduceEqDiff, Go.Addr.add, ↓reduceIte] at x462a); have qi462 : (1 < ((rd_T62 l0_0 a1).f3).length) = True := eq_true (by omega); (try rw [show ((1 : Int)).toNat = 1 from rfl] at x462a); replace x462a := ce HB.out x462a; replace p462 := eq_true p462; replace q462 := eq_true q462
  refine start_ (n := 15) (S := _) (ds := []) #[O,O,O,O,O,O,O,O,O,O,O,O,O,O,O] (by kernel_rfl) rfl rfl (ba (bf BK454.out) (ba (bf BK456.out) (ba (cf hw460_0) (cf hw462_0)))) (fun hHeld => ?_); refine with_tabW impl_showValue.tab18 impl_showValue.bits18 (fun HT_ HW_ => ?_)
  generalize w65.drew = w66 at BK454 BK456 HB x460a x462a hHeld ⊢
  refine pq 1 55 HT_ _ _ ?_; refine pq 8 62 HT_ _ _ ?_; refine tq_b2b4c1c1 0 54 HT_ HW_.out hHeld _ _ ?_; refine tq_b2b4c1c1 2 56 HT_ HW_.out hHeld _ _ ?_; refine pq 3 57 HT_ _ _ ?_; refine tq_b2b4c1c1 4 58 HT_ HW_.out hHeld _ _ ?_; refine tq_b2b4c1c1 7 61 HT_ HW_.out hHeld _ _ ?_; refine tq_b2b4c1c1 9 63 HT_ HW_.out hHeld _ _ ?_; refine pq 10 64 HT_ _ _ ?_; refine tq_b2b4c1c1 11 65 HT_ HW_.out hHeld _ _ ?_; refine on 5 (some 59) HT_ (fun K hK => ?_); refine goS Tryz.func86 #[.agg #[.slice (some ad455) l0_0.length c0_0, .slice A0_1 l0_1.length c0_1], .int .i64 (rd ((rd_T62 l0_0 a1).f3) 0)] ?_
  with_reducible refine (ih_impl_showIn k (by omega) _ _ l0_0 _ _ l0_1 (rd ((rd_T62 l0_0 a1).f3) 0) t461 _ ?side1 ?side2 ?side3 ?side4 (by first | (with_reducible exact HTAB.out) | exact tabW_below HTAB.out (be w)) A55.out).mono ?_
  (case side1 => exact Kd.C_below HR0_0.out (be w))
  (case side2 => exact HC0_0.out)
  (case side3 => exact Kd.C_below HR0_1.out (be w))
  (case side4 => exact HC0_1.out)
  rintro e w67 ⟨rfl, hb⟩
  refine ⟨_, rfl, ?_⟩
  replace BK454 := bb BK454 hb; replace BK456 := bb BK456 hb; replace HB := bs w hb; (try clear hb); (try clear hb2); (try clear hk); (try clear hi)
  refine hK.out _ _ (ba (bf BK454.out) (ba (bf BK456.out) (ba (cf hw460_0) (cf hw462_0)))) (fun hHeld => ?_)
  clear hK K; refine nm _ ?_; refine pq 6 60 HT_ _ _ ?_; refine on 12 (some 66) HT_ (fun K hK => ?_); refine goS Tryz.func86 #[.agg #[.slice (some ad455) l0_0.length c0_0, .slice A0_1 l0_1.length c0_1], .int .i64 (rd ((rd_T62 l0_0 a1).f3) 1)] ?_
  with_reducible refine (ih_impl_showIn k (by omega) _ _ l0_0 _ _ l0_1 (rd ((rd_T62 l0_0 a1).f3) 1) t463 _ ?side1 ?side2 ?side3 ?side4 (by first | (with_reducible exact HTAB.out) | exact tabW_below HTAB.out (be w)) A58.out).mono ?_
  (case side1 => exact Kd.C_below HR0_0.out (be w))
  (case side2 => exact HC0_0.out)
  (case side3 => exact Kd.C_below HR0_1.out (be w))
  (case side4 => exact HC0_1.out)
  rintro e w68 ⟨rfl, hb⟩
  refine ⟨_, rfl, ?_⟩
  replace BK454 := bb BK454 hb; replace BK456 := bb BK456 hb; replace HB := bs w hb; (try clear hb); (try clear hb2); (try clear hk); (try clear hi)
  refine hK.out _ _ (ba (bf BK454.out) (ba (bf BK456.out) (ba (cf hw460_0) (cf hw462_0)))) (fun hHeld => ?_)
  clear hK K; refine nm _ ?_; refine pq 13 67 HT_ _ _ ?_; refine pq 14 4 HT_ _ _ ?_
  refine done_ (done_of HT_.out (by kernel_rfl)) ?_
  try go_wp2
  go_ret
  exact ⟨ez, be w⟩
 rw [if_neg c53] at H; have c53b0 : (((rd_T62 l0_0 a1).f0) == 9) = false := beq_eq_false_iff_ne.mpr c53; have c53b1 : (((rd_T62 l0_0 a1).f0) != 9) = true := bne_iff_ne.mpr c53
 by_cases c69 : ((rd_T62 l0_0 a1).f0) = 10
 ·
  rw [if_pos c69] at H; have c69b0 : (((rd_T62 l0_0 a1).f0) == 10) = true := beq_iff_eq.mpr c69; have c69b1 : (((rd_T62 l0_0 a1).f0) != 10) = false := bne_eq_false_iff_eq.mpr c69; clear c69; have c70 := i1 H; replace H := i2 H; have c70b0 := decide_eq_true c70; have c70b1 : decide (0 < ((rd_T62 l0_0 a1).f3).length) = true := decide_eq_true (by omega); clear c70; replace H := bo H; obtain ⟨t465, A71, H⟩ := H; replace H := il H; obtain ⟨c72, c72b0, c72b1, c72b2, H⟩ := H; have c73 := i1 H; replace H := i2 H; have c73b0 := decide_eq_true c73; have c73b1 : decide (1 < ((rd_T62 l0_0 a1).f3).length) = true := decide_eq_true (by omega); clear c73; replace H := bo H; obtain ⟨t467, A74, H⟩ := H; replace H := il H; obtain ⟨c75, c75b0, c75b1, c75b2, H⟩ := H
  try have c75b4 : (9223372036854775807 < t465.size + 3 + t467.size) = False := eq_false (Nat.not_lt.2 (by have h_ := c75; simp only [ByteArray.size_append] at h_; exact h_))
  obtain rfl := sj H; go_enter Tryz.func57, Tryz.ntmps57
  try go_wp2_with (first | ((with_reducible refine gate_dst (N := 2) rfl ?_); refine bxe 2 #[.slice A0_0 l0_0.length c0_0, .slice A0_1 l0_1.length c0_1] 32 ?_; intro gb454 hg w76 BK454 hb; have GW454 := As.mk (gs w hg); replace HB := bs w hb; clear hb hg; obtain ⟨y77a, y77b, v77a, v77b⟩ := cl2 BK454.out; obtain ⟨ad455, A455_3, c455_3, e455, p455, q455, x455a, x455b, x455c, x455d, HC455_3, HR455_3⟩ := bt_T62 HB.out HR0_0.out a1 od od; cases e455) | ((with_reducible refine gate_dst (N := 5) rfl ?_); refine bxe 5 #[.int .i64 0, .int .i64 0, .string (⟨#[]⟩ : ByteArray), .slice none 0 0] 62 ?_; intro gb456 hg w78 BK456 hb; have GW456 := As.mk (gs w hg); replace HB := bs w hb; have NB454_456 := As.mk (nl hg (bx BK454.out)); have NB456_454 := As.mk (ng hg (bx BK454.out)); replace BK454 := bb BK454 hb; clear hb hg; have hnb79 := NB456_454.out; have hnc79 := NB454_456.out; obtain ⟨y80a, y80b, y80c, y80d, v80a, v80b, v80c, v80d⟩ := cl4 BK456.out))
  generalize hW_ : ((((w78.setCell ⟨gb456, 0, none⟩ (.int .i64 ((rd_T62 l0_0 a1).f0))).setCell ⟨gb456, 1, none⟩ (.int .i64 ((rd_T62 l0_0 a1).f1))).setCell ⟨gb456, 2, none⟩ (.string ((rd_T62 l0_0 a1).f2))).setCell ⟨gb456, 3, none⟩ (.slice A455_3 ((rd_T62 l0_0 a1).f3).length c455_3)) = w81
  have n0_ : As (w81.heap[gb454]? = some (.cells #[.slice (some ad455) l0_0.length c0_0, .slice A0_1 l0_1.length c0_1] 32 (0, 0))) := ⟨by rw [← hW_]; refine pl ?_; refine blk_far ?_ NB454_456.out _; refine pl ?_; refine blk_far ?_ NB454_456.out _; refine pl ?_; refine blk_far ?_ NB454_456.out _; refine pl ?_; refine blk_far ?_ NB454_456.out _; exact bx BK454.out⟩; have n1_ : As (w81.heap[gb456]? = some (.cells #[.int .i64 ((rd_T62 l0_0 a1).f0), .int .i64 ((rd_T62 l0_0 a1).f1), .string ((rd_T62 l0_0 a1).f2), .slice A455_3 ((rd_T62 l0_0 a1).f3).length c455_3] 62 (0, 0))) := ⟨by rw [← hW_]; exact pl (bp4 (bx BK456.out))⟩; have n2_ : As (Below w.heap.size w w81) := ⟨by rw [← hW_]; exact be w⟩; (try clear BK454); (try clear BK456); (try clear HB); clear hW_; have BK454 := n0_; have BK456 := n1_; have HB := n2_; clear n0_ n1_ n2_; replace BK454 := As.mk (blk_drew BK454.out); replace BK456 := As.mk (blk_drew BK456.out); replace HB := As.mk (below_drew1 HB.out); have p464 : 0 ≤ (0 : Int) := (by omega); have q464 : 0 < (((rd_T62 l0_0 a1).f3).length : Int) := od; obtain ⟨ad464, e464, x464a⟩ := Kd.at_int HR455_3.out 0 p464 q464; have hw464_0 := x464a; (try rw [show ((0 : Int)).toNat = 0 from rfl] at hw464_0); (try rw [show 0 * 1 = 0 from rfl] at hw464_0); (try rw [Addr.add_zero'] at hw464_0); cases e464; have qi464 : (0 < ((rd_T62 l0_0 a1).f3).length) = True := eq_true (by omega); (try rw [show ((0 : Int)).toNat = 0 from rfl] at x464a); (try rw [Addr.add_zero'] at x464a); replace x464a := ce HB.out x464a; replace p464 := eq_true p464; replace q464 := eq_true q464; have p466 : 0 ≤ (1 : Int) := (by omega); have q466 : 1 < (((rd_T62 l0_0 a1).f3).length : Int) := od; obtain ⟨ad466, e466, x466a⟩ := Kd.at_int HR455_3.out 1 p466 q466; have hw466_0 := x466a; (try rw [show ((1 : Int)).toNat = 1 from rfl] at hw466_0); (try rw [show 1 * 1 = 1 from rfl] at hw466_0); (try simp only [Nat.reduceMul, Nat.reduceEqDiff, Go.Addr.add, ↓reduceIte] at hw466_0); obtain rfl : ad464 = ad466 := (by injection e466); (try simp only [show (1 : Int).toNat = 1 from rfl, Nat.reduceMul, Nat.reduceEqDiff, Go.Addr.add, ↓reduceIte] at x466a); have qi466 : (1 < ((rd_T62 l0_0 a1).f3).length) = True := eq_true (by omega); (try rw [show ((1 : Int)).toNat = 1 from rfl] at x466a); replace x466a := ce HB.out x466a; replace p466 := eq_true p466; replace q466 := eq_true q466
  refine start_ (n := 15) (S := _) (ds := []) #[O,O,O,O,O,O,O,O,O,O,O,O,O,O,O] (by kernel_rfl) rfl rfl (ba (bf BK454.out) (ba (bf BK456.out) (ba (cf hw464_0) (cf hw466_0)))) (fun hHeld => ?_); refine with_tabW impl_showValue.tab20 impl_showValue.bits20 (fun HT_ HW_ => ?_)
  generalize w81.drew = w82 at BK454 BK456 HB x464a x466a hHeld ⊢
  refine pq 1 71 HT_ _ _ ?_; refine pq 8 78 HT_ _ _ ?_; refine tq_b2b4c1c1 0 70 HT_ HW_.out hHeld _ _ ?_; refine tq_b2b4c1c1 2 72 HT_ HW_.out hHeld _ _ ?_; refine pq 3 73 HT_ _ _ ?_; refine tq_b2b4c1c1 4 74 HT_ HW_.out hHeld _ _ ?_; refine tq_b2b4c1c1 7 77 HT_ HW_.out hHeld _ _ ?_; refine tq_b2b4c1c1 9 79 HT_ HW_.out hHeld _ _ ?_; refine pq 10 80 HT_ _ _ ?_; refine tq_b2b4c1c1 11 81 HT_ HW_.out hHeld _ _ ?_; refine on 5 (some 75) HT_ (fun K hK => ?_); refine goS Tryz.func86 #[.agg #[.slice (some ad455) l0_0.length c0_0, .slice A0_1 l0_1.length c0_1], .int .i64 (rd ((rd_T62 l0_0 a1).f3) 0)] ?_
  with_reducible refine (ih_impl_showIn k (by omega) _ _ l0_0 _ _ l0_1 (rd ((rd_T62 l0_0 a1).f3) 0) t465 _ ?side1 ?side2 ?side3 ?side4 (by first | (with_reducible exact HTAB.out) | exact tabW_below HTAB.out (be w)) A71.out).mono ?_
  (case side1 => exact Kd.C_below HR0_0.out (be w))
  (case side2 => exact HC0_0.out)
  (case side3 => exact Kd.C_below HR0_1.out (be w))
  (case side4 => exact HC0_1.out)
  rintro e w83 ⟨rfl, hb⟩
  refine ⟨_, rfl, ?_⟩
  replace BK454 := bb BK454 hb; replace BK456 := bb BK456 hb; replace HB := bs w hb; (try clear hb); (try clear hb2); (try clear hk); (try clear hi)
  refine hK.out _ _ (ba (bf BK454.out) (ba (bf BK456.out) (ba (cf hw464_0) (cf hw466_0)))) (fun hHeld => ?_)
  clear hK K; refine nm _ ?_; refine pq 6 76 HT_ _ _ ?_; refine on 12 (some 82) HT_ (fun K hK => ?_); refine goS Tryz.func86 #[.agg #[.slice (some ad455) l0_0.length c0_0, .slice A0_1 l0_1.length c0_1], .int .i64 (rd ((rd_T62 l0_0 a1).f3) 1)] ?_
  with_reducible refine (ih_impl_showIn k (by omega) _ _ l0_0 _ _ l0_1 (rd ((rd_T62 l0_0 a1).f3) 1) t467 _ ?side1 ?side2 ?side3 ?side4 (by first | (with_reducible exact HTAB.out) | exact tabW_below HTAB.out (be w)) A74.out).mono ?_
  (case side1 => exact Kd.C_below HR0_0.out (be w))
  (case side2 => exact HC0_0.out)
  (case side3 => exact Kd.C_below HR0_1.out (be w))
  (case side4 => exact HC0_1.out)
  rintro e w84 ⟨rfl, hb⟩
  refine ⟨_, rfl, ?_⟩
  replace BK454 := bb BK454 hb; replace BK456 := bb BK456 hb; replace HB := bs w hb; (try clear hb); (try clear hb2); (try clear hk); (try clear hi)
  refine hK.out _ _ (ba (bf BK454.out) (ba (bf BK456.out) (ba (cf hw464_0) (cf hw466_0)))) (fun hHeld => ?_)
  clear hK K; refine nm _ ?_; refine pq 13 83 HT_ _ _ ?_; refine pq 14 4 HT_ _ _ ?_
  refine done_ (done_of HT_.out (by kernel_rfl)) ?_
  try go_wp2
  go_ret
  exact ⟨ez, be w⟩
 rw [if_neg c69] at H; have c69b0 : (((rd_T62 l0_0 a1).f0) == 10) = false := beq_eq_false_iff_ne.mpr c69; have c69b1 : (((rd_T62 l0_0 a1).f0) != 10) = true := bne_iff_ne.mpr c69
 by_cases c85 : ((rd_T62 l0_0 a1).f0) = 11
 ·
  rw [if_pos c85] at H; have c85b0 : (((rd_T62 l0_0 a1).f0) == 11) = true := beq_iff_eq.mpr c85; have c85b1 : (((rd_T62 l0_0 a1).f0) != 11) = false := bne_eq_false_iff_eq.mpr c85; clear c85; have c86 := i1 H; replace H := i2 H; have c86b0 := decide_eq_true c86; have c86b1 : decide (0 < ((rd_T62 l0_0 a1).f3).length) = true := decide_eq_true (by omega); clear c86; replace H := bo H; obtain ⟨t469, A87, H⟩ := H; replace H := il H; obtain ⟨c88, c88b0, c88b1, c88b2, H⟩ := H; have c89 := i1 H; replace H := i2 H; have c89b0 := decide_eq_true c89; have c89b1 : decide (1 < ((rd_T62 l0_0 a1).f3).length) = true := decide_eq_true (by omega); clear c89; replace H := bo H; obtain ⟨t471, A90, H⟩ := H; replace H := il H; obtain ⟨c91, c91b0, c91b1, c91b2, H⟩ := H
  try have c91b4 : (9223372036854775807 < t469.size + 4 + t471.size) = False := eq_false (Nat.not_lt.2 (by have h_ := c91; simp only [ByteArray.size_append] at h_; exact h_))
  obtain rfl := sj H; go_enter Tryz.func57, Tryz.ntmps57
  try go_wp2_with (first | ((with_reducible refine gate_dst (N := 2) rfl ?_); refine bxe 2 #[.slice A0_0 l0_0.length c0_0, .slice A0_1 l0_1.length c0_1] 32 ?_; intro gb454 hg w92 BK454 hb; have GW454 := As.mk (gs w hg); replace HB := bs w hb; clear hb hg; obtain ⟨y93a, y93b, v93a, v93b⟩ := cl2 BK454.out; obtain ⟨ad455, A455_3, c455_3, e455, p455, q455, x455a, x455b, x455c, x455d, HC455_3, HR455_3⟩ := bt_T62 HB.out HR0_0.out a1 od od; cases e455) | ((with_reducible refine gate_dst (N := 5) rfl ?_); refine bxe 5 #[.int .i64 0, .int .i64 0, .string (⟨#[]⟩ : ByteArray), .slice none 0 0] 62 ?_; intro gb456 hg w94 BK456 hb; have GW456 := As.mk (gs w hg); replace HB := bs w hb; have NB454_456 := As.mk (nl hg (bx BK454.out)); have NB456_454 := As.mk (ng hg (bx BK454.out)); replace BK454 := bb BK454 hb; clear hb hg; have hnb95 := NB456_454.out; have hnc95 := NB454_456.out; obtain ⟨y96a, y96b, y96c, y96d, v96a, v96b, v96c, v96d⟩ := cl4 BK456.out))
  generalize hW_ : ((((w94.setCell ⟨gb456, 0, none⟩ (.int .i64 ((rd_T62 l0_0 a1).f0))).setCell ⟨gb456, 1, none⟩ (.int .i64 ((rd_T62 l0_0 a1).f1))).setCell ⟨gb456, 2, none⟩ (.string ((rd_T62 l0_0 a1).f2))).setCell ⟨gb456, 3, none⟩ (.slice A455_3 ((rd_T62 l0_0 a1).f3).length c455_3)) = w97
  have n0_ : As (w97.heap[gb454]? = some (.cells #[.slice (some ad455) l0_0.length c0_0, .slice A0_1 l0_1.length c0_1] 32 (0, 0))) := ⟨by rw [← hW_]; refine pl ?_; refine blk_far ?_ NB454_456.out _; refine pl ?_; refine blk_far ?_ NB454_456.out _; refine pl ?_; refine blk_far ?_ NB454_456.out _; refine pl ?_; refine blk_far ?_ NB454_456.out _; exact bx BK454.out⟩; have n1_ : As (w97.heap[gb456]? = some (.cells #[.int .i64 ((rd_T62 l0_0 a1).f0), .int .i64 ((rd_T62 l0_0 a1).f1), .string ((rd_T62 l0_0 a1).f2), .slice A455_3 ((rd_T62 l0_0 a1).f3).length c455_3] 62 (0, 0))) := ⟨by rw [← hW_]; exact pl (bp4 (bx BK456.out))⟩; have n2_ : As (Below w.heap.size w w97) := ⟨by rw [← hW_]; exact be w⟩; (try clear BK454); (try clear BK456); (try clear HB); clear hW_; have BK454 := n0_; have BK456 := n1_; have HB := n2_; clear n0_ n1_ n2_; replace BK454 := As.mk (blk_drew BK454.out); replace BK456 := As.mk (blk_drew BK456.out); replace HB := As.mk (below_drew1 HB.out); have p468 : 0 ≤ (0 : Int) := (by omega); have q468 : 0 < (((rd_T62 l0_0 a1).f3).length : Int) := od; obtain ⟨ad468, e468, x468a⟩ := Kd.at_int HR455_3.out 0 p468 q468; have hw468_0 := x468a; (try rw [show ((0 : Int)).toNat = 0 from rfl] at hw468_0); (try rw [show 0 * 1 = 0 from rfl] at hw468_0); (try rw [Addr.add_zero'] at hw468_0); cases e468; have qi468 : (0 < ((rd_T62 l0_0 a1).f3).length) = True := eq_true (by omega); (try rw [show ((0 : Int)).toNat = 0 from rfl] at x468a); (try rw [Addr.add_zero'] at x468a); replace x468a := ce HB.out x468a; replace p468 := eq_true p468; replace q468 := eq_true q468; have p470 : 0 ≤ (1 : Int) := (by omega); have q470 : 1 < (((rd_T62 l0_0 a1).f3).length : Int) := od; obtain ⟨ad470, e470, x470a⟩ := Kd.at_int HR455_3.out 1 p470 q470; have hw470_0 := x470a; (try rw [show ((1 : Int)).toNat = 1 from rfl] at hw470_0); (try rw [show 1 * 1 = 1 from rfl] at hw470_0); (try simp only [Nat.reduceMul, Nat.reduceEqDiff, Go.Addr.add, ↓reduceIte] at hw470_0); obtain rfl : ad468 = ad470 := (by injection e470); (try simp only [show (1 : Int).toNat = 1 from rfl, Nat.reduceMul, Nat.reduceEqDiff, Go.Addr.add, ↓reduceIte] at x470a); have qi470 : (1 < ((rd_T62 l0_0 a1).f3).length) = True := eq_true (by omega); (try rw [show ((1 : Int)).toNat = 1 from rfl] at x470a); replace x470a := ce HB.out x470a; replace p470 := eq_true p470; replace q470 := eq_true q470
  refine start_ (n := 15) (S := _) (ds := []) #[O,O,O,O,O,O,O,O,O,O,O,O,O,O,O] (by kernel_rfl) rfl rfl (ba (bf BK454.out) (ba (bf BK456.out) (ba (cf hw468_0) (cf hw470_0)))) (fun hHeld => ?_); refine with_tabW impl_showValue.tab22 impl_showValue.bits22 (fun HT_ HW_ => ?_)
  generalize w97.drew = w98 at BK454 BK456 HB x468a x470a hHeld ⊢
  refine pq 1 87 HT_ _ _ ?_; refine pq 8 94 HT_ _ _ ?_; refine tq_b2b4c1c1 0 86 HT_ HW_.out hHeld _ _ ?_; refine tq_b2b4c1c1 2 88 HT_ HW_.out hHeld _ _ ?_; refine pq 3 89 HT_ _ _ ?_; refine tq_b2b4c1c1 4 90 HT_ HW_.out hHeld _ _ ?_; refine tq_b2b4c1c1 7 93 HT_ HW_.out hHeld _ _ ?_; refine tq_b2b4c1c1 9 95 HT_ HW_.out hHeld _ _ ?_; refine pq 10 96 HT_ _ _ ?_; refine tq_b2b4c1c1 11 97 HT_ HW_.out hHeld _ _ ?_; refine on 5 (some 91) HT_ (fun K hK => ?_); refine goS Tryz.func86 #[.agg #[.slice (some ad455) l0_0.length c0_0, .slice A0_1 l0_1.length c0_1], .int .i64 (rd ((rd_T62 l0_0 a1).f3) 0)] ?_
  with_reducible refine (ih_impl_showIn k (by omega) _ _ l0_0 _ _ l0_1 (rd ((rd_T62 l0_0 a1).f3) 0) t469 _ ?side1 ?side2 ?side3 ?side4 (by first | (with_reducible exact HTAB.out) | exact tabW_below HTAB.out (be w)) A87.out).mono ?_
  (case side1 => exact Kd.C_below HR0_0.out (be w))
  (case side2 => exact HC0_0.out)
  (case side3 => exact Kd.C_below HR0_1.out (be w))
  (case side4 => exact HC0_1.out)
  rintro e w99 ⟨rfl, hb⟩
  refine ⟨_, rfl, ?_⟩
  replace BK454 := bb BK454 hb; replace BK456 := bb BK456 hb; replace HB := bs w hb; (try clear hb); (try clear hb2); (try clear hk); (try clear hi)
  refine hK.out _ _ (ba (bf BK454.out) (ba (bf BK456.out) (ba (cf hw468_0) (cf hw470_0)))) (fun hHeld => ?_)
  clear hK K; refine nm _ ?_; refine pq 6 92 HT_ _ _ ?_; refine on 12 (some 98) HT_ (fun K hK => ?_); refine goS Tryz.func86 #[.agg #[.slice (some ad455) l0_0.length c0_0, .slice A0_1 l0_1.length c0_1], .int .i64 (rd ((rd_T62 l0_0 a1).f3) 1)] ?_
  with_reducible refine (ih_impl_showIn k (by omega) _ _ l0_0 _ _ l0_1 (rd ((rd_T62 l0_0 a1).f3) 1) t471 _ ?side1 ?side2 ?side3 ?side4 (by first | (with_reducible exact HTAB.out) | exact tabW_below HTAB.out (be w)) A90.out).mono ?_
  (case side1 => exact Kd.C_below HR0_0.out (be w))
  (case side2 => exact HC0_0.out)
  (case side3 => exact Kd.C_below HR0_1.out (be w))
  (case side4 => exact HC0_1.out)
  rintro e w100 ⟨rfl, hb⟩
  refine ⟨_, rfl, ?_⟩
  replace BK454 := bb BK454 hb; replace BK456 := bb BK456 hb; replace HB := bs w hb; (try clear hb); (try clear hb2); (try clear hk); (try clear hi)
  refine hK.out _ _ (ba (bf BK454.out) (ba (bf BK456.out) (ba (cf hw468_0) (cf hw470_0)))) (fun hHeld => ?_)
  clear hK K; refine nm _ ?_; refine pq 13 99 HT_ _ _ ?_; refine pq 14 4 HT_ _ _ ?_
  refine done_ (done_of HT_.out (by kernel_rfl)) ?_
  try go_wp2
  go_ret
  exact ⟨ez, be w⟩
 rw [if_neg c85] at H; have c85b0 : (((rd_T62 l0_0 a1).f0) == 11) = false := beq_eq_false_iff_ne.mpr c85; have c85b1 : (((rd_T62 l0_0 a1).f0) != 11) = true := bne_iff_ne.mpr c85
 by_cases c101 : ((rd_T62 l0_0 a1).f0) = 12
 rotate_left
 ·
  rw [if_neg c101] at H; have c101b0 : (((rd_T62 l0_0 a1).f0) == 12) = false := beq_eq_false_iff_ne.mpr c101; have c101b1 : (((rd_T62 l0_0 a1).f0) != 12) = true := bne_iff_ne.mpr c101; obtain rfl := sj H; go_enter Tryz.func57, Tryz.ntmps57
  go_wp2_with (first | ((with_reducible refine gate_dst (N := 2) rfl ?_); refine bxe 2 #[.slice A0_0 l0_0.length c0_0, .slice A0_1 l0_1.length c0_1] 32 ?_; intro gb454 hg w123 BK454 hb; have GW454 := As.mk (gs w hg); replace HB := bs w hb; clear hb hg; obtain ⟨y124a, y124b, v124a, v124b⟩ := cl2 BK454.out; obtain ⟨ad455, A455_3, c455_3, e455, p455, q455, x455a, x455b, x455c, x455d, HC455_3, HR455_3⟩ := bt_T62 HB.out HR0_0.out a1 od od; cases e455) | ((with_reducible refine gate_dst (N := 5) rfl ?_); refine bxe 5 #[.int .i64 0, .int .i64 0, .string (⟨#[]⟩ : ByteArray), .slice none 0 0] 62 ?_; intro gb456 hg w125 BK456 hb; have GW456 := As.mk (gs w hg); replace HB := bs w hb; clear hb hg; obtain ⟨y126a, y126b, y126c, y126d, v126a, v126b, v126c, v126d⟩ := cl4 BK456.out))
  go_ret
  exact ⟨ez, be w⟩
 rw [if_pos c101] at H; have c101b0 : (((rd_T62 l0_0 a1).f0) == 12) = true := beq_iff_eq.mpr c101; have c101b1 : (((rd_T62 l0_0 a1).f0) != 12) = false := bne_eq_false_iff_eq.mpr c101; clear c101; have H' := As.mk H; clear H; go_enter Tryz.func57, Tryz.ntmps57
 go_wp2_with (first | ((with_reducible refine gate_dst (N := 2) rfl ?_); refine bxe 2 #[.slice A0_0 l0_0.length c0_0, .slice A0_1 l0_1.length c0_1] 32 ?_; intro gb454 hg w102 BK454 hb; have GW454 := As.mk (gs w hg); replace HB := bs w hb; clear hb hg; obtain ⟨y103a, y103b, v103a, v103b⟩ := cl2 BK454.out; obtain ⟨ad455, A455_3, c455_3, e455, p455, q455, x455a, x455b, x455c, x455d, HC455_3, HR455_3⟩ := bt_T62 HB.out HR0_0.out a1 od od; cases e455) | ((with_reducible refine gate_dst (N := 5) rfl ?_); refine bxe 5 #[.int .i64 0, .int .i64 0, .string (⟨#[]⟩ : ByteArray), .slice none 0 0] 62 ?_; intro gb456 hg w104 BK456 hb; have GW456 := As.mk (gs w hg); replace HB := bs w hb; have NB454_456 := As.mk (nl hg (bx BK454.out)); have NB456_454 := As.mk (ng hg (bx BK454.out)); replace BK454 := bb BK454 hb; clear hb hg; have hnb105 := NB456_454.out; have hnc105 := NB454_456.out; obtain ⟨y106a, y106b, y106c, y106d, v106a, v106b, v106c, v106d⟩ := cl4 BK456.out))
 go_loopg [6, 105] k (fun kq v6 v105 w' => ∃ (x6_1 : List ByteArray) (x105_1 : Int), v105 = .int .i64 x105_1 ∧ As (impl_showValue.l0 kq x6_1 ((rd_T62 l0_0 a1).f3) (((rd_T62 l0_0 a1).f3).length : Int) x105_1 l0_0 l0_1 ((rd_T62 l0_0 a1).f0) ((rd_T62 l0_0 a1).f1) ((rd_T62 l0_0 a1).f2) ((rd_T62 l0_0 a1).f3) = some r) ∧ As (kq ≤ k) ∧ As (Kd.R Kd.string 9 w' w.heap.size (fun _ => True) v6 x6_1) ∧ As (w'.heap[gb454]? = some (.cells #[(.slice (some ad455) l0_0.length c0_0), (.slice A0_1 l0_1.length c0_1)] 32 (0, 0))) ∧ As (w'.heap[gb456]? = some (.cells #[.int .i64 ((rd_T62 l0_0 a1).f0), .int .i64 ((rd_T62 l0_0 a1).f1), .string ((rd_T62 l0_0 a1).f2), (.slice A455_3 ((rd_T62 l0_0 a1).f3).length c455_3)] 62 (0, 0))) ∧ As (Below w.heap.size w w'))
 case atStart => exact ⟨(([] : List ByteArray)), (0), (by first | rfl | (simp; done) | (simp [*]; done)), H', ⟨Nat.le_refl _⟩, ⟨by first | exact Kd.R_nil _ _ _ _ _ | exact Kd.N_nil _ _ _ _ _ | exact Kd.V_nil _ _ _ _ _ | exact Kd.Q_nil _ _ _ _ _ | exact Kd.S_nil _ _ _ _ _⟩, ⟨by refine pl ?_; refine blk_far ?_ NB454_456.out _; refine pl ?_; refine blk_far ?_ NB454_456.out _; refine pl ?_; refine blk_far ?_ NB454_456.out _; refine pl ?_; refine blk_far ?_ NB454_456.out _; exact bx BK454.out⟩, ⟨by exact pl (bp4 (bx BK456.out))⟩, ⟨be w⟩⟩
 case round =>
  clear H'; (try clear c4); (try clear c5); (try clear c53); (try clear c53b0); (try clear c53b1); (try clear c69); (try clear c69b0); (try clear c69b1); (try clear c85); (try clear c85b0); (try clear c85b1); (try clear c101); (try clear c101b0); (try clear c101b1); (try clear y103a); (try clear y103b); (try clear y106a); (try clear y106b); (try clear y106c); (try clear y106d); (try clear v103a); (try clear v103b); (try clear v106a); (try clear v106b); (try clear v106c); (try clear v106d); (try clear x455a); (try clear x455b); (try clear x455c); (try clear x455d); (try clear p455); (try clear q455); obtain ⟨x6_1, x105_1, rfl, HA, HK1, HO_6, BK454, BK456, HB⟩ := hrel
  cases gk with
  | zero => exact absurd HA.out (by simp [impl_showValue.l0])
  | succ k1 =>
   have H := HA.out; clear HA
   simp only [impl_showValue.l0] at H
   by_cases c107 : x105_1 < (((rd_T62 l0_0 a1).f3).length : Int)
   ·
    rw [if_pos c107] at H; have c107b0 := decide_eq_true c107; clear c107; replace H := ia H; obtain ⟨c108b0, H⟩ := H; replace H := ia H; obtain ⟨c109b0, H⟩ := H; replace H := bo H; obtain ⟨t473, A110, H⟩ := H; have c111 := i1 H; replace H := i2 H; have LMc111 := As.mk c111; clear c111
    obtain ⟨y474, hy474⟩ : ∃ y_ : List ByteArray, y_ = (x6_1 ++ [t473]) := ⟨_, rfl⟩
    replace H : (impl_showValue.l0 k1 y474 ((rd_T62 l0_0 a1).f3) (((rd_T62 l0_0 a1).f3).length : Int) (wrap64 (x105_1 + 1)) l0_0 l0_1 ((rd_T62 l0_0 a1).f0) ((rd_T62 l0_0 a1).f1) ((rd_T62 l0_0 a1).f2) ((rd_T62 l0_0 a1).f3)) = some r := by first | (rw [hy474]; with_reducible exact H) | (have H2_ := (Option.bind_some _ _).symm.trans H; rw [hy474]; with_reducible exact H2_) | (have H2_ := (Option.bind_some _ _).symm.trans H; with_reducible exact H2_) | with_reducible exact H | (rw [hy474]; exact H) | exact H
    have Ny474 := As.mk hy474; clear hy474; have H' := As.mk H; clear H; have p472 : 0 ≤ (x105_1 : Int) := od; have q472 : x105_1 < (((rd_T62 l0_0 a1).f3).length : Int) := od; obtain ⟨ad472, e472, x472a⟩ := Kd.at_int HR455_3.out x105_1 p472 q472; cases e472; replace x472a := ce HB.out x472a; replace p472 := eq_true p472; replace q472 := eq_true q472; have hnb112 := NB454_456.out; have hnc112 := NB456_454.out; obtain ⟨y113a, y113b, v113a, v113b⟩ := cl2 BK454.out
    go_wp2_with (first | ((with_reducible refine gate_callee (f := 57) rfl ?_); refine goL (some 112) Tryz.func57 #[.agg #[.slice (some ad455) l0_0.length c0_0, .slice A0_1 l0_1.length c0_1], .int .i64 (rd ((rd_T62 l0_0 a1).f3) x105_1)] ?_; (with_reducible refine (ih k1 (by have := HK1.out; omega) _ _ l0_0 _ _ l0_1 (rd ((rd_T62 l0_0 a1).f3) x105_1) t473 _ ?side1 ?side2 ?side3 ?side4 (by first | (with_reducible exact HTAB.out) | exact tabW_below HTAB.out (be w)) A110.out).mono ?_); (case side1 => exact Kd.C_below HR0_0.out (be w)); (case side2 => exact HC0_0.out); (case side3 => exact Kd.C_below HR0_1.out (be w)); (case side4 => exact HC0_1.out); rintro e w114 ⟨rfl, hb⟩; refine ⟨_, rfl, ?_⟩; replace HO_6 := As.mk (Kd.R_below (by (with_reducible repeat (first | apply Kd.R_alloc | apply Kd.R_drewN | apply Kd.R_drew)); exact HO_6.out) hb); replace BK454 := bb BK454 hb; replace BK456 := bb BK456 hb; replace HB := bs w hb; (try clear hb); (try clear hk)) | ((with_reducible refine gate_builtin (b := .append) (xs := #[.tmp 109, .tmp 113]) rfl ?_); at_builtin; refine Kd.R_append Kd.string (w0 := w) w.heap.size rfl (.tmp 109) (.tmp 113) 98 9 (.string ⟨#[]⟩) 16 rfl Tryz.underlying98 info9 rfl (by decide) (by omega) u6 x6_1 t473 [.string t473] (fun _ => True) (fun _ => False) rfl rfl ?aP (fun _ hk => hk.elim) ?aF ?aO ?aB ?aS ?aL ?_; (case aP => exact rfl); (case aB => exact (be w)); (case aF => exact (fun _ _ => trivial)); (case aO => exact (by (with_reducible repeat (first | apply Kd.R_alloc | apply Kd.R_drewN | apply Kd.R_drew)); exact HO_6.out)); (case aS => exact (below_size (be w))); (case aL => have := LMc111.out; omega); intro v475 w115 ho hb hg hat; rw [← Ny474.out] at ho; replace BK454 := As.mk (blk_grown (g := gb454) (o := .cells #[.slice (some ad455) l0_0.length c0_0, .slice A0_1 l0_1.length c0_1] 32 (0, 0)) (bx BK454.out) hg (Kd.R_ne HO_6.out BK454.out (by decide))); replace BK456 := As.mk (blk_grown (g := gb456) (o := .cells #[.int .i64 ((rd_T62 l0_0 a1).f0), .int .i64 ((rd_T62 l0_0 a1).f1), .string ((rd_T62 l0_0 a1).f2), .slice (some ad472) ((rd_T62 l0_0 a1).f3).length c455_3] 62 (0, 0)) (bx BK456.out) hg (Kd.R_ne HO_6.out BK456.out (by decide))); replace HB := As.mk (hb); have HO476 := As.mk (ho); clear HO_6; clear ho hb hg hat))
    go_roundg k1
    case measure => have := HK1.out; omega
    case rel => exact ⟨(y474), (wrap64 (x105_1 + 1)), (by first | rfl | (simp; done) | (simp [*]; done)), H', ⟨by have := HK1.out; omega⟩, ⟨by (with_reducible repeat (first | apply Kd.R_alloc | apply Kd.R_drewN | apply Kd.R_drew)); exact HO476.out⟩, ⟨bx BK454.out⟩, ⟨bx BK456.out⟩, ⟨be w⟩⟩
   rw [if_neg c107] at H; have c107b0 := decide_eq_false c107; clear c107; replace H := il H; obtain ⟨c116, c116b0, c116b1, c116b2, H⟩ := H; replace H := bo H; obtain ⟨t477, A117, H⟩ := H; replace H := il H; obtain ⟨c118, c118b0, c118b1, c118b2, H⟩ := H
   try have c118b4 : (9223372036854775807 < ((rd_T62 l0_0 a1).f2).size + 1 + t477.size) = False := eq_false (Nat.not_lt.2 (by have h_ := c118; simp only [ByteArray.size_append] at h_; exact h_))
   replace H := il H; obtain ⟨c119, c119b0, c119b1, c119b2, H⟩ := H
   try have c119b4 : (9223372036854775807 < ((rd_T62 l0_0 a1).f2).size + 1 + t477.size + 1) = False := eq_false (Nat.not_lt.2 (by have h_ := c119; simp only [ByteArray.size_append] at h_; exact h_))
   obtain rfl := sj H
   try go_wp2
   replace HO_6 := As.mk (Kd.R_drew HO_6.out); replace BK454 := As.mk (blk_drew BK454.out); replace BK456 := As.mk (blk_drew BK456.out); replace HB := As.mk (below_drew1 HB.out); obtain ⟨Ao121, co121, eo121⟩ := Kd.R_slice HO_6.out
   (first | subst eo121 | (injection eo121 with f1_ f2_ f3_; have f4_ := f1_.symm; have f5_ := f3_.symm; clear f1_ f2_ f3_; subst f4_; subst f5_))
   refine start_ (n := 8) (S := _) (ds := []) #[O,O,O,O,O,O,O,O] (by kernel_rfl) rfl rfl (bf BK456.out) (fun hHeld => ?_); refine with_tabW impl_showValue.tab30 impl_showValue.bits30 (fun HT_ HW_ => ?_)
   generalize wr.drew = w120 at HO_6 BK454 BK456 HB hHeld ⊢
   refine pq 0 116 HT_ _ _ ?_; refine pq 3 119 HT_ _ _ ?_; refine tq_b4 1 117 HT_ HW_.out hHeld _ _ ?_; refine pq 2 118 HT_ _ _ ?_; refine on 4 (some 120) HT_ (fun K hK => ?_); refine goS Tryz.func84 #[.slice Ao121 x6_1.length co121, .string (⟨#[44, 32]⟩ : ByteArray)] ?_
   with_reducible refine (strings_Join.calls _ _ x6_1 (⟨#[44, 32]⟩ : ByteArray) t477 _ ?side1 ?side2 A117.out).mono ?_
   (case side1 => repeat (first | exact (Kd.R_reads' HO_6.out).2.2 | (with_reducible refine Kd.C_alloc ?_ _) | (with_reducible refine Kd.C_drewN ?_ _) | (with_reducible refine Kd.C_drew ?_)))
   (case side2 => exact (Kd.R_reads' HO_6.out).2.1)
   rintro e w122 ⟨rfl, hb⟩
   refine ⟨_, rfl, ?_⟩
   replace HO_6 := As.mk (Kd.R_below (by (with_reducible repeat (first | apply Kd.R_alloc | apply Kd.R_drewN | apply Kd.R_drew)); exact HO_6.out) hb); replace BK454 := bb BK454 hb; replace BK456 := bb BK456 hb; replace HB := bs w hb; (try clear hb); (try clear hb2); (try clear hk); (try clear hi)
   refine hK.out _ _ (bf BK456.out) (fun hHeld => ?_)
   clear hK K; refine nm _ ?_; refine pq 5 121 HT_ _ _ ?_; refine pq 6 122 HT_ _ _ ?_; refine pq 7 4 HT_ _ _ ?_
   refine done_ (done_of HT_.out (by kernel_rfl)) ?_
   try go_wp2
   go_ret
   exact ⟨ez, be w⟩
theorem impl_showValue.allO (k : Nat) : impl_showIn.C k ∧ impl_showValue.C k := by
  induction k using Nat.strongRecOn with
  | _ k ih => exact ⟨impl_showIn.callsO k (fun m_ h_ => (ih m_ h_).1) (fun m_ h_ => (ih m_ h_).2), impl_showValue.callsO k (fun m_ h_ => (ih m_ h_).1) (fun m_ h_ => (ih m_ h_).2)⟩
theorem impl_showIn.calls (k : Nat) : ∀ (A0_0 : Option Addr) (c0_0 : Nat) (l0_0 : List (S62)) (A0_1 : Option Addr) (c0_1 : Nat) (l0_1 : List (S56)) (a1 : Int) (r : ByteArray) (w : World) (hr0_0 : Kd.C k62 w A0_0 l0_0.length l0_0) (hc0_0 : l0_0.length ≤ c0_0) (hr0_1 : Kd.C k56 w A0_1 l0_1.length l0_1) (hc0_1 : l0_1.length ≤ c0_1) (hTab : TabW w) (h : impl_showIn.f k l0_0 l0_1 a1 = some r),
  Calls Tryz.prog 86 #[.agg #[.slice A0_0 l0_0.length c0_0, .slice A0_1 l0_1.length c0_1], .int .i64 a1] w fun e w' => e = .returned (.string r) ∧ Below w.heap.size w w' := (impl_showValue.allO k).1
theorem impl_showValue.calls (k : Nat) : ∀ (A0_0 : Option Addr) (c0_0 : Nat) (l0_0 : List (S62)) (A0_1 : Option Addr) (c0_1 : Nat) (l0_1 : List (S56)) (a1 : Int) (r : ByteArray) (w : World) (hr0_0 : Kd.C k62 w A0_0 l0_0.length l0_0) (hc0_0 : l0_0.length ≤ c0_0) (hr0_1 : Kd.C k56 w A0_1 l0_1.length l0_1) (hc0_1 : l0_1.length ≤ c0_1) (hTab : TabW w) (h : impl_showValue.f k l0_0 l0_1 a1 = some r),
  Calls Tryz.prog 57 #[.agg #[.slice A0_0 l0_0.length c0_0, .slice A0_1 l0_1.length c0_1], .int .i64 a1] w fun e w' => e = .returned (.string r) ∧ Below w.heap.size w w' := (impl_showValue.allO k).2

end Go.Proofs.YtcoapbnbakmkoaaGreatDoor.PFnExactShowProgram
