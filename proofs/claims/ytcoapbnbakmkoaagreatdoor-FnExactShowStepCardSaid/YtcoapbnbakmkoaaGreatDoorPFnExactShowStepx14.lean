/- Written by a program of this session (a turned copy of the kit's print): a contract for each Go function. No condition beside those in each statement. -/
import Derived.Test.YtcoapbnbakmkoaaGreatDoorPFnExactShowStepx0
import Derived.Test.YtcoapbnbakmkoaaGreatDoorPFnExactShowStepx13
namespace Go.Proofs.YtcoapbnbakmkoaaGreatDoor.PFnExactShowStep
open Go.RowKit Go.Proofs.YtcoapbnbakmkoaaGreatDoor.Given Go.Proofs.YtcoapbnbakmkoaaGreatDoorW.PrintWords Go.Proofs.YtcoapbnbakmkoaaGreatDoorW.PrintLast Go.Proofs.YtcoapbnbakmkoaaGreatDoorW.PrintMore
attribute [local go_sem] max2_int min2_int max_two min_two max_three min_three max_four min_four   -- for this text's walks alone
set_option linter.unusedVariables false
set_option linter.unusedSimpArgs false

/-! ### impl_showStep: function 48 -/
/-! ### impl_showSteps: function 75 -/
mutual
def impl_showSteps.l0 : Nat → Int → ByteArray → List Int → Int → Int → List (S62) → List (S56) → Option (ByteArray)
  | 0, _, _, _, _, _, _, _ => none
  | k + 1, x2, x7, x15, x16, x17, x391000, x391001 => if x17 < x16 then (if 0 ≤ x17 then (if x17 < (x15.length : Int) then ((impl_showStep.f k x391000 x391001 (rd x15 x17) x2).bind fun t393 => (if x7.size + t393.size ≤ 9223372036854775807 then (impl_showSteps.l0 k x2 (x7 ++ t393) x15 x16 (wrap64 (x17 + 1)) x391000 x391001) else (none))) else (none)) else (none)) else (some x7)
def impl_showSteps.f : Nat → List (S62) → List (S56) → Int → Int → Option (ByteArray)
  | 0, _, _, _, _ => none
  | k + 1, l0_0, l0_1, a1, a2 => if 0 ≤ a1 then (if a1 < (l0_0.length : Int) then (impl_showSteps.l0 k a2 (⟨#[]⟩ : ByteArray) ((rd_T62 l0_0 a1).f3) (((rd_T62 l0_0 a1).f3).length : Int) 0 l0_0 l0_1) else (none)) else (none)
def impl_showStep.f : Nat → List (S62) → List (S56) → Int → Int → Option (ByteArray)
  | 0, _, _, _, _ => none
  | k + 1, l0_0, l0_1, a1, a2 => if 0 ≤ a1 then (if a1 < (l0_0.length : Int) then ((strings_Repeat.f (⟨#[32, 32]⟩ : ByteArray) (mx 0 (mn a2 20))).bind fun t397 => (if 0 < (((rd_T62 l0_0 a1).f3).length : Int) then ((impl_showValue.f k l0_0 l0_1 (rd ((rd_T62 l0_0 a1).f3) 0)).bind fun t399 => (if ((rd_T62 l0_0 a1).f0) = 13 then (if t397.size + 4 ≤ 9223372036854775807 then (if (t397 ++ (⟨#[108, 101, 116, 32]⟩ : ByteArray)).size + ((rd_T62 l0_0 a1).f2).size ≤ 9223372036854775807 then (if ((t397 ++ (⟨#[108, 101, 116, 32]⟩ : ByteArray)) ++ ((rd_T62 l0_0 a1).f2)).size + 3 ≤ 9223372036854775807 then (if (((t397 ++ (⟨#[108, 101, 116, 32]⟩ : ByteArray)) ++ ((rd_T62 l0_0 a1).f2)) ++ (⟨#[32, 61, 32]⟩ : ByteArray)).size + t399.size ≤ 9223372036854775807 then (if ((((t397 ++ (⟨#[108, 101, 116, 32]⟩ : ByteArray)) ++ ((rd_T62 l0_0 a1).f2)) ++ (⟨#[32, 61, 32]⟩ : ByteArray)) ++ t399).size + 2 ≤ 9223372036854775807 then (some (((((t397 ++ (⟨#[108, 101, 116, 32]⟩ : ByteArray)) ++ ((rd_T62 l0_0 a1).f2)) ++ (⟨#[32, 61, 32]⟩ : ByteArray)) ++ t399) ++ (⟨#[59, 10]⟩ : ByteArray))) else (none)) else (none)) else (none)) else (none)) else (none)) else (if ((rd_T62 l0_0 a1).f0) = 14 then (if t397.size + ((rd_T62 l0_0 a1).f2).size ≤ 9223372036854775807 then (if (t397 ++ ((rd_T62 l0_0 a1).f2)).size + 3 ≤ 9223372036854775807 then (if ((t397 ++ ((rd_T62 l0_0 a1).f2)) ++ (⟨#[32, 61, 32]⟩ : ByteArray)).size + t399.size ≤ 9223372036854775807 then (if (((t397 ++ ((rd_T62 l0_0 a1).f2)) ++ (⟨#[32, 61, 32]⟩ : ByteArray)) ++ t399).size + 2 ≤ 9223372036854775807 then (some ((((t397 ++ ((rd_T62 l0_0 a1).f2)) ++ (⟨#[32, 61, 32]⟩ : ByteArray)) ++ t399) ++ (⟨#[59, 10]⟩ : ByteArray))) else (none)) else (none)) else (none)) else (none)) else (if ((rd_T62 l0_0 a1).f0) = 15 then (if t397.size + 1 ≤ 9223372036854775807 then (if (t397 ++ (⟨#[42]⟩ : ByteArray)).size + ((rd_T62 l0_0 a1).f2).size ≤ 9223372036854775807 then (if ((t397 ++ (⟨#[42]⟩ : ByteArray)) ++ ((rd_T62 l0_0 a1).f2)).size + 3 ≤ 9223372036854775807 then (if (((t397 ++ (⟨#[42]⟩ : ByteArray)) ++ ((rd_T62 l0_0 a1).f2)) ++ (⟨#[32, 61, 32]⟩ : ByteArray)).size + t399.size ≤ 9223372036854775807 then (if ((((t397 ++ (⟨#[42]⟩ : ByteArray)) ++ ((rd_T62 l0_0 a1).f2)) ++ (⟨#[32, 61, 32]⟩ : ByteArray)) ++ t399).size + 2 ≤ 9223372036854775807 then (some (((((t397 ++ (⟨#[42]⟩ : ByteArray)) ++ ((rd_T62 l0_0 a1).f2)) ++ (⟨#[32, 61, 32]⟩ : ByteArray)) ++ t399) ++ (⟨#[59, 10]⟩ : ByteArray))) else (none)) else (none)) else (none)) else (none)) else (none)) else (if ((rd_T62 l0_0 a1).f0) = 16 then (if t397.size + 3 ≤ 9223372036854775807 then (if (t397 ++ (⟨#[105, 102, 32]⟩ : ByteArray)).size + t399.size ≤ 9223372036854775807 then (if ((t397 ++ (⟨#[105, 102, 32]⟩ : ByteArray)) ++ t399).size + 3 ≤ 9223372036854775807 then (if 1 < (((rd_T62 l0_0 a1).f3).length : Int) then ((impl_showSteps.f k l0_0 l0_1 (rd ((rd_T62 l0_0 a1).f3) 1) (wrap64 (a2 + 1))).bind fun t401 => (if (((t397 ++ (⟨#[105, 102, 32]⟩ : ByteArray)) ++ t399) ++ (⟨#[32, 123, 10]⟩ : ByteArray)).size + t401.size ≤ 9223372036854775807 then (if ((((t397 ++ (⟨#[105, 102, 32]⟩ : ByteArray)) ++ t399) ++ (⟨#[32, 123, 10]⟩ : ByteArray)) ++ t401).size + t397.size ≤ 9223372036854775807 then (if (((((t397 ++ (⟨#[105, 102, 32]⟩ : ByteArray)) ++ t399) ++ (⟨#[32, 123, 10]⟩ : ByteArray)) ++ t401) ++ t397).size + 9 ≤ 9223372036854775807 then (if 2 < (((rd_T62 l0_0 a1).f3).length : Int) then ((impl_showSteps.f k l0_0 l0_1 (rd ((rd_T62 l0_0 a1).f3) 2) (wrap64 (a2 + 1))).bind fun t403 => (if ((((((t397 ++ (⟨#[105, 102, 32]⟩ : ByteArray)) ++ t399) ++ (⟨#[32, 123, 10]⟩ : ByteArray)) ++ t401) ++ t397) ++ (⟨#[125, 32, 101, 108, 115, 101, 32, 123, 10]⟩ : ByteArray)).size + t403.size ≤ 9223372036854775807 then (if (((((((t397 ++ (⟨#[105, 102, 32]⟩ : ByteArray)) ++ t399) ++ (⟨#[32, 123, 10]⟩ : ByteArray)) ++ t401) ++ t397) ++ (⟨#[125, 32, 101, 108, 115, 101, 32, 123, 10]⟩ : ByteArray)) ++ t403).size + t397.size ≤ 9223372036854775807 then (if ((((((((t397 ++ (⟨#[105, 102, 32]⟩ : ByteArray)) ++ t399) ++ (⟨#[32, 123, 10]⟩ : ByteArray)) ++ t401) ++ t397) ++ (⟨#[125, 32, 101, 108, 115, 101, 32, 123, 10]⟩ : ByteArray)) ++ t403) ++ t397).size + 2 ≤ 9223372036854775807 then (some (((((((((t397 ++ (⟨#[105, 102, 32]⟩ : ByteArray)) ++ t399) ++ (⟨#[32, 123, 10]⟩ : ByteArray)) ++ t401) ++ t397) ++ (⟨#[125, 32, 101, 108, 115, 101, 32, 123, 10]⟩ : ByteArray)) ++ t403) ++ t397) ++ (⟨#[125, 10]⟩ : ByteArray))) else (none)) else (none)) else (none))) else (none)) else (none)) else (none)) else (none))) else (none)) else (none)) else (none)) else (none)) else (if ((rd_T62 l0_0 a1).f0) = 17 then (if t397.size + 6 ≤ 9223372036854775807 then (if (t397 ++ (⟨#[119, 104, 105, 108, 101, 32]⟩ : ByteArray)).size + t399.size ≤ 9223372036854775807 then (if ((t397 ++ (⟨#[119, 104, 105, 108, 101, 32]⟩ : ByteArray)) ++ t399).size + 3 ≤ 9223372036854775807 then (if 1 < (((rd_T62 l0_0 a1).f3).length : Int) then ((impl_showSteps.f k l0_0 l0_1 (rd ((rd_T62 l0_0 a1).f3) 1) (wrap64 (a2 + 1))).bind fun t405 => (if (((t397 ++ (⟨#[119, 104, 105, 108, 101, 32]⟩ : ByteArray)) ++ t399) ++ (⟨#[32, 123, 10]⟩ : ByteArray)).size + t405.size ≤ 9223372036854775807 then (if ((((t397 ++ (⟨#[119, 104, 105, 108, 101, 32]⟩ : ByteArray)) ++ t399) ++ (⟨#[32, 123, 10]⟩ : ByteArray)) ++ t405).size + t397.size ≤ 9223372036854775807 then (if (((((t397 ++ (⟨#[119, 104, 105, 108, 101, 32]⟩ : ByteArray)) ++ t399) ++ (⟨#[32, 123, 10]⟩ : ByteArray)) ++ t405) ++ t397).size + 2 ≤ 9223372036854775807 then (some ((((((t397 ++ (⟨#[119, 104, 105, 108, 101, 32]⟩ : ByteArray)) ++ t399) ++ (⟨#[32, 123, 10]⟩ : ByteArray)) ++ t405) ++ t397) ++ (⟨#[125, 10]⟩ : ByteArray))) else (none)) else (none)) else (none))) else (none)) else (none)) else (none)) else (none)) else (if ((rd_T62 l0_0 a1).f0) = 18 then (if t397.size + 6 ≤ 9223372036854775807 then (if (t397 ++ (⟨#[112, 114, 105, 110, 116, 32]⟩ : ByteArray)).size + t399.size ≤ 9223372036854775807 then (if ((t397 ++ (⟨#[112, 114, 105, 110, 116, 32]⟩ : ByteArray)) ++ t399).size + 2 ≤ 9223372036854775807 then (some (((t397 ++ (⟨#[112, 114, 105, 110, 116, 32]⟩ : ByteArray)) ++ t399) ++ (⟨#[59, 10]⟩ : ByteArray))) else (none)) else (none)) else (none)) else (if t397.size + 3 ≤ 9223372036854775807 then (if (t397 ++ (⟨#[100, 111, 32]⟩ : ByteArray)).size + t399.size ≤ 9223372036854775807 then (if ((t397 ++ (⟨#[100, 111, 32]⟩ : ByteArray)) ++ t399).size + 2 ≤ 9223372036854775807 then (some (((t397 ++ (⟨#[100, 111, 32]⟩ : ByteArray)) ++ t399) ++ (⟨#[59, 10]⟩ : ByteArray))) else (none)) else (none)) else (none))))))))) else (none))) else (none)) else (none)
end
theorem impl_showStep.mono_l : ∀ k, (∀ y0 y1 y2 y3, LeO (impl_showSteps.f k y0 y1 y2 y3) (impl_showSteps.f (k + 1) y0 y1 y2 y3)) ∧ (∀ y0 y1 y2 y3 y4 y5 y6, LeO (impl_showSteps.l0 k y0 y1 y2 y3 y4 y5 y6) (impl_showSteps.l0 (k + 1) y0 y1 y2 y3 y4 y5 y6)) ∧ (∀ y0 y1 y2 y3, LeO (impl_showStep.f k y0 y1 y2 y3) (impl_showStep.f (k + 1) y0 y1 y2 y3))
  | 0 => ⟨fun _ _ _ _ r h => by simp [impl_showSteps.f] at h, fun _ _ _ _ _ _ _ r h => by simp [impl_showSteps.l0] at h, fun _ _ _ _ r h => by simp [impl_showStep.f] at h⟩
  | k + 1 => by
    obtain ⟨ih0, ih1, ih2⟩ := impl_showStep.mono_l k
    refine ⟨?_, ?_, ?_⟩
    · intro y0 y1 y2 y3
      unfold impl_showSteps.f
      repeat' first
      | (with_reducible exact ih0 _ _ _ _)
      | (with_reducible exact ih1 _ _ _ _ _ _ _)
      | (with_reducible exact ih2 _ _ _ _)
      | (with_reducible exact impl_showValue.mono _ _ _ _)
      | (with_reducible exact LeO.refl _)
      | (with_reducible exact LeO.none _)
      | (with_reducible refine LeO.ite ?_ ?_)
      | (with_reducible refine LeO.bind ?_ (fun _ => ?_))
      | exact ih0 _ _ _ _
      | exact ih1 _ _ _ _ _ _ _
      | exact ih2 _ _ _ _
      | exact impl_showValue.mono _ _ _ _
      | exact LeO.none _
      | refine LeO.ite ?_ ?_
      | refine LeO.bind ?_ (fun _ => ?_)
    · intro y0 y1 y2 y3 y4 y5 y6
      unfold impl_showSteps.l0
      repeat' first
      | (with_reducible exact ih0 _ _ _ _)
      | (with_reducible exact ih1 _ _ _ _ _ _ _)
      | (with_reducible exact ih2 _ _ _ _)
      | (with_reducible exact impl_showValue.mono _ _ _ _)
      | (with_reducible exact LeO.refl _)
      | (with_reducible exact LeO.none _)
      | (with_reducible refine LeO.ite ?_ ?_)
      | (with_reducible refine LeO.bind ?_ (fun _ => ?_))
      | exact ih0 _ _ _ _
      | exact ih1 _ _ _ _ _ _ _
      | exact ih2 _ _ _ _
      | exact impl_showValue.mono _ _ _ _
      | exact LeO.none _
      | refine LeO.ite ?_ ?_
      | refine LeO.bind ?_ (fun _ => ?_)
    · intro y0 y1 y2 y3
      unfold impl_showStep.f
      repeat' first
      | (with_reducible exact ih0 _ _ _ _)
      | (with_reducible exact ih1 _ _ _ _ _ _ _)
      | (with_reducible exact ih2 _ _ _ _)
      | (with_reducible exact impl_showValue.mono _ _ _ _)
      | (with_reducible exact LeO.refl _)
      | (with_reducible exact LeO.none _)
      | (with_reducible refine LeO.ite ?_ ?_)
      | (with_reducible refine LeO.bind ?_ (fun _ => ?_))
      | exact ih0 _ _ _ _
      | exact ih1 _ _ _ _ _ _ _
      | exact ih2 _ _ _ _
      | exact impl_showValue.mono _ _ _ _
      | exact LeO.none _
      | refine LeO.ite ?_ ?_
      | refine LeO.bind ?_ (fun _ => ?_)
theorem impl_showSteps.mono : ∀ a0 a1 a2 a3 k, LeO (impl_showSteps.f k a0 a1 a2 a3) (impl_showSteps.f (k + 1) a0 a1 a2 a3) := by
  intro a0 a1 a2 a3 k
  obtain ⟨ih0, ih1, ih2⟩ := impl_showStep.mono_l k
  exact ih0 a0 a1 a2 a3
theorem impl_showStep.mono : ∀ a0 a1 a2 a3 k, LeO (impl_showStep.f k a0 a1 a2 a3) (impl_showStep.f (k + 1) a0 a1 a2 a3) := by
  intro a0 a1 a2 a3 k
  obtain ⟨ih0, ih1, ih2⟩ := impl_showStep.mono_l k
  exact ih2 a0 a1 a2 a3
abbrev impl_showSteps.C (k : Nat) : Prop := ∀ (A0_0 : Option Addr) (c0_0 : Nat) (l0_0 : List (S62)) (A0_1 : Option Addr) (c0_1 : Nat) (l0_1 : List (S56)) (a1 : Int) (a2 : Int) (r : ByteArray) (w : World) (hr0_0 : Kd.C k62 w A0_0 l0_0.length l0_0) (hc0_0 : l0_0.length ≤ c0_0) (hr0_1 : Kd.C k56 w A0_1 l0_1.length l0_1) (hc0_1 : l0_1.length ≤ c0_1) (hTab : TabW w) (h : impl_showSteps.f k l0_0 l0_1 a1 a2 = some r),
  Calls Tryz.prog 75 #[.agg #[.slice A0_0 l0_0.length c0_0, .slice A0_1 l0_1.length c0_1], .int .i64 a1, .int .i64 a2] w fun e w' => e = .returned (.string r) ∧ Below w.heap.size w w'
abbrev impl_showStep.C (k : Nat) : Prop := ∀ (A0_0 : Option Addr) (c0_0 : Nat) (l0_0 : List (S62)) (A0_1 : Option Addr) (c0_1 : Nat) (l0_1 : List (S56)) (a1 : Int) (a2 : Int) (r : ByteArray) (w : World) (hr0_0 : Kd.C k62 w A0_0 l0_0.length l0_0) (hc0_0 : l0_0.length ≤ c0_0) (hr0_1 : Kd.C k56 w A0_1 l0_1.length l0_1) (hc0_1 : l0_1.length ≤ c0_1) (hTab : TabW w) (h : impl_showStep.f k l0_0 l0_1 a1 a2 = some r),
  Calls Tryz.prog 48 #[.agg #[.slice A0_0 l0_0.length c0_0, .slice A0_1 l0_1.length c0_1], .int .i64 a1, .int .i64 a2] w fun e w' => e = .returned (.string r) ∧ Below w.heap.size w w'
set_option maxHeartbeats 8000000 in
set_option maxRecDepth 100000 in
theorem impl_showSteps.callsO (k : Nat) (ih : ∀ m_, m_ < k → impl_showSteps.C m_) (ih_impl_showStep : ∀ m_, m_ < k → impl_showStep.C m_) : impl_showSteps.C k := by
 intro A0_0 c0_0 l0_0 A0_1 c0_1 l0_1 a1 a2 r w hr0_0 hc0_0 hr0_1 hc0_1 hTab h
 have HTAB := As.mk hTab
 clear hTab
 cases k with
 | zero => exact absurd h (by simp [impl_showSteps.f])
 | succ k =>
 simp only [impl_showSteps.f] at h
 have hu32 := Tryz.underlying32
 have HR0_0 := As.mk hr0_0
 have HC0_0 := As.mk hc0_0
 clear hr0_0 hc0_0
 have HR0_1 := As.mk hr0_1
 have HC0_1 := As.mk hc0_1
 clear hr0_1 hc0_1
 have HB := As.mk (Below.refl w.heap.size w)
 have H : (if 0 ≤ a1 then (if a1 < (l0_0.length : Int) then (impl_showSteps.l0 k a2 (⟨#[]⟩ : ByteArray) ((rd_T62 l0_0 a1).f3) (((rd_T62 l0_0 a1).f3).length : Int) 0 l0_0 l0_1) else (none)) else (none)) = some r := h
 clear h
 by_cases c4 : 0 ≤ a1
 rotate_left; · rw [if_neg c4] at H; exact absurd H (by simp)

 rw [if_pos c4] at H
 have c4b0 := decide_eq_true c4
 clear c4
 have c5 := i1 H; replace H := i2 H
 have c5b0 := decide_eq_true c5
 clear c5
 have H' := As.mk H
 clear H
 go_enter Tryz.func75, Tryz.ntmps75
 go_wp2_with (first | ((with_reducible refine gate_dst (N := 3) rfl ?_); refine box_event ?hg (N := 3) ?hd (cs := #[.slice A0_0 l0_0.length c0_0, .slice A0_1 l0_1.length c0_1]) (t := 32) ?hr ?_; (case hd => rfl); (case hg => rfl); (case hr => first | (go_simp; done) | (go_simp; rfl)); intro gb390 hg w6 hbox hb; have BK390 := As.mk (hbox); have GW390 := As.mk (gs w hg); replace HB := As.mk (below_step (be w) hb); clear hb hbox hg; obtain ⟨hcz7_0, hcz7_1, hfz7_0, hfz7_1⟩ := cl2 BK390.out; have p391 : 0 ≤ (a1 : Int) := od; have q391 : a1 < (l0_0.length : Int) := od; obtain ⟨ad391, A391_3, c391_3, e391, hx391_0, hx391_1, hx391_2, hx391_3, hl391_3, hi391_3⟩ := at_T62 HR0_0.out a1 p391 q391; cases e391; replace hx391_0 := ce HB.out hx391_0; replace hx391_1 := ce HB.out hx391_1; replace hx391_2 := ce HB.out hx391_2; replace hx391_3 := ce HB.out hx391_3; have HR391_3 := As.mk hi391_3; have HC391_3 := As.mk hl391_3; clear hi391_3 hl391_3; replace p391 := eq_true p391; replace q391 := eq_true q391))
 go_loopg [7, 17] k (fun kq v7 v17 w' => ∃ (x7_1 : ByteArray) (x17_1 : Int), v7 = .string x7_1 ∧ v17 = .int .i64 x17_1 ∧ As (impl_showSteps.l0 kq a2 x7_1 ((rd_T62 l0_0 a1).f3) (((rd_T62 l0_0 a1).f3).length : Int) x17_1 l0_0 l0_1 = some r) ∧ As (kq ≤ k) ∧ As (w'.heap[gb390]? = some (.cells #[(.slice (some ad391) l0_0.length c0_0), (.slice A0_1 l0_1.length c0_1)] 32 (0, 0))) ∧ As (Below w.heap.size w w'))
 case atStart => exact ⟨((⟨#[]⟩ : ByteArray)), (0), (by first | rfl | (simp; done) | (simp [*]; done)), (by first | rfl | (simp; done) | (simp [*]; done)), H', ⟨Nat.le_refl _⟩, ⟨bx BK390.out⟩, ⟨be w⟩⟩
 case round =>
  clear H'
  (try clear c4); (try clear c4b0); (try clear c5); (try clear c5b0); (try clear hcz7_0); (try clear hcz7_1); (try clear hfz7_0); (try clear hfz7_1); (try clear hx391_0); (try clear hx391_1); (try clear hx391_2); (try clear hx391_3); (try clear p391); (try clear q391)
  obtain ⟨x7_1, x17_1, rfl, rfl, HA, HK1, BK390, HB⟩ := hrel
  cases gk with
  | zero => exact absurd HA.out (by simp [impl_showSteps.l0])
  | succ k1 =>
   have H := HA.out
   clear HA
   simp only [impl_showSteps.l0] at H
   by_cases c8 : x17_1 < (((rd_T62 l0_0 a1).f3).length : Int)
   rotate_left
   ·
    rw [if_neg c8] at H
    have c8b0 : decide (x17_1 < (((rd_T62 l0_0 a1).f3).length : Int)) = false := decide_eq_false c8
    clear c8
    obtain rfl := Option.some.inj H
    go_wp2
    go_ret
    exact ⟨ez, be w⟩
   rw [if_pos c8] at H
   have c8b0 := decide_eq_true c8
   clear c8
   have c9 := i1 H; replace H := i2 H
   have c9b0 := decide_eq_true c9
   clear c9
   have c10 := i1 H; replace H := i2 H
   have c10b0 := decide_eq_true c10
   clear c10
   obtain ⟨t393, A110, H⟩ := Option.bind_eq_some_iff.mp H
   try dsimp only at H
   have A11 := As.mk A110
   clear A110
   have c12 := i1 H; replace H := i2 H
   have c12b0 := eq_true c12
   have c12b1 := decide_eq_true c12
   try have c12b2 := eq_false (Nat.not_lt.2 c12)
   have H' := As.mk H
   clear H
   have p392 : 0 ≤ (x17_1 : Int) := od
   have q392 : x17_1 < (((rd_T62 l0_0 a1).f3).length : Int) := od
   obtain ⟨ad392, e392, hx392_0⟩ := Kd.at_int HR391_3.out x17_1 p392 q392
   cases e392
   replace hx392_0 := ce HB.out hx392_0
   replace p392 := eq_true p392
   replace q392 := eq_true q392
   obtain ⟨hcz13_0, hcz13_1, hfz13_0, hfz13_1⟩ := cl2 BK390.out
   go_wp2_with (first | ((with_reducible refine gate_callee (f := 48) rfl ?_); refine goesL_ (some 25) rfl rfl Tryz.func48 (by kernel_rfl) rfl #[.agg #[.slice (some ad391) l0_0.length c0_0, .slice A0_1 l0_1.length c0_1], .int .i64 (rd ((rd_T62 l0_0 a1).f3) x17_1), .int .i64 a2] rfl gl ?_; (with_reducible refine (ih_impl_showStep k1 (by have := HK1.out; omega) _ _ l0_0 _ _ l0_1 (rd ((rd_T62 l0_0 a1).f3) x17_1) a2 t393 _ ?side1 ?side2 ?side3 ?side4 (by first | (with_reducible exact HTAB.out) | exact tabW_below HTAB.out (be w)) A11.out).mono ?_); (case side1 => exact Kd.C_below HR0_0.out (be w)); (case side2 => exact HC0_0.out); (case side3 => exact Kd.C_below HR0_1.out (be w)); (case side4 => exact HC0_1.out); rintro e w14 ⟨rfl, hb⟩; refine ⟨_, rfl, ?_⟩; replace BK390 := As.mk (blk_below (bx BK390.out) hb); replace HB := As.mk (below_step (be w) hb); (try clear hb)))
   go_roundg k1
   case measure => have := HK1.out; omega
   case rel => exact ⟨(x7_1 ++ t393), (wrap64 (x17_1 + 1)), (by first | rfl | (simp; done) | (simp [*]; done)), (by first | rfl | (simp; done) | (simp [*]; done)), H', ⟨by have := HK1.out; omega⟩, ⟨bx BK390.out⟩, ⟨be w⟩⟩
def impl_showStep.T12 : Bool × List (List Nat × List Nat) := (true, [([], []), ([0], [0]), ([], []), ([1, 2], [1, 2]), ([3], [3]), ([], []), ([], []), ([6], [6]), ([7], [7]), ([8], [8]), ([], []), ([10], [10]), ([5, 9, 11], [5, 9, 11]), ([4, 12], [4, 12]), ([], []), ([13, 14], [13, 14]), ([15], [15]), ([], []), ([], []), ([18], [18]), ([19], [19]), ([20], [20]), ([], []), ([22], [22]), ([17, 21, 23, 12], [17, 21, 23]), ([16, 24], [16, 24]), ([], []), ([25, 26], [25, 26]), ([27], [27]), ([28, 24, 0, 1, 2, 3, 4, 5, 6, 7, 8, 9, 10, 11, 12, 13, 14, 15, 16, 17, 18, 19, 20, 21, 22, 23, 24, 25, 26, 27, 28], [28])])
def impl_showStep.B12 : List Nat := [0, 1, 0, 7, 15, 0, 0, 64, 192, 448, 0, 1024, 4064, 8191, 0, 32767, 65535, 0, 0, 262144, 786432, 1835008, 0, 4194304, 16654304, 33554431, 0, 134217727, 268435455, 536870911]
theorem impl_showStep.tab12 : rtab .any (opsOf Tryz.f48 12) = impl_showStep.T12 := by kernel_rfl
theorem impl_showStep.bits12 : waitsOk impl_showStep.T12.2 impl_showStep.B12 = true := by kernel_rfl
def impl_showStep.T14 : Bool × List (List Nat × List Nat) := (true, [([], []), ([0], [0]), ([], []), ([1, 2], [1, 2]), ([3], [3]), ([], []), ([], []), ([6], [6]), ([7], [7]), ([8], [8]), ([], []), ([10], [10]), ([5, 9, 11], [5, 9, 11]), ([4, 12], [4, 12]), ([], []), ([13, 14], [13, 14]), ([15], [15]), ([16, 12, 0, 1, 2, 3, 4, 5, 6, 7, 8, 9, 10, 11, 12, 13, 14, 15, 16], [16])])
def impl_showStep.B14 : List Nat := [0, 1, 0, 7, 15, 0, 0, 64, 192, 448, 0, 1024, 4064, 8191, 0, 32767, 65535, 131071]
theorem impl_showStep.tab14 : rtab .any (opsOf Tryz.f48 14) = impl_showStep.T14 := by kernel_rfl
theorem impl_showStep.bits14 : waitsOk impl_showStep.T14.2 impl_showStep.B14 = true := by kernel_rfl
set_option maxHeartbeats 8000000 in
set_option maxRecDepth 100000 in
theorem impl_showStep.callsO (k : Nat) (ih_impl_showSteps : ∀ m_, m_ < k → impl_showSteps.C m_) (ih : ∀ m_, m_ < k → impl_showStep.C m_) : impl_showStep.C k := by
 intro A0_0 c0_0 l0_0 A0_1 c0_1 l0_1 a1 a2 r w hr0_0 hc0_0 hr0_1 hc0_1 hTab h
 have HTAB := As.mk hTab
 clear hTab
 cases k with
 | zero => exact absurd h (by simp [impl_showStep.f])
 | succ k =>
 simp only [impl_showStep.f] at h
 have hu32 := Tryz.underlying32
 have hu62 := Tryz.underlying62
 have HR0_0 := As.mk hr0_0
 have HC0_0 := As.mk hc0_0
 clear hr0_0 hc0_0
 have HR0_1 := As.mk hr0_1
 have HC0_1 := As.mk hc0_1
 clear hr0_1 hc0_1
 have HB := As.mk (Below.refl w.heap.size w)
 have H := h
 clear h
 by_cases c4 : 0 ≤ a1
 rotate_left; · rw [if_neg c4] at H; exact absurd H (by simp)

 rw [if_pos c4] at H
 have c4b0 := decide_eq_true c4
 clear c4
 have c5 := i1 H; replace H := i2 H
 have c5b0 := decide_eq_true c5
 clear c5
 obtain ⟨ji6, hji6⟩ : ∃ j_ : Int, (mn a2 20) = j_ := ⟨_, rfl⟩
 (first | rw [hji6] at H | simp only [hji6] at H)
 (try (have hji6h : ji6 ≤ 20 := by (rw [← hji6]; unfold mn; (repeat' split) <;> omega)))
 (try (have hji6g : ji6 ≤ 64 := by omega))
 have hji6_ : (if 20 < a2 then 20 else a2) = ji6 := hji6
 obtain ⟨ji7, hji7⟩ : ∃ j_ : Int, (mx 0 (ji6)) = j_ := ⟨_, rfl⟩
 (first | rw [hji7] at H | simp only [hji7] at H)
 have hji7_ : (if 0 < (ji6) then (ji6) else 0) = ji7 := hji7
 obtain ⟨t397, A80, H⟩ := Option.bind_eq_some_iff.mp H
 try dsimp only at H
 have A8 := As.mk A80
 clear A80
 have c9 := i1 H; replace H := i2 H
 have c9b0 := decide_eq_true c9
 have c9b1 : decide (0 < ((rd_T62 l0_0 a1).f3).length) = true := decide_eq_true (by omega)
 clear c9
 obtain ⟨t399, A100, H⟩ := Option.bind_eq_some_iff.mp H
 try dsimp only at H
 have A10 := As.mk A100
 clear A100
 by_cases c11 : ((rd_T62 l0_0 a1).f0) = 13
 ·
  rw [if_pos c11] at H
  have c11b0 : (((rd_T62 l0_0 a1).f0) == 13) = true := beq_iff_eq.mpr c11
  have c11b1 : (((rd_T62 l0_0 a1).f0) != 13) = false := bne_eq_false_iff_eq.mpr c11
  clear c11
  have c12 := i1 H; replace H := i2 H
  have c12b0 := eq_true c12
  have c12b1 := decide_eq_true c12
  try have c12b2 := eq_false (Nat.not_lt.2 c12)
  have c13 := i1 H; replace H := i2 H
  have c13b0 := eq_true c13
  have c13b1 := decide_eq_true c13
  try have c13b2 := eq_false (Nat.not_lt.2 c13)
  try have c13b4 : (9223372036854775807 < t397.size + 4 + ((rd_T62 l0_0 a1).f2).size) = False := eq_false (Nat.not_lt.2 (by have h_ := c13; simp only [ByteArray.size_append] at h_; exact h_))
  have c14 := i1 H; replace H := i2 H
  have c14b0 := eq_true c14
  have c14b1 := decide_eq_true c14
  try have c14b2 := eq_false (Nat.not_lt.2 c14)
  try have c14b4 : (9223372036854775807 < t397.size + 4 + ((rd_T62 l0_0 a1).f2).size + 3) = False := eq_false (Nat.not_lt.2 (by have h_ := c14; simp only [ByteArray.size_append] at h_; exact h_))
  have c15 := i1 H; replace H := i2 H
  have c15b0 := eq_true c15
  have c15b1 := decide_eq_true c15
  try have c15b2 := eq_false (Nat.not_lt.2 c15)
  try have c15b4 : (9223372036854775807 < t397.size + 4 + ((rd_T62 l0_0 a1).f2).size + 3 + t399.size) = False := eq_false (Nat.not_lt.2 (by have h_ := c15; simp only [ByteArray.size_append] at h_; exact h_))
  have c16 := i1 H; replace H := i2 H
  have c16b0 := eq_true c16
  have c16b1 := decide_eq_true c16
  try have c16b2 := eq_false (Nat.not_lt.2 c16)
  try have c16b4 : (9223372036854775807 < t397.size + 4 + ((rd_T62 l0_0 a1).f2).size + 3 + t399.size + 2) = False := eq_false (Nat.not_lt.2 (by have h_ := c16; simp only [ByteArray.size_append] at h_; exact h_))
  obtain rfl := Option.some.inj H
  go_enter Tryz.func48, Tryz.ntmps48
  try go_wp2_with (first | ((with_reducible refine gate_dst (N := 3) rfl ?_); refine box_event ?hg (N := 3) ?hd (cs := #[.slice A0_0 l0_0.length c0_0, .slice A0_1 l0_1.length c0_1]) (t := 32) ?hr ?_; (case hd => rfl); (case hg => rfl); (case hr => first | (go_simp; done) | (go_simp; rfl)); intro gb394 hg w17 hbox hb; have BK394 := As.mk (hbox); have GW394 := As.mk (gs w hg); replace HB := As.mk (below_step (be w) hb); clear hb hbox hg; obtain ⟨hcz18_0, hcz18_1, hfz18_0, hfz18_1⟩ := cl2 BK394.out; have p395 : 0 ≤ (a1 : Int) := od; have q395 : a1 < (l0_0.length : Int) := od; obtain ⟨ad395, A395_3, c395_3, e395, hx395_0, hx395_1, hx395_2, hx395_3, hl395_3, hi395_3⟩ := at_T62 HR0_0.out a1 p395 q395; cases e395; replace hx395_0 := ce HB.out hx395_0; replace hx395_1 := ce HB.out hx395_1; replace hx395_2 := ce HB.out hx395_2; replace hx395_3 := ce HB.out hx395_3; have HR395_3 := As.mk hi395_3; have HC395_3 := As.mk hl395_3; clear hi395_3 hl395_3; replace p395 := eq_true p395; replace q395 := eq_true q395) | ((with_reducible refine gate_dst (N := 7) rfl ?_); refine box_event ?hg (N := 7) ?hd (cs := #[.int .i64 0, .int .i64 0, .string (⟨#[]⟩ : ByteArray), .slice none 0 0]) (t := 62) ?hr ?_; (case hd => rfl); (case hg => rfl); (case hr => first | (go_simp; done) | (go_simp; rfl)); intro gb396 hg w19 hbox hb; have BK396 := As.mk (hbox); have GW396 := As.mk (gs w hg); replace HB := As.mk (below_step (be w) hb); have NB394_396 := As.mk (nl hg (bx BK394.out)); have NB396_394 := As.mk (ng hg (bx BK394.out)); replace BK394 := As.mk (blk_below (bx BK394.out) hb); clear hb hbox hg; have hnb20 := NB396_394.out; have hnc20 := NB394_396.out; obtain ⟨hcz21_0, hcz21_1, hcz21_2, hcz21_3, hfz21_0, hfz21_1, hfz21_2, hfz21_3⟩ := cl4 BK396.out) | ((with_reducible refine gate_callee (f := 74) rfl ?_); refine goesL_ (some 18) rfl rfl Tryz.func74 (by kernel_rfl) rfl #[.string (⟨#[32, 32]⟩ : ByteArray), .int .i64 ji7] rfl (by (try simp only [lm]); first | done | (simp only [hji7]; rfl) | rfl | (simp only [List.length_drop, List.length_take]; rfl)) ?_; (with_reducible refine (strings_Repeat.calls (⟨#[32, 32]⟩ : ByteArray) ji7 t397 _ A8.out).mono ?_); rintro e w22 ⟨rfl, hb⟩; refine ⟨_, rfl, ?_⟩; replace BK394 := As.mk (blk_below (g := gb394) (o := .cells #[.slice (some ad395) l0_0.length c0_0, .slice A0_1 l0_1.length c0_1] 32 (0, 0)) (by refine pl ?_; refine blk_far ?_ NB394_396.out _; refine pl ?_; refine blk_far ?_ NB394_396.out _; refine pl ?_; refine blk_far ?_ NB394_396.out _; refine pl ?_; refine blk_far ?_ NB394_396.out _; exact bx BK394.out) hb); replace BK396 := As.mk (blk_below (g := gb396) (o := .cells #[.int .i64 ((rd_T62 l0_0 a1).f0), .int .i64 ((rd_T62 l0_0 a1).f1), .string ((rd_T62 l0_0 a1).f2), .slice A395_3 ((rd_T62 l0_0 a1).f3).length c395_3] 62 (0, 0)) (by refine pl ?_; refine blk_put (cs := #[.int .i64 ((rd_T62 l0_0 a1).f0), .int .i64 ((rd_T62 l0_0 a1).f1), .string ((rd_T62 l0_0 a1).f2), .slice none 0 0]) ?_ 3 _ rfl; refine pl ?_; refine blk_put (cs := #[.int .i64 ((rd_T62 l0_0 a1).f0), .int .i64 ((rd_T62 l0_0 a1).f1), .string (⟨#[]⟩ : ByteArray), .slice none 0 0]) ?_ 2 _ rfl; refine pl ?_; refine blk_put (cs := #[.int .i64 ((rd_T62 l0_0 a1).f0), .int .i64 0, .string (⟨#[]⟩ : ByteArray), .slice none 0 0]) ?_ 1 _ rfl; refine pl ?_; refine blk_put (cs := #[.int .i64 0, .int .i64 0, .string (⟨#[]⟩ : ByteArray), .slice none 0 0]) ?_ 0 _ rfl; exact bx BK396.out) hb); replace HB := As.mk (below_step (be w) hb); (try clear hb)))
  replace BK394 := As.mk (blk_drew BK394.out)
  replace BK396 := As.mk (blk_drew BK396.out)
  replace HB := As.mk (below_drew1 HB.out)
  have p398 : 0 ≤ (0 : Int) := (by omega)
  have q398 : 0 < (((rd_T62 l0_0 a1).f3).length : Int) := od
  obtain ⟨ad398, e398, hx398_0⟩ := Kd.at_int HR395_3.out 0 p398 q398
  have hw398_0 := hx398_0
  (try rw [show ((0 : Int)).toNat = 0 from rfl] at hw398_0)
  (try rw [show 0 * 1 = 0 from rfl] at hw398_0)
  (try rw [Addr.add_zero'] at hw398_0)
  cases e398
  have qi398 : (0 < ((rd_T62 l0_0 a1).f3).length) = True := eq_true (by omega)
  (try rw [show ((0 : Int)).toNat = 0 from rfl] at hx398_0)
  (try rw [Addr.add_zero'] at hx398_0)
  replace hx398_0 := ce HB.out hx398_0
  replace p398 := eq_true p398
  replace q398 := eq_true q398
  refine start_ (n := 7) (S := fun w' => w'.cell? ⟨gb394, 0, none⟩ = some (.slice (some ad395) l0_0.length c0_0) ∧ w'.cell? ⟨gb394, 1, none⟩ = some (.slice A0_1 l0_1.length c0_1) ∧ w'.cell? ⟨gb396, 0, none⟩ = some (.int .i64 ((rd_T62 l0_0 a1).f0)) ∧ w'.cell? ⟨gb396, 1, none⟩ = some (.int .i64 ((rd_T62 l0_0 a1).f1)) ∧ w'.cell? ⟨gb396, 2, none⟩ = some (.string ((rd_T62 l0_0 a1).f2)) ∧ w'.cell? ⟨gb396, 3, none⟩ = some (.slice (some ad398) ((rd_T62 l0_0 a1).f3).length c395_3) ∧ w'.cell? ad398 = some (.int .i64 (rd ((rd_T62 l0_0 a1).f3) 0))) (ds := []) #[O,O,O,O,O,O,O] (by kernel_rfl) rfl rfl ⟨(blk_cell BK394.out 0).trans rfl, (blk_cell BK394.out 1).trans rfl, (blk_cell BK396.out 0).trans rfl, (blk_cell BK396.out 1).trans rfl, (blk_cell BK396.out 2).trans rfl, (blk_cell BK396.out 3).trans rfl, (ce HB.out hw398_0 :)⟩ (fun hHeld => ?_)
  generalize w22.drew = w23 at BK394 BK396 HB hx398_0 hHeld ⊢
  refine pure_ (i := 1) (N := some 20) (v := ?_) (a' := ?_) #[O,I,O,O,O,O,O] rfl rfl (by kernel_rfl) (fun _ _ _ h => h) (Or.inl ⟨by rfl, ?_⟩) ?_ ?_
  rotate_left; · intro w'; go_simp; with_reducible rfl
  rotate_left; · simp only [pk, i64_w, i32_w]; rfl
  refine take_ (i := 0) (N := some 19) (v := ?_) (a' := ?_) #[I,I,O,O,O,O,O] rfl rfl (by kernel_rfl) (fun _ _ _ h => h) (Or.inl ⟨by rfl, ?_⟩) hHeld ?_ ?_
  rotate_left; · rintro w' ⟨s0, s1, s2, s3, s4, s5, s6⟩; go_simp; with_reducible rfl
  rotate_left; · simp only [pk, i64_w, i32_w]; rfl
  refine take_ (i := 2) (N := some 21) (v := ?_) (a' := ?_) #[I,I,I,O,O,O,O] rfl rfl (by kernel_rfl) (fun _ _ _ h => h) (Or.inl ⟨by rfl, ?_⟩) hHeld ?_ ?_
  rotate_left; · rintro w' ⟨s0, s1, s2, s3, s4, s5, s6⟩; go_simp; with_reducible rfl
  rotate_left; · simp only [pk, i64_w, i32_w]; rfl
  refine pure_ (i := 3) (N := some 22) (v := ?_) (a' := ?_) #[I,I,I,I,O,O,O] rfl rfl (by kernel_rfl) (fun _ _ _ h => h) (Or.inl ⟨by rfl, ?_⟩) ?_ ?_
  rotate_left; · intro w'; go_simp; with_reducible rfl
  rotate_left; · simp only [pk, i64_w, i32_w]; rfl
  refine take_ (i := 4) (N := some 23) (v := ?_) (a' := ?_) #[I,I,I,I,I,O,O] rfl rfl (by kernel_rfl) (fun _ _ _ h => h) (Or.inl ⟨by rfl, ?_⟩) hHeld ?_ ?_
  rotate_left; · rintro w' ⟨s0, s1, s2, s3, s4, s5, s6⟩; go_simp; with_reducible rfl
  rotate_left; · simp only [pk, i64_w, i32_w]; rfl
  refine one_ (i := 5) (N := some 24) #[I,I,I,I,I,I,O] rfl rfl (by kernel_rfl) (by decide) (fun K hK => ?_)
  refine goes_ Tryz.func57 (by kernel_rfl) rfl #[.agg #[.slice (some ad395) l0_0.length c0_0, .slice A0_1 l0_1.length c0_1], .int .i64 (rd ((rd_T62 l0_0 a1).f3) 0)] (by rfl) rfl rfl gl ?_
  with_reducible refine (impl_showValue.calls k _ _ l0_0 _ _ l0_1 (rd ((rd_T62 l0_0 a1).f3) 0) t399 _ ?side1 ?side2 ?side3 ?side4 (by first | (with_reducible exact HTAB.out) | exact tabW_below HTAB.out (be w)) A10.out).mono ?_
  (case side1 => exact Kd.C_below HR0_0.out (be w))
  (case side2 => exact HC0_0.out)
  (case side3 => exact Kd.C_below HR0_1.out (be w))
  (case side4 => exact HC0_1.out)
  rintro e w24 ⟨rfl, hb⟩
  refine ⟨_, rfl, ?_⟩
  replace BK394 := As.mk (blk_below (bx BK394.out) hb)
  replace BK396 := As.mk (blk_below (bx BK396.out) hb)
  replace HB := As.mk (below_step (be w) hb)
  (try clear hb)
  (try clear hb2)
  (try clear hk)
  (try clear hi)
  refine hK.out _ _ ⟨(blk_cell BK394.out 0).trans rfl, (blk_cell BK394.out 1).trans rfl, (blk_cell BK396.out 0).trans rfl, (blk_cell BK396.out 1).trans rfl, (blk_cell BK396.out 2).trans rfl, (blk_cell BK396.out 3).trans rfl, (ce HB.out hw398_0 :)⟩ (fun hHeld => ?_)
  clear hK K
  refine norm_ (a' := ?_) ?_ ?_
  rotate_left
  ·
   show Act.put _ (some 24) _ = _
   simp only [pk, i64_w, i32_w]
   rfl
  refine pure_ (i := 6) (N := some 9) (v := ?_) (a' := ?_) #[I,I,I,I,I,I,I] rfl rfl (by kernel_rfl) (fun _ _ _ h => h) (Or.inl ⟨by rfl, ?_⟩) ?_ ?_
  rotate_left; · intro w'; go_simp; with_reducible rfl
  rotate_left; · simp only [pk, i64_w, i32_w]; rfl
  refine done_ (by kernel_rfl) ?_
  obtain ⟨hcz25_0, hcz25_1, hcz25_2, hcz25_3, hfz25_0, hfz25_1, hfz25_2, hfz25_3⟩ := cl4 BK396.out
  try go_wp2
  go_ret
  exact ⟨by first | rfl | (simp [errW_none, errW_some] <;> rfl) | (simp only [← hji6, ← hji7]; first | rfl | (simp [errW_none, errW_some] <;> rfl)) | (simp [*, errW_none, errW_some] <;> rfl), be w⟩
 rw [if_neg c11] at H
 have c11b0 : (((rd_T62 l0_0 a1).f0) == 13) = false := beq_eq_false_iff_ne.mpr c11
 have c11b1 : (((rd_T62 l0_0 a1).f0) != 13) = true := bne_iff_ne.mpr c11
 by_cases c26 : ((rd_T62 l0_0 a1).f0) = 14
 ·
  rw [if_pos c26] at H
  have c26b0 : (((rd_T62 l0_0 a1).f0) == 14) = true := beq_iff_eq.mpr c26
  have c26b1 : (((rd_T62 l0_0 a1).f0) != 14) = false := bne_eq_false_iff_eq.mpr c26
  clear c26
  have c27 := i1 H; replace H := i2 H
  have c27b0 := eq_true c27
  have c27b1 := decide_eq_true c27
  try have c27b2 := eq_false (Nat.not_lt.2 c27)
  have c28 := i1 H; replace H := i2 H
  have c28b0 := eq_true c28
  have c28b1 := decide_eq_true c28
  try have c28b2 := eq_false (Nat.not_lt.2 c28)
  try have c28b4 : (9223372036854775807 < t397.size + ((rd_T62 l0_0 a1).f2).size + 3) = False := eq_false (Nat.not_lt.2 (by have h_ := c28; simp only [ByteArray.size_append] at h_; exact h_))
  have c29 := i1 H; replace H := i2 H
  have c29b0 := eq_true c29
  have c29b1 := decide_eq_true c29
  try have c29b2 := eq_false (Nat.not_lt.2 c29)
  try have c29b4 : (9223372036854775807 < t397.size + ((rd_T62 l0_0 a1).f2).size + 3 + t399.size) = False := eq_false (Nat.not_lt.2 (by have h_ := c29; simp only [ByteArray.size_append] at h_; exact h_))
  have c30 := i1 H; replace H := i2 H
  have c30b0 := eq_true c30
  have c30b1 := decide_eq_true c30
  try have c30b2 := eq_false (Nat.not_lt.2 c30)
  try have c30b4 : (9223372036854775807 < t397.size + ((rd_T62 l0_0 a1).f2).size + 3 + t399.size + 2) = False := eq_false (Nat.not_lt.2 (by have h_ := c30; simp only [ByteArray.size_append] at h_; exact h_))
  obtain rfl := Option.some.inj H
  go_enter Tryz.func48, Tryz.ntmps48
  try go_wp2_with (first | ((with_reducible refine gate_dst (N := 3) rfl ?_); refine box_event ?hg (N := 3) ?hd (cs := #[.slice A0_0 l0_0.length c0_0, .slice A0_1 l0_1.length c0_1]) (t := 32) ?hr ?_; (case hd => rfl); (case hg => rfl); (case hr => first | (go_simp; done) | (go_simp; rfl)); intro gb394 hg w31 hbox hb; have BK394 := As.mk (hbox); have GW394 := As.mk (gs w hg); replace HB := As.mk (below_step (be w) hb); clear hb hbox hg; obtain ⟨hcz32_0, hcz32_1, hfz32_0, hfz32_1⟩ := cl2 BK394.out; have p395 : 0 ≤ (a1 : Int) := od; have q395 : a1 < (l0_0.length : Int) := od; obtain ⟨ad395, A395_3, c395_3, e395, hx395_0, hx395_1, hx395_2, hx395_3, hl395_3, hi395_3⟩ := at_T62 HR0_0.out a1 p395 q395; cases e395; replace hx395_0 := ce HB.out hx395_0; replace hx395_1 := ce HB.out hx395_1; replace hx395_2 := ce HB.out hx395_2; replace hx395_3 := ce HB.out hx395_3; have HR395_3 := As.mk hi395_3; have HC395_3 := As.mk hl395_3; clear hi395_3 hl395_3; replace p395 := eq_true p395; replace q395 := eq_true q395) | ((with_reducible refine gate_dst (N := 7) rfl ?_); refine box_event ?hg (N := 7) ?hd (cs := #[.int .i64 0, .int .i64 0, .string (⟨#[]⟩ : ByteArray), .slice none 0 0]) (t := 62) ?hr ?_; (case hd => rfl); (case hg => rfl); (case hr => first | (go_simp; done) | (go_simp; rfl)); intro gb396 hg w33 hbox hb; have BK396 := As.mk (hbox); have GW396 := As.mk (gs w hg); replace HB := As.mk (below_step (be w) hb); have NB394_396 := As.mk (nl hg (bx BK394.out)); have NB396_394 := As.mk (ng hg (bx BK394.out)); replace BK394 := As.mk (blk_below (bx BK394.out) hb); clear hb hbox hg; have hnb34 := NB396_394.out; have hnc34 := NB394_396.out; obtain ⟨hcz35_0, hcz35_1, hcz35_2, hcz35_3, hfz35_0, hfz35_1, hfz35_2, hfz35_3⟩ := cl4 BK396.out) | ((with_reducible refine gate_callee (f := 74) rfl ?_); refine goesL_ (some 18) rfl rfl Tryz.func74 (by kernel_rfl) rfl #[.string (⟨#[32, 32]⟩ : ByteArray), .int .i64 ji7] rfl (by (try simp only [lm]); first | done | (simp only [hji7]; rfl) | rfl | (simp only [List.length_drop, List.length_take]; rfl)) ?_; (with_reducible refine (strings_Repeat.calls (⟨#[32, 32]⟩ : ByteArray) ji7 t397 _ A8.out).mono ?_); rintro e w36 ⟨rfl, hb⟩; refine ⟨_, rfl, ?_⟩; replace BK394 := As.mk (blk_below (g := gb394) (o := .cells #[.slice (some ad395) l0_0.length c0_0, .slice A0_1 l0_1.length c0_1] 32 (0, 0)) (by refine pl ?_; refine blk_far ?_ NB394_396.out _; refine pl ?_; refine blk_far ?_ NB394_396.out _; refine pl ?_; refine blk_far ?_ NB394_396.out _; refine pl ?_; refine blk_far ?_ NB394_396.out _; exact bx BK394.out) hb); replace BK396 := As.mk (blk_below (g := gb396) (o := .cells #[.int .i64 ((rd_T62 l0_0 a1).f0), .int .i64 ((rd_T62 l0_0 a1).f1), .string ((rd_T62 l0_0 a1).f2), .slice A395_3 ((rd_T62 l0_0 a1).f3).length c395_3] 62 (0, 0)) (by refine pl ?_; refine blk_put (cs := #[.int .i64 ((rd_T62 l0_0 a1).f0), .int .i64 ((rd_T62 l0_0 a1).f1), .string ((rd_T62 l0_0 a1).f2), .slice none 0 0]) ?_ 3 _ rfl; refine pl ?_; refine blk_put (cs := #[.int .i64 ((rd_T62 l0_0 a1).f0), .int .i64 ((rd_T62 l0_0 a1).f1), .string (⟨#[]⟩ : ByteArray), .slice none 0 0]) ?_ 2 _ rfl; refine pl ?_; refine blk_put (cs := #[.int .i64 ((rd_T62 l0_0 a1).f0), .int .i64 0, .string (⟨#[]⟩ : ByteArray), .slice none 0 0]) ?_ 1 _ rfl; refine pl ?_; refine blk_put (cs := #[.int .i64 0, .int .i64 0, .string (⟨#[]⟩ : ByteArray), .slice none 0 0]) ?_ 0 _ rfl; exact bx BK396.out) hb); replace HB := As.mk (below_step (be w) hb); (try clear hb)))
  replace BK394 := As.mk (blk_drew BK394.out)
  replace BK396 := As.mk (blk_drew BK396.out)
  replace HB := As.mk (below_drew1 HB.out)
  have p398 : 0 ≤ (0 : Int) := (by omega)
  have q398 : 0 < (((rd_T62 l0_0 a1).f3).length : Int) := od
  obtain ⟨ad398, e398, hx398_0⟩ := Kd.at_int HR395_3.out 0 p398 q398
  have hw398_0 := hx398_0
  (try rw [show ((0 : Int)).toNat = 0 from rfl] at hw398_0)
  (try rw [show 0 * 1 = 0 from rfl] at hw398_0)
  (try rw [Addr.add_zero'] at hw398_0)
  cases e398
  have qi398 : (0 < ((rd_T62 l0_0 a1).f3).length) = True := eq_true (by omega)
  (try rw [show ((0 : Int)).toNat = 0 from rfl] at hx398_0)
  (try rw [Addr.add_zero'] at hx398_0)
  replace hx398_0 := ce HB.out hx398_0
  replace p398 := eq_true p398
  replace q398 := eq_true q398
  refine start_ (n := 7) (S := fun w' => w'.cell? ⟨gb394, 0, none⟩ = some (.slice (some ad395) l0_0.length c0_0) ∧ w'.cell? ⟨gb394, 1, none⟩ = some (.slice A0_1 l0_1.length c0_1) ∧ w'.cell? ⟨gb396, 0, none⟩ = some (.int .i64 ((rd_T62 l0_0 a1).f0)) ∧ w'.cell? ⟨gb396, 1, none⟩ = some (.int .i64 ((rd_T62 l0_0 a1).f1)) ∧ w'.cell? ⟨gb396, 2, none⟩ = some (.string ((rd_T62 l0_0 a1).f2)) ∧ w'.cell? ⟨gb396, 3, none⟩ = some (.slice (some ad398) ((rd_T62 l0_0 a1).f3).length c395_3) ∧ w'.cell? ad398 = some (.int .i64 (rd ((rd_T62 l0_0 a1).f3) 0))) (ds := []) #[O,O,O,O,O,O,O] (by kernel_rfl) rfl rfl ⟨(blk_cell BK394.out 0).trans rfl, (blk_cell BK394.out 1).trans rfl, (blk_cell BK396.out 0).trans rfl, (blk_cell BK396.out 1).trans rfl, (blk_cell BK396.out 2).trans rfl, (blk_cell BK396.out 3).trans rfl, (ce HB.out hw398_0 :)⟩ (fun hHeld => ?_)
  generalize w36.drew = w37 at BK394 BK396 HB hx398_0 hHeld ⊢
  refine pure_ (i := 1) (N := some 20) (v := ?_) (a' := ?_) #[O,I,O,O,O,O,O] rfl rfl (by kernel_rfl) (fun _ _ _ h => h) (Or.inl ⟨by rfl, ?_⟩) ?_ ?_
  rotate_left; · intro w'; go_simp; with_reducible rfl
  rotate_left; · simp only [pk, i64_w, i32_w]; rfl
  refine take_ (i := 0) (N := some 19) (v := ?_) (a' := ?_) #[I,I,O,O,O,O,O] rfl rfl (by kernel_rfl) (fun _ _ _ h => h) (Or.inl ⟨by rfl, ?_⟩) hHeld ?_ ?_
  rotate_left; · rintro w' ⟨s0, s1, s2, s3, s4, s5, s6⟩; go_simp; with_reducible rfl
  rotate_left; · simp only [pk, i64_w, i32_w]; rfl
  refine take_ (i := 2) (N := some 21) (v := ?_) (a' := ?_) #[I,I,I,O,O,O,O] rfl rfl (by kernel_rfl) (fun _ _ _ h => h) (Or.inl ⟨by rfl, ?_⟩) hHeld ?_ ?_
  rotate_left; · rintro w' ⟨s0, s1, s2, s3, s4, s5, s6⟩; go_simp; with_reducible rfl
  rotate_left; · simp only [pk, i64_w, i32_w]; rfl
  refine pure_ (i := 3) (N := some 22) (v := ?_) (a' := ?_) #[I,I,I,I,O,O,O] rfl rfl (by kernel_rfl) (fun _ _ _ h => h) (Or.inl ⟨by rfl, ?_⟩) ?_ ?_
  rotate_left; · intro w'; go_simp; with_reducible rfl
  rotate_left; · simp only [pk, i64_w, i32_w]; rfl
  refine take_ (i := 4) (N := some 23) (v := ?_) (a' := ?_) #[I,I,I,I,I,O,O] rfl rfl (by kernel_rfl) (fun _ _ _ h => h) (Or.inl ⟨by rfl, ?_⟩) hHeld ?_ ?_
  rotate_left; · rintro w' ⟨s0, s1, s2, s3, s4, s5, s6⟩; go_simp; with_reducible rfl
  rotate_left; · simp only [pk, i64_w, i32_w]; rfl
  refine one_ (i := 5) (N := some 24) #[I,I,I,I,I,I,O] rfl rfl (by kernel_rfl) (by decide) (fun K hK => ?_)
  refine goes_ Tryz.func57 (by kernel_rfl) rfl #[.agg #[.slice (some ad395) l0_0.length c0_0, .slice A0_1 l0_1.length c0_1], .int .i64 (rd ((rd_T62 l0_0 a1).f3) 0)] (by rfl) rfl rfl gl ?_
  with_reducible refine (impl_showValue.calls k _ _ l0_0 _ _ l0_1 (rd ((rd_T62 l0_0 a1).f3) 0) t399 _ ?side1 ?side2 ?side3 ?side4 (by first | (with_reducible exact HTAB.out) | exact tabW_below HTAB.out (be w)) A10.out).mono ?_
  (case side1 => exact Kd.C_below HR0_0.out (be w))
  (case side2 => exact HC0_0.out)
  (case side3 => exact Kd.C_below HR0_1.out (be w))
  (case side4 => exact HC0_1.out)
  rintro e w38 ⟨rfl, hb⟩
  refine ⟨_, rfl, ?_⟩
  replace BK394 := As.mk (blk_below (bx BK394.out) hb)
  replace BK396 := As.mk (blk_below (bx BK396.out) hb)
  replace HB := As.mk (below_step (be w) hb)
  (try clear hb)
  (try clear hb2)
  (try clear hk)
  (try clear hi)
  refine hK.out _ _ ⟨(blk_cell BK394.out 0).trans rfl, (blk_cell BK394.out 1).trans rfl, (blk_cell BK396.out 0).trans rfl, (blk_cell BK396.out 1).trans rfl, (blk_cell BK396.out 2).trans rfl, (blk_cell BK396.out 3).trans rfl, (ce HB.out hw398_0 :)⟩ (fun hHeld => ?_)
  clear hK K
  refine norm_ (a' := ?_) ?_ ?_
  rotate_left
  ·
   show Act.put _ (some 24) _ = _
   simp only [pk, i64_w, i32_w]
   rfl
  refine pure_ (i := 6) (N := some 9) (v := ?_) (a' := ?_) #[I,I,I,I,I,I,I] rfl rfl (by kernel_rfl) (fun _ _ _ h => h) (Or.inl ⟨by rfl, ?_⟩) ?_ ?_
  rotate_left; · intro w'; go_simp; with_reducible rfl
  rotate_left; · simp only [pk, i64_w, i32_w]; rfl
  refine done_ (by kernel_rfl) ?_
  obtain ⟨hcz39_0, hcz39_1, hcz39_2, hcz39_3, hfz39_0, hfz39_1, hfz39_2, hfz39_3⟩ := cl4 BK396.out
  try go_wp2
  go_ret
  exact ⟨by first | rfl | (simp [errW_none, errW_some] <;> rfl) | (simp only [← hji6, ← hji7]; first | rfl | (simp [errW_none, errW_some] <;> rfl)) | (simp [*, errW_none, errW_some] <;> rfl), be w⟩
 rw [if_neg c26] at H
 have c26b0 : (((rd_T62 l0_0 a1).f0) == 14) = false := beq_eq_false_iff_ne.mpr c26
 have c26b1 : (((rd_T62 l0_0 a1).f0) != 14) = true := bne_iff_ne.mpr c26
 by_cases c40 : ((rd_T62 l0_0 a1).f0) = 15
 ·
  rw [if_pos c40] at H
  have c40b0 : (((rd_T62 l0_0 a1).f0) == 15) = true := beq_iff_eq.mpr c40
  have c40b1 : (((rd_T62 l0_0 a1).f0) != 15) = false := bne_eq_false_iff_eq.mpr c40
  clear c40
  have c41 := i1 H; replace H := i2 H
  have c41b0 := eq_true c41
  have c41b1 := decide_eq_true c41
  try have c41b2 := eq_false (Nat.not_lt.2 c41)
  have c42 := i1 H; replace H := i2 H
  have c42b0 := eq_true c42
  have c42b1 := decide_eq_true c42
  try have c42b2 := eq_false (Nat.not_lt.2 c42)
  try have c42b4 : (9223372036854775807 < t397.size + 1 + ((rd_T62 l0_0 a1).f2).size) = False := eq_false (Nat.not_lt.2 (by have h_ := c42; simp only [ByteArray.size_append] at h_; exact h_))
  have c43 := i1 H; replace H := i2 H
  have c43b0 := eq_true c43
  have c43b1 := decide_eq_true c43
  try have c43b2 := eq_false (Nat.not_lt.2 c43)
  try have c43b4 : (9223372036854775807 < t397.size + 1 + ((rd_T62 l0_0 a1).f2).size + 3) = False := eq_false (Nat.not_lt.2 (by have h_ := c43; simp only [ByteArray.size_append] at h_; exact h_))
  have c44 := i1 H; replace H := i2 H
  have c44b0 := eq_true c44
  have c44b1 := decide_eq_true c44
  try have c44b2 := eq_false (Nat.not_lt.2 c44)
  try have c44b4 : (9223372036854775807 < t397.size + 1 + ((rd_T62 l0_0 a1).f2).size + 3 + t399.size) = False := eq_false (Nat.not_lt.2 (by have h_ := c44; simp only [ByteArray.size_append] at h_; exact h_))
  have c45 := i1 H; replace H := i2 H
  have c45b0 := eq_true c45
  have c45b1 := decide_eq_true c45
  try have c45b2 := eq_false (Nat.not_lt.2 c45)
  try have c45b4 : (9223372036854775807 < t397.size + 1 + ((rd_T62 l0_0 a1).f2).size + 3 + t399.size + 2) = False := eq_false (Nat.not_lt.2 (by have h_ := c45; simp only [ByteArray.size_append] at h_; exact h_))
  obtain rfl := Option.some.inj H
  go_enter Tryz.func48, Tryz.ntmps48
  try go_wp2_with (first | ((with_reducible refine gate_dst (N := 3) rfl ?_); refine box_event ?hg (N := 3) ?hd (cs := #[.slice A0_0 l0_0.length c0_0, .slice A0_1 l0_1.length c0_1]) (t := 32) ?hr ?_; (case hd => rfl); (case hg => rfl); (case hr => first | (go_simp; done) | (go_simp; rfl)); intro gb394 hg w46 hbox hb; have BK394 := As.mk (hbox); have GW394 := As.mk (gs w hg); replace HB := As.mk (below_step (be w) hb); clear hb hbox hg; obtain ⟨hcz47_0, hcz47_1, hfz47_0, hfz47_1⟩ := cl2 BK394.out; have p395 : 0 ≤ (a1 : Int) := od; have q395 : a1 < (l0_0.length : Int) := od; obtain ⟨ad395, A395_3, c395_3, e395, hx395_0, hx395_1, hx395_2, hx395_3, hl395_3, hi395_3⟩ := at_T62 HR0_0.out a1 p395 q395; cases e395; replace hx395_0 := ce HB.out hx395_0; replace hx395_1 := ce HB.out hx395_1; replace hx395_2 := ce HB.out hx395_2; replace hx395_3 := ce HB.out hx395_3; have HR395_3 := As.mk hi395_3; have HC395_3 := As.mk hl395_3; clear hi395_3 hl395_3; replace p395 := eq_true p395; replace q395 := eq_true q395) | ((with_reducible refine gate_dst (N := 7) rfl ?_); refine box_event ?hg (N := 7) ?hd (cs := #[.int .i64 0, .int .i64 0, .string (⟨#[]⟩ : ByteArray), .slice none 0 0]) (t := 62) ?hr ?_; (case hd => rfl); (case hg => rfl); (case hr => first | (go_simp; done) | (go_simp; rfl)); intro gb396 hg w48 hbox hb; have BK396 := As.mk (hbox); have GW396 := As.mk (gs w hg); replace HB := As.mk (below_step (be w) hb); have NB394_396 := As.mk (nl hg (bx BK394.out)); have NB396_394 := As.mk (ng hg (bx BK394.out)); replace BK394 := As.mk (blk_below (bx BK394.out) hb); clear hb hbox hg; have hnb49 := NB396_394.out; have hnc49 := NB394_396.out; obtain ⟨hcz50_0, hcz50_1, hcz50_2, hcz50_3, hfz50_0, hfz50_1, hfz50_2, hfz50_3⟩ := cl4 BK396.out) | ((with_reducible refine gate_callee (f := 74) rfl ?_); refine goesL_ (some 18) rfl rfl Tryz.func74 (by kernel_rfl) rfl #[.string (⟨#[32, 32]⟩ : ByteArray), .int .i64 ji7] rfl (by (try simp only [lm]); first | done | (simp only [hji7]; rfl) | rfl | (simp only [List.length_drop, List.length_take]; rfl)) ?_; (with_reducible refine (strings_Repeat.calls (⟨#[32, 32]⟩ : ByteArray) ji7 t397 _ A8.out).mono ?_); rintro e w51 ⟨rfl, hb⟩; refine ⟨_, rfl, ?_⟩; replace BK394 := As.mk (blk_below (g := gb394) (o := .cells #[.slice (some ad395) l0_0.length c0_0, .slice A0_1 l0_1.length c0_1] 32 (0, 0)) (by refine pl ?_; refine blk_far ?_ NB394_396.out _; refine pl ?_; refine blk_far ?_ NB394_396.out _; refine pl ?_; refine blk_far ?_ NB394_396.out _; refine pl ?_; refine blk_far ?_ NB394_396.out _; exact bx BK394.out) hb); replace BK396 := As.mk (blk_below (g := gb396) (o := .cells #[.int .i64 ((rd_T62 l0_0 a1).f0), .int .i64 ((rd_T62 l0_0 a1).f1), .string ((rd_T62 l0_0 a1).f2), .slice A395_3 ((rd_T62 l0_0 a1).f3).length c395_3] 62 (0, 0)) (by refine pl ?_; refine blk_put (cs := #[.int .i64 ((rd_T62 l0_0 a1).f0), .int .i64 ((rd_T62 l0_0 a1).f1), .string ((rd_T62 l0_0 a1).f2), .slice none 0 0]) ?_ 3 _ rfl; refine pl ?_; refine blk_put (cs := #[.int .i64 ((rd_T62 l0_0 a1).f0), .int .i64 ((rd_T62 l0_0 a1).f1), .string (⟨#[]⟩ : ByteArray), .slice none 0 0]) ?_ 2 _ rfl; refine pl ?_; refine blk_put (cs := #[.int .i64 ((rd_T62 l0_0 a1).f0), .int .i64 0, .string (⟨#[]⟩ : ByteArray), .slice none 0 0]) ?_ 1 _ rfl; refine pl ?_; refine blk_put (cs := #[.int .i64 0, .int .i64 0, .string (⟨#[]⟩ : ByteArray), .slice none 0 0]) ?_ 0 _ rfl; exact bx BK396.out) hb); replace HB := As.mk (below_step (be w) hb); (try clear hb)))
  replace BK394 := As.mk (blk_drew BK394.out)
  replace BK396 := As.mk (blk_drew BK396.out)
  replace HB := As.mk (below_drew1 HB.out)
  have p398 : 0 ≤ (0 : Int) := (by omega)
  have q398 : 0 < (((rd_T62 l0_0 a1).f3).length : Int) := od
  obtain ⟨ad398, e398, hx398_0⟩ := Kd.at_int HR395_3.out 0 p398 q398
  have hw398_0 := hx398_0
  (try rw [show ((0 : Int)).toNat = 0 from rfl] at hw398_0)
  (try rw [show 0 * 1 = 0 from rfl] at hw398_0)
  (try rw [Addr.add_zero'] at hw398_0)
  cases e398
  have qi398 : (0 < ((rd_T62 l0_0 a1).f3).length) = True := eq_true (by omega)
  (try rw [show ((0 : Int)).toNat = 0 from rfl] at hx398_0)
  (try rw [Addr.add_zero'] at hx398_0)
  replace hx398_0 := ce HB.out hx398_0
  replace p398 := eq_true p398
  replace q398 := eq_true q398
  refine start_ (n := 7) (S := fun w' => w'.cell? ⟨gb394, 0, none⟩ = some (.slice (some ad395) l0_0.length c0_0) ∧ w'.cell? ⟨gb394, 1, none⟩ = some (.slice A0_1 l0_1.length c0_1) ∧ w'.cell? ⟨gb396, 0, none⟩ = some (.int .i64 ((rd_T62 l0_0 a1).f0)) ∧ w'.cell? ⟨gb396, 1, none⟩ = some (.int .i64 ((rd_T62 l0_0 a1).f1)) ∧ w'.cell? ⟨gb396, 2, none⟩ = some (.string ((rd_T62 l0_0 a1).f2)) ∧ w'.cell? ⟨gb396, 3, none⟩ = some (.slice (some ad398) ((rd_T62 l0_0 a1).f3).length c395_3) ∧ w'.cell? ad398 = some (.int .i64 (rd ((rd_T62 l0_0 a1).f3) 0))) (ds := []) #[O,O,O,O,O,O,O] (by kernel_rfl) rfl rfl ⟨(blk_cell BK394.out 0).trans rfl, (blk_cell BK394.out 1).trans rfl, (blk_cell BK396.out 0).trans rfl, (blk_cell BK396.out 1).trans rfl, (blk_cell BK396.out 2).trans rfl, (blk_cell BK396.out 3).trans rfl, (ce HB.out hw398_0 :)⟩ (fun hHeld => ?_)
  generalize w51.drew = w52 at BK394 BK396 HB hx398_0 hHeld ⊢
  refine pure_ (i := 1) (N := some 20) (v := ?_) (a' := ?_) #[O,I,O,O,O,O,O] rfl rfl (by kernel_rfl) (fun _ _ _ h => h) (Or.inl ⟨by rfl, ?_⟩) ?_ ?_
  rotate_left; · intro w'; go_simp; with_reducible rfl
  rotate_left; · simp only [pk, i64_w, i32_w]; rfl
  refine take_ (i := 0) (N := some 19) (v := ?_) (a' := ?_) #[I,I,O,O,O,O,O] rfl rfl (by kernel_rfl) (fun _ _ _ h => h) (Or.inl ⟨by rfl, ?_⟩) hHeld ?_ ?_
  rotate_left; · rintro w' ⟨s0, s1, s2, s3, s4, s5, s6⟩; go_simp; with_reducible rfl
  rotate_left; · simp only [pk, i64_w, i32_w]; rfl
  refine take_ (i := 2) (N := some 21) (v := ?_) (a' := ?_) #[I,I,I,O,O,O,O] rfl rfl (by kernel_rfl) (fun _ _ _ h => h) (Or.inl ⟨by rfl, ?_⟩) hHeld ?_ ?_
  rotate_left; · rintro w' ⟨s0, s1, s2, s3, s4, s5, s6⟩; go_simp; with_reducible rfl
  rotate_left; · simp only [pk, i64_w, i32_w]; rfl
  refine pure_ (i := 3) (N := some 22) (v := ?_) (a' := ?_) #[I,I,I,I,O,O,O] rfl rfl (by kernel_rfl) (fun _ _ _ h => h) (Or.inl ⟨by rfl, ?_⟩) ?_ ?_
  rotate_left; · intro w'; go_simp; with_reducible rfl
  rotate_left; · simp only [pk, i64_w, i32_w]; rfl
  refine take_ (i := 4) (N := some 23) (v := ?_) (a' := ?_) #[I,I,I,I,I,O,O] rfl rfl (by kernel_rfl) (fun _ _ _ h => h) (Or.inl ⟨by rfl, ?_⟩) hHeld ?_ ?_
  rotate_left; · rintro w' ⟨s0, s1, s2, s3, s4, s5, s6⟩; go_simp; with_reducible rfl
  rotate_left; · simp only [pk, i64_w, i32_w]; rfl
  refine one_ (i := 5) (N := some 24) #[I,I,I,I,I,I,O] rfl rfl (by kernel_rfl) (by decide) (fun K hK => ?_)
  refine goes_ Tryz.func57 (by kernel_rfl) rfl #[.agg #[.slice (some ad395) l0_0.length c0_0, .slice A0_1 l0_1.length c0_1], .int .i64 (rd ((rd_T62 l0_0 a1).f3) 0)] (by rfl) rfl rfl gl ?_
  with_reducible refine (impl_showValue.calls k _ _ l0_0 _ _ l0_1 (rd ((rd_T62 l0_0 a1).f3) 0) t399 _ ?side1 ?side2 ?side3 ?side4 (by first | (with_reducible exact HTAB.out) | exact tabW_below HTAB.out (be w)) A10.out).mono ?_
  (case side1 => exact Kd.C_below HR0_0.out (be w))
  (case side2 => exact HC0_0.out)
  (case side3 => exact Kd.C_below HR0_1.out (be w))
  (case side4 => exact HC0_1.out)
  rintro e w53 ⟨rfl, hb⟩
  refine ⟨_, rfl, ?_⟩
  replace BK394 := As.mk (blk_below (bx BK394.out) hb)
  replace BK396 := As.mk (blk_below (bx BK396.out) hb)
  replace HB := As.mk (below_step (be w) hb)
  (try clear hb)
  (try clear hb2)
  (try clear hk)
  (try clear hi)
  refine hK.out _ _ ⟨(blk_cell BK394.out 0).trans rfl, (blk_cell BK394.out 1).trans rfl, (blk_cell BK396.out 0).trans rfl, (blk_cell BK396.out 1).trans rfl, (blk_cell BK396.out 2).trans rfl, (blk_cell BK396.out 3).trans rfl, (ce HB.out hw398_0 :)⟩ (fun hHeld => ?_)
  clear hK K
  refine norm_ (a' := ?_) ?_ ?_
  rotate_left
  ·
   show Act.put _ (some 24) _ = _
   simp only [pk, i64_w, i32_w]
   rfl
  refine pure_ (i := 6) (N := some 9) (v := ?_) (a' := ?_) #[I,I,I,I,I,I,I] rfl rfl (by kernel_rfl) (fun _ _ _ h => h) (Or.inl ⟨by rfl, ?_⟩) ?_ ?_
  rotate_left; · intro w'; go_simp; with_reducible rfl
  rotate_left; · simp only [pk, i64_w, i32_w]; rfl
  refine done_ (by kernel_rfl) ?_
  obtain ⟨hcz54_0, hcz54_1, hcz54_2, hcz54_3, hfz54_0, hfz54_1, hfz54_2, hfz54_3⟩ := cl4 BK396.out
  try go_wp2
  go_ret
  exact ⟨by first | rfl | (simp [errW_none, errW_some] <;> rfl) | (simp only [← hji6, ← hji7]; first | rfl | (simp [errW_none, errW_some] <;> rfl)) | (simp [*, errW_none, errW_some] <;> rfl), be w⟩
 rw [if_neg c40] at H
 have c40b0 : (((rd_T62 l0_0 a1).f0) == 15) = false := beq_eq_false_iff_ne.mpr c40
 have c40b1 : (((rd_T62 l0_0 a1).f0) != 15) = true := bne_iff_ne.mpr c40
 by_cases c55 : ((rd_T62 l0_0 a1).f0) = 16
 ·
  rw [if_pos c55] at H
  have c55b0 : (((rd_T62 l0_0 a1).f0) == 16) = true := beq_iff_eq.mpr c55
  have c55b1 : (((rd_T62 l0_0 a1).f0) != 16) = false := bne_eq_false_iff_eq.mpr c55
  clear c55
  have c56 := i1 H; replace H := i2 H
  have c56b0 := eq_true c56
  have c56b1 := decide_eq_true c56
  try have c56b2 := eq_false (Nat.not_lt.2 c56)
  have c57 := i1 H; replace H := i2 H
  have c57b0 := eq_true c57
  have c57b1 := decide_eq_true c57
  try have c57b2 := eq_false (Nat.not_lt.2 c57)
  try have c57b4 : (9223372036854775807 < t397.size + 3 + t399.size) = False := eq_false (Nat.not_lt.2 (by have h_ := c57; simp only [ByteArray.size_append] at h_; exact h_))
  have c58 := i1 H; replace H := i2 H
  have c58b0 := eq_true c58
  have c58b1 := decide_eq_true c58
  try have c58b2 := eq_false (Nat.not_lt.2 c58)
  try have c58b4 : (9223372036854775807 < t397.size + 3 + t399.size + 3) = False := eq_false (Nat.not_lt.2 (by have h_ := c58; simp only [ByteArray.size_append] at h_; exact h_))
  have c59 := i1 H; replace H := i2 H
  have c59b0 := decide_eq_true c59
  have c59b1 : decide (1 < ((rd_T62 l0_0 a1).f3).length) = true := decide_eq_true (by omega)
  clear c59
  obtain ⟨t401, A600, H⟩ := Option.bind_eq_some_iff.mp H
  try dsimp only at H
  have A60 := As.mk A600
  clear A600
  have c61 := i1 H; replace H := i2 H
  have c61b0 := eq_true c61
  have c61b1 := decide_eq_true c61
  try have c61b2 := eq_false (Nat.not_lt.2 c61)
  try have c61b4 : (9223372036854775807 < t397.size + 3 + t399.size + 3 + t401.size) = False := eq_false (Nat.not_lt.2 (by have h_ := c61; simp only [ByteArray.size_append] at h_; exact h_))
  have c62 := i1 H; replace H := i2 H
  have c62b0 := eq_true c62
  have c62b1 := decide_eq_true c62
  try have c62b2 := eq_false (Nat.not_lt.2 c62)
  try have c62b4 : (9223372036854775807 < t397.size + 3 + t399.size + 3 + t401.size + t397.size) = False := eq_false (Nat.not_lt.2 (by have h_ := c62; simp only [ByteArray.size_append] at h_; exact h_))
  have c63 := i1 H; replace H := i2 H
  have c63b0 := eq_true c63
  have c63b1 := decide_eq_true c63
  try have c63b2 := eq_false (Nat.not_lt.2 c63)
  try have c63b4 : (9223372036854775807 < t397.size + 3 + t399.size + 3 + t401.size + t397.size + 9) = False := eq_false (Nat.not_lt.2 (by have h_ := c63; simp only [ByteArray.size_append] at h_; exact h_))
  have c64 := i1 H; replace H := i2 H
  have c64b0 := decide_eq_true c64
  have c64b1 : decide (2 < ((rd_T62 l0_0 a1).f3).length) = true := decide_eq_true (by omega)
  clear c64
  obtain ⟨t403, A650, H⟩ := Option.bind_eq_some_iff.mp H
  try dsimp only at H
  have A65 := As.mk A650
  clear A650
  have c66 := i1 H; replace H := i2 H
  have c66b0 := eq_true c66
  have c66b1 := decide_eq_true c66
  try have c66b2 := eq_false (Nat.not_lt.2 c66)
  try have c66b4 : (9223372036854775807 < t397.size + 3 + t399.size + 3 + t401.size + t397.size + 9 + t403.size) = False := eq_false (Nat.not_lt.2 (by have h_ := c66; simp only [ByteArray.size_append] at h_; exact h_))
  have c67 := i1 H; replace H := i2 H
  have c67b0 := eq_true c67
  have c67b1 := decide_eq_true c67
  try have c67b2 := eq_false (Nat.not_lt.2 c67)
  try have c67b4 : (9223372036854775807 < t397.size + 3 + t399.size + 3 + t401.size + t397.size + 9 + t403.size + t397.size) = False := eq_false (Nat.not_lt.2 (by have h_ := c67; simp only [ByteArray.size_append] at h_; exact h_))
  have c68 := i1 H; replace H := i2 H
  have c68b0 := eq_true c68
  have c68b1 := decide_eq_true c68
  try have c68b2 := eq_false (Nat.not_lt.2 c68)
  try have c68b4 : (9223372036854775807 < t397.size + 3 + t399.size + 3 + t401.size + t397.size + 9 + t403.size + t397.size + 2) = False := eq_false (Nat.not_lt.2 (by have h_ := c68; simp only [ByteArray.size_append] at h_; exact h_))
  obtain rfl := Option.some.inj H
  go_enter Tryz.func48, Tryz.ntmps48
  try go_wp2_with (first | ((with_reducible refine gate_dst (N := 3) rfl ?_); refine box_event ?hg (N := 3) ?hd (cs := #[.slice A0_0 l0_0.length c0_0, .slice A0_1 l0_1.length c0_1]) (t := 32) ?hr ?_; (case hd => rfl); (case hg => rfl); (case hr => first | (go_simp; done) | (go_simp; rfl)); intro gb394 hg w69 hbox hb; have BK394 := As.mk (hbox); have GW394 := As.mk (gs w hg); replace HB := As.mk (below_step (be w) hb); clear hb hbox hg; obtain ⟨hcz70_0, hcz70_1, hfz70_0, hfz70_1⟩ := cl2 BK394.out; have p395 : 0 ≤ (a1 : Int) := od; have q395 : a1 < (l0_0.length : Int) := od; obtain ⟨ad395, A395_3, c395_3, e395, hx395_0, hx395_1, hx395_2, hx395_3, hl395_3, hi395_3⟩ := at_T62 HR0_0.out a1 p395 q395; cases e395; replace hx395_0 := ce HB.out hx395_0; replace hx395_1 := ce HB.out hx395_1; replace hx395_2 := ce HB.out hx395_2; replace hx395_3 := ce HB.out hx395_3; have HR395_3 := As.mk hi395_3; have HC395_3 := As.mk hl395_3; clear hi395_3 hl395_3; replace p395 := eq_true p395; replace q395 := eq_true q395) | ((with_reducible refine gate_dst (N := 7) rfl ?_); refine box_event ?hg (N := 7) ?hd (cs := #[.int .i64 0, .int .i64 0, .string (⟨#[]⟩ : ByteArray), .slice none 0 0]) (t := 62) ?hr ?_; (case hd => rfl); (case hg => rfl); (case hr => first | (go_simp; done) | (go_simp; rfl)); intro gb396 hg w71 hbox hb; have BK396 := As.mk (hbox); have GW396 := As.mk (gs w hg); replace HB := As.mk (below_step (be w) hb); have NB394_396 := As.mk (nl hg (bx BK394.out)); have NB396_394 := As.mk (ng hg (bx BK394.out)); replace BK394 := As.mk (blk_below (bx BK394.out) hb); clear hb hbox hg; have hnb72 := NB396_394.out; have hnc72 := NB394_396.out; obtain ⟨hcz73_0, hcz73_1, hcz73_2, hcz73_3, hfz73_0, hfz73_1, hfz73_2, hfz73_3⟩ := cl4 BK396.out) | ((with_reducible refine gate_callee (f := 74) rfl ?_); refine goesL_ (some 18) rfl rfl Tryz.func74 (by kernel_rfl) rfl #[.string (⟨#[32, 32]⟩ : ByteArray), .int .i64 ji7] rfl (by (try simp only [lm]); first | done | (simp only [hji7]; rfl) | rfl | (simp only [List.length_drop, List.length_take]; rfl)) ?_; (with_reducible refine (strings_Repeat.calls (⟨#[32, 32]⟩ : ByteArray) ji7 t397 _ A8.out).mono ?_); rintro e w74 ⟨rfl, hb⟩; refine ⟨_, rfl, ?_⟩; replace BK394 := As.mk (blk_below (g := gb394) (o := .cells #[.slice (some ad395) l0_0.length c0_0, .slice A0_1 l0_1.length c0_1] 32 (0, 0)) (by refine pl ?_; refine blk_far ?_ NB394_396.out _; refine pl ?_; refine blk_far ?_ NB394_396.out _; refine pl ?_; refine blk_far ?_ NB394_396.out _; refine pl ?_; refine blk_far ?_ NB394_396.out _; exact bx BK394.out) hb); replace BK396 := As.mk (blk_below (g := gb396) (o := .cells #[.int .i64 ((rd_T62 l0_0 a1).f0), .int .i64 ((rd_T62 l0_0 a1).f1), .string ((rd_T62 l0_0 a1).f2), .slice A395_3 ((rd_T62 l0_0 a1).f3).length c395_3] 62 (0, 0)) (by refine pl ?_; refine blk_put (cs := #[.int .i64 ((rd_T62 l0_0 a1).f0), .int .i64 ((rd_T62 l0_0 a1).f1), .string ((rd_T62 l0_0 a1).f2), .slice none 0 0]) ?_ 3 _ rfl; refine pl ?_; refine blk_put (cs := #[.int .i64 ((rd_T62 l0_0 a1).f0), .int .i64 ((rd_T62 l0_0 a1).f1), .string (⟨#[]⟩ : ByteArray), .slice none 0 0]) ?_ 2 _ rfl; refine pl ?_; refine blk_put (cs := #[.int .i64 ((rd_T62 l0_0 a1).f0), .int .i64 0, .string (⟨#[]⟩ : ByteArray), .slice none 0 0]) ?_ 1 _ rfl; refine pl ?_; refine blk_put (cs := #[.int .i64 0, .int .i64 0, .string (⟨#[]⟩ : ByteArray), .slice none 0 0]) ?_ 0 _ rfl; exact bx BK396.out) hb); replace HB := As.mk (below_step (be w) hb); (try clear hb)))
  replace BK394 := As.mk (blk_drew BK394.out)
  replace BK396 := As.mk (blk_drew BK396.out)
  replace HB := As.mk (below_drew1 HB.out)
  have p398 : 0 ≤ (0 : Int) := (by omega)
  have q398 : 0 < (((rd_T62 l0_0 a1).f3).length : Int) := od
  obtain ⟨ad398, e398, hx398_0⟩ := Kd.at_int HR395_3.out 0 p398 q398
  have hw398_0 := hx398_0
  (try rw [show ((0 : Int)).toNat = 0 from rfl] at hw398_0)
  (try rw [show 0 * 1 = 0 from rfl] at hw398_0)
  (try rw [Addr.add_zero'] at hw398_0)
  cases e398
  have qi398 : (0 < ((rd_T62 l0_0 a1).f3).length) = True := eq_true (by omega)
  (try rw [show ((0 : Int)).toNat = 0 from rfl] at hx398_0)
  (try rw [Addr.add_zero'] at hx398_0)
  replace hx398_0 := ce HB.out hx398_0
  replace p398 := eq_true p398
  replace q398 := eq_true q398
  refine start_ (n := 7) (S := fun w' => w'.cell? ⟨gb394, 0, none⟩ = some (.slice (some ad395) l0_0.length c0_0) ∧ w'.cell? ⟨gb394, 1, none⟩ = some (.slice A0_1 l0_1.length c0_1) ∧ w'.cell? ⟨gb396, 0, none⟩ = some (.int .i64 ((rd_T62 l0_0 a1).f0)) ∧ w'.cell? ⟨gb396, 1, none⟩ = some (.int .i64 ((rd_T62 l0_0 a1).f1)) ∧ w'.cell? ⟨gb396, 2, none⟩ = some (.string ((rd_T62 l0_0 a1).f2)) ∧ w'.cell? ⟨gb396, 3, none⟩ = some (.slice (some ad398) ((rd_T62 l0_0 a1).f3).length c395_3) ∧ w'.cell? ad398 = some (.int .i64 (rd ((rd_T62 l0_0 a1).f3) 0))) (ds := []) #[O,O,O,O,O,O,O] (by kernel_rfl) rfl rfl ⟨(blk_cell BK394.out 0).trans rfl, (blk_cell BK394.out 1).trans rfl, (blk_cell BK396.out 0).trans rfl, (blk_cell BK396.out 1).trans rfl, (blk_cell BK396.out 2).trans rfl, (blk_cell BK396.out 3).trans rfl, (ce HB.out hw398_0 :)⟩ (fun hHeld => ?_)
  generalize w74.drew = w75 at BK394 BK396 HB hx398_0 hHeld ⊢
  refine pure_ (i := 1) (N := some 20) (v := ?_) (a' := ?_) #[O,I,O,O,O,O,O] rfl rfl (by kernel_rfl) (fun _ _ _ h => h) (Or.inl ⟨by rfl, ?_⟩) ?_ ?_
  rotate_left; · intro w'; go_simp; with_reducible rfl
  rotate_left; · simp only [pk, i64_w, i32_w]; rfl
  refine take_ (i := 0) (N := some 19) (v := ?_) (a' := ?_) #[I,I,O,O,O,O,O] rfl rfl (by kernel_rfl) (fun _ _ _ h => h) (Or.inl ⟨by rfl, ?_⟩) hHeld ?_ ?_
  rotate_left; · rintro w' ⟨s0, s1, s2, s3, s4, s5, s6⟩; go_simp; with_reducible rfl
  rotate_left; · simp only [pk, i64_w, i32_w]; rfl
  refine take_ (i := 2) (N := some 21) (v := ?_) (a' := ?_) #[I,I,I,O,O,O,O] rfl rfl (by kernel_rfl) (fun _ _ _ h => h) (Or.inl ⟨by rfl, ?_⟩) hHeld ?_ ?_
  rotate_left; · rintro w' ⟨s0, s1, s2, s3, s4, s5, s6⟩; go_simp; with_reducible rfl
  rotate_left; · simp only [pk, i64_w, i32_w]; rfl
  refine pure_ (i := 3) (N := some 22) (v := ?_) (a' := ?_) #[I,I,I,I,O,O,O] rfl rfl (by kernel_rfl) (fun _ _ _ h => h) (Or.inl ⟨by rfl, ?_⟩) ?_ ?_
  rotate_left; · intro w'; go_simp; with_reducible rfl
  rotate_left; · simp only [pk, i64_w, i32_w]; rfl
  refine take_ (i := 4) (N := some 23) (v := ?_) (a' := ?_) #[I,I,I,I,I,O,O] rfl rfl (by kernel_rfl) (fun _ _ _ h => h) (Or.inl ⟨by rfl, ?_⟩) hHeld ?_ ?_
  rotate_left; · rintro w' ⟨s0, s1, s2, s3, s4, s5, s6⟩; go_simp; with_reducible rfl
  rotate_left; · simp only [pk, i64_w, i32_w]; rfl
  refine one_ (i := 5) (N := some 24) #[I,I,I,I,I,I,O] rfl rfl (by kernel_rfl) (by decide) (fun K hK => ?_)
  refine goes_ Tryz.func57 (by kernel_rfl) rfl #[.agg #[.slice (some ad395) l0_0.length c0_0, .slice A0_1 l0_1.length c0_1], .int .i64 (rd ((rd_T62 l0_0 a1).f3) 0)] (by rfl) rfl rfl gl ?_
  with_reducible refine (impl_showValue.calls k _ _ l0_0 _ _ l0_1 (rd ((rd_T62 l0_0 a1).f3) 0) t399 _ ?side1 ?side2 ?side3 ?side4 (by first | (with_reducible exact HTAB.out) | exact tabW_below HTAB.out (be w)) A10.out).mono ?_
  (case side1 => exact Kd.C_below HR0_0.out (be w))
  (case side2 => exact HC0_0.out)
  (case side3 => exact Kd.C_below HR0_1.out (be w))
  (case side4 => exact HC0_1.out)
  rintro e w76 ⟨rfl, hb⟩
  refine ⟨_, rfl, ?_⟩
  replace BK394 := As.mk (blk_below (bx BK394.out) hb)
  replace BK396 := As.mk (blk_below (bx BK396.out) hb)
  replace HB := As.mk (below_step (be w) hb)
  (try clear hb)
  (try clear hb2)
  (try clear hk)
  (try clear hi)
  refine hK.out _ _ ⟨(blk_cell BK394.out 0).trans rfl, (blk_cell BK394.out 1).trans rfl, (blk_cell BK396.out 0).trans rfl, (blk_cell BK396.out 1).trans rfl, (blk_cell BK396.out 2).trans rfl, (blk_cell BK396.out 3).trans rfl, (ce HB.out hw398_0 :)⟩ (fun hHeld => ?_)
  clear hK K
  refine norm_ (a' := ?_) ?_ ?_
  rotate_left
  ·
   show Act.put _ (some 24) _ = _
   simp only [pk, i64_w, i32_w]
   rfl
  refine pure_ (i := 6) (N := some 9) (v := ?_) (a' := ?_) #[I,I,I,I,I,I,I] rfl rfl (by kernel_rfl) (fun _ _ _ h => h) (Or.inl ⟨by rfl, ?_⟩) ?_ ?_
  rotate_left; · intro w'; go_simp; with_reducible rfl
  rotate_left; · simp only [pk, i64_w, i32_w]; rfl
  refine done_ (by kernel_rfl) ?_
  obtain ⟨hcz77_0, hcz77_1, hcz77_2, hcz77_3, hfz77_0, hfz77_1, hfz77_2, hfz77_3⟩ := cl4 BK396.out
  try go_wp2
  replace BK394 := As.mk (blk_drew BK394.out)
  replace BK396 := As.mk (blk_drew BK396.out)
  replace HB := As.mk (below_drew1 HB.out)
  have p400 : 0 ≤ (1 : Int) := (by omega)
  have q400 : 1 < (((rd_T62 l0_0 a1).f3).length : Int) := od
  obtain ⟨ad400, e400, hx400_0⟩ := Kd.at_int HR395_3.out 1 p400 q400
  have hw400_0 := hx400_0
  (try rw [show ((1 : Int)).toNat = 1 from rfl] at hw400_0)
  (try rw [show 1 * 1 = 1 from rfl] at hw400_0)
  (try simp only [Nat.reduceMul, Nat.reduceEqDiff, Go.Addr.add, ↓reduceIte] at hw400_0)
  obtain rfl : ad398 = ad400 := (by injection e400)
  (try simp only [show (1 : Int).toNat = 1 from rfl, Nat.reduceMul, Nat.reduceEqDiff, Go.Addr.add, ↓reduceIte] at hx400_0)
  have qi400 : (1 < ((rd_T62 l0_0 a1).f3).length) = True := eq_true (by omega)
  (try rw [show ((1 : Int)).toNat = 1 from rfl] at hx400_0)
  replace hx400_0 := ce HB.out hx400_0
  replace p400 := eq_true p400
  replace q400 := eq_true q400
  have p402 : 0 ≤ (2 : Int) := (by omega)
  have q402 : 2 < (((rd_T62 l0_0 a1).f3).length : Int) := od
  obtain ⟨ad402, e402, hx402_0⟩ := Kd.at_int HR395_3.out 2 p402 q402
  have hw402_0 := hx402_0
  (try rw [show ((2 : Int)).toNat = 2 from rfl] at hw402_0)
  (try rw [show 2 * 1 = 2 from rfl] at hw402_0)
  (try simp only [Nat.reduceMul, Nat.reduceEqDiff, Go.Addr.add, ↓reduceIte] at hw402_0)
  obtain rfl : ad398 = ad402 := (by injection e402)
  (try simp only [show (2 : Int).toNat = 2 from rfl, Nat.reduceMul, Nat.reduceEqDiff, Go.Addr.add, ↓reduceIte] at hx402_0)
  have qi402 : (2 < ((rd_T62 l0_0 a1).f3).length) = True := eq_true (by omega)
  (try rw [show ((2 : Int)).toNat = 2 from rfl] at hx402_0)
  replace hx402_0 := ce HB.out hx402_0
  replace p402 := eq_true p402
  replace q402 := eq_true q402
  refine start_ (n := 30) (S := fun w' => w'.cell? ⟨gb394, 0, none⟩ = some (.slice (some ad395) l0_0.length c0_0) ∧ w'.cell? ⟨gb394, 1, none⟩ = some (.slice A0_1 l0_1.length c0_1) ∧ w'.cell? ⟨gb396, 0, none⟩ = some (.int .i64 ((rd_T62 l0_0 a1).f0)) ∧ w'.cell? ⟨gb396, 1, none⟩ = some (.int .i64 ((rd_T62 l0_0 a1).f1)) ∧ w'.cell? ⟨gb396, 2, none⟩ = some (.string ((rd_T62 l0_0 a1).f2)) ∧ w'.cell? ⟨gb396, 3, none⟩ = some (.slice (some ad398) ((rd_T62 l0_0 a1).f3).length c395_3) ∧ w'.cell? ⟨ad398.block, ad398.off + 1, none⟩ = some (.int .i64 (rd ((rd_T62 l0_0 a1).f3) 1)) ∧ w'.cell? ⟨ad398.block, ad398.off + 2, none⟩ = some (.int .i64 (rd ((rd_T62 l0_0 a1).f3) 2))) (ds := []) #[O,O,O,O,O,O,O,O,O,O,O,O,O,O,O,O,O,O,O,O,O,O,O,O,O,O,O,O,O,O] (by kernel_rfl) rfl rfl ⟨(blk_cell BK394.out 0).trans rfl, (blk_cell BK394.out 1).trans rfl, (blk_cell BK396.out 0).trans rfl, (blk_cell BK396.out 1).trans rfl, (blk_cell BK396.out 2).trans rfl, (blk_cell BK396.out 3).trans rfl, (ce HB.out hw400_0 :), (ce HB.out hw402_0 :)⟩ (fun hHeld => ?_); refine with_tabW impl_showStep.tab12 impl_showStep.bits12 (fun HT_ HW_ => ?_)
  generalize w76.drew = w78 at BK394 BK396 HB hx400_0 hx402_0 hHeld ⊢
  refine pq 0 61 #[I,O,O,O,O,O,O,O,O,O,O,O,O,O,O,O,O,O,O,O,O,O,O,O,O,O,O,O,O,O] HT_.out rfl rfl ?_ (fun _ _ _ h => h) ?_ ?_ ?_ ?_
  rotate_left; · intro w'; go_simp; with_reducible rfl
  rotate_left; · simp only [pk, i64_w, i32_w]; rfl
  refine pq 1 62 #[I,I,O,O,O,O,O,O,O,O,O,O,O,O,O,O,O,O,O,O,O,O,O,O,O,O,O,O,O,O] HT_.out rfl rfl ?_ (fun _ _ _ h => h) ?_ ?_ ?_ ?_
  rotate_left; · intro w'; go_simp; with_reducible rfl
  rotate_left; · simp only [pk, i64_w, i32_w]; rfl
  refine pq 2 63 #[I,I,I,O,O,O,O,O,O,O,O,O,O,O,O,O,O,O,O,O,O,O,O,O,O,O,O,O,O,O] HT_.out rfl rfl ?_ (fun _ _ _ h => h) ?_ ?_ ?_ ?_
  rotate_left; · intro w'; go_simp; with_reducible rfl
  rotate_left; · simp only [pk, i64_w, i32_w]; rfl
  refine pq 3 64 #[I,I,I,I,O,O,O,O,O,O,O,O,O,O,O,O,O,O,O,O,O,O,O,O,O,O,O,O,O,O] HT_.out rfl rfl ?_ (fun _ _ _ h => h) ?_ ?_ ?_ ?_
  rotate_left; · intro w'; go_simp; with_reducible rfl
  rotate_left; · simp only [pk, i64_w, i32_w]; rfl
  refine pq 4 65 #[I,I,I,I,I,O,O,O,O,O,O,O,O,O,O,O,O,O,O,O,O,O,O,O,O,O,O,O,O,O] HT_.out rfl rfl ?_ (fun _ _ _ h => h) ?_ ?_ ?_ ?_
  rotate_left; · intro w'; go_simp; with_reducible rfl
  rotate_left; · simp only [pk, i64_w, i32_w]; rfl
  refine pq 6 67 #[I,I,I,I,I,O,I,O,O,O,O,O,O,O,O,O,O,O,O,O,O,O,O,O,O,O,O,O,O,O] HT_.out rfl rfl ?_ (fun _ _ _ h => h) ?_ ?_ ?_ ?_
  rotate_left; · intro w'; go_simp; with_reducible rfl
  rotate_left; · simp only [pk, i64_w, i32_w]; rfl
  refine pq 10 71 #[I,I,I,I,I,O,I,O,O,O,I,O,O,O,O,O,O,O,O,O,O,O,O,O,O,O,O,O,O,O] HT_.out rfl rfl ?_ (fun _ _ _ h => h) ?_ ?_ ?_ ?_
  rotate_left; · intro w'; go_simp; with_reducible rfl
  rotate_left; · simp only [pk, i64_w, i32_w]; rfl
  refine pq 11 72 #[I,I,I,I,I,O,I,O,O,O,I,I,O,O,O,O,O,O,O,O,O,O,O,O,O,O,O,O,O,O] HT_.out rfl rfl ?_ (fun _ _ _ h => h) ?_ ?_ ?_ ?_
  rotate_left; · intro w'; go_simp; with_reducible rfl
  rotate_left; · simp only [pk, i64_w, i32_w]; rfl
  refine pq 14 75 #[I,I,I,I,I,O,I,O,O,O,I,I,O,O,I,O,O,O,O,O,O,O,O,O,O,O,O,O,O,O] HT_.out rfl rfl ?_ (fun _ _ _ h => h) ?_ ?_ ?_ ?_
  rotate_left; · intro w'; go_simp; with_reducible rfl
  rotate_left; · simp only [pk, i64_w, i32_w]; rfl
  refine pq 18 79 #[I,I,I,I,I,O,I,O,O,O,I,I,O,O,I,O,O,O,I,O,O,O,O,O,O,O,O,O,O,O] HT_.out rfl rfl ?_ (fun _ _ _ h => h) ?_ ?_ ?_ ?_
  rotate_left; · intro w'; go_simp; with_reducible rfl
  rotate_left; · simp only [pk, i64_w, i32_w]; rfl
  refine pq 22 83 #[I,I,I,I,I,O,I,O,O,O,I,I,O,O,I,O,O,O,I,O,O,O,I,O,O,O,O,O,O,O] HT_.out rfl rfl ?_ (fun _ _ _ h => h) ?_ ?_ ?_ ?_
  rotate_left; · intro w'; go_simp; with_reducible rfl
  rotate_left; · simp only [pk, i64_w, i32_w]; rfl
  refine pq 23 84 #[I,I,I,I,I,O,I,O,O,O,I,I,O,O,I,O,O,O,I,O,O,O,I,I,O,O,O,O,O,O] HT_.out rfl rfl ?_ (fun _ _ _ h => h) ?_ ?_ ?_ ?_
  rotate_left; · intro w'; go_simp; with_reducible rfl
  rotate_left; · simp only [pk, i64_w, i32_w]; rfl
  refine pq 26 87 #[I,I,I,I,I,O,I,O,O,O,I,I,O,O,I,O,O,O,I,O,O,O,I,I,O,O,I,O,O,O] HT_.out rfl rfl ?_ (fun _ _ _ h => h) ?_ ?_ ?_ ?_
  rotate_left; · intro w'; go_simp; with_reducible rfl
  rotate_left; · simp only [pk, i64_w, i32_w]; rfl
  refine tq 5 66 #[I,I,I,I,I,I,I,O,O,O,I,I,O,O,I,O,O,O,I,O,O,O,I,I,O,O,I,O,O,O] HT_.out HW_.out rfl rfl ?_ (fun _ _ _ h => h) ?_ hHeld ?_ ?_ ?_
  rotate_left; · rintro w' ⟨s0, s1, s2, s3, s4, s5, s6, s7⟩; go_simp; with_reducible rfl
  rotate_left; · simp only [pk, i64_w, i32_w]; rfl
  refine tq 7 68 #[I,I,I,I,I,I,I,I,O,O,I,I,O,O,I,O,O,O,I,O,O,O,I,I,O,O,I,O,O,O] HT_.out HW_.out rfl rfl ?_ (fun _ _ _ h => h) ?_ hHeld ?_ ?_ ?_
  rotate_left; · rintro w' ⟨s0, s1, s2, s3, s4, s5, s6, s7⟩; go_simp; with_reducible rfl
  rotate_left; · simp only [pk, i64_w, i32_w]; rfl
  refine pq 8 69 #[I,I,I,I,I,I,I,I,I,O,I,I,O,O,I,O,O,O,I,O,O,O,I,I,O,O,I,O,O,O] HT_.out rfl rfl ?_ (fun _ _ _ h => h) ?_ ?_ ?_ ?_
  rotate_left; · intro w'; go_simp; with_reducible rfl
  rotate_left; · simp only [pk, i64_w, i32_w]; rfl
  refine tq 9 70 #[I,I,I,I,I,I,I,I,I,I,I,I,O,O,I,O,O,O,I,O,O,O,I,I,O,O,I,O,O,O] HT_.out HW_.out rfl rfl ?_ (fun _ _ _ h => h) ?_ hHeld ?_ ?_ ?_
  rotate_left; · rintro w' ⟨s0, s1, s2, s3, s4, s5, s6, s7⟩; go_simp; with_reducible rfl
  rotate_left; · simp only [pk, i64_w, i32_w]; rfl
  refine tq 17 78 #[I,I,I,I,I,I,I,I,I,I,I,I,O,O,I,O,O,I,I,O,O,O,I,I,O,O,I,O,O,O] HT_.out HW_.out rfl rfl ?_ (fun _ _ _ h => h) ?_ hHeld ?_ ?_ ?_
  rotate_left; · rintro w' ⟨s0, s1, s2, s3, s4, s5, s6, s7⟩; go_simp; with_reducible rfl
  rotate_left; · simp only [pk, i64_w, i32_w]; rfl
  refine tq 19 80 #[I,I,I,I,I,I,I,I,I,I,I,I,O,O,I,O,O,I,I,I,O,O,I,I,O,O,I,O,O,O] HT_.out HW_.out rfl rfl ?_ (fun _ _ _ h => h) ?_ hHeld ?_ ?_ ?_
  rotate_left; · rintro w' ⟨s0, s1, s2, s3, s4, s5, s6, s7⟩; go_simp; with_reducible rfl
  rotate_left; · simp only [pk, i64_w, i32_w]; rfl
  refine pq 20 81 #[I,I,I,I,I,I,I,I,I,I,I,I,O,O,I,O,O,I,I,I,I,O,I,I,O,O,I,O,O,O] HT_.out rfl rfl ?_ (fun _ _ _ h => h) ?_ ?_ ?_ ?_
  rotate_left; · intro w'; go_simp; with_reducible rfl
  rotate_left; · simp only [pk, i64_w, i32_w]; rfl
  refine tq 21 82 #[I,I,I,I,I,I,I,I,I,I,I,I,O,O,I,O,O,I,I,I,I,I,I,I,O,O,I,O,O,O] HT_.out HW_.out rfl rfl ?_ (fun _ _ _ h => h) ?_ hHeld ?_ ?_ ?_
  rotate_left; · rintro w' ⟨s0, s1, s2, s3, s4, s5, s6, s7⟩; go_simp; with_reducible rfl
  rotate_left; · simp only [pk, i64_w, i32_w]; rfl
  refine one_ (i := 12) (N := some 73) #[I,I,I,I,I,I,I,I,I,I,I,I,I,O,I,O,O,I,I,I,I,I,I,I,O,O,I,O,O,O] rfl rfl (one_of HT_.out (by kernel_rfl)) (by decide) (fun K hK => ?_)
  refine goes_ Tryz.func75 (by kernel_rfl) rfl #[.agg #[.slice (some ad395) l0_0.length c0_0, .slice A0_1 l0_1.length c0_1], .int .i64 (rd ((rd_T62 l0_0 a1).f3) 1), .int .i64 (wrap64 (a2 + 1))] (by rfl) rfl rfl gl ?_
  with_reducible refine (ih_impl_showSteps k (by omega) _ _ l0_0 _ _ l0_1 (rd ((rd_T62 l0_0 a1).f3) 1) (wrap64 (a2 + 1)) t401 _ ?side1 ?side2 ?side3 ?side4 (by first | (with_reducible exact HTAB.out) | exact tabW_below HTAB.out (be w)) A60.out).mono ?_
  (case side1 => exact Kd.C_below HR0_0.out (be w))
  (case side2 => exact HC0_0.out)
  (case side3 => exact Kd.C_below HR0_1.out (be w))
  (case side4 => exact HC0_1.out)
  rintro e w79 ⟨rfl, hb⟩
  refine ⟨_, rfl, ?_⟩
  replace BK394 := As.mk (blk_below (bx BK394.out) hb)
  replace BK396 := As.mk (blk_below (bx BK396.out) hb)
  replace HB := As.mk (below_step (be w) hb)
  (try clear hb)
  (try clear hb2)
  (try clear hk)
  (try clear hi)
  refine hK.out _ _ ⟨(blk_cell BK394.out 0).trans rfl, (blk_cell BK394.out 1).trans rfl, (blk_cell BK396.out 0).trans rfl, (blk_cell BK396.out 1).trans rfl, (blk_cell BK396.out 2).trans rfl, (blk_cell BK396.out 3).trans rfl, (ce HB.out hw400_0 :), (ce HB.out hw402_0 :)⟩ (fun hHeld => ?_)
  clear hK K
  refine norm_ (a' := ?_) ?_ ?_
  rotate_left
  ·
   show Act.put _ (some 73) _ = _
   simp only [pk, i64_w, i32_w]
   rfl
  refine pq 13 74 #[I,I,I,I,I,I,I,I,I,I,I,I,I,I,I,O,O,I,I,I,I,I,I,I,O,O,I,O,O,O] HT_.out rfl rfl ?_ (fun _ _ _ h => h) ?_ ?_ ?_ ?_
  rotate_left; · intro w'; go_simp; with_reducible rfl
  rotate_left; · simp only [pk, i64_w, i32_w]; rfl
  refine pq 15 76 #[I,I,I,I,I,I,I,I,I,I,I,I,I,I,I,I,O,I,I,I,I,I,I,I,O,O,I,O,O,O] HT_.out rfl rfl ?_ (fun _ _ _ h => h) ?_ ?_ ?_ ?_
  rotate_left; · intro w'; go_simp; with_reducible rfl
  rotate_left; · simp only [pk, i64_w, i32_w]; rfl
  refine pq 16 77 #[I,I,I,I,I,I,I,I,I,I,I,I,I,I,I,I,I,I,I,I,I,I,I,I,O,O,I,O,O,O] HT_.out rfl rfl ?_ (fun _ _ _ h => h) ?_ ?_ ?_ ?_
  rotate_left; · intro w'; go_simp; with_reducible rfl
  rotate_left; · simp only [pk, i64_w, i32_w]; rfl
  refine one_ (i := 24) (N := some 85) #[I,I,I,I,I,I,I,I,I,I,I,I,I,I,I,I,I,I,I,I,I,I,I,I,I,O,I,O,O,O] rfl rfl (one_of HT_.out (by kernel_rfl)) (by decide) (fun K hK => ?_)
  refine goes_ Tryz.func75 (by kernel_rfl) rfl #[.agg #[.slice (some ad395) l0_0.length c0_0, .slice A0_1 l0_1.length c0_1], .int .i64 (rd ((rd_T62 l0_0 a1).f3) 2), .int .i64 (wrap64 (a2 + 1))] (by rfl) rfl rfl gl ?_
  with_reducible refine (ih_impl_showSteps k (by omega) _ _ l0_0 _ _ l0_1 (rd ((rd_T62 l0_0 a1).f3) 2) (wrap64 (a2 + 1)) t403 _ ?side1 ?side2 ?side3 ?side4 (by first | (with_reducible exact HTAB.out) | exact tabW_below HTAB.out (be w)) A65.out).mono ?_
  (case side1 => exact Kd.C_below HR0_0.out (be w))
  (case side2 => exact HC0_0.out)
  (case side3 => exact Kd.C_below HR0_1.out (be w))
  (case side4 => exact HC0_1.out)
  rintro e w80 ⟨rfl, hb⟩
  refine ⟨_, rfl, ?_⟩
  replace BK394 := As.mk (blk_below (bx BK394.out) hb)
  replace BK396 := As.mk (blk_below (bx BK396.out) hb)
  replace HB := As.mk (below_step (be w) hb)
  (try clear hb)
  (try clear hb2)
  (try clear hk)
  (try clear hi)
  refine hK.out _ _ ⟨(blk_cell BK394.out 0).trans rfl, (blk_cell BK394.out 1).trans rfl, (blk_cell BK396.out 0).trans rfl, (blk_cell BK396.out 1).trans rfl, (blk_cell BK396.out 2).trans rfl, (blk_cell BK396.out 3).trans rfl, (ce HB.out hw400_0 :), (ce HB.out hw402_0 :)⟩ (fun hHeld => ?_)
  clear hK K
  refine norm_ (a' := ?_) ?_ ?_
  rotate_left
  ·
   show Act.put _ (some 85) _ = _
   simp only [pk, i64_w, i32_w]
   rfl
  refine pq 25 86 #[I,I,I,I,I,I,I,I,I,I,I,I,I,I,I,I,I,I,I,I,I,I,I,I,I,I,I,O,O,O] HT_.out rfl rfl ?_ (fun _ _ _ h => h) ?_ ?_ ?_ ?_
  rotate_left; · intro w'; go_simp; with_reducible rfl
  rotate_left; · simp only [pk, i64_w, i32_w]; rfl
  refine pq 27 88 #[I,I,I,I,I,I,I,I,I,I,I,I,I,I,I,I,I,I,I,I,I,I,I,I,I,I,I,I,O,O] HT_.out rfl rfl ?_ (fun _ _ _ h => h) ?_ ?_ ?_ ?_
  rotate_left; · intro w'; go_simp; with_reducible rfl
  rotate_left; · simp only [pk, i64_w, i32_w]; rfl
  refine pq 28 89 #[I,I,I,I,I,I,I,I,I,I,I,I,I,I,I,I,I,I,I,I,I,I,I,I,I,I,I,I,I,O] HT_.out rfl rfl ?_ (fun _ _ _ h => h) ?_ ?_ ?_ ?_
  rotate_left; · intro w'; go_simp; with_reducible rfl
  rotate_left; · simp only [pk, i64_w, i32_w]; rfl
  refine pq 29 6 #[I,I,I,I,I,I,I,I,I,I,I,I,I,I,I,I,I,I,I,I,I,I,I,I,I,I,I,I,I,I] HT_.out rfl rfl ?_ (fun _ _ _ h => h) ?_ ?_ ?_ ?_
  rotate_left; · intro w'; go_simp; with_reducible rfl
  rotate_left; · simp only [pk, i64_w, i32_w]; rfl
  refine done_ (done_of HT_.out (by kernel_rfl)) ?_
  try go_wp2
  go_ret
  exact ⟨by first | rfl | (simp [errW_none, errW_some] <;> rfl) | (simp only [← hji6, ← hji7]; first | rfl | (simp [errW_none, errW_some] <;> rfl)) | (simp [*, errW_none, errW_some] <;> rfl), be w⟩
 rw [if_neg c55] at H
 have c55b0 : (((rd_T62 l0_0 a1).f0) == 16) = false := beq_eq_false_iff_ne.mpr c55
 have c55b1 : (((rd_T62 l0_0 a1).f0) != 16) = true := bne_iff_ne.mpr c55
 by_cases c81 : ((rd_T62 l0_0 a1).f0) = 17
 rotate_left
 ·
  rw [if_neg c81] at H
  have c81b0 : (((rd_T62 l0_0 a1).f0) == 17) = false := beq_eq_false_iff_ne.mpr c81
  have c81b1 : (((rd_T62 l0_0 a1).f0) != 17) = true := bne_iff_ne.mpr c81
  by_cases c101 : ((rd_T62 l0_0 a1).f0) = 18
  rotate_left
  ·
   rw [if_neg c101] at H
   have c101b0 : (((rd_T62 l0_0 a1).f0) == 18) = false := beq_eq_false_iff_ne.mpr c101
   have c101b1 : (((rd_T62 l0_0 a1).f0) != 18) = true := bne_iff_ne.mpr c101
   have c114 := i1 H; replace H := i2 H
   have c114b0 := eq_true c114
   have c114b1 := decide_eq_true c114
   try have c114b2 := eq_false (Nat.not_lt.2 c114)
   have c115 := i1 H; replace H := i2 H
   have c115b0 := eq_true c115
   have c115b1 := decide_eq_true c115
   try have c115b2 := eq_false (Nat.not_lt.2 c115)
   try have c115b4 : (9223372036854775807 < t397.size + 3 + t399.size) = False := eq_false (Nat.not_lt.2 (by have h_ := c115; simp only [ByteArray.size_append] at h_; exact h_))
   have c116 := i1 H; replace H := i2 H
   have c116b0 := eq_true c116
   have c116b1 := decide_eq_true c116
   try have c116b2 := eq_false (Nat.not_lt.2 c116)
   try have c116b4 : (9223372036854775807 < t397.size + 3 + t399.size + 2) = False := eq_false (Nat.not_lt.2 (by have h_ := c116; simp only [ByteArray.size_append] at h_; exact h_))
   obtain rfl := Option.some.inj H
   go_enter Tryz.func48, Tryz.ntmps48
   try go_wp2_with (first | ((with_reducible refine gate_dst (N := 3) rfl ?_); refine box_event ?hg (N := 3) ?hd (cs := #[.slice A0_0 l0_0.length c0_0, .slice A0_1 l0_1.length c0_1]) (t := 32) ?hr ?_; (case hd => rfl); (case hg => rfl); (case hr => first | (go_simp; done) | (go_simp; rfl)); intro gb394 hg w117 hbox hb; have BK394 := As.mk (hbox); have GW394 := As.mk (gs w hg); replace HB := As.mk (below_step (be w) hb); clear hb hbox hg; obtain ⟨hcz118_0, hcz118_1, hfz118_0, hfz118_1⟩ := cl2 BK394.out; have p395 : 0 ≤ (a1 : Int) := od; have q395 : a1 < (l0_0.length : Int) := od; obtain ⟨ad395, A395_3, c395_3, e395, hx395_0, hx395_1, hx395_2, hx395_3, hl395_3, hi395_3⟩ := at_T62 HR0_0.out a1 p395 q395; cases e395; replace hx395_0 := ce HB.out hx395_0; replace hx395_1 := ce HB.out hx395_1; replace hx395_2 := ce HB.out hx395_2; replace hx395_3 := ce HB.out hx395_3; have HR395_3 := As.mk hi395_3; have HC395_3 := As.mk hl395_3; clear hi395_3 hl395_3; replace p395 := eq_true p395; replace q395 := eq_true q395) | ((with_reducible refine gate_dst (N := 7) rfl ?_); refine box_event ?hg (N := 7) ?hd (cs := #[.int .i64 0, .int .i64 0, .string (⟨#[]⟩ : ByteArray), .slice none 0 0]) (t := 62) ?hr ?_; (case hd => rfl); (case hg => rfl); (case hr => first | (go_simp; done) | (go_simp; rfl)); intro gb396 hg w119 hbox hb; have BK396 := As.mk (hbox); have GW396 := As.mk (gs w hg); replace HB := As.mk (below_step (be w) hb); have NB394_396 := As.mk (nl hg (bx BK394.out)); have NB396_394 := As.mk (ng hg (bx BK394.out)); replace BK394 := As.mk (blk_below (bx BK394.out) hb); clear hb hbox hg; have hnb120 := NB396_394.out; have hnc120 := NB394_396.out; obtain ⟨hcz121_0, hcz121_1, hcz121_2, hcz121_3, hfz121_0, hfz121_1, hfz121_2, hfz121_3⟩ := cl4 BK396.out) | ((with_reducible refine gate_callee (f := 74) rfl ?_); refine goesL_ (some 18) rfl rfl Tryz.func74 (by kernel_rfl) rfl #[.string (⟨#[32, 32]⟩ : ByteArray), .int .i64 ji7] rfl (by (try simp only [lm]); first | done | (simp only [hji7]; rfl) | rfl | (simp only [List.length_drop, List.length_take]; rfl)) ?_; (with_reducible refine (strings_Repeat.calls (⟨#[32, 32]⟩ : ByteArray) ji7 t397 _ A8.out).mono ?_); rintro e w122 ⟨rfl, hb⟩; refine ⟨_, rfl, ?_⟩; replace BK394 := As.mk (blk_below (g := gb394) (o := .cells #[.slice (some ad395) l0_0.length c0_0, .slice A0_1 l0_1.length c0_1] 32 (0, 0)) (by refine pl ?_; refine blk_far ?_ NB394_396.out _; refine pl ?_; refine blk_far ?_ NB394_396.out _; refine pl ?_; refine blk_far ?_ NB394_396.out _; refine pl ?_; refine blk_far ?_ NB394_396.out _; exact bx BK394.out) hb); replace BK396 := As.mk (blk_below (g := gb396) (o := .cells #[.int .i64 ((rd_T62 l0_0 a1).f0), .int .i64 ((rd_T62 l0_0 a1).f1), .string ((rd_T62 l0_0 a1).f2), .slice A395_3 ((rd_T62 l0_0 a1).f3).length c395_3] 62 (0, 0)) (by refine pl ?_; refine blk_put (cs := #[.int .i64 ((rd_T62 l0_0 a1).f0), .int .i64 ((rd_T62 l0_0 a1).f1), .string ((rd_T62 l0_0 a1).f2), .slice none 0 0]) ?_ 3 _ rfl; refine pl ?_; refine blk_put (cs := #[.int .i64 ((rd_T62 l0_0 a1).f0), .int .i64 ((rd_T62 l0_0 a1).f1), .string (⟨#[]⟩ : ByteArray), .slice none 0 0]) ?_ 2 _ rfl; refine pl ?_; refine blk_put (cs := #[.int .i64 ((rd_T62 l0_0 a1).f0), .int .i64 0, .string (⟨#[]⟩ : ByteArray), .slice none 0 0]) ?_ 1 _ rfl; refine pl ?_; refine blk_put (cs := #[.int .i64 0, .int .i64 0, .string (⟨#[]⟩ : ByteArray), .slice none 0 0]) ?_ 0 _ rfl; exact bx BK396.out) hb); replace HB := As.mk (below_step (be w) hb); (try clear hb)))
   replace BK394 := As.mk (blk_drew BK394.out)
   replace BK396 := As.mk (blk_drew BK396.out)
   replace HB := As.mk (below_drew1 HB.out)
   have p398 : 0 ≤ (0 : Int) := (by omega)
   have q398 : 0 < (((rd_T62 l0_0 a1).f3).length : Int) := od
   obtain ⟨ad398, e398, hx398_0⟩ := Kd.at_int HR395_3.out 0 p398 q398
   have hw398_0 := hx398_0
   (try rw [show ((0 : Int)).toNat = 0 from rfl] at hw398_0)
   (try rw [show 0 * 1 = 0 from rfl] at hw398_0)
   (try rw [Addr.add_zero'] at hw398_0)
   cases e398
   have qi398 : (0 < ((rd_T62 l0_0 a1).f3).length) = True := eq_true (by omega)
   (try rw [show ((0 : Int)).toNat = 0 from rfl] at hx398_0)
   (try rw [Addr.add_zero'] at hx398_0)
   replace hx398_0 := ce HB.out hx398_0
   replace p398 := eq_true p398
   replace q398 := eq_true q398
   refine start_ (n := 7) (S := fun w' => w'.cell? ⟨gb394, 0, none⟩ = some (.slice (some ad395) l0_0.length c0_0) ∧ w'.cell? ⟨gb394, 1, none⟩ = some (.slice A0_1 l0_1.length c0_1) ∧ w'.cell? ⟨gb396, 0, none⟩ = some (.int .i64 ((rd_T62 l0_0 a1).f0)) ∧ w'.cell? ⟨gb396, 1, none⟩ = some (.int .i64 ((rd_T62 l0_0 a1).f1)) ∧ w'.cell? ⟨gb396, 2, none⟩ = some (.string ((rd_T62 l0_0 a1).f2)) ∧ w'.cell? ⟨gb396, 3, none⟩ = some (.slice (some ad398) ((rd_T62 l0_0 a1).f3).length c395_3) ∧ w'.cell? ad398 = some (.int .i64 (rd ((rd_T62 l0_0 a1).f3) 0))) (ds := []) #[O,O,O,O,O,O,O] (by kernel_rfl) rfl rfl ⟨(blk_cell BK394.out 0).trans rfl, (blk_cell BK394.out 1).trans rfl, (blk_cell BK396.out 0).trans rfl, (blk_cell BK396.out 1).trans rfl, (blk_cell BK396.out 2).trans rfl, (blk_cell BK396.out 3).trans rfl, (ce HB.out hw398_0 :)⟩ (fun hHeld => ?_)
   generalize w122.drew = w123 at BK394 BK396 HB hx398_0 hHeld ⊢
   refine pure_ (i := 1) (N := some 20) (v := ?_) (a' := ?_) #[O,I,O,O,O,O,O] rfl rfl (by kernel_rfl) (fun _ _ _ h => h) (Or.inl ⟨by rfl, ?_⟩) ?_ ?_
   rotate_left; · intro w'; go_simp; with_reducible rfl
   rotate_left; · simp only [pk, i64_w, i32_w]; rfl
   refine take_ (i := 0) (N := some 19) (v := ?_) (a' := ?_) #[I,I,O,O,O,O,O] rfl rfl (by kernel_rfl) (fun _ _ _ h => h) (Or.inl ⟨by rfl, ?_⟩) hHeld ?_ ?_
   rotate_left; · rintro w' ⟨s0, s1, s2, s3, s4, s5, s6⟩; go_simp; with_reducible rfl
   rotate_left; · simp only [pk, i64_w, i32_w]; rfl
   refine take_ (i := 2) (N := some 21) (v := ?_) (a' := ?_) #[I,I,I,O,O,O,O] rfl rfl (by kernel_rfl) (fun _ _ _ h => h) (Or.inl ⟨by rfl, ?_⟩) hHeld ?_ ?_
   rotate_left; · rintro w' ⟨s0, s1, s2, s3, s4, s5, s6⟩; go_simp; with_reducible rfl
   rotate_left; · simp only [pk, i64_w, i32_w]; rfl
   refine pure_ (i := 3) (N := some 22) (v := ?_) (a' := ?_) #[I,I,I,I,O,O,O] rfl rfl (by kernel_rfl) (fun _ _ _ h => h) (Or.inl ⟨by rfl, ?_⟩) ?_ ?_
   rotate_left; · intro w'; go_simp; with_reducible rfl
   rotate_left; · simp only [pk, i64_w, i32_w]; rfl
   refine take_ (i := 4) (N := some 23) (v := ?_) (a' := ?_) #[I,I,I,I,I,O,O] rfl rfl (by kernel_rfl) (fun _ _ _ h => h) (Or.inl ⟨by rfl, ?_⟩) hHeld ?_ ?_
   rotate_left; · rintro w' ⟨s0, s1, s2, s3, s4, s5, s6⟩; go_simp; with_reducible rfl
   rotate_left; · simp only [pk, i64_w, i32_w]; rfl
   refine one_ (i := 5) (N := some 24) #[I,I,I,I,I,I,O] rfl rfl (by kernel_rfl) (by decide) (fun K hK => ?_)
   refine goes_ Tryz.func57 (by kernel_rfl) rfl #[.agg #[.slice (some ad395) l0_0.length c0_0, .slice A0_1 l0_1.length c0_1], .int .i64 (rd ((rd_T62 l0_0 a1).f3) 0)] (by rfl) rfl rfl gl ?_
   with_reducible refine (impl_showValue.calls k _ _ l0_0 _ _ l0_1 (rd ((rd_T62 l0_0 a1).f3) 0) t399 _ ?side1 ?side2 ?side3 ?side4 (by first | (with_reducible exact HTAB.out) | exact tabW_below HTAB.out (be w)) A10.out).mono ?_
   (case side1 => exact Kd.C_below HR0_0.out (be w))
   (case side2 => exact HC0_0.out)
   (case side3 => exact Kd.C_below HR0_1.out (be w))
   (case side4 => exact HC0_1.out)
   rintro e w124 ⟨rfl, hb⟩
   refine ⟨_, rfl, ?_⟩
   replace BK394 := As.mk (blk_below (bx BK394.out) hb)
   replace BK396 := As.mk (blk_below (bx BK396.out) hb)
   replace HB := As.mk (below_step (be w) hb)
   (try clear hb)
   (try clear hb2)
   (try clear hk)
   (try clear hi)
   refine hK.out _ _ ⟨(blk_cell BK394.out 0).trans rfl, (blk_cell BK394.out 1).trans rfl, (blk_cell BK396.out 0).trans rfl, (blk_cell BK396.out 1).trans rfl, (blk_cell BK396.out 2).trans rfl, (blk_cell BK396.out 3).trans rfl, (ce HB.out hw398_0 :)⟩ (fun hHeld => ?_)
   clear hK K
   refine norm_ (a' := ?_) ?_ ?_
   rotate_left
   ·
    show Act.put _ (some 24) _ = _
    simp only [pk, i64_w, i32_w]
    rfl
   refine pure_ (i := 6) (N := some 9) (v := ?_) (a' := ?_) #[I,I,I,I,I,I,I] rfl rfl (by kernel_rfl) (fun _ _ _ h => h) (Or.inl ⟨by rfl, ?_⟩) ?_ ?_
   rotate_left; · intro w'; go_simp; with_reducible rfl
   rotate_left; · simp only [pk, i64_w, i32_w]; rfl
   refine done_ (by kernel_rfl) ?_
   obtain ⟨hcz125_0, hcz125_1, hcz125_2, hcz125_3, hfz125_0, hfz125_1, hfz125_2, hfz125_3⟩ := cl4 BK396.out
   try go_wp2
   go_ret
   exact ⟨by first | rfl | (simp [errW_none, errW_some] <;> rfl) | (simp only [← hji6, ← hji7]; first | rfl | (simp [errW_none, errW_some] <;> rfl)) | (simp [*, errW_none, errW_some] <;> rfl), be w⟩
  rw [if_pos c101] at H
  have c101b0 : (((rd_T62 l0_0 a1).f0) == 18) = true := beq_iff_eq.mpr c101
  have c101b1 : (((rd_T62 l0_0 a1).f0) != 18) = false := bne_eq_false_iff_eq.mpr c101
  clear c101
  have c102 := i1 H; replace H := i2 H
  have c102b0 := eq_true c102
  have c102b1 := decide_eq_true c102
  try have c102b2 := eq_false (Nat.not_lt.2 c102)
  have c103 := i1 H; replace H := i2 H
  have c103b0 := eq_true c103
  have c103b1 := decide_eq_true c103
  try have c103b2 := eq_false (Nat.not_lt.2 c103)
  try have c103b4 : (9223372036854775807 < t397.size + 6 + t399.size) = False := eq_false (Nat.not_lt.2 (by have h_ := c103; simp only [ByteArray.size_append] at h_; exact h_))
  have c104 := i1 H; replace H := i2 H
  have c104b0 := eq_true c104
  have c104b1 := decide_eq_true c104
  try have c104b2 := eq_false (Nat.not_lt.2 c104)
  try have c104b4 : (9223372036854775807 < t397.size + 6 + t399.size + 2) = False := eq_false (Nat.not_lt.2 (by have h_ := c104; simp only [ByteArray.size_append] at h_; exact h_))
  obtain rfl := Option.some.inj H
  go_enter Tryz.func48, Tryz.ntmps48
  try go_wp2_with (first | ((with_reducible refine gate_dst (N := 3) rfl ?_); refine box_event ?hg (N := 3) ?hd (cs := #[.slice A0_0 l0_0.length c0_0, .slice A0_1 l0_1.length c0_1]) (t := 32) ?hr ?_; (case hd => rfl); (case hg => rfl); (case hr => first | (go_simp; done) | (go_simp; rfl)); intro gb394 hg w105 hbox hb; have BK394 := As.mk (hbox); have GW394 := As.mk (gs w hg); replace HB := As.mk (below_step (be w) hb); clear hb hbox hg; obtain ⟨hcz106_0, hcz106_1, hfz106_0, hfz106_1⟩ := cl2 BK394.out; have p395 : 0 ≤ (a1 : Int) := od; have q395 : a1 < (l0_0.length : Int) := od; obtain ⟨ad395, A395_3, c395_3, e395, hx395_0, hx395_1, hx395_2, hx395_3, hl395_3, hi395_3⟩ := at_T62 HR0_0.out a1 p395 q395; cases e395; replace hx395_0 := ce HB.out hx395_0; replace hx395_1 := ce HB.out hx395_1; replace hx395_2 := ce HB.out hx395_2; replace hx395_3 := ce HB.out hx395_3; have HR395_3 := As.mk hi395_3; have HC395_3 := As.mk hl395_3; clear hi395_3 hl395_3; replace p395 := eq_true p395; replace q395 := eq_true q395) | ((with_reducible refine gate_dst (N := 7) rfl ?_); refine box_event ?hg (N := 7) ?hd (cs := #[.int .i64 0, .int .i64 0, .string (⟨#[]⟩ : ByteArray), .slice none 0 0]) (t := 62) ?hr ?_; (case hd => rfl); (case hg => rfl); (case hr => first | (go_simp; done) | (go_simp; rfl)); intro gb396 hg w107 hbox hb; have BK396 := As.mk (hbox); have GW396 := As.mk (gs w hg); replace HB := As.mk (below_step (be w) hb); have NB394_396 := As.mk (nl hg (bx BK394.out)); have NB396_394 := As.mk (ng hg (bx BK394.out)); replace BK394 := As.mk (blk_below (bx BK394.out) hb); clear hb hbox hg; have hnb108 := NB396_394.out; have hnc108 := NB394_396.out; obtain ⟨hcz109_0, hcz109_1, hcz109_2, hcz109_3, hfz109_0, hfz109_1, hfz109_2, hfz109_3⟩ := cl4 BK396.out) | ((with_reducible refine gate_callee (f := 74) rfl ?_); refine goesL_ (some 18) rfl rfl Tryz.func74 (by kernel_rfl) rfl #[.string (⟨#[32, 32]⟩ : ByteArray), .int .i64 ji7] rfl (by (try simp only [lm]); first | done | (simp only [hji7]; rfl) | rfl | (simp only [List.length_drop, List.length_take]; rfl)) ?_; (with_reducible refine (strings_Repeat.calls (⟨#[32, 32]⟩ : ByteArray) ji7 t397 _ A8.out).mono ?_); rintro e w110 ⟨rfl, hb⟩; refine ⟨_, rfl, ?_⟩; replace BK394 := As.mk (blk_below (g := gb394) (o := .cells #[.slice (some ad395) l0_0.length c0_0, .slice A0_1 l0_1.length c0_1] 32 (0, 0)) (by refine pl ?_; refine blk_far ?_ NB394_396.out _; refine pl ?_; refine blk_far ?_ NB394_396.out _; refine pl ?_; refine blk_far ?_ NB394_396.out _; refine pl ?_; refine blk_far ?_ NB394_396.out _; exact bx BK394.out) hb); replace BK396 := As.mk (blk_below (g := gb396) (o := .cells #[.int .i64 ((rd_T62 l0_0 a1).f0), .int .i64 ((rd_T62 l0_0 a1).f1), .string ((rd_T62 l0_0 a1).f2), .slice A395_3 ((rd_T62 l0_0 a1).f3).length c395_3] 62 (0, 0)) (by refine pl ?_; refine blk_put (cs := #[.int .i64 ((rd_T62 l0_0 a1).f0), .int .i64 ((rd_T62 l0_0 a1).f1), .string ((rd_T62 l0_0 a1).f2), .slice none 0 0]) ?_ 3 _ rfl; refine pl ?_; refine blk_put (cs := #[.int .i64 ((rd_T62 l0_0 a1).f0), .int .i64 ((rd_T62 l0_0 a1).f1), .string (⟨#[]⟩ : ByteArray), .slice none 0 0]) ?_ 2 _ rfl; refine pl ?_; refine blk_put (cs := #[.int .i64 ((rd_T62 l0_0 a1).f0), .int .i64 0, .string (⟨#[]⟩ : ByteArray), .slice none 0 0]) ?_ 1 _ rfl; refine pl ?_; refine blk_put (cs := #[.int .i64 0, .int .i64 0, .string (⟨#[]⟩ : ByteArray), .slice none 0 0]) ?_ 0 _ rfl; exact bx BK396.out) hb); replace HB := As.mk (below_step (be w) hb); (try clear hb)))
  replace BK394 := As.mk (blk_drew BK394.out)
  replace BK396 := As.mk (blk_drew BK396.out)
  replace HB := As.mk (below_drew1 HB.out)
  have p398 : 0 ≤ (0 : Int) := (by omega)
  have q398 : 0 < (((rd_T62 l0_0 a1).f3).length : Int) := od
  obtain ⟨ad398, e398, hx398_0⟩ := Kd.at_int HR395_3.out 0 p398 q398
  have hw398_0 := hx398_0
  (try rw [show ((0 : Int)).toNat = 0 from rfl] at hw398_0)
  (try rw [show 0 * 1 = 0 from rfl] at hw398_0)
  (try rw [Addr.add_zero'] at hw398_0)
  cases e398
  have qi398 : (0 < ((rd_T62 l0_0 a1).f3).length) = True := eq_true (by omega)
  (try rw [show ((0 : Int)).toNat = 0 from rfl] at hx398_0)
  (try rw [Addr.add_zero'] at hx398_0)
  replace hx398_0 := ce HB.out hx398_0
  replace p398 := eq_true p398
  replace q398 := eq_true q398
  refine start_ (n := 7) (S := fun w' => w'.cell? ⟨gb394, 0, none⟩ = some (.slice (some ad395) l0_0.length c0_0) ∧ w'.cell? ⟨gb394, 1, none⟩ = some (.slice A0_1 l0_1.length c0_1) ∧ w'.cell? ⟨gb396, 0, none⟩ = some (.int .i64 ((rd_T62 l0_0 a1).f0)) ∧ w'.cell? ⟨gb396, 1, none⟩ = some (.int .i64 ((rd_T62 l0_0 a1).f1)) ∧ w'.cell? ⟨gb396, 2, none⟩ = some (.string ((rd_T62 l0_0 a1).f2)) ∧ w'.cell? ⟨gb396, 3, none⟩ = some (.slice (some ad398) ((rd_T62 l0_0 a1).f3).length c395_3) ∧ w'.cell? ad398 = some (.int .i64 (rd ((rd_T62 l0_0 a1).f3) 0))) (ds := []) #[O,O,O,O,O,O,O] (by kernel_rfl) rfl rfl ⟨(blk_cell BK394.out 0).trans rfl, (blk_cell BK394.out 1).trans rfl, (blk_cell BK396.out 0).trans rfl, (blk_cell BK396.out 1).trans rfl, (blk_cell BK396.out 2).trans rfl, (blk_cell BK396.out 3).trans rfl, (ce HB.out hw398_0 :)⟩ (fun hHeld => ?_)
  generalize w110.drew = w111 at BK394 BK396 HB hx398_0 hHeld ⊢
  refine pure_ (i := 1) (N := some 20) (v := ?_) (a' := ?_) #[O,I,O,O,O,O,O] rfl rfl (by kernel_rfl) (fun _ _ _ h => h) (Or.inl ⟨by rfl, ?_⟩) ?_ ?_
  rotate_left; · intro w'; go_simp; with_reducible rfl
  rotate_left; · simp only [pk, i64_w, i32_w]; rfl
  refine take_ (i := 0) (N := some 19) (v := ?_) (a' := ?_) #[I,I,O,O,O,O,O] rfl rfl (by kernel_rfl) (fun _ _ _ h => h) (Or.inl ⟨by rfl, ?_⟩) hHeld ?_ ?_
  rotate_left; · rintro w' ⟨s0, s1, s2, s3, s4, s5, s6⟩; go_simp; with_reducible rfl
  rotate_left; · simp only [pk, i64_w, i32_w]; rfl
  refine take_ (i := 2) (N := some 21) (v := ?_) (a' := ?_) #[I,I,I,O,O,O,O] rfl rfl (by kernel_rfl) (fun _ _ _ h => h) (Or.inl ⟨by rfl, ?_⟩) hHeld ?_ ?_
  rotate_left; · rintro w' ⟨s0, s1, s2, s3, s4, s5, s6⟩; go_simp; with_reducible rfl
  rotate_left; · simp only [pk, i64_w, i32_w]; rfl
  refine pure_ (i := 3) (N := some 22) (v := ?_) (a' := ?_) #[I,I,I,I,O,O,O] rfl rfl (by kernel_rfl) (fun _ _ _ h => h) (Or.inl ⟨by rfl, ?_⟩) ?_ ?_
  rotate_left; · intro w'; go_simp; with_reducible rfl
  rotate_left; · simp only [pk, i64_w, i32_w]; rfl
  refine take_ (i := 4) (N := some 23) (v := ?_) (a' := ?_) #[I,I,I,I,I,O,O] rfl rfl (by kernel_rfl) (fun _ _ _ h => h) (Or.inl ⟨by rfl, ?_⟩) hHeld ?_ ?_
  rotate_left; · rintro w' ⟨s0, s1, s2, s3, s4, s5, s6⟩; go_simp; with_reducible rfl
  rotate_left; · simp only [pk, i64_w, i32_w]; rfl
  refine one_ (i := 5) (N := some 24) #[I,I,I,I,I,I,O] rfl rfl (by kernel_rfl) (by decide) (fun K hK => ?_)
  refine goes_ Tryz.func57 (by kernel_rfl) rfl #[.agg #[.slice (some ad395) l0_0.length c0_0, .slice A0_1 l0_1.length c0_1], .int .i64 (rd ((rd_T62 l0_0 a1).f3) 0)] (by rfl) rfl rfl gl ?_
  with_reducible refine (impl_showValue.calls k _ _ l0_0 _ _ l0_1 (rd ((rd_T62 l0_0 a1).f3) 0) t399 _ ?side1 ?side2 ?side3 ?side4 (by first | (with_reducible exact HTAB.out) | exact tabW_below HTAB.out (be w)) A10.out).mono ?_
  (case side1 => exact Kd.C_below HR0_0.out (be w))
  (case side2 => exact HC0_0.out)
  (case side3 => exact Kd.C_below HR0_1.out (be w))
  (case side4 => exact HC0_1.out)
  rintro e w112 ⟨rfl, hb⟩
  refine ⟨_, rfl, ?_⟩
  replace BK394 := As.mk (blk_below (bx BK394.out) hb)
  replace BK396 := As.mk (blk_below (bx BK396.out) hb)
  replace HB := As.mk (below_step (be w) hb)
  (try clear hb)
  (try clear hb2)
  (try clear hk)
  (try clear hi)
  refine hK.out _ _ ⟨(blk_cell BK394.out 0).trans rfl, (blk_cell BK394.out 1).trans rfl, (blk_cell BK396.out 0).trans rfl, (blk_cell BK396.out 1).trans rfl, (blk_cell BK396.out 2).trans rfl, (blk_cell BK396.out 3).trans rfl, (ce HB.out hw398_0 :)⟩ (fun hHeld => ?_)
  clear hK K
  refine norm_ (a' := ?_) ?_ ?_
  rotate_left
  ·
   show Act.put _ (some 24) _ = _
   simp only [pk, i64_w, i32_w]
   rfl
  refine pure_ (i := 6) (N := some 9) (v := ?_) (a' := ?_) #[I,I,I,I,I,I,I] rfl rfl (by kernel_rfl) (fun _ _ _ h => h) (Or.inl ⟨by rfl, ?_⟩) ?_ ?_
  rotate_left; · intro w'; go_simp; with_reducible rfl
  rotate_left; · simp only [pk, i64_w, i32_w]; rfl
  refine done_ (by kernel_rfl) ?_
  obtain ⟨hcz113_0, hcz113_1, hcz113_2, hcz113_3, hfz113_0, hfz113_1, hfz113_2, hfz113_3⟩ := cl4 BK396.out
  try go_wp2
  go_ret
  exact ⟨by first | rfl | (simp [errW_none, errW_some] <;> rfl) | (simp only [← hji6, ← hji7]; first | rfl | (simp [errW_none, errW_some] <;> rfl)) | (simp [*, errW_none, errW_some] <;> rfl), be w⟩
 rw [if_pos c81] at H
 have c81b0 : (((rd_T62 l0_0 a1).f0) == 17) = true := beq_iff_eq.mpr c81
 have c81b1 : (((rd_T62 l0_0 a1).f0) != 17) = false := bne_eq_false_iff_eq.mpr c81
 clear c81
 have c82 := i1 H; replace H := i2 H
 have c82b0 := eq_true c82
 have c82b1 := decide_eq_true c82
 try have c82b2 := eq_false (Nat.not_lt.2 c82)
 have c83 := i1 H; replace H := i2 H
 have c83b0 := eq_true c83
 have c83b1 := decide_eq_true c83
 try have c83b2 := eq_false (Nat.not_lt.2 c83)
 try have c83b4 : (9223372036854775807 < t397.size + 6 + t399.size) = False := eq_false (Nat.not_lt.2 (by have h_ := c83; simp only [ByteArray.size_append] at h_; exact h_))
 have c84 := i1 H; replace H := i2 H
 have c84b0 := eq_true c84
 have c84b1 := decide_eq_true c84
 try have c84b2 := eq_false (Nat.not_lt.2 c84)
 try have c84b4 : (9223372036854775807 < t397.size + 6 + t399.size + 3) = False := eq_false (Nat.not_lt.2 (by have h_ := c84; simp only [ByteArray.size_append] at h_; exact h_))
 have c85 := i1 H; replace H := i2 H
 have c85b0 := decide_eq_true c85
 have c85b1 : decide (1 < ((rd_T62 l0_0 a1).f3).length) = true := decide_eq_true (by omega)
 clear c85
 obtain ⟨t405, A860, H⟩ := Option.bind_eq_some_iff.mp H
 try dsimp only at H
 have A86 := As.mk A860
 clear A860
 have c87 := i1 H; replace H := i2 H
 have c87b0 := eq_true c87
 have c87b1 := decide_eq_true c87
 try have c87b2 := eq_false (Nat.not_lt.2 c87)
 try have c87b4 : (9223372036854775807 < t397.size + 6 + t399.size + 3 + t405.size) = False := eq_false (Nat.not_lt.2 (by have h_ := c87; simp only [ByteArray.size_append] at h_; exact h_))
 have c88 := i1 H; replace H := i2 H
 have c88b0 := eq_true c88
 have c88b1 := decide_eq_true c88
 try have c88b2 := eq_false (Nat.not_lt.2 c88)
 try have c88b4 : (9223372036854775807 < t397.size + 6 + t399.size + 3 + t405.size + t397.size) = False := eq_false (Nat.not_lt.2 (by have h_ := c88; simp only [ByteArray.size_append] at h_; exact h_))
 have c89 := i1 H; replace H := i2 H
 have c89b0 := eq_true c89
 have c89b1 := decide_eq_true c89
 try have c89b2 := eq_false (Nat.not_lt.2 c89)
 try have c89b4 : (9223372036854775807 < t397.size + 6 + t399.size + 3 + t405.size + t397.size + 2) = False := eq_false (Nat.not_lt.2 (by have h_ := c89; simp only [ByteArray.size_append] at h_; exact h_))
 obtain rfl := Option.some.inj H
 go_enter Tryz.func48, Tryz.ntmps48
 try go_wp2_with (first | ((with_reducible refine gate_dst (N := 3) rfl ?_); refine box_event ?hg (N := 3) ?hd (cs := #[.slice A0_0 l0_0.length c0_0, .slice A0_1 l0_1.length c0_1]) (t := 32) ?hr ?_; (case hd => rfl); (case hg => rfl); (case hr => first | (go_simp; done) | (go_simp; rfl)); intro gb394 hg w90 hbox hb; have BK394 := As.mk (hbox); have GW394 := As.mk (gs w hg); replace HB := As.mk (below_step (be w) hb); clear hb hbox hg; obtain ⟨hcz91_0, hcz91_1, hfz91_0, hfz91_1⟩ := cl2 BK394.out; have p395 : 0 ≤ (a1 : Int) := od; have q395 : a1 < (l0_0.length : Int) := od; obtain ⟨ad395, A395_3, c395_3, e395, hx395_0, hx395_1, hx395_2, hx395_3, hl395_3, hi395_3⟩ := at_T62 HR0_0.out a1 p395 q395; cases e395; replace hx395_0 := ce HB.out hx395_0; replace hx395_1 := ce HB.out hx395_1; replace hx395_2 := ce HB.out hx395_2; replace hx395_3 := ce HB.out hx395_3; have HR395_3 := As.mk hi395_3; have HC395_3 := As.mk hl395_3; clear hi395_3 hl395_3; replace p395 := eq_true p395; replace q395 := eq_true q395) | ((with_reducible refine gate_dst (N := 7) rfl ?_); refine box_event ?hg (N := 7) ?hd (cs := #[.int .i64 0, .int .i64 0, .string (⟨#[]⟩ : ByteArray), .slice none 0 0]) (t := 62) ?hr ?_; (case hd => rfl); (case hg => rfl); (case hr => first | (go_simp; done) | (go_simp; rfl)); intro gb396 hg w92 hbox hb; have BK396 := As.mk (hbox); have GW396 := As.mk (gs w hg); replace HB := As.mk (below_step (be w) hb); have NB394_396 := As.mk (nl hg (bx BK394.out)); have NB396_394 := As.mk (ng hg (bx BK394.out)); replace BK394 := As.mk (blk_below (bx BK394.out) hb); clear hb hbox hg; have hnb93 := NB396_394.out; have hnc93 := NB394_396.out; obtain ⟨hcz94_0, hcz94_1, hcz94_2, hcz94_3, hfz94_0, hfz94_1, hfz94_2, hfz94_3⟩ := cl4 BK396.out) | ((with_reducible refine gate_callee (f := 74) rfl ?_); refine goesL_ (some 18) rfl rfl Tryz.func74 (by kernel_rfl) rfl #[.string (⟨#[32, 32]⟩ : ByteArray), .int .i64 ji7] rfl (by (try simp only [lm]); first | done | (simp only [hji7]; rfl) | rfl | (simp only [List.length_drop, List.length_take]; rfl)) ?_; (with_reducible refine (strings_Repeat.calls (⟨#[32, 32]⟩ : ByteArray) ji7 t397 _ A8.out).mono ?_); rintro e w95 ⟨rfl, hb⟩; refine ⟨_, rfl, ?_⟩; replace BK394 := As.mk (blk_below (g := gb394) (o := .cells #[.slice (some ad395) l0_0.length c0_0, .slice A0_1 l0_1.length c0_1] 32 (0, 0)) (by refine pl ?_; refine blk_far ?_ NB394_396.out _; refine pl ?_; refine blk_far ?_ NB394_396.out _; refine pl ?_; refine blk_far ?_ NB394_396.out _; refine pl ?_; refine blk_far ?_ NB394_396.out _; exact bx BK394.out) hb); replace BK396 := As.mk (blk_below (g := gb396) (o := .cells #[.int .i64 ((rd_T62 l0_0 a1).f0), .int .i64 ((rd_T62 l0_0 a1).f1), .string ((rd_T62 l0_0 a1).f2), .slice A395_3 ((rd_T62 l0_0 a1).f3).length c395_3] 62 (0, 0)) (by refine pl ?_; refine blk_put (cs := #[.int .i64 ((rd_T62 l0_0 a1).f0), .int .i64 ((rd_T62 l0_0 a1).f1), .string ((rd_T62 l0_0 a1).f2), .slice none 0 0]) ?_ 3 _ rfl; refine pl ?_; refine blk_put (cs := #[.int .i64 ((rd_T62 l0_0 a1).f0), .int .i64 ((rd_T62 l0_0 a1).f1), .string (⟨#[]⟩ : ByteArray), .slice none 0 0]) ?_ 2 _ rfl; refine pl ?_; refine blk_put (cs := #[.int .i64 ((rd_T62 l0_0 a1).f0), .int .i64 0, .string (⟨#[]⟩ : ByteArray), .slice none 0 0]) ?_ 1 _ rfl; refine pl ?_; refine blk_put (cs := #[.int .i64 0, .int .i64 0, .string (⟨#[]⟩ : ByteArray), .slice none 0 0]) ?_ 0 _ rfl; exact bx BK396.out) hb); replace HB := As.mk (below_step (be w) hb); (try clear hb)))
 replace BK394 := As.mk (blk_drew BK394.out)
 replace BK396 := As.mk (blk_drew BK396.out)
 replace HB := As.mk (below_drew1 HB.out)
 have p398 : 0 ≤ (0 : Int) := (by omega)
 have q398 : 0 < (((rd_T62 l0_0 a1).f3).length : Int) := od
 obtain ⟨ad398, e398, hx398_0⟩ := Kd.at_int HR395_3.out 0 p398 q398
 have hw398_0 := hx398_0
 (try rw [show ((0 : Int)).toNat = 0 from rfl] at hw398_0)
 (try rw [show 0 * 1 = 0 from rfl] at hw398_0)
 (try rw [Addr.add_zero'] at hw398_0)
 cases e398
 have qi398 : (0 < ((rd_T62 l0_0 a1).f3).length) = True := eq_true (by omega)
 (try rw [show ((0 : Int)).toNat = 0 from rfl] at hx398_0)
 (try rw [Addr.add_zero'] at hx398_0)
 replace hx398_0 := ce HB.out hx398_0
 replace p398 := eq_true p398
 replace q398 := eq_true q398
 refine start_ (n := 7) (S := fun w' => w'.cell? ⟨gb394, 0, none⟩ = some (.slice (some ad395) l0_0.length c0_0) ∧ w'.cell? ⟨gb394, 1, none⟩ = some (.slice A0_1 l0_1.length c0_1) ∧ w'.cell? ⟨gb396, 0, none⟩ = some (.int .i64 ((rd_T62 l0_0 a1).f0)) ∧ w'.cell? ⟨gb396, 1, none⟩ = some (.int .i64 ((rd_T62 l0_0 a1).f1)) ∧ w'.cell? ⟨gb396, 2, none⟩ = some (.string ((rd_T62 l0_0 a1).f2)) ∧ w'.cell? ⟨gb396, 3, none⟩ = some (.slice (some ad398) ((rd_T62 l0_0 a1).f3).length c395_3) ∧ w'.cell? ad398 = some (.int .i64 (rd ((rd_T62 l0_0 a1).f3) 0))) (ds := []) #[O,O,O,O,O,O,O] (by kernel_rfl) rfl rfl ⟨(blk_cell BK394.out 0).trans rfl, (blk_cell BK394.out 1).trans rfl, (blk_cell BK396.out 0).trans rfl, (blk_cell BK396.out 1).trans rfl, (blk_cell BK396.out 2).trans rfl, (blk_cell BK396.out 3).trans rfl, (ce HB.out hw398_0 :)⟩ (fun hHeld => ?_)
 generalize w95.drew = w96 at BK394 BK396 HB hx398_0 hHeld ⊢
 refine pure_ (i := 1) (N := some 20) (v := ?_) (a' := ?_) #[O,I,O,O,O,O,O] rfl rfl (by kernel_rfl) (fun _ _ _ h => h) (Or.inl ⟨by rfl, ?_⟩) ?_ ?_
 rotate_left; · intro w'; go_simp; with_reducible rfl
 rotate_left; · simp only [pk, i64_w, i32_w]; rfl
 refine take_ (i := 0) (N := some 19) (v := ?_) (a' := ?_) #[I,I,O,O,O,O,O] rfl rfl (by kernel_rfl) (fun _ _ _ h => h) (Or.inl ⟨by rfl, ?_⟩) hHeld ?_ ?_
 rotate_left; · rintro w' ⟨s0, s1, s2, s3, s4, s5, s6⟩; go_simp; with_reducible rfl
 rotate_left; · simp only [pk, i64_w, i32_w]; rfl
 refine take_ (i := 2) (N := some 21) (v := ?_) (a' := ?_) #[I,I,I,O,O,O,O] rfl rfl (by kernel_rfl) (fun _ _ _ h => h) (Or.inl ⟨by rfl, ?_⟩) hHeld ?_ ?_
 rotate_left; · rintro w' ⟨s0, s1, s2, s3, s4, s5, s6⟩; go_simp; with_reducible rfl
 rotate_left; · simp only [pk, i64_w, i32_w]; rfl
 refine pure_ (i := 3) (N := some 22) (v := ?_) (a' := ?_) #[I,I,I,I,O,O,O] rfl rfl (by kernel_rfl) (fun _ _ _ h => h) (Or.inl ⟨by rfl, ?_⟩) ?_ ?_
 rotate_left; · intro w'; go_simp; with_reducible rfl
 rotate_left; · simp only [pk, i64_w, i32_w]; rfl
 refine take_ (i := 4) (N := some 23) (v := ?_) (a' := ?_) #[I,I,I,I,I,O,O] rfl rfl (by kernel_rfl) (fun _ _ _ h => h) (Or.inl ⟨by rfl, ?_⟩) hHeld ?_ ?_
 rotate_left; · rintro w' ⟨s0, s1, s2, s3, s4, s5, s6⟩; go_simp; with_reducible rfl
 rotate_left; · simp only [pk, i64_w, i32_w]; rfl
 refine one_ (i := 5) (N := some 24) #[I,I,I,I,I,I,O] rfl rfl (by kernel_rfl) (by decide) (fun K hK => ?_)
 refine goes_ Tryz.func57 (by kernel_rfl) rfl #[.agg #[.slice (some ad395) l0_0.length c0_0, .slice A0_1 l0_1.length c0_1], .int .i64 (rd ((rd_T62 l0_0 a1).f3) 0)] (by rfl) rfl rfl gl ?_
 with_reducible refine (impl_showValue.calls k _ _ l0_0 _ _ l0_1 (rd ((rd_T62 l0_0 a1).f3) 0) t399 _ ?side1 ?side2 ?side3 ?side4 (by first | (with_reducible exact HTAB.out) | exact tabW_below HTAB.out (be w)) A10.out).mono ?_
 (case side1 => exact Kd.C_below HR0_0.out (be w))
 (case side2 => exact HC0_0.out)
 (case side3 => exact Kd.C_below HR0_1.out (be w))
 (case side4 => exact HC0_1.out)
 rintro e w97 ⟨rfl, hb⟩
 refine ⟨_, rfl, ?_⟩
 replace BK394 := As.mk (blk_below (bx BK394.out) hb)
 replace BK396 := As.mk (blk_below (bx BK396.out) hb)
 replace HB := As.mk (below_step (be w) hb)
 (try clear hb)
 (try clear hb2)
 (try clear hk)
 (try clear hi)
 refine hK.out _ _ ⟨(blk_cell BK394.out 0).trans rfl, (blk_cell BK394.out 1).trans rfl, (blk_cell BK396.out 0).trans rfl, (blk_cell BK396.out 1).trans rfl, (blk_cell BK396.out 2).trans rfl, (blk_cell BK396.out 3).trans rfl, (ce HB.out hw398_0 :)⟩ (fun hHeld => ?_)
 clear hK K
 refine norm_ (a' := ?_) ?_ ?_
 rotate_left
 ·
  show Act.put _ (some 24) _ = _
  simp only [pk, i64_w, i32_w]
  rfl
 refine pure_ (i := 6) (N := some 9) (v := ?_) (a' := ?_) #[I,I,I,I,I,I,I] rfl rfl (by kernel_rfl) (fun _ _ _ h => h) (Or.inl ⟨by rfl, ?_⟩) ?_ ?_
 rotate_left; · intro w'; go_simp; with_reducible rfl
 rotate_left; · simp only [pk, i64_w, i32_w]; rfl
 refine done_ (by kernel_rfl) ?_
 obtain ⟨hcz98_0, hcz98_1, hcz98_2, hcz98_3, hfz98_0, hfz98_1, hfz98_2, hfz98_3⟩ := cl4 BK396.out
 try go_wp2
 replace BK394 := As.mk (blk_drew BK394.out)
 replace BK396 := As.mk (blk_drew BK396.out)
 replace HB := As.mk (below_drew1 HB.out)
 have p404 : 0 ≤ (1 : Int) := (by omega)
 have q404 : 1 < (((rd_T62 l0_0 a1).f3).length : Int) := od
 obtain ⟨ad404, e404, hx404_0⟩ := Kd.at_int HR395_3.out 1 p404 q404
 have hw404_0 := hx404_0
 (try rw [show ((1 : Int)).toNat = 1 from rfl] at hw404_0)
 (try rw [show 1 * 1 = 1 from rfl] at hw404_0)
 (try simp only [Nat.reduceMul, Nat.reduceEqDiff, Go.Addr.add, ↓reduceIte] at hw404_0)
 obtain rfl : ad398 = ad404 := (by injection e404)
 (try simp only [show (1 : Int).toNat = 1 from rfl, Nat.reduceMul, Nat.reduceEqDiff, Go.Addr.add, ↓reduceIte] at hx404_0)
 have qi404 : (1 < ((rd_T62 l0_0 a1).f3).length) = True := eq_true (by omega)
 (try rw [show ((1 : Int)).toNat = 1 from rfl] at hx404_0)
 replace hx404_0 := ce HB.out hx404_0
 replace p404 := eq_true p404
 replace q404 := eq_true q404
 refine start_ (n := 18) (S := fun w' => w'.cell? ⟨gb394, 0, none⟩ = some (.slice (some ad395) l0_0.length c0_0) ∧ w'.cell? ⟨gb394, 1, none⟩ = some (.slice A0_1 l0_1.length c0_1) ∧ w'.cell? ⟨gb396, 0, none⟩ = some (.int .i64 ((rd_T62 l0_0 a1).f0)) ∧ w'.cell? ⟨gb396, 1, none⟩ = some (.int .i64 ((rd_T62 l0_0 a1).f1)) ∧ w'.cell? ⟨gb396, 2, none⟩ = some (.string ((rd_T62 l0_0 a1).f2)) ∧ w'.cell? ⟨gb396, 3, none⟩ = some (.slice (some ad398) ((rd_T62 l0_0 a1).f3).length c395_3) ∧ w'.cell? ⟨ad398.block, ad398.off + 1, none⟩ = some (.int .i64 (rd ((rd_T62 l0_0 a1).f3) 1))) (ds := []) #[O,O,O,O,O,O,O,O,O,O,O,O,O,O,O,O,O,O] (by kernel_rfl) rfl rfl ⟨(blk_cell BK394.out 0).trans rfl, (blk_cell BK394.out 1).trans rfl, (blk_cell BK396.out 0).trans rfl, (blk_cell BK396.out 1).trans rfl, (blk_cell BK396.out 2).trans rfl, (blk_cell BK396.out 3).trans rfl, (ce HB.out hw404_0 :)⟩ (fun hHeld => ?_); refine with_tabW impl_showStep.tab14 impl_showStep.bits14 (fun HT_ HW_ => ?_)
 generalize w97.drew = w99 at BK394 BK396 HB hx404_0 hHeld ⊢
 refine pq 0 92 #[I,O,O,O,O,O,O,O,O,O,O,O,O,O,O,O,O,O] HT_.out rfl rfl ?_ (fun _ _ _ h => h) ?_ ?_ ?_ ?_
 rotate_left; · intro w'; go_simp; with_reducible rfl
 rotate_left; · simp only [pk, i64_w, i32_w]; rfl
 refine pq 1 93 #[I,I,O,O,O,O,O,O,O,O,O,O,O,O,O,O,O,O] HT_.out rfl rfl ?_ (fun _ _ _ h => h) ?_ ?_ ?_ ?_
 rotate_left; · intro w'; go_simp; with_reducible rfl
 rotate_left; · simp only [pk, i64_w, i32_w]; rfl
 refine pq 2 94 #[I,I,I,O,O,O,O,O,O,O,O,O,O,O,O,O,O,O] HT_.out rfl rfl ?_ (fun _ _ _ h => h) ?_ ?_ ?_ ?_
 rotate_left; · intro w'; go_simp; with_reducible rfl
 rotate_left; · simp only [pk, i64_w, i32_w]; rfl
 refine pq 3 95 #[I,I,I,I,O,O,O,O,O,O,O,O,O,O,O,O,O,O] HT_.out rfl rfl ?_ (fun _ _ _ h => h) ?_ ?_ ?_ ?_
 rotate_left; · intro w'; go_simp; with_reducible rfl
 rotate_left; · simp only [pk, i64_w, i32_w]; rfl
 refine pq 4 96 #[I,I,I,I,I,O,O,O,O,O,O,O,O,O,O,O,O,O] HT_.out rfl rfl ?_ (fun _ _ _ h => h) ?_ ?_ ?_ ?_
 rotate_left; · intro w'; go_simp; with_reducible rfl
 rotate_left; · simp only [pk, i64_w, i32_w]; rfl
 refine pq 6 98 #[I,I,I,I,I,O,I,O,O,O,O,O,O,O,O,O,O,O] HT_.out rfl rfl ?_ (fun _ _ _ h => h) ?_ ?_ ?_ ?_
 rotate_left; · intro w'; go_simp; with_reducible rfl
 rotate_left; · simp only [pk, i64_w, i32_w]; rfl
 refine pq 10 102 #[I,I,I,I,I,O,I,O,O,O,I,O,O,O,O,O,O,O] HT_.out rfl rfl ?_ (fun _ _ _ h => h) ?_ ?_ ?_ ?_
 rotate_left; · intro w'; go_simp; with_reducible rfl
 rotate_left; · simp only [pk, i64_w, i32_w]; rfl
 refine pq 11 103 #[I,I,I,I,I,O,I,O,O,O,I,I,O,O,O,O,O,O] HT_.out rfl rfl ?_ (fun _ _ _ h => h) ?_ ?_ ?_ ?_
 rotate_left; · intro w'; go_simp; with_reducible rfl
 rotate_left; · simp only [pk, i64_w, i32_w]; rfl
 refine pq 14 106 #[I,I,I,I,I,O,I,O,O,O,I,I,O,O,I,O,O,O] HT_.out rfl rfl ?_ (fun _ _ _ h => h) ?_ ?_ ?_ ?_
 rotate_left; · intro w'; go_simp; with_reducible rfl
 rotate_left; · simp only [pk, i64_w, i32_w]; rfl
 refine tq 5 97 #[I,I,I,I,I,I,I,O,O,O,I,I,O,O,I,O,O,O] HT_.out HW_.out rfl rfl ?_ (fun _ _ _ h => h) ?_ hHeld ?_ ?_ ?_
 rotate_left; · rintro w' ⟨s0, s1, s2, s3, s4, s5, s6⟩; go_simp; with_reducible rfl
 rotate_left; · simp only [pk, i64_w, i32_w]; rfl
 refine tq 7 99 #[I,I,I,I,I,I,I,I,O,O,I,I,O,O,I,O,O,O] HT_.out HW_.out rfl rfl ?_ (fun _ _ _ h => h) ?_ hHeld ?_ ?_ ?_
 rotate_left; · rintro w' ⟨s0, s1, s2, s3, s4, s5, s6⟩; go_simp; with_reducible rfl
 rotate_left; · simp only [pk, i64_w, i32_w]; rfl
 refine pq 8 100 #[I,I,I,I,I,I,I,I,I,O,I,I,O,O,I,O,O,O] HT_.out rfl rfl ?_ (fun _ _ _ h => h) ?_ ?_ ?_ ?_
 rotate_left; · intro w'; go_simp; with_reducible rfl
 rotate_left; · simp only [pk, i64_w, i32_w]; rfl
 refine tq 9 101 #[I,I,I,I,I,I,I,I,I,I,I,I,O,O,I,O,O,O] HT_.out HW_.out rfl rfl ?_ (fun _ _ _ h => h) ?_ hHeld ?_ ?_ ?_
 rotate_left; · rintro w' ⟨s0, s1, s2, s3, s4, s5, s6⟩; go_simp; with_reducible rfl
 rotate_left; · simp only [pk, i64_w, i32_w]; rfl
 refine one_ (i := 12) (N := some 104) #[I,I,I,I,I,I,I,I,I,I,I,I,I,O,I,O,O,O] rfl rfl (one_of HT_.out (by kernel_rfl)) (by decide) (fun K hK => ?_)
 refine goes_ Tryz.func75 (by kernel_rfl) rfl #[.agg #[.slice (some ad395) l0_0.length c0_0, .slice A0_1 l0_1.length c0_1], .int .i64 (rd ((rd_T62 l0_0 a1).f3) 1), .int .i64 (wrap64 (a2 + 1))] (by rfl) rfl rfl gl ?_
 with_reducible refine (ih_impl_showSteps k (by omega) _ _ l0_0 _ _ l0_1 (rd ((rd_T62 l0_0 a1).f3) 1) (wrap64 (a2 + 1)) t405 _ ?side1 ?side2 ?side3 ?side4 (by first | (with_reducible exact HTAB.out) | exact tabW_below HTAB.out (be w)) A86.out).mono ?_
 (case side1 => exact Kd.C_below HR0_0.out (be w))
 (case side2 => exact HC0_0.out)
 (case side3 => exact Kd.C_below HR0_1.out (be w))
 (case side4 => exact HC0_1.out)
 rintro e w100 ⟨rfl, hb⟩
 refine ⟨_, rfl, ?_⟩
 replace BK394 := As.mk (blk_below (bx BK394.out) hb)
 replace BK396 := As.mk (blk_below (bx BK396.out) hb)
 replace HB := As.mk (below_step (be w) hb)
 (try clear hb)
 (try clear hb2)
 (try clear hk)
 (try clear hi)
 refine hK.out _ _ ⟨(blk_cell BK394.out 0).trans rfl, (blk_cell BK394.out 1).trans rfl, (blk_cell BK396.out 0).trans rfl, (blk_cell BK396.out 1).trans rfl, (blk_cell BK396.out 2).trans rfl, (blk_cell BK396.out 3).trans rfl, (ce HB.out hw404_0 :)⟩ (fun hHeld => ?_)
 clear hK K
 refine norm_ (a' := ?_) ?_ ?_
 rotate_left
 ·
  show Act.put _ (some 104) _ = _
  simp only [pk, i64_w, i32_w]
  rfl
 refine pq 13 105 #[I,I,I,I,I,I,I,I,I,I,I,I,I,I,I,O,O,O] HT_.out rfl rfl ?_ (fun _ _ _ h => h) ?_ ?_ ?_ ?_
 rotate_left; · intro w'; go_simp; with_reducible rfl
 rotate_left; · simp only [pk, i64_w, i32_w]; rfl
 refine pq 15 107 #[I,I,I,I,I,I,I,I,I,I,I,I,I,I,I,I,O,O] HT_.out rfl rfl ?_ (fun _ _ _ h => h) ?_ ?_ ?_ ?_
 rotate_left; · intro w'; go_simp; with_reducible rfl
 rotate_left; · simp only [pk, i64_w, i32_w]; rfl
 refine pq 16 108 #[I,I,I,I,I,I,I,I,I,I,I,I,I,I,I,I,I,O] HT_.out rfl rfl ?_ (fun _ _ _ h => h) ?_ ?_ ?_ ?_
 rotate_left; · intro w'; go_simp; with_reducible rfl
 rotate_left; · simp only [pk, i64_w, i32_w]; rfl
 refine pq 17 6 #[I,I,I,I,I,I,I,I,I,I,I,I,I,I,I,I,I,I] HT_.out rfl rfl ?_ (fun _ _ _ h => h) ?_ ?_ ?_ ?_
 rotate_left; · intro w'; go_simp; with_reducible rfl
 rotate_left; · simp only [pk, i64_w, i32_w]; rfl
 refine done_ (done_of HT_.out (by kernel_rfl)) ?_
 try go_wp2
 go_ret
 exact ⟨by first | rfl | (simp [errW_none, errW_some] <;> rfl) | (simp only [← hji6, ← hji7]; first | rfl | (simp [errW_none, errW_some] <;> rfl)) | (simp [*, errW_none, errW_some] <;> rfl), be w⟩
theorem impl_showStep.allO (k : Nat) : impl_showSteps.C k ∧ impl_showStep.C k := by
  induction k using Nat.strongRecOn with
  | _ k ih => exact ⟨impl_showSteps.callsO k (fun m_ h_ => (ih m_ h_).1) (fun m_ h_ => (ih m_ h_).2), impl_showStep.callsO k (fun m_ h_ => (ih m_ h_).1) (fun m_ h_ => (ih m_ h_).2)⟩
theorem impl_showSteps.calls (k : Nat) : ∀ (A0_0 : Option Addr) (c0_0 : Nat) (l0_0 : List (S62)) (A0_1 : Option Addr) (c0_1 : Nat) (l0_1 : List (S56)) (a1 : Int) (a2 : Int) (r : ByteArray) (w : World) (hr0_0 : Kd.C k62 w A0_0 l0_0.length l0_0) (hc0_0 : l0_0.length ≤ c0_0) (hr0_1 : Kd.C k56 w A0_1 l0_1.length l0_1) (hc0_1 : l0_1.length ≤ c0_1) (hTab : TabW w) (h : impl_showSteps.f k l0_0 l0_1 a1 a2 = some r),
  Calls Tryz.prog 75 #[.agg #[.slice A0_0 l0_0.length c0_0, .slice A0_1 l0_1.length c0_1], .int .i64 a1, .int .i64 a2] w fun e w' => e = .returned (.string r) ∧ Below w.heap.size w w' := (impl_showStep.allO k).1
theorem impl_showStep.calls (k : Nat) : ∀ (A0_0 : Option Addr) (c0_0 : Nat) (l0_0 : List (S62)) (A0_1 : Option Addr) (c0_1 : Nat) (l0_1 : List (S56)) (a1 : Int) (a2 : Int) (r : ByteArray) (w : World) (hr0_0 : Kd.C k62 w A0_0 l0_0.length l0_0) (hc0_0 : l0_0.length ≤ c0_0) (hr0_1 : Kd.C k56 w A0_1 l0_1.length l0_1) (hc0_1 : l0_1.length ≤ c0_1) (hTab : TabW w) (h : impl_showStep.f k l0_0 l0_1 a1 a2 = some r),
  Calls Tryz.prog 48 #[.agg #[.slice A0_0 l0_0.length c0_0, .slice A0_1 l0_1.length c0_1], .int .i64 a1, .int .i64 a2] w fun e w' => e = .returned (.string r) ∧ Below w.heap.size w w' := (impl_showStep.allO k).2

end Go.Proofs.YtcoapbnbakmkoaaGreatDoor.PFnExactShowStep
