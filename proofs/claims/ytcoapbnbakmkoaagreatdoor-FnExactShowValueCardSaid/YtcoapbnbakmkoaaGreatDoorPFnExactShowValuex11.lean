/- Written by a program of this session (a turned copy of the kit's print): a contract for each Go function. No condition beside those in each statement. -/
import Derived.Test.YtcoapbnbakmkoaaGreatDoorPFnExactShowValuex0
import Derived.Test.YtcoapbnbakmkoaaGreatDoorPFnExactShowValuex7
import Derived.Test.YtcoapbnbakmkoaaGreatDoorPFnExactShowValuex10
namespace Go.Proofs.YtcoapbnbakmkoaaGreatDoor.PFnExactShowValue
open Go.RowKit Go.Proofs.YtcoapbnbakmkoaaGreatDoor.Given Go.Proofs.YtcoapbnbakmkoaaGreatDoorW.PrintWords Go.Proofs.YtcoapbnbakmkoaaGreatDoorW.PrintLast Go.Proofs.YtcoapbnbakmkoaaGreatDoorW.PrintMore
attribute [local go_sem] max2_int min2_int max_two min_two max_three min_three max_four min_four   -- for this text's walks alone
set_option linter.unusedVariables false
set_option linter.unusedSimpArgs false

/-! ### impl_showValue: function 57 -/
/-! ### impl_showIn: function 86 -/
mutual
def impl_showIn.f : Nat → List (S62) → List (S56) → Int → Option (ByteArray)
  | 0, _, _, _ => none
  | k + 1, l0_0, l0_1, a1 => if 0 ≤ a1 then (if a1 < (l0_0.length : Int) then ((impl_in.f ((rd_T62 l0_0 a1).f0) 9 11).bind fun t336 => (if t336 = true then ((impl_showValue.f k l0_0 l0_1 a1).bind fun t337 => (if 1 + t337.size ≤ 9223372036854775807 then (if ((⟨#[40]⟩ : ByteArray) ++ t337).size + 1 ≤ 9223372036854775807 then (some (((⟨#[40]⟩ : ByteArray) ++ t337) ++ (⟨#[41]⟩ : ByteArray))) else (none)) else (none))) else ((impl_showValue.f k l0_0 l0_1 a1).bind fun t338 => (some t338)))) else (none)) else (none)
def impl_showValue.l0 : Nat → List ByteArray → List Int → Int → Int → List (S62) → List (S56) → Int → Int → ByteArray → List Int → Option (ByteArray)
  | 0, _, _, _, _, _, _, _, _, _, _ => none
  | k + 1, x6, x103, x104, x105, x340000, x340001, x342000, x342001, x342002, x342003 => if x105 < x104 then (if 0 ≤ x105 then (if x105 < (x103.length : Int) then ((impl_showValue.f k x340000 x340001 (rd x103 x105)).bind fun t358 => (if x6.length < 8796093022208 then (impl_showValue.l0 k (x6 ++ [t358]) x103 x104 (wrap64 (x105 + 1)) x340000 x340001 x342000 x342001 x342002 x342003) else (none))) else (none)) else (none)) else (if x342002.size + 1 ≤ 9223372036854775807 then ((strings_Join.f x6 (⟨#[44, 32]⟩ : ByteArray)).bind fun t362 => (if (x342002 ++ (⟨#[40]⟩ : ByteArray)).size + t362.size ≤ 9223372036854775807 then (if ((x342002 ++ (⟨#[40]⟩ : ByteArray)) ++ t362).size + 1 ≤ 9223372036854775807 then (some (((x342002 ++ (⟨#[40]⟩ : ByteArray)) ++ t362) ++ (⟨#[41]⟩ : ByteArray))) else (none)) else (none))) else (none))
def impl_showValue.f : Nat → List (S62) → List (S56) → Int → Option (ByteArray)
  | 0, _, _, _ => none
  | k + 1, l0_0, l0_1, a1 => if 0 ≤ a1 then (if a1 < (l0_0.length : Int) then (if ((rd_T62 l0_0 a1).f0) = 1 then ((impl_Decimal.f ((rd_T62 l0_0 a1).f1)).bind fun t342 => (some t342)) else (if ((rd_T62 l0_0 a1).f0) = 3 then (if 1 + ((rd_T62 l0_0 a1).f2).size ≤ 9223372036854775807 then (some ((⟨#[42]⟩ : ByteArray) ++ ((rd_T62 l0_0 a1).f2))) else (none)) else (if ((rd_T62 l0_0 a1).f0) = 4 then (if 6 + ((rd_T62 l0_0 a1).f2).size ≤ 9223372036854775807 then (some ((⟨#[99, 108, 111, 110, 101, 32]⟩ : ByteArray) ++ ((rd_T62 l0_0 a1).f2))) else (none)) else (if ((rd_T62 l0_0 a1).f0) = 5 then (if 1 + ((rd_T62 l0_0 a1).f2).size ≤ 9223372036854775807 then (some ((⟨#[38]⟩ : ByteArray) ++ ((rd_T62 l0_0 a1).f2))) else (none)) else (if ((rd_T62 l0_0 a1).f0) = 6 then (if 5 + ((rd_T62 l0_0 a1).f2).size ≤ 9223372036854775807 then (some ((⟨#[38, 109, 117, 116, 32]⟩ : ByteArray) ++ ((rd_T62 l0_0 a1).f2))) else (none)) else (if ((rd_T62 l0_0 a1).f0) = 7 then (some (⟨#[105, 110, 112, 117, 116]⟩ : ByteArray)) else (if ((rd_T62 l0_0 a1).f0) = 8 then (if 0 < (((rd_T62 l0_0 a1).f3).length : Int) then ((impl_showIn.f k l0_0 l0_1 (rd ((rd_T62 l0_0 a1).f3) 0)).bind fun t344 => (if 4 + t344.size ≤ 9223372036854775807 then (some ((⟨#[110, 101, 119, 32]⟩ : ByteArray) ++ t344)) else (none))) else (none)) else (if ((rd_T62 l0_0 a1).f0) = 9 then (if 0 < (((rd_T62 l0_0 a1).f3).length : Int) then ((impl_showIn.f k l0_0 l0_1 (rd ((rd_T62 l0_0 a1).f3) 0)).bind fun t346 => (if t346.size + 3 ≤ 9223372036854775807 then (if 1 < (((rd_T62 l0_0 a1).f3).length : Int) then ((impl_showIn.f k l0_0 l0_1 (rd ((rd_T62 l0_0 a1).f3) 1)).bind fun t348 => (if (t346 ++ (⟨#[32, 43, 32]⟩ : ByteArray)).size + t348.size ≤ 9223372036854775807 then (some ((t346 ++ (⟨#[32, 43, 32]⟩ : ByteArray)) ++ t348)) else (none))) else (none)) else (none))) else (none)) else (if ((rd_T62 l0_0 a1).f0) = 10 then (if 0 < (((rd_T62 l0_0 a1).f3).length : Int) then ((impl_showIn.f k l0_0 l0_1 (rd ((rd_T62 l0_0 a1).f3) 0)).bind fun t350 => (if t350.size + 3 ≤ 9223372036854775807 then (if 1 < (((rd_T62 l0_0 a1).f3).length : Int) then ((impl_showIn.f k l0_0 l0_1 (rd ((rd_T62 l0_0 a1).f3) 1)).bind fun t352 => (if (t350 ++ (⟨#[32, 60, 32]⟩ : ByteArray)).size + t352.size ≤ 9223372036854775807 then (some ((t350 ++ (⟨#[32, 60, 32]⟩ : ByteArray)) ++ t352)) else (none))) else (none)) else (none))) else (none)) else (if ((rd_T62 l0_0 a1).f0) = 11 then (if 0 < (((rd_T62 l0_0 a1).f3).length : Int) then ((impl_showIn.f k l0_0 l0_1 (rd ((rd_T62 l0_0 a1).f3) 0)).bind fun t354 => (if t354.size + 4 ≤ 9223372036854775807 then (if 1 < (((rd_T62 l0_0 a1).f3).length : Int) then ((impl_showIn.f k l0_0 l0_1 (rd ((rd_T62 l0_0 a1).f3) 1)).bind fun t356 => (if (t354 ++ (⟨#[32, 61, 61, 32]⟩ : ByteArray)).size + t356.size ≤ 9223372036854775807 then (some ((t354 ++ (⟨#[32, 61, 61, 32]⟩ : ByteArray)) ++ t356)) else (none))) else (none)) else (none))) else (none)) else (if ((rd_T62 l0_0 a1).f0) = 12 then (impl_showValue.l0 k ([] : List ByteArray) ((rd_T62 l0_0 a1).f3) (((rd_T62 l0_0 a1).f3).length : Int) 0 l0_0 l0_1 ((rd_T62 l0_0 a1).f0) ((rd_T62 l0_0 a1).f1) ((rd_T62 l0_0 a1).f2) ((rd_T62 l0_0 a1).f3)) else (some ((rd_T62 l0_0 a1).f2))))))))))))) else (none)) else (none)
end
theorem impl_showValue.mono_l : ∀ k, (∀ y0 y1 y2, LeO (impl_showIn.f k y0 y1 y2) (impl_showIn.f (k + 1) y0 y1 y2)) ∧ (∀ y0 y1 y2, LeO (impl_showValue.f k y0 y1 y2) (impl_showValue.f (k + 1) y0 y1 y2)) ∧ (∀ y0 y1 y2 y3 y4 y5 y6 y7 y8 y9, LeO (impl_showValue.l0 k y0 y1 y2 y3 y4 y5 y6 y7 y8 y9) (impl_showValue.l0 (k + 1) y0 y1 y2 y3 y4 y5 y6 y7 y8 y9))
  | 0 => ⟨fun _ _ _ r h => by simp [impl_showIn.f] at h, fun _ _ _ r h => by simp [impl_showValue.f] at h, fun _ _ _ _ _ _ _ _ _ _ r h => by simp [impl_showValue.l0] at h⟩
  | k + 1 => by
    obtain ⟨ih0, ih1, ih2⟩ := impl_showValue.mono_l k
    refine ⟨?_, ?_, ?_⟩
    · intro y0 y1 y2
      unfold impl_showIn.f
      repeat' first
      | (with_reducible exact ih0 _ _ _)
      | (with_reducible exact ih1 _ _ _)
      | (with_reducible exact ih2 _ _ _ _ _ _ _ _ _ _)
      | (with_reducible exact LeO.refl _)
      | (with_reducible exact LeO.none _)
      | (with_reducible refine LeO.ite ?_ ?_)
      | (with_reducible refine LeO.bind ?_ (fun _ => ?_))
      | exact ih0 _ _ _
      | exact ih1 _ _ _
      | exact ih2 _ _ _ _ _ _ _ _ _ _
      | exact LeO.none _
      | refine LeO.ite ?_ ?_
      | refine LeO.bind ?_ (fun _ => ?_)
    · intro y0 y1 y2
      unfold impl_showValue.f
      repeat' first
      | (with_reducible exact ih0 _ _ _)
      | (with_reducible exact ih1 _ _ _)
      | (with_reducible exact ih2 _ _ _ _ _ _ _ _ _ _)
      | (with_reducible exact LeO.refl _)
      | (with_reducible exact LeO.none _)
      | (with_reducible refine LeO.ite ?_ ?_)
      | (with_reducible refine LeO.bind ?_ (fun _ => ?_))
      | exact ih0 _ _ _
      | exact ih1 _ _ _
      | exact ih2 _ _ _ _ _ _ _ _ _ _
      | exact LeO.none _
      | refine LeO.ite ?_ ?_
      | refine LeO.bind ?_ (fun _ => ?_)
    · intro y0 y1 y2 y3 y4 y5 y6 y7 y8 y9
      unfold impl_showValue.l0
      repeat' first
      | (with_reducible exact ih0 _ _ _)
      | (with_reducible exact ih1 _ _ _)
      | (with_reducible exact ih2 _ _ _ _ _ _ _ _ _ _)
      | (with_reducible exact LeO.refl _)
      | (with_reducible exact LeO.none _)
      | (with_reducible refine LeO.ite ?_ ?_)
      | (with_reducible refine LeO.bind ?_ (fun _ => ?_))
      | exact ih0 _ _ _
      | exact ih1 _ _ _
      | exact ih2 _ _ _ _ _ _ _ _ _ _
      | exact LeO.none _
      | refine LeO.ite ?_ ?_
      | refine LeO.bind ?_ (fun _ => ?_)
theorem impl_showIn.mono : ∀ a0 a1 a2 k, LeO (impl_showIn.f k a0 a1 a2) (impl_showIn.f (k + 1) a0 a1 a2) := by
  intro a0 a1 a2 k
  obtain ⟨ih0, ih1, ih2⟩ := impl_showValue.mono_l k
  exact ih0 a0 a1 a2
theorem impl_showValue.mono : ∀ a0 a1 a2 k, LeO (impl_showValue.f k a0 a1 a2) (impl_showValue.f (k + 1) a0 a1 a2) := by
  intro a0 a1 a2 k
  obtain ⟨ih0, ih1, ih2⟩ := impl_showValue.mono_l k
  exact ih1 a0 a1 a2
abbrev impl_showIn.C (k : Nat) : Prop := ∀ (A0_0 : Option Addr) (c0_0 : Nat) (l0_0 : List (S62)) (A0_1 : Option Addr) (c0_1 : Nat) (l0_1 : List (S56)) (a1 : Int) (r : ByteArray) (w : World) (hr0_0 : Kd.C k62 w A0_0 l0_0.length l0_0) (hc0_0 : l0_0.length ≤ c0_0) (hr0_1 : Kd.C k56 w A0_1 l0_1.length l0_1) (hc0_1 : l0_1.length ≤ c0_1) (hTab : TabW w) (h : impl_showIn.f k l0_0 l0_1 a1 = some r),
  Calls Tryz.prog 86 #[.agg #[.slice A0_0 l0_0.length c0_0, .slice A0_1 l0_1.length c0_1], .int .i64 a1] w fun e w' => e = .returned (.string r) ∧ Below w.heap.size w w'
abbrev impl_showValue.C (k : Nat) : Prop := ∀ (A0_0 : Option Addr) (c0_0 : Nat) (l0_0 : List (S62)) (A0_1 : Option Addr) (c0_1 : Nat) (l0_1 : List (S56)) (a1 : Int) (r : ByteArray) (w : World) (hr0_0 : Kd.C k62 w A0_0 l0_0.length l0_0) (hc0_0 : l0_0.length ≤ c0_0) (hr0_1 : Kd.C k56 w A0_1 l0_1.length l0_1) (hc0_1 : l0_1.length ≤ c0_1) (hTab : TabW w) (h : impl_showValue.f k l0_0 l0_1 a1 = some r),
  Calls Tryz.prog 57 #[.agg #[.slice A0_0 l0_0.length c0_0, .slice A0_1 l0_1.length c0_1], .int .i64 a1] w fun e w' => e = .returned (.string r) ∧ Below w.heap.size w w'
set_option maxHeartbeats 8000000 in
set_option maxRecDepth 100000 in
theorem impl_showIn.callsO (k : Nat) (ih : ∀ m_, m_ < k → impl_showIn.C m_) (ih_impl_showValue : ∀ m_, m_ < k → impl_showValue.C m_) : impl_showIn.C k := by
 intro A0_0 c0_0 l0_0 A0_1 c0_1 l0_1 a1 r w hr0_0 hc0_0 hr0_1 hc0_1 hTab h
 have HTAB := As.mk hTab
 clear hTab
 cases k with
 | zero => exact absurd h (by simp [impl_showIn.f])
 | succ k =>
 simp only [impl_showIn.f] at h
 have hu32 := Tryz.underlying32
 have HR0_0 := As.mk hr0_0
 have HC0_0 := As.mk hc0_0
 clear hr0_0 hc0_0
 have HR0_1 := As.mk hr0_1
 have HC0_1 := As.mk hc0_1
 clear hr0_1 hc0_1
 have HB := As.mk (Below.refl w.heap.size w)
 have H : (if 0 ≤ a1 then (if a1 < (l0_0.length : Int) then ((impl_in.f ((rd_T62 l0_0 a1).f0) 9 11).bind fun t336 => (if t336 = true then ((impl_showValue.f k l0_0 l0_1 a1).bind fun t337 => (if 1 + t337.size ≤ 9223372036854775807 then (if ((⟨#[40]⟩ : ByteArray) ++ t337).size + 1 ≤ 9223372036854775807 then (some (((⟨#[40]⟩ : ByteArray) ++ t337) ++ (⟨#[41]⟩ : ByteArray))) else (none)) else (none))) else ((impl_showValue.f k l0_0 l0_1 a1).bind fun t338 => (some t338)))) else (none)) else (none)) = some r := h
 clear h
 by_cases c3 : 0 ≤ a1
 rotate_left; · rw [if_neg c3] at H; exact absurd H (by simp)

 rw [if_pos c3] at H
 have c3b0 : decide (0 ≤ a1) = true := decide_eq_true c3
 clear c3
 by_cases c4 : a1 < (l0_0.length : Int)
 rotate_left; · rw [if_neg c4] at H; exact absurd H (by simp)
 rw [if_pos c4] at H
 have c4b0 : decide (a1 < (l0_0.length : Int)) = true := decide_eq_true c4
 clear c4
 obtain ⟨t336, A50, H⟩ := Option.bind_eq_some_iff.mp H
 try dsimp only at H
 have A5 := As.mk A50
 clear A50
 by_cases c6 : t336 = true
 rotate_left
 ·
  replace c6 := Bool.eq_false_iff.mpr c6
  subst c6
  rw [if_neg (show ¬ (false = true) by decide)] at H
  obtain ⟨t338, A130, H⟩ := Option.bind_eq_some_iff.mp H
  try dsimp only at H
  have A13 := As.mk A130
  clear A130
  obtain rfl := Option.some.inj H
  go_enter Tryz.func86, Tryz.ntmps86
  go_wp2_with (first | ((with_reducible refine gate_dst (N := 2) rfl ?_); refine box_event ?hg (N := 2) ?hd (cs := #[.slice A0_0 l0_0.length c0_0, .slice A0_1 l0_1.length c0_1]) (t := 32) ?hr ?_; (case hd => rfl); (case hg => rfl); (case hr => first | (go_simp; done) | (go_simp; rfl)); intro gb334 hg w14 hbox hb; have BK334 := As.mk (hbox); have GW334 := As.mk (gs w hg); have GE334 := As.mk (gs w hg); replace HB := As.mk (below_step (be w) hb); clear hb hbox hg; obtain ⟨hcz15_0, hcz15_1, hfz15_0, hfz15_1⟩ := cl2 BK334.out; have p335 : 0 ≤ (a1 : Int) := od; have q335 : a1 < (l0_0.length : Int) := od; obtain ⟨ad335, A335_3, c335_3, e335, hx335_0, hx335_1, hx335_2, hx335_3, hl335_3, hi335_3⟩ := at_T62 HR0_0.out a1 p335 q335; cases e335; replace hx335_0 := ce HB.out hx335_0; replace hx335_1 := ce HB.out hx335_1; replace hx335_2 := ce HB.out hx335_2; replace hx335_3 := ce HB.out hx335_3; have HR335_3 := As.mk hi335_3; have HC335_3 := As.mk hl335_3; clear hi335_3 hl335_3; replace p335 := eq_true p335; replace q335 := eq_true q335) | ((with_reducible refine gate_callee (f := 36) rfl ?_); refine goesL_ (some 11) rfl rfl Tryz.func36 (by kernel_rfl) rfl #[.int .i64 ((rd_T62 l0_0 a1).f0), .int .i64 9, .int .i64 11] rfl (by (try simp only [lm]); first | done | rfl | (simp only [List.length_drop, List.length_take]; rfl)) ?_; (with_reducible refine (impl_in.calls ((rd_T62 l0_0 a1).f0) 9 11 false _ A5.out).mono ?_); rintro e w' ⟨rfl, ⟨nd, rfl⟩⟩; refine ⟨_, rfl, ?_⟩) | ((with_reducible refine gate_callee (f := 57) rfl ?_); refine goesL_ (some 19) rfl rfl Tryz.func57 (by kernel_rfl) rfl #[.agg #[.slice (some ad335) l0_0.length c0_0, .slice A0_1 l0_1.length c0_1], .int .i64 a1] rfl (by (try simp only [lm]); first | done | rfl | (simp only [List.length_drop, List.length_take]; rfl)) ?_; (with_reducible refine (ih_impl_showValue k (by omega) _ _ l0_0 _ _ l0_1 a1 t338 _ ?side1 ?side2 ?side3 ?side4 (by first | (with_reducible exact HTAB.out) | exact tabW_below HTAB.out (be w)) A13.out).mono ?_); (case side1 => exact Kd.C_below HR0_0.out (be w)); (case side2 => exact HC0_0.out); (case side3 => exact Kd.C_below HR0_1.out (be w)); (case side4 => exact HC0_1.out); rintro e w16 ⟨rfl, hb⟩; refine ⟨_, rfl, ?_⟩; replace HB := As.mk (below_step (be w) hb); (try clear hb); (try clear hb2); (try clear hk); (try clear hi)))
  go_ret
  exact ⟨ez, be w⟩
 subst c6
 rw [if_pos rfl] at H
 obtain ⟨t337, A70, H⟩ := Option.bind_eq_some_iff.mp H
 try dsimp only at H
 have A7 := As.mk A70
 clear A70
 by_cases c8 : 1 + t337.size ≤ 9223372036854775807
 rotate_left; · rw [if_neg c8] at H; exact absurd H (by simp)
 rw [if_pos c8] at H
 have c8b0 := eq_true c8
 have c8b1 : decide (1 + t337.size ≤ 9223372036854775807) = true := decide_eq_true c8
 try have c8b2 : (9223372036854775807 < 1 + t337.size) = False := eq_false (Nat.not_lt.2 c8)
 by_cases c9 : ((⟨#[40]⟩ : ByteArray) ++ t337).size + 1 ≤ 9223372036854775807
 rotate_left; · rw [if_neg c9] at H; exact absurd H (by simp)
 rw [if_pos c9] at H
 have c9b0 := eq_true c9
 have c9b1 : decide (((⟨#[40]⟩ : ByteArray) ++ t337).size + 1 ≤ 9223372036854775807) = true := decide_eq_true c9
 try have c9b2 : (9223372036854775807 < ((⟨#[40]⟩ : ByteArray) ++ t337).size + 1) = False := eq_false (Nat.not_lt.2 c9)
 try have c9b4 : (9223372036854775807 < 1 + t337.size + 1) = False := eq_false (Nat.not_lt.2 (by have h_ := c9; simp only [ByteArray.size_append] at h_; exact h_))
 obtain rfl := Option.some.inj H
 go_enter Tryz.func86, Tryz.ntmps86
 go_wp2_with (first | ((with_reducible refine gate_dst (N := 2) rfl ?_); refine box_event ?hg (N := 2) ?hd (cs := #[.slice A0_0 l0_0.length c0_0, .slice A0_1 l0_1.length c0_1]) (t := 32) ?hr ?_; (case hd => rfl); (case hg => rfl); (case hr => first | (go_simp; done) | (go_simp; rfl)); intro gb334 hg w10 hbox hb; have BK334 := As.mk (hbox); have GW334 := As.mk (gs w hg); have GE334 := As.mk (gs w hg); replace HB := As.mk (below_step (be w) hb); clear hb hbox hg; obtain ⟨hcz11_0, hcz11_1, hfz11_0, hfz11_1⟩ := cl2 BK334.out; have p335 : 0 ≤ (a1 : Int) := od; have q335 : a1 < (l0_0.length : Int) := od; obtain ⟨ad335, A335_3, c335_3, e335, hx335_0, hx335_1, hx335_2, hx335_3, hl335_3, hi335_3⟩ := at_T62 HR0_0.out a1 p335 q335; cases e335; replace hx335_0 := ce HB.out hx335_0; replace hx335_1 := ce HB.out hx335_1; replace hx335_2 := ce HB.out hx335_2; replace hx335_3 := ce HB.out hx335_3; have HR335_3 := As.mk hi335_3; have HC335_3 := As.mk hl335_3; clear hi335_3 hl335_3; replace p335 := eq_true p335; replace q335 := eq_true q335) | ((with_reducible refine gate_callee (f := 36) rfl ?_); refine goesL_ (some 11) rfl rfl Tryz.func36 (by kernel_rfl) rfl #[.int .i64 ((rd_T62 l0_0 a1).f0), .int .i64 9, .int .i64 11] rfl (by (try simp only [lm]); first | done | rfl | (simp only [List.length_drop, List.length_take]; rfl)) ?_; (with_reducible refine (impl_in.calls ((rd_T62 l0_0 a1).f0) 9 11 true _ A5.out).mono ?_); rintro e w' ⟨rfl, ⟨nd, rfl⟩⟩; refine ⟨_, rfl, ?_⟩) | ((with_reducible refine gate_callee (f := 57) rfl ?_); refine goesL_ (some 14) rfl rfl Tryz.func57 (by kernel_rfl) rfl #[.agg #[.slice (some ad335) l0_0.length c0_0, .slice A0_1 l0_1.length c0_1], .int .i64 a1] rfl (by (try simp only [lm]); first | done | rfl | (simp only [List.length_drop, List.length_take]; rfl)) ?_; (with_reducible refine (ih_impl_showValue k (by omega) _ _ l0_0 _ _ l0_1 a1 t337 _ ?side1 ?side2 ?side3 ?side4 (by first | (with_reducible exact HTAB.out) | exact tabW_below HTAB.out (be w)) A7.out).mono ?_); (case side1 => exact Kd.C_below HR0_0.out (be w)); (case side2 => exact HC0_0.out); (case side3 => exact Kd.C_below HR0_1.out (be w)); (case side4 => exact HC0_1.out); rintro e w12 ⟨rfl, hb⟩; refine ⟨_, rfl, ?_⟩; replace HB := As.mk (below_step (be w) hb); (try clear hb); (try clear hb2); (try clear hk); (try clear hi)))
 go_ret
 exact ⟨ez, be w⟩
def impl_showValue.T16 : Bool × List (List Nat × List Nat) := (true, [([], []), ([], []), ([1], [1]), ([2], [2]), ([3], [3]), ([0, 4], [0, 4]), ([5], [5]), ([6, 5, 0, 1, 2, 3, 4, 5, 6], [6])])
def impl_showValue.B16 : List Nat := [0, 0, 2, 6, 14, 31, 63, 127]
theorem impl_showValue.tab16 : rtab .any (opsOf Tryz.f57 16) = impl_showValue.T16 := by kernel_rfl
theorem impl_showValue.bits16 : waitsOk impl_showValue.T16.2 impl_showValue.B16 = true := by kernel_rfl
def impl_showValue.T18 : Bool × List (List Nat × List Nat) := (true, [([], []), ([], []), ([1], [1]), ([2], [2]), ([3], [3]), ([0, 4], [0, 4]), ([5], [5]), ([], []), ([], []), ([8], [8]), ([9], [9]), ([10], [10]), ([7, 11, 5], [7, 11]), ([6, 12], [6, 12]), ([13, 12, 0, 1, 2, 3, 4, 5, 6, 7, 8, 9, 10, 11, 12, 13], [13])])
def impl_showValue.B18 : List Nat := [0, 0, 2, 6, 14, 31, 63, 0, 0, 256, 768, 1792, 4031, 8191, 16383]
theorem impl_showValue.tab18 : rtab .any (opsOf Tryz.f57 18) = impl_showValue.T18 := by kernel_rfl
theorem impl_showValue.bits18 : waitsOk impl_showValue.T18.2 impl_showValue.B18 = true := by kernel_rfl
def impl_showValue.T20 : Bool × List (List Nat × List Nat) := (true, [([], []), ([], []), ([1], [1]), ([2], [2]), ([3], [3]), ([0, 4], [0, 4]), ([5], [5]), ([], []), ([], []), ([8], [8]), ([9], [9]), ([10], [10]), ([7, 11, 5], [7, 11]), ([6, 12], [6, 12]), ([13, 12, 0, 1, 2, 3, 4, 5, 6, 7, 8, 9, 10, 11, 12, 13], [13])])
def impl_showValue.B20 : List Nat := [0, 0, 2, 6, 14, 31, 63, 0, 0, 256, 768, 1792, 4031, 8191, 16383]
theorem impl_showValue.tab20 : rtab .any (opsOf Tryz.f57 20) = impl_showValue.T20 := by kernel_rfl
theorem impl_showValue.bits20 : waitsOk impl_showValue.T20.2 impl_showValue.B20 = true := by kernel_rfl
def impl_showValue.T22 : Bool × List (List Nat × List Nat) := (true, [([], []), ([], []), ([1], [1]), ([2], [2]), ([3], [3]), ([0, 4], [0, 4]), ([5], [5]), ([], []), ([], []), ([8], [8]), ([9], [9]), ([10], [10]), ([7, 11, 5], [7, 11]), ([6, 12], [6, 12]), ([13, 12, 0, 1, 2, 3, 4, 5, 6, 7, 8, 9, 10, 11, 12, 13], [13])])
def impl_showValue.B22 : List Nat := [0, 0, 2, 6, 14, 31, 63, 0, 0, 256, 768, 1792, 4031, 8191, 16383]
theorem impl_showValue.tab22 : rtab .any (opsOf Tryz.f57 22) = impl_showValue.T22 := by kernel_rfl
theorem impl_showValue.bits22 : waitsOk impl_showValue.T22.2 impl_showValue.B22 = true := by kernel_rfl
def impl_showValue.T30 : Bool × List (List Nat × List Nat) := (true, [([], []), ([0], [0]), ([1], [1]), ([], []), ([3], [3]), ([2, 4], [2, 4]), ([5], [5]), ([6, 4, 0, 1, 2, 3, 4, 5, 6], [6])])
def impl_showValue.B30 : List Nat := [0, 1, 3, 0, 8, 31, 63, 127]
theorem impl_showValue.tab30 : rtab .any (opsOf Tryz.f57 30) = impl_showValue.T30 := by kernel_rfl
theorem impl_showValue.bits30 : waitsOk impl_showValue.T30.2 impl_showValue.B30 = true := by kernel_rfl
set_option maxHeartbeats 8000000 in
set_option maxRecDepth 100000 in
theorem impl_showValue.callsO (k : Nat) (ih_impl_showIn : ∀ m_, m_ < k → impl_showIn.C m_) (ih : ∀ m_, m_ < k → impl_showValue.C m_) : impl_showValue.C k := by
 intro A0_0 c0_0 l0_0 A0_1 c0_1 l0_1 a1 r w hr0_0 hc0_0 hr0_1 hc0_1 hTab h
 have HTAB := As.mk hTab
 clear hTab
 cases k with
 | zero => exact absurd h (by simp [impl_showValue.f])
 | succ k =>
 simp only [impl_showValue.f] at h
 have hu32 := Tryz.underlying32
 have hu62 := Tryz.underlying62
 have HR0_0 := As.mk hr0_0
 have HC0_0 := As.mk hc0_0
 clear hr0_0 hc0_0
 have HR0_1 := As.mk hr0_1
 have HC0_1 := As.mk hc0_1
 clear hr0_1 hc0_1
 have HB := As.mk (Below.refl w.heap.size w)
 have H : (if 0 ≤ a1 then (if a1 < (l0_0.length : Int) then (if ((rd_T62 l0_0 a1).f0) = 1 then ((impl_Decimal.f ((rd_T62 l0_0 a1).f1)).bind fun t342 => (some t342)) else (if ((rd_T62 l0_0 a1).f0) = 3 then (if 1 + ((rd_T62 l0_0 a1).f2).size ≤ 9223372036854775807 then (some ((⟨#[42]⟩ : ByteArray) ++ ((rd_T62 l0_0 a1).f2))) else (none)) else (if ((rd_T62 l0_0 a1).f0) = 4 then (if 6 + ((rd_T62 l0_0 a1).f2).size ≤ 9223372036854775807 then (some ((⟨#[99, 108, 111, 110, 101, 32]⟩ : ByteArray) ++ ((rd_T62 l0_0 a1).f2))) else (none)) else (if ((rd_T62 l0_0 a1).f0) = 5 then (if 1 + ((rd_T62 l0_0 a1).f2).size ≤ 9223372036854775807 then (some ((⟨#[38]⟩ : ByteArray) ++ ((rd_T62 l0_0 a1).f2))) else (none)) else (if ((rd_T62 l0_0 a1).f0) = 6 then (if 5 + ((rd_T62 l0_0 a1).f2).size ≤ 9223372036854775807 then (some ((⟨#[38, 109, 117, 116, 32]⟩ : ByteArray) ++ ((rd_T62 l0_0 a1).f2))) else (none)) else (if ((rd_T62 l0_0 a1).f0) = 7 then (some (⟨#[105, 110, 112, 117, 116]⟩ : ByteArray)) else (if ((rd_T62 l0_0 a1).f0) = 8 then (if 0 < (((rd_T62 l0_0 a1).f3).length : Int) then ((impl_showIn.f k l0_0 l0_1 (rd ((rd_T62 l0_0 a1).f3) 0)).bind fun t344 => (if 4 + t344.size ≤ 9223372036854775807 then (some ((⟨#[110, 101, 119, 32]⟩ : ByteArray) ++ t344)) else (none))) else (none)) else (if ((rd_T62 l0_0 a1).f0) = 9 then (if 0 < (((rd_T62 l0_0 a1).f3).length : Int) then ((impl_showIn.f k l0_0 l0_1 (rd ((rd_T62 l0_0 a1).f3) 0)).bind fun t346 => (if t346.size + 3 ≤ 9223372036854775807 then (if 1 < (((rd_T62 l0_0 a1).f3).length : Int) then ((impl_showIn.f k l0_0 l0_1 (rd ((rd_T62 l0_0 a1).f3) 1)).bind fun t348 => (if (t346 ++ (⟨#[32, 43, 32]⟩ : ByteArray)).size + t348.size ≤ 9223372036854775807 then (some ((t346 ++ (⟨#[32, 43, 32]⟩ : ByteArray)) ++ t348)) else (none))) else (none)) else (none))) else (none)) else (if ((rd_T62 l0_0 a1).f0) = 10 then (if 0 < (((rd_T62 l0_0 a1).f3).length : Int) then ((impl_showIn.f k l0_0 l0_1 (rd ((rd_T62 l0_0 a1).f3) 0)).bind fun t350 => (if t350.size + 3 ≤ 9223372036854775807 then (if 1 < (((rd_T62 l0_0 a1).f3).length : Int) then ((impl_showIn.f k l0_0 l0_1 (rd ((rd_T62 l0_0 a1).f3) 1)).bind fun t352 => (if (t350 ++ (⟨#[32, 60, 32]⟩ : ByteArray)).size + t352.size ≤ 9223372036854775807 then (some ((t350 ++ (⟨#[32, 60, 32]⟩ : ByteArray)) ++ t352)) else (none))) else (none)) else (none))) else (none)) else (if ((rd_T62 l0_0 a1).f0) = 11 then (if 0 < (((rd_T62 l0_0 a1).f3).length : Int) then ((impl_showIn.f k l0_0 l0_1 (rd ((rd_T62 l0_0 a1).f3) 0)).bind fun t354 => (if t354.size + 4 ≤ 9223372036854775807 then (if 1 < (((rd_T62 l0_0 a1).f3).length : Int) then ((impl_showIn.f k l0_0 l0_1 (rd ((rd_T62 l0_0 a1).f3) 1)).bind fun t356 => (if (t354 ++ (⟨#[32, 61, 61, 32]⟩ : ByteArray)).size + t356.size ≤ 9223372036854775807 then (some ((t354 ++ (⟨#[32, 61, 61, 32]⟩ : ByteArray)) ++ t356)) else (none))) else (none)) else (none))) else (none)) else (if ((rd_T62 l0_0 a1).f0) = 12 then (impl_showValue.l0 k ([] : List ByteArray) ((rd_T62 l0_0 a1).f3) (((rd_T62 l0_0 a1).f3).length : Int) 0 l0_0 l0_1 ((rd_T62 l0_0 a1).f0) ((rd_T62 l0_0 a1).f1) ((rd_T62 l0_0 a1).f2) ((rd_T62 l0_0 a1).f3)) else (some ((rd_T62 l0_0 a1).f2))))))))))))) else (none)) else (none)) = some r := h
 clear h
 by_cases c3 : 0 ≤ a1
 rotate_left; · rw [if_neg c3] at H; exact absurd H (by simp)

 rw [if_pos c3] at H
 have c3b0 : decide (0 ≤ a1) = true := decide_eq_true c3
 clear c3
 by_cases c4 : a1 < (l0_0.length : Int)
 rotate_left; · rw [if_neg c4] at H; exact absurd H (by simp)
 rw [if_pos c4] at H
 have c4b0 : decide (a1 < (l0_0.length : Int)) = true := decide_eq_true c4
 clear c4
 by_cases c5 : ((rd_T62 l0_0 a1).f0) = 1
 ·
  rw [if_pos c5] at H
  have c5b0 : (((rd_T62 l0_0 a1).f0) == 1) = true := beq_iff_eq.mpr c5
  have c5b1 : (((rd_T62 l0_0 a1).f0) != 1) = false := bne_eq_false_iff_eq.mpr c5
  clear c5
  obtain ⟨t342, A60, H⟩ := Option.bind_eq_some_iff.mp H
  try dsimp only at H
  have A6 := As.mk A60
  clear A60
  obtain rfl := Option.some.inj H
  go_enter Tryz.func57, Tryz.ntmps57
  go_wp2_with (first | ((with_reducible refine gate_dst (N := 2) rfl ?_); refine box_event ?hg (N := 2) ?hd (cs := #[.slice A0_0 l0_0.length c0_0, .slice A0_1 l0_1.length c0_1]) (t := 32) ?hr ?_; (case hd => rfl); (case hg => rfl); (case hr => first | (go_simp; done) | (go_simp; rfl)); intro gb339 hg w7 hbox hb; have BK339 := As.mk (hbox); have GW339 := As.mk (gs w hg); have GE339 := As.mk (gs w hg); replace HB := As.mk (below_step (be w) hb); clear hb hbox hg; obtain ⟨hcz8_0, hcz8_1, hfz8_0, hfz8_1⟩ := cl2 BK339.out; have p340 : 0 ≤ (a1 : Int) := od; have q340 : a1 < (l0_0.length : Int) := od; obtain ⟨ad340, A340_3, c340_3, e340, hx340_0, hx340_1, hx340_2, hx340_3, hl340_3, hi340_3⟩ := at_T62 HR0_0.out a1 p340 q340; cases e340; replace hx340_0 := ce HB.out hx340_0; replace hx340_1 := ce HB.out hx340_1; replace hx340_2 := ce HB.out hx340_2; replace hx340_3 := ce HB.out hx340_3; have HR340_3 := As.mk hi340_3; have HC340_3 := As.mk hl340_3; clear hi340_3 hl340_3; replace p340 := eq_true p340; replace q340 := eq_true q340) | ((with_reducible refine gate_dst (N := 5) rfl ?_); refine box_event ?hg (N := 5) ?hd (cs := #[.int .i64 0, .int .i64 0, .string (⟨#[]⟩ : ByteArray), .slice none 0 0]) (t := 62) ?hr ?_; (case hd => rfl); (case hg => rfl); (case hr => first | (go_simp; done) | (go_simp; rfl)); intro gb341 hg w9 hbox hb; have BK341 := As.mk (hbox); have GW341 := As.mk (gs w hg); have GE341 := As.mk (gs w hg); replace HB := As.mk (below_step (be w) hb); clear hb hbox hg; obtain ⟨hcz10_0, hcz10_1, hcz10_2, hcz10_3, hfz10_0, hfz10_1, hfz10_2, hfz10_3⟩ := cl4 BK341.out) | ((with_reducible refine gate_callee (f := 85) rfl ?_); refine goesL_ (some 20) rfl rfl Tryz.func85 (by kernel_rfl) rfl #[.int .i64 ((rd_T62 l0_0 a1).f1)] rfl (by (try simp only [lm]); first | done | rfl | (simp only [List.length_drop, List.length_take]; rfl)) ?_; (with_reducible refine (impl_Decimal.calls ((rd_T62 l0_0 a1).f1) t342 _ (by first | (with_reducible exact HTAB.out) | exact tabW_below HTAB.out (be w)) A6.out).mono ?_); rintro e w11 ⟨rfl, hb⟩; refine ⟨_, rfl, ?_⟩; replace BK341 := As.mk (blk_below (g := gb341) (o := .cells #[.int .i64 ((rd_T62 l0_0 a1).f0), .int .i64 ((rd_T62 l0_0 a1).f1), .string ((rd_T62 l0_0 a1).f2), .slice A340_3 ((rd_T62 l0_0 a1).f3).length c340_3] 62 (0, 0)) (by refine pl ?_; refine blk_put (cs := #[.int .i64 ((rd_T62 l0_0 a1).f0), .int .i64 ((rd_T62 l0_0 a1).f1), .string ((rd_T62 l0_0 a1).f2), .slice none 0 0]) ?_ 3 _ rfl; refine pl ?_; refine blk_put (cs := #[.int .i64 ((rd_T62 l0_0 a1).f0), .int .i64 ((rd_T62 l0_0 a1).f1), .string (⟨#[]⟩ : ByteArray), .slice none 0 0]) ?_ 2 _ rfl; refine pl ?_; refine blk_put (cs := #[.int .i64 ((rd_T62 l0_0 a1).f0), .int .i64 0, .string (⟨#[]⟩ : ByteArray), .slice none 0 0]) ?_ 1 _ rfl; refine pl ?_; refine blk_put (cs := #[.int .i64 0, .int .i64 0, .string (⟨#[]⟩ : ByteArray), .slice none 0 0]) ?_ 0 _ rfl; exact bx BK341.out) hb); replace HB := As.mk (below_step (be w) hb); (try clear hb); (try clear hb2); (try clear hk); (try clear hi)))
  go_ret
  exact ⟨ez, be w⟩
 rw [if_neg c5] at H
 have c5b0 : (((rd_T62 l0_0 a1).f0) == 1) = false := beq_eq_false_iff_ne.mpr c5
 have c5b1 : (((rd_T62 l0_0 a1).f0) != 1) = true := bne_iff_ne.mpr c5
 by_cases c12 : ((rd_T62 l0_0 a1).f0) = 3
 ·
  rw [if_pos c12] at H
  have c12b0 : (((rd_T62 l0_0 a1).f0) == 3) = true := beq_iff_eq.mpr c12
  have c12b1 : (((rd_T62 l0_0 a1).f0) != 3) = false := bne_eq_false_iff_eq.mpr c12
  clear c12
  by_cases c13 : 1 + ((rd_T62 l0_0 a1).f2).size ≤ 9223372036854775807
  rotate_left; · rw [if_neg c13] at H; exact absurd H (by simp)
  rw [if_pos c13] at H
  have c13b0 := eq_true c13
  have c13b1 : decide (1 + ((rd_T62 l0_0 a1).f2).size ≤ 9223372036854775807) = true := decide_eq_true c13
  try have c13b2 : (9223372036854775807 < 1 + ((rd_T62 l0_0 a1).f2).size) = False := eq_false (Nat.not_lt.2 c13)
  obtain rfl := Option.some.inj H
  go_enter Tryz.func57, Tryz.ntmps57
  go_wp2_with (first | ((with_reducible refine gate_dst (N := 2) rfl ?_); refine box_event ?hg (N := 2) ?hd (cs := #[.slice A0_0 l0_0.length c0_0, .slice A0_1 l0_1.length c0_1]) (t := 32) ?hr ?_; (case hd => rfl); (case hg => rfl); (case hr => first | (go_simp; done) | (go_simp; rfl)); intro gb339 hg w14 hbox hb; have BK339 := As.mk (hbox); have GW339 := As.mk (gs w hg); have GE339 := As.mk (gs w hg); replace HB := As.mk (below_step (be w) hb); clear hb hbox hg; obtain ⟨hcz15_0, hcz15_1, hfz15_0, hfz15_1⟩ := cl2 BK339.out; have p340 : 0 ≤ (a1 : Int) := od; have q340 : a1 < (l0_0.length : Int) := od; obtain ⟨ad340, A340_3, c340_3, e340, hx340_0, hx340_1, hx340_2, hx340_3, hl340_3, hi340_3⟩ := at_T62 HR0_0.out a1 p340 q340; cases e340; replace hx340_0 := ce HB.out hx340_0; replace hx340_1 := ce HB.out hx340_1; replace hx340_2 := ce HB.out hx340_2; replace hx340_3 := ce HB.out hx340_3; have HR340_3 := As.mk hi340_3; have HC340_3 := As.mk hl340_3; clear hi340_3 hl340_3; replace p340 := eq_true p340; replace q340 := eq_true q340) | ((with_reducible refine gate_dst (N := 5) rfl ?_); refine box_event ?hg (N := 5) ?hd (cs := #[.int .i64 0, .int .i64 0, .string (⟨#[]⟩ : ByteArray), .slice none 0 0]) (t := 62) ?hr ?_; (case hd => rfl); (case hg => rfl); (case hr => first | (go_simp; done) | (go_simp; rfl)); intro gb341 hg w16 hbox hb; have BK341 := As.mk (hbox); have GW341 := As.mk (gs w hg); have GE341 := As.mk (gs w hg); replace HB := As.mk (below_step (be w) hb); clear hb hbox hg; obtain ⟨hcz17_0, hcz17_1, hcz17_2, hcz17_3, hfz17_0, hfz17_1, hfz17_2, hfz17_3⟩ := cl4 BK341.out))
  go_ret
  exact ⟨ez, be w⟩
 rw [if_neg c12] at H
 have c12b0 : (((rd_T62 l0_0 a1).f0) == 3) = false := beq_eq_false_iff_ne.mpr c12
 have c12b1 : (((rd_T62 l0_0 a1).f0) != 3) = true := bne_iff_ne.mpr c12
 by_cases c18 : ((rd_T62 l0_0 a1).f0) = 4
 ·
  rw [if_pos c18] at H
  have c18b0 : (((rd_T62 l0_0 a1).f0) == 4) = true := beq_iff_eq.mpr c18
  have c18b1 : (((rd_T62 l0_0 a1).f0) != 4) = false := bne_eq_false_iff_eq.mpr c18
  clear c18
  by_cases c19 : 6 + ((rd_T62 l0_0 a1).f2).size ≤ 9223372036854775807
  rotate_left; · rw [if_neg c19] at H; exact absurd H (by simp)
  rw [if_pos c19] at H
  have c19b0 := eq_true c19
  have c19b1 : decide (6 + ((rd_T62 l0_0 a1).f2).size ≤ 9223372036854775807) = true := decide_eq_true c19
  try have c19b2 : (9223372036854775807 < 6 + ((rd_T62 l0_0 a1).f2).size) = False := eq_false (Nat.not_lt.2 c19)
  obtain rfl := Option.some.inj H
  go_enter Tryz.func57, Tryz.ntmps57
  go_wp2_with (first | ((with_reducible refine gate_dst (N := 2) rfl ?_); refine box_event ?hg (N := 2) ?hd (cs := #[.slice A0_0 l0_0.length c0_0, .slice A0_1 l0_1.length c0_1]) (t := 32) ?hr ?_; (case hd => rfl); (case hg => rfl); (case hr => first | (go_simp; done) | (go_simp; rfl)); intro gb339 hg w20 hbox hb; have BK339 := As.mk (hbox); have GW339 := As.mk (gs w hg); have GE339 := As.mk (gs w hg); replace HB := As.mk (below_step (be w) hb); clear hb hbox hg; obtain ⟨hcz21_0, hcz21_1, hfz21_0, hfz21_1⟩ := cl2 BK339.out; have p340 : 0 ≤ (a1 : Int) := od; have q340 : a1 < (l0_0.length : Int) := od; obtain ⟨ad340, A340_3, c340_3, e340, hx340_0, hx340_1, hx340_2, hx340_3, hl340_3, hi340_3⟩ := at_T62 HR0_0.out a1 p340 q340; cases e340; replace hx340_0 := ce HB.out hx340_0; replace hx340_1 := ce HB.out hx340_1; replace hx340_2 := ce HB.out hx340_2; replace hx340_3 := ce HB.out hx340_3; have HR340_3 := As.mk hi340_3; have HC340_3 := As.mk hl340_3; clear hi340_3 hl340_3; replace p340 := eq_true p340; replace q340 := eq_true q340) | ((with_reducible refine gate_dst (N := 5) rfl ?_); refine box_event ?hg (N := 5) ?hd (cs := #[.int .i64 0, .int .i64 0, .string (⟨#[]⟩ : ByteArray), .slice none 0 0]) (t := 62) ?hr ?_; (case hd => rfl); (case hg => rfl); (case hr => first | (go_simp; done) | (go_simp; rfl)); intro gb341 hg w22 hbox hb; have BK341 := As.mk (hbox); have GW341 := As.mk (gs w hg); have GE341 := As.mk (gs w hg); replace HB := As.mk (below_step (be w) hb); clear hb hbox hg; obtain ⟨hcz23_0, hcz23_1, hcz23_2, hcz23_3, hfz23_0, hfz23_1, hfz23_2, hfz23_3⟩ := cl4 BK341.out))
  go_ret
  exact ⟨ez, be w⟩
 rw [if_neg c18] at H
 have c18b0 : (((rd_T62 l0_0 a1).f0) == 4) = false := beq_eq_false_iff_ne.mpr c18
 have c18b1 : (((rd_T62 l0_0 a1).f0) != 4) = true := bne_iff_ne.mpr c18
 by_cases c24 : ((rd_T62 l0_0 a1).f0) = 5
 ·
  rw [if_pos c24] at H
  have c24b0 : (((rd_T62 l0_0 a1).f0) == 5) = true := beq_iff_eq.mpr c24
  have c24b1 : (((rd_T62 l0_0 a1).f0) != 5) = false := bne_eq_false_iff_eq.mpr c24
  clear c24
  by_cases c25 : 1 + ((rd_T62 l0_0 a1).f2).size ≤ 9223372036854775807
  rotate_left; · rw [if_neg c25] at H; exact absurd H (by simp)
  rw [if_pos c25] at H
  have c25b0 := eq_true c25
  have c25b1 : decide (1 + ((rd_T62 l0_0 a1).f2).size ≤ 9223372036854775807) = true := decide_eq_true c25
  try have c25b2 : (9223372036854775807 < 1 + ((rd_T62 l0_0 a1).f2).size) = False := eq_false (Nat.not_lt.2 c25)
  obtain rfl := Option.some.inj H
  go_enter Tryz.func57, Tryz.ntmps57
  go_wp2_with (first | ((with_reducible refine gate_dst (N := 2) rfl ?_); refine box_event ?hg (N := 2) ?hd (cs := #[.slice A0_0 l0_0.length c0_0, .slice A0_1 l0_1.length c0_1]) (t := 32) ?hr ?_; (case hd => rfl); (case hg => rfl); (case hr => first | (go_simp; done) | (go_simp; rfl)); intro gb339 hg w26 hbox hb; have BK339 := As.mk (hbox); have GW339 := As.mk (gs w hg); have GE339 := As.mk (gs w hg); replace HB := As.mk (below_step (be w) hb); clear hb hbox hg; obtain ⟨hcz27_0, hcz27_1, hfz27_0, hfz27_1⟩ := cl2 BK339.out; have p340 : 0 ≤ (a1 : Int) := od; have q340 : a1 < (l0_0.length : Int) := od; obtain ⟨ad340, A340_3, c340_3, e340, hx340_0, hx340_1, hx340_2, hx340_3, hl340_3, hi340_3⟩ := at_T62 HR0_0.out a1 p340 q340; cases e340; replace hx340_0 := ce HB.out hx340_0; replace hx340_1 := ce HB.out hx340_1; replace hx340_2 := ce HB.out hx340_2; replace hx340_3 := ce HB.out hx340_3; have HR340_3 := As.mk hi340_3; have HC340_3 := As.mk hl340_3; clear hi340_3 hl340_3; replace p340 := eq_true p340; replace q340 := eq_true q340) | ((with_reducible refine gate_dst (N := 5) rfl ?_); refine box_event ?hg (N := 5) ?hd (cs := #[.int .i64 0, .int .i64 0, .string (⟨#[]⟩ : ByteArray), .slice none 0 0]) (t := 62) ?hr ?_; (case hd => rfl); (case hg => rfl); (case hr => first | (go_simp; done) | (go_simp; rfl)); intro gb341 hg w28 hbox hb; have BK341 := As.mk (hbox); have GW341 := As.mk (gs w hg); have GE341 := As.mk (gs w hg); replace HB := As.mk (below_step (be w) hb); clear hb hbox hg; obtain ⟨hcz29_0, hcz29_1, hcz29_2, hcz29_3, hfz29_0, hfz29_1, hfz29_2, hfz29_3⟩ := cl4 BK341.out))
  go_ret
  exact ⟨ez, be w⟩
 rw [if_neg c24] at H
 have c24b0 : (((rd_T62 l0_0 a1).f0) == 5) = false := beq_eq_false_iff_ne.mpr c24
 have c24b1 : (((rd_T62 l0_0 a1).f0) != 5) = true := bne_iff_ne.mpr c24
 by_cases c30 : ((rd_T62 l0_0 a1).f0) = 6
 ·
  rw [if_pos c30] at H
  have c30b0 : (((rd_T62 l0_0 a1).f0) == 6) = true := beq_iff_eq.mpr c30
  have c30b1 : (((rd_T62 l0_0 a1).f0) != 6) = false := bne_eq_false_iff_eq.mpr c30
  clear c30
  by_cases c31 : 5 + ((rd_T62 l0_0 a1).f2).size ≤ 9223372036854775807
  rotate_left; · rw [if_neg c31] at H; exact absurd H (by simp)
  rw [if_pos c31] at H
  have c31b0 := eq_true c31
  have c31b1 : decide (5 + ((rd_T62 l0_0 a1).f2).size ≤ 9223372036854775807) = true := decide_eq_true c31
  try have c31b2 : (9223372036854775807 < 5 + ((rd_T62 l0_0 a1).f2).size) = False := eq_false (Nat.not_lt.2 c31)
  obtain rfl := Option.some.inj H
  go_enter Tryz.func57, Tryz.ntmps57
  go_wp2_with (first | ((with_reducible refine gate_dst (N := 2) rfl ?_); refine box_event ?hg (N := 2) ?hd (cs := #[.slice A0_0 l0_0.length c0_0, .slice A0_1 l0_1.length c0_1]) (t := 32) ?hr ?_; (case hd => rfl); (case hg => rfl); (case hr => first | (go_simp; done) | (go_simp; rfl)); intro gb339 hg w32 hbox hb; have BK339 := As.mk (hbox); have GW339 := As.mk (gs w hg); have GE339 := As.mk (gs w hg); replace HB := As.mk (below_step (be w) hb); clear hb hbox hg; obtain ⟨hcz33_0, hcz33_1, hfz33_0, hfz33_1⟩ := cl2 BK339.out; have p340 : 0 ≤ (a1 : Int) := od; have q340 : a1 < (l0_0.length : Int) := od; obtain ⟨ad340, A340_3, c340_3, e340, hx340_0, hx340_1, hx340_2, hx340_3, hl340_3, hi340_3⟩ := at_T62 HR0_0.out a1 p340 q340; cases e340; replace hx340_0 := ce HB.out hx340_0; replace hx340_1 := ce HB.out hx340_1; replace hx340_2 := ce HB.out hx340_2; replace hx340_3 := ce HB.out hx340_3; have HR340_3 := As.mk hi340_3; have HC340_3 := As.mk hl340_3; clear hi340_3 hl340_3; replace p340 := eq_true p340; replace q340 := eq_true q340) | ((with_reducible refine gate_dst (N := 5) rfl ?_); refine box_event ?hg (N := 5) ?hd (cs := #[.int .i64 0, .int .i64 0, .string (⟨#[]⟩ : ByteArray), .slice none 0 0]) (t := 62) ?hr ?_; (case hd => rfl); (case hg => rfl); (case hr => first | (go_simp; done) | (go_simp; rfl)); intro gb341 hg w34 hbox hb; have BK341 := As.mk (hbox); have GW341 := As.mk (gs w hg); have GE341 := As.mk (gs w hg); replace HB := As.mk (below_step (be w) hb); clear hb hbox hg; obtain ⟨hcz35_0, hcz35_1, hcz35_2, hcz35_3, hfz35_0, hfz35_1, hfz35_2, hfz35_3⟩ := cl4 BK341.out))
  go_ret
  exact ⟨ez, be w⟩
 rw [if_neg c30] at H
 have c30b0 : (((rd_T62 l0_0 a1).f0) == 6) = false := beq_eq_false_iff_ne.mpr c30
 have c30b1 : (((rd_T62 l0_0 a1).f0) != 6) = true := bne_iff_ne.mpr c30
 by_cases c36 : ((rd_T62 l0_0 a1).f0) = 7
 ·
  rw [if_pos c36] at H
  have c36b0 : (((rd_T62 l0_0 a1).f0) == 7) = true := beq_iff_eq.mpr c36
  have c36b1 : (((rd_T62 l0_0 a1).f0) != 7) = false := bne_eq_false_iff_eq.mpr c36
  clear c36
  obtain rfl := Option.some.inj H
  go_enter Tryz.func57, Tryz.ntmps57
  go_wp2_with (first | ((with_reducible refine gate_dst (N := 2) rfl ?_); refine box_event ?hg (N := 2) ?hd (cs := #[.slice A0_0 l0_0.length c0_0, .slice A0_1 l0_1.length c0_1]) (t := 32) ?hr ?_; (case hd => rfl); (case hg => rfl); (case hr => first | (go_simp; done) | (go_simp; rfl)); intro gb339 hg w37 hbox hb; have BK339 := As.mk (hbox); have GW339 := As.mk (gs w hg); have GE339 := As.mk (gs w hg); replace HB := As.mk (below_step (be w) hb); clear hb hbox hg; obtain ⟨hcz38_0, hcz38_1, hfz38_0, hfz38_1⟩ := cl2 BK339.out; have p340 : 0 ≤ (a1 : Int) := od; have q340 : a1 < (l0_0.length : Int) := od; obtain ⟨ad340, A340_3, c340_3, e340, hx340_0, hx340_1, hx340_2, hx340_3, hl340_3, hi340_3⟩ := at_T62 HR0_0.out a1 p340 q340; cases e340; replace hx340_0 := ce HB.out hx340_0; replace hx340_1 := ce HB.out hx340_1; replace hx340_2 := ce HB.out hx340_2; replace hx340_3 := ce HB.out hx340_3; have HR340_3 := As.mk hi340_3; have HC340_3 := As.mk hl340_3; clear hi340_3 hl340_3; replace p340 := eq_true p340; replace q340 := eq_true q340) | ((with_reducible refine gate_dst (N := 5) rfl ?_); refine box_event ?hg (N := 5) ?hd (cs := #[.int .i64 0, .int .i64 0, .string (⟨#[]⟩ : ByteArray), .slice none 0 0]) (t := 62) ?hr ?_; (case hd => rfl); (case hg => rfl); (case hr => first | (go_simp; done) | (go_simp; rfl)); intro gb341 hg w39 hbox hb; have BK341 := As.mk (hbox); have GW341 := As.mk (gs w hg); have GE341 := As.mk (gs w hg); replace HB := As.mk (below_step (be w) hb); clear hb hbox hg; obtain ⟨hcz40_0, hcz40_1, hcz40_2, hcz40_3, hfz40_0, hfz40_1, hfz40_2, hfz40_3⟩ := cl4 BK341.out))
  go_ret
  exact ⟨ez, be w⟩
 rw [if_neg c36] at H
 have c36b0 : (((rd_T62 l0_0 a1).f0) == 7) = false := beq_eq_false_iff_ne.mpr c36
 have c36b1 : (((rd_T62 l0_0 a1).f0) != 7) = true := bne_iff_ne.mpr c36
 by_cases c41 : ((rd_T62 l0_0 a1).f0) = 8
 ·
  rw [if_pos c41] at H
  have c41b0 : (((rd_T62 l0_0 a1).f0) == 8) = true := beq_iff_eq.mpr c41
  have c41b1 : (((rd_T62 l0_0 a1).f0) != 8) = false := bne_eq_false_iff_eq.mpr c41
  clear c41
  by_cases c42 : 0 < (((rd_T62 l0_0 a1).f3).length : Int)
  rotate_left; · rw [if_neg c42] at H; exact absurd H (by simp)
  rw [if_pos c42] at H
  have c42b0 : decide (0 < (((rd_T62 l0_0 a1).f3).length : Int)) = true := decide_eq_true c42
  have c42b1 : decide (0 < ((rd_T62 l0_0 a1).f3).length) = true := decide_eq_true (by omega)
  clear c42
  obtain ⟨t344, A430, H⟩ := Option.bind_eq_some_iff.mp H
  try dsimp only at H
  have A43 := As.mk A430
  clear A430
  by_cases c44 : 4 + t344.size ≤ 9223372036854775807
  rotate_left; · rw [if_neg c44] at H; exact absurd H (by simp)
  rw [if_pos c44] at H
  have c44b0 := eq_true c44
  have c44b1 : decide (4 + t344.size ≤ 9223372036854775807) = true := decide_eq_true c44
  try have c44b2 : (9223372036854775807 < 4 + t344.size) = False := eq_false (Nat.not_lt.2 c44)
  obtain rfl := Option.some.inj H
  go_enter Tryz.func57, Tryz.ntmps57
  try go_wp2_with (first | ((with_reducible refine gate_dst (N := 2) rfl ?_); refine box_event ?hg (N := 2) ?hd (cs := #[.slice A0_0 l0_0.length c0_0, .slice A0_1 l0_1.length c0_1]) (t := 32) ?hr ?_; (case hd => rfl); (case hg => rfl); (case hr => first | (go_simp; done) | (go_simp; rfl)); intro gb339 hg w45 hbox hb; have BK339 := As.mk (hbox); have GW339 := As.mk (gs w hg); have GE339 := As.mk (gs w hg); replace HB := As.mk (below_step (be w) hb); clear hb hbox hg; obtain ⟨hcz46_0, hcz46_1, hfz46_0, hfz46_1⟩ := cl2 BK339.out; have p340 : 0 ≤ (a1 : Int) := od; have q340 : a1 < (l0_0.length : Int) := od; obtain ⟨ad340, A340_3, c340_3, e340, hx340_0, hx340_1, hx340_2, hx340_3, hl340_3, hi340_3⟩ := at_T62 HR0_0.out a1 p340 q340; cases e340; replace hx340_0 := ce HB.out hx340_0; replace hx340_1 := ce HB.out hx340_1; replace hx340_2 := ce HB.out hx340_2; replace hx340_3 := ce HB.out hx340_3; have HR340_3 := As.mk hi340_3; have HC340_3 := As.mk hl340_3; clear hi340_3 hl340_3; replace p340 := eq_true p340; replace q340 := eq_true q340) | ((with_reducible refine gate_dst (N := 5) rfl ?_); refine box_event ?hg (N := 5) ?hd (cs := #[.int .i64 0, .int .i64 0, .string (⟨#[]⟩ : ByteArray), .slice none 0 0]) (t := 62) ?hr ?_; (case hd => rfl); (case hg => rfl); (case hr => first | (go_simp; done) | (go_simp; rfl)); intro gb341 hg w47 hbox hb; have BK341 := As.mk (hbox); have GW341 := As.mk (gs w hg); have GE341 := As.mk (gs w hg); replace HB := As.mk (below_step (be w) hb); have NB339_341 := As.mk (nl hg (bx BK339.out)); have NB341_339 := As.mk (ng hg (bx BK339.out)); replace BK339 := As.mk (blk_below (bx BK339.out) hb); clear hb hbox hg; have hnb48 := NB341_339.out; have hnc48 := NB339_341.out; obtain ⟨hcz49_0, hcz49_1, hcz49_2, hcz49_3, hfz49_0, hfz49_1, hfz49_2, hfz49_3⟩ := cl4 BK341.out))
  have n0_ : As (((((w47.setCell ⟨gb341, 0, none⟩ (.int .i64 ((rd_T62 l0_0 a1).f0))).setCell ⟨gb341, 1, none⟩ (.int .i64 ((rd_T62 l0_0 a1).f1))).setCell ⟨gb341, 2, none⟩ (.string ((rd_T62 l0_0 a1).f2))).setCell ⟨gb341, 3, none⟩ (.slice A340_3 ((rd_T62 l0_0 a1).f3).length c340_3)).heap[gb339]? = some (.cells #[.slice (some ad340) l0_0.length c0_0, .slice A0_1 l0_1.length c0_1] 32 (0, 0))) := ⟨by refine pl ?_; refine blk_far ?_ NB339_341.out _; refine pl ?_; refine blk_far ?_ NB339_341.out _; refine pl ?_; refine blk_far ?_ NB339_341.out _; refine pl ?_; refine blk_far ?_ NB339_341.out _; exact bx BK339.out⟩
  have n1_ : As (((((w47.setCell ⟨gb341, 0, none⟩ (.int .i64 ((rd_T62 l0_0 a1).f0))).setCell ⟨gb341, 1, none⟩ (.int .i64 ((rd_T62 l0_0 a1).f1))).setCell ⟨gb341, 2, none⟩ (.string ((rd_T62 l0_0 a1).f2))).setCell ⟨gb341, 3, none⟩ (.slice A340_3 ((rd_T62 l0_0 a1).f3).length c340_3)).heap[gb341]? = some (.cells #[.int .i64 ((rd_T62 l0_0 a1).f0), .int .i64 ((rd_T62 l0_0 a1).f1), .string ((rd_T62 l0_0 a1).f2), .slice A340_3 ((rd_T62 l0_0 a1).f3).length c340_3] 62 (0, 0))) := ⟨by refine pl ?_; refine blk_put (cs := #[.int .i64 ((rd_T62 l0_0 a1).f0), .int .i64 ((rd_T62 l0_0 a1).f1), .string ((rd_T62 l0_0 a1).f2), .slice none 0 0]) ?_ 3 _ rfl; refine pl ?_; refine blk_put (cs := #[.int .i64 ((rd_T62 l0_0 a1).f0), .int .i64 ((rd_T62 l0_0 a1).f1), .string (⟨#[]⟩ : ByteArray), .slice none 0 0]) ?_ 2 _ rfl; refine pl ?_; refine blk_put (cs := #[.int .i64 ((rd_T62 l0_0 a1).f0), .int .i64 0, .string (⟨#[]⟩ : ByteArray), .slice none 0 0]) ?_ 1 _ rfl; refine pl ?_; refine blk_put (cs := #[.int .i64 0, .int .i64 0, .string (⟨#[]⟩ : ByteArray), .slice none 0 0]) ?_ 0 _ rfl; exact bx BK341.out⟩
  have n2_ : As (Below w.heap.size w ((((w47.setCell ⟨gb341, 0, none⟩ (.int .i64 ((rd_T62 l0_0 a1).f0))).setCell ⟨gb341, 1, none⟩ (.int .i64 ((rd_T62 l0_0 a1).f1))).setCell ⟨gb341, 2, none⟩ (.string ((rd_T62 l0_0 a1).f2))).setCell ⟨gb341, 3, none⟩ (.slice A340_3 ((rd_T62 l0_0 a1).f3).length c340_3))) := ⟨be w⟩
  (try clear BK339)
  (try clear BK341)
  (try clear HB)
  generalize ((((w47.setCell ⟨gb341, 0, none⟩ (.int .i64 ((rd_T62 l0_0 a1).f0))).setCell ⟨gb341, 1, none⟩ (.int .i64 ((rd_T62 l0_0 a1).f1))).setCell ⟨gb341, 2, none⟩ (.string ((rd_T62 l0_0 a1).f2))).setCell ⟨gb341, 3, none⟩ (.slice A340_3 ((rd_T62 l0_0 a1).f3).length c340_3)) = w50 at n0_ n1_ n2_ ⊢
  have BK339 := n0_
  have BK341 := n1_
  have HB := n2_
  clear n0_ n1_ n2_
  replace BK339 := As.mk (blk_drew BK339.out)
  replace BK341 := As.mk (blk_drew BK341.out)
  replace HB := As.mk (below_drew1 HB.out)
  have p343 : 0 ≤ (0 : Int) := (by omega)
  have q343 : 0 < (((rd_T62 l0_0 a1).f3).length : Int) := od
  obtain ⟨ad343, e343, hx343_0⟩ := Kd.at_int HR340_3.out 0 p343 q343
  have hw343_0 := hx343_0
  (try rw [show ((0 : Int)).toNat = 0 from rfl] at hw343_0)
  (try rw [show 0 * 1 = 0 from rfl] at hw343_0)
  (try rw [Addr.add_zero'] at hw343_0)
  cases e343
  have qi343 : (0 < ((rd_T62 l0_0 a1).f3).length) = True := eq_true (by omega)
  (try rw [show ((0 : Int)).toNat = 0 from rfl] at hx343_0)
  (try rw [Addr.add_zero'] at hx343_0)
  replace hx343_0 := ce HB.out hx343_0
  replace p343 := eq_true p343
  replace q343 := eq_true q343
  refine start_ (n := 8) (S := fun w' => w'.cell? ⟨gb339, 0, none⟩ = some (.slice (some ad340) l0_0.length c0_0) ∧ w'.cell? ⟨gb339, 1, none⟩ = some (.slice A0_1 l0_1.length c0_1) ∧ w'.cell? ⟨gb341, 0, none⟩ = some (.int .i64 ((rd_T62 l0_0 a1).f0)) ∧ w'.cell? ⟨gb341, 1, none⟩ = some (.int .i64 ((rd_T62 l0_0 a1).f1)) ∧ w'.cell? ⟨gb341, 2, none⟩ = some (.string ((rd_T62 l0_0 a1).f2)) ∧ w'.cell? ⟨gb341, 3, none⟩ = some (.slice (some ad343) ((rd_T62 l0_0 a1).f3).length c340_3) ∧ w'.cell? ad343 = some (.int .i64 (rd ((rd_T62 l0_0 a1).f3) 0))) (ds := []) #[O, O, O, O, O, O, O, O] (by kernel_rfl) rfl rfl ⟨(blk_cell BK339.out 0).trans rfl, (blk_cell BK339.out 1).trans rfl, (blk_cell BK341.out 0).trans rfl, (blk_cell BK341.out 1).trans rfl, (blk_cell BK341.out 2).trans rfl, (blk_cell BK341.out 3).trans rfl, (ce HB.out hw343_0 :)⟩ (fun hHeld => ?_); refine with_tabW impl_showValue.tab16 impl_showValue.bits16 (fun HT_ HW_ => ?_)
  generalize w50.drew = w51 at BK339 BK341 HB hx343_0 hHeld ⊢
  refine pure_ (i := 1) (N := some 46) (v := ?_) (a' := ?_) #[O, I, O, O, O, O, O, O] rfl rfl (any_of HT_.out (by kernel_rfl)) (fun _ _ _ h => h) (Or.inl ⟨by rfl, ?_⟩) ?_ ?_
  rotate_left; · intro w'; go_simp; with_reducible rfl
  rotate_left; · simp only [pk, i64_w, i32_w]; rfl
  refine take_ (i := 0) (N := some 45) (v := ?_) (a' := ?_) #[I, I, O, O, O, O, O, O] rfl rfl (take_ofW HT_.out HW_.out (by kernel_rfl)) (fun _ _ _ h => h) (Or.inl ⟨by rfl, ?_⟩) hHeld ?_ ?_
  rotate_left; · rintro w' ⟨s0, s1, s2, s3, s4, s5, s6⟩; go_simp; with_reducible rfl
  rotate_left; · simp only [pk, i64_w, i32_w]; rfl
  refine take_ (i := 2) (N := some 47) (v := ?_) (a' := ?_) #[I, I, I, O, O, O, O, O] rfl rfl (take_ofW HT_.out HW_.out (by kernel_rfl)) (fun _ _ _ h => h) (Or.inl ⟨by rfl, ?_⟩) hHeld ?_ ?_
  rotate_left; · rintro w' ⟨s0, s1, s2, s3, s4, s5, s6⟩; go_simp; with_reducible rfl
  rotate_left; · simp only [pk, i64_w, i32_w]; rfl
  refine pure_ (i := 3) (N := some 48) (v := ?_) (a' := ?_) #[I, I, I, I, O, O, O, O] rfl rfl (any_of HT_.out (by kernel_rfl)) (fun _ _ _ h => h) (Or.inl ⟨by rfl, ?_⟩) ?_ ?_
  rotate_left; · intro w'; go_simp; with_reducible rfl
  rotate_left; · simp only [pk, i64_w, i32_w]; rfl
  refine take_ (i := 4) (N := some 49) (v := ?_) (a' := ?_) #[I, I, I, I, I, O, O, O] rfl rfl (take_ofW HT_.out HW_.out (by kernel_rfl)) (fun _ _ _ h => h) (Or.inl ⟨by rfl, ?_⟩) hHeld ?_ ?_
  rotate_left; · rintro w' ⟨s0, s1, s2, s3, s4, s5, s6⟩; go_simp; with_reducible rfl
  rotate_left; · simp only [pk, i64_w, i32_w]; rfl
  refine one_ (i := 5) (N := some 50) #[I, I, I, I, I, I, O, O] rfl rfl (one_of HT_.out (by kernel_rfl)) (by decide) (fun K hK => ?_)
  refine goes_ Tryz.func86 (by kernel_rfl) rfl #[.agg #[.slice (some ad340) l0_0.length c0_0, .slice A0_1 l0_1.length c0_1], .int .i64 (rd ((rd_T62 l0_0 a1).f3) 0)] (by rfl) rfl rfl (by (try simp only [lm]); first | done | rfl | (simp only [List.length_drop, List.length_take]; rfl)) ?_
  with_reducible refine (ih_impl_showIn k (by omega) _ _ l0_0 _ _ l0_1 (rd ((rd_T62 l0_0 a1).f3) 0) t344 _ ?side1 ?side2 ?side3 ?side4 (by first | (with_reducible exact HTAB.out) | exact tabW_below HTAB.out (be w)) A43.out).mono ?_
  (case side1 => exact Kd.C_below HR0_0.out (be w))
  (case side2 => exact HC0_0.out)
  (case side3 => exact Kd.C_below HR0_1.out (be w))
  (case side4 => exact HC0_1.out)
  rintro e w52 ⟨rfl, hb⟩
  refine ⟨_, rfl, ?_⟩
  replace BK339 := As.mk (blk_below (bx BK339.out) hb)
  replace BK341 := As.mk (blk_below (bx BK341.out) hb)
  replace HB := As.mk (below_step (be w) hb)
  (try clear hb)
  (try clear hb2)
  (try clear hk)
  (try clear hi)
  refine hK.out _ _ ⟨(blk_cell BK339.out 0).trans rfl, (blk_cell BK339.out 1).trans rfl, (blk_cell BK341.out 0).trans rfl, (blk_cell BK341.out 1).trans rfl, (blk_cell BK341.out 2).trans rfl, (blk_cell BK341.out 3).trans rfl, (ce HB.out hw343_0 :)⟩ (fun hHeld => ?_)
  clear hK K
  refine norm_ (a' := ?_) ?_ ?_
  rotate_left
  ·
   show Act.put _ (some 50) _ = _
   simp only [pk, i64_w, i32_w]
   rfl
  refine pure_ (i := 6) (N := some 51) (v := ?_) (a' := ?_) #[I, I, I, I, I, I, I, O] rfl rfl (any_of HT_.out (by kernel_rfl)) (fun _ _ _ h => h) (Or.inl ⟨by rfl, ?_⟩) ?_ ?_
  rotate_left; · intro w'; go_simp; with_reducible rfl
  rotate_left; · simp only [pk, i64_w, i32_w]; rfl
  refine pure_ (i := 7) (N := some 4) (v := ?_) (a' := ?_) #[I, I, I, I, I, I, I, I] rfl rfl (any_of HT_.out (by kernel_rfl)) (fun _ _ _ h => h) (Or.inl ⟨by rfl, ?_⟩) ?_ ?_
  rotate_left; · intro w'; go_simp; with_reducible rfl
  rotate_left; · simp only [pk, i64_w, i32_w]; rfl
  refine done_ (done_of HT_.out (by kernel_rfl)) ?_
  try go_wp2
  go_ret
  exact ⟨ez, be w⟩
 rw [if_neg c41] at H
 have c41b0 : (((rd_T62 l0_0 a1).f0) == 8) = false := beq_eq_false_iff_ne.mpr c41
 have c41b1 : (((rd_T62 l0_0 a1).f0) != 8) = true := bne_iff_ne.mpr c41
 by_cases c53 : ((rd_T62 l0_0 a1).f0) = 9
 ·
  rw [if_pos c53] at H
  have c53b0 : (((rd_T62 l0_0 a1).f0) == 9) = true := beq_iff_eq.mpr c53
  have c53b1 : (((rd_T62 l0_0 a1).f0) != 9) = false := bne_eq_false_iff_eq.mpr c53
  clear c53
  by_cases c54 : 0 < (((rd_T62 l0_0 a1).f3).length : Int)
  rotate_left; · rw [if_neg c54] at H; exact absurd H (by simp)
  rw [if_pos c54] at H
  have c54b0 : decide (0 < (((rd_T62 l0_0 a1).f3).length : Int)) = true := decide_eq_true c54
  have c54b1 : decide (0 < ((rd_T62 l0_0 a1).f3).length) = true := decide_eq_true (by omega)
  clear c54
  obtain ⟨t346, A550, H⟩ := Option.bind_eq_some_iff.mp H
  try dsimp only at H
  have A55 := As.mk A550
  clear A550
  by_cases c56 : t346.size + 3 ≤ 9223372036854775807
  rotate_left; · rw [if_neg c56] at H; exact absurd H (by simp)
  rw [if_pos c56] at H
  have c56b0 := eq_true c56
  have c56b1 : decide (t346.size + 3 ≤ 9223372036854775807) = true := decide_eq_true c56
  try have c56b2 : (9223372036854775807 < t346.size + 3) = False := eq_false (Nat.not_lt.2 c56)
  by_cases c57 : 1 < (((rd_T62 l0_0 a1).f3).length : Int)
  rotate_left; · rw [if_neg c57] at H; exact absurd H (by simp)
  rw [if_pos c57] at H
  have c57b0 : decide (1 < (((rd_T62 l0_0 a1).f3).length : Int)) = true := decide_eq_true c57
  have c57b1 : decide (1 < ((rd_T62 l0_0 a1).f3).length) = true := decide_eq_true (by omega)
  clear c57
  obtain ⟨t348, A580, H⟩ := Option.bind_eq_some_iff.mp H
  try dsimp only at H
  have A58 := As.mk A580
  clear A580
  by_cases c59 : (t346 ++ (⟨#[32, 43, 32]⟩ : ByteArray)).size + t348.size ≤ 9223372036854775807
  rotate_left; · rw [if_neg c59] at H; exact absurd H (by simp)
  rw [if_pos c59] at H
  have c59b0 := eq_true c59
  have c59b1 : decide ((t346 ++ (⟨#[32, 43, 32]⟩ : ByteArray)).size + t348.size ≤ 9223372036854775807) = true := decide_eq_true c59
  try have c59b2 : (9223372036854775807 < (t346 ++ (⟨#[32, 43, 32]⟩ : ByteArray)).size + t348.size) = False := eq_false (Nat.not_lt.2 c59)
  try have c59b4 : (9223372036854775807 < t346.size + 3 + t348.size) = False := eq_false (Nat.not_lt.2 (by have h_ := c59; simp only [ByteArray.size_append] at h_; exact h_))
  obtain rfl := Option.some.inj H
  go_enter Tryz.func57, Tryz.ntmps57
  try go_wp2_with (first | ((with_reducible refine gate_dst (N := 2) rfl ?_); refine box_event ?hg (N := 2) ?hd (cs := #[.slice A0_0 l0_0.length c0_0, .slice A0_1 l0_1.length c0_1]) (t := 32) ?hr ?_; (case hd => rfl); (case hg => rfl); (case hr => first | (go_simp; done) | (go_simp; rfl)); intro gb339 hg w60 hbox hb; have BK339 := As.mk (hbox); have GW339 := As.mk (gs w hg); have GE339 := As.mk (gs w hg); replace HB := As.mk (below_step (be w) hb); clear hb hbox hg; obtain ⟨hcz61_0, hcz61_1, hfz61_0, hfz61_1⟩ := cl2 BK339.out; have p340 : 0 ≤ (a1 : Int) := od; have q340 : a1 < (l0_0.length : Int) := od; obtain ⟨ad340, A340_3, c340_3, e340, hx340_0, hx340_1, hx340_2, hx340_3, hl340_3, hi340_3⟩ := at_T62 HR0_0.out a1 p340 q340; cases e340; replace hx340_0 := ce HB.out hx340_0; replace hx340_1 := ce HB.out hx340_1; replace hx340_2 := ce HB.out hx340_2; replace hx340_3 := ce HB.out hx340_3; have HR340_3 := As.mk hi340_3; have HC340_3 := As.mk hl340_3; clear hi340_3 hl340_3; replace p340 := eq_true p340; replace q340 := eq_true q340) | ((with_reducible refine gate_dst (N := 5) rfl ?_); refine box_event ?hg (N := 5) ?hd (cs := #[.int .i64 0, .int .i64 0, .string (⟨#[]⟩ : ByteArray), .slice none 0 0]) (t := 62) ?hr ?_; (case hd => rfl); (case hg => rfl); (case hr => first | (go_simp; done) | (go_simp; rfl)); intro gb341 hg w62 hbox hb; have BK341 := As.mk (hbox); have GW341 := As.mk (gs w hg); have GE341 := As.mk (gs w hg); replace HB := As.mk (below_step (be w) hb); have NB339_341 := As.mk (nl hg (bx BK339.out)); have NB341_339 := As.mk (ng hg (bx BK339.out)); replace BK339 := As.mk (blk_below (bx BK339.out) hb); clear hb hbox hg; have hnb63 := NB341_339.out; have hnc63 := NB339_341.out; obtain ⟨hcz64_0, hcz64_1, hcz64_2, hcz64_3, hfz64_0, hfz64_1, hfz64_2, hfz64_3⟩ := cl4 BK341.out))
  have n0_ : As (((((w62.setCell ⟨gb341, 0, none⟩ (.int .i64 ((rd_T62 l0_0 a1).f0))).setCell ⟨gb341, 1, none⟩ (.int .i64 ((rd_T62 l0_0 a1).f1))).setCell ⟨gb341, 2, none⟩ (.string ((rd_T62 l0_0 a1).f2))).setCell ⟨gb341, 3, none⟩ (.slice A340_3 ((rd_T62 l0_0 a1).f3).length c340_3)).heap[gb339]? = some (.cells #[.slice (some ad340) l0_0.length c0_0, .slice A0_1 l0_1.length c0_1] 32 (0, 0))) := ⟨by refine pl ?_; refine blk_far ?_ NB339_341.out _; refine pl ?_; refine blk_far ?_ NB339_341.out _; refine pl ?_; refine blk_far ?_ NB339_341.out _; refine pl ?_; refine blk_far ?_ NB339_341.out _; exact bx BK339.out⟩
  have n1_ : As (((((w62.setCell ⟨gb341, 0, none⟩ (.int .i64 ((rd_T62 l0_0 a1).f0))).setCell ⟨gb341, 1, none⟩ (.int .i64 ((rd_T62 l0_0 a1).f1))).setCell ⟨gb341, 2, none⟩ (.string ((rd_T62 l0_0 a1).f2))).setCell ⟨gb341, 3, none⟩ (.slice A340_3 ((rd_T62 l0_0 a1).f3).length c340_3)).heap[gb341]? = some (.cells #[.int .i64 ((rd_T62 l0_0 a1).f0), .int .i64 ((rd_T62 l0_0 a1).f1), .string ((rd_T62 l0_0 a1).f2), .slice A340_3 ((rd_T62 l0_0 a1).f3).length c340_3] 62 (0, 0))) := ⟨by refine pl ?_; refine blk_put (cs := #[.int .i64 ((rd_T62 l0_0 a1).f0), .int .i64 ((rd_T62 l0_0 a1).f1), .string ((rd_T62 l0_0 a1).f2), .slice none 0 0]) ?_ 3 _ rfl; refine pl ?_; refine blk_put (cs := #[.int .i64 ((rd_T62 l0_0 a1).f0), .int .i64 ((rd_T62 l0_0 a1).f1), .string (⟨#[]⟩ : ByteArray), .slice none 0 0]) ?_ 2 _ rfl; refine pl ?_; refine blk_put (cs := #[.int .i64 ((rd_T62 l0_0 a1).f0), .int .i64 0, .string (⟨#[]⟩ : ByteArray), .slice none 0 0]) ?_ 1 _ rfl; refine pl ?_; refine blk_put (cs := #[.int .i64 0, .int .i64 0, .string (⟨#[]⟩ : ByteArray), .slice none 0 0]) ?_ 0 _ rfl; exact bx BK341.out⟩
  have n2_ : As (Below w.heap.size w ((((w62.setCell ⟨gb341, 0, none⟩ (.int .i64 ((rd_T62 l0_0 a1).f0))).setCell ⟨gb341, 1, none⟩ (.int .i64 ((rd_T62 l0_0 a1).f1))).setCell ⟨gb341, 2, none⟩ (.string ((rd_T62 l0_0 a1).f2))).setCell ⟨gb341, 3, none⟩ (.slice A340_3 ((rd_T62 l0_0 a1).f3).length c340_3))) := ⟨be w⟩
  (try clear BK339)
  (try clear BK341)
  (try clear HB)
  generalize ((((w62.setCell ⟨gb341, 0, none⟩ (.int .i64 ((rd_T62 l0_0 a1).f0))).setCell ⟨gb341, 1, none⟩ (.int .i64 ((rd_T62 l0_0 a1).f1))).setCell ⟨gb341, 2, none⟩ (.string ((rd_T62 l0_0 a1).f2))).setCell ⟨gb341, 3, none⟩ (.slice A340_3 ((rd_T62 l0_0 a1).f3).length c340_3)) = w65 at n0_ n1_ n2_ ⊢
  have BK339 := n0_
  have BK341 := n1_
  have HB := n2_
  clear n0_ n1_ n2_
  replace BK339 := As.mk (blk_drew BK339.out)
  replace BK341 := As.mk (blk_drew BK341.out)
  replace HB := As.mk (below_drew1 HB.out)
  have p345 : 0 ≤ (0 : Int) := (by omega)
  have q345 : 0 < (((rd_T62 l0_0 a1).f3).length : Int) := od
  obtain ⟨ad345, e345, hx345_0⟩ := Kd.at_int HR340_3.out 0 p345 q345
  have hw345_0 := hx345_0
  (try rw [show ((0 : Int)).toNat = 0 from rfl] at hw345_0)
  (try rw [show 0 * 1 = 0 from rfl] at hw345_0)
  (try rw [Addr.add_zero'] at hw345_0)
  cases e345
  have qi345 : (0 < ((rd_T62 l0_0 a1).f3).length) = True := eq_true (by omega)
  (try rw [show ((0 : Int)).toNat = 0 from rfl] at hx345_0)
  (try rw [Addr.add_zero'] at hx345_0)
  replace hx345_0 := ce HB.out hx345_0
  replace p345 := eq_true p345
  replace q345 := eq_true q345
  have p347 : 0 ≤ (1 : Int) := (by omega)
  have q347 : 1 < (((rd_T62 l0_0 a1).f3).length : Int) := od
  obtain ⟨ad347, e347, hx347_0⟩ := Kd.at_int HR340_3.out 1 p347 q347
  have hw347_0 := hx347_0
  (try rw [show ((1 : Int)).toNat = 1 from rfl] at hw347_0)
  (try rw [show 1 * 1 = 1 from rfl] at hw347_0)
  (try simp only [Nat.reduceMul, Nat.reduceEqDiff, Go.Addr.add, ↓reduceIte] at hw347_0)
  obtain rfl : ad345 = ad347 := (by injection e347)
  (try simp only [show (1 : Int).toNat = 1 from rfl, Nat.reduceMul, Nat.reduceEqDiff, Go.Addr.add, ↓reduceIte] at hx347_0)
  have qi347 : (1 < ((rd_T62 l0_0 a1).f3).length) = True := eq_true (by omega)
  (try rw [show ((1 : Int)).toNat = 1 from rfl] at hx347_0)
  replace hx347_0 := ce HB.out hx347_0
  replace p347 := eq_true p347
  replace q347 := eq_true q347
  refine start_ (n := 15) (S := fun w' => w'.cell? ⟨gb339, 0, none⟩ = some (.slice (some ad340) l0_0.length c0_0) ∧ w'.cell? ⟨gb339, 1, none⟩ = some (.slice A0_1 l0_1.length c0_1) ∧ w'.cell? ⟨gb341, 0, none⟩ = some (.int .i64 ((rd_T62 l0_0 a1).f0)) ∧ w'.cell? ⟨gb341, 1, none⟩ = some (.int .i64 ((rd_T62 l0_0 a1).f1)) ∧ w'.cell? ⟨gb341, 2, none⟩ = some (.string ((rd_T62 l0_0 a1).f2)) ∧ w'.cell? ⟨gb341, 3, none⟩ = some (.slice (some ad345) ((rd_T62 l0_0 a1).f3).length c340_3) ∧ w'.cell? ad345 = some (.int .i64 (rd ((rd_T62 l0_0 a1).f3) 0)) ∧ w'.cell? ⟨ad345.block, ad345.off + 1, none⟩ = some (.int .i64 (rd ((rd_T62 l0_0 a1).f3) 1))) (ds := []) #[O, O, O, O, O, O, O, O, O, O, O, O, O, O, O] (by kernel_rfl) rfl rfl ⟨(blk_cell BK339.out 0).trans rfl, (blk_cell BK339.out 1).trans rfl, (blk_cell BK341.out 0).trans rfl, (blk_cell BK341.out 1).trans rfl, (blk_cell BK341.out 2).trans rfl, (blk_cell BK341.out 3).trans rfl, (ce HB.out hw345_0 :), (ce HB.out hw347_0 :)⟩ (fun hHeld => ?_); refine with_tabW impl_showValue.tab18 impl_showValue.bits18 (fun HT_ HW_ => ?_)
  generalize w65.drew = w66 at BK339 BK341 HB hx345_0 hx347_0 hHeld ⊢
  refine pure_ (i := 1) (N := some 55) (v := ?_) (a' := ?_) #[O, I, O, O, O, O, O, O, O, O, O, O, O, O, O] rfl rfl (any_of HT_.out (by kernel_rfl)) (fun _ _ _ h => h) (Or.inl ⟨by rfl, ?_⟩) ?_ ?_
  rotate_left; · intro w'; go_simp; with_reducible rfl
  rotate_left; · simp only [pk, i64_w, i32_w]; rfl
  refine pure_ (i := 8) (N := some 62) (v := ?_) (a' := ?_) #[O, I, O, O, O, O, O, O, I, O, O, O, O, O, O] rfl rfl (any_of HT_.out (by kernel_rfl)) (fun _ _ _ h => h) (Or.inl ⟨by rfl, ?_⟩) ?_ ?_
  rotate_left; · intro w'; go_simp; with_reducible rfl
  rotate_left; · simp only [pk, i64_w, i32_w]; rfl
  refine take_ (i := 0) (N := some 54) (v := ?_) (a' := ?_) #[I, I, O, O, O, O, O, O, I, O, O, O, O, O, O] rfl rfl (take_ofW HT_.out HW_.out (by kernel_rfl)) (fun _ _ _ h => h) (Or.inl ⟨by rfl, ?_⟩) hHeld ?_ ?_
  rotate_left; · rintro w' ⟨s0, s1, s2, s3, s4, s5, s6, s7⟩; go_simp; with_reducible rfl
  rotate_left; · simp only [pk, i64_w, i32_w]; rfl
  refine take_ (i := 2) (N := some 56) (v := ?_) (a' := ?_) #[I, I, I, O, O, O, O, O, I, O, O, O, O, O, O] rfl rfl (take_ofW HT_.out HW_.out (by kernel_rfl)) (fun _ _ _ h => h) (Or.inl ⟨by rfl, ?_⟩) hHeld ?_ ?_
  rotate_left; · rintro w' ⟨s0, s1, s2, s3, s4, s5, s6, s7⟩; go_simp; with_reducible rfl
  rotate_left; · simp only [pk, i64_w, i32_w]; rfl
  refine pure_ (i := 3) (N := some 57) (v := ?_) (a' := ?_) #[I, I, I, I, O, O, O, O, I, O, O, O, O, O, O] rfl rfl (any_of HT_.out (by kernel_rfl)) (fun _ _ _ h => h) (Or.inl ⟨by rfl, ?_⟩) ?_ ?_
  rotate_left; · intro w'; go_simp; with_reducible rfl
  rotate_left; · simp only [pk, i64_w, i32_w]; rfl
  refine take_ (i := 4) (N := some 58) (v := ?_) (a' := ?_) #[I, I, I, I, I, O, O, O, I, O, O, O, O, O, O] rfl rfl (take_ofW HT_.out HW_.out (by kernel_rfl)) (fun _ _ _ h => h) (Or.inl ⟨by rfl, ?_⟩) hHeld ?_ ?_
  rotate_left; · rintro w' ⟨s0, s1, s2, s3, s4, s5, s6, s7⟩; go_simp; with_reducible rfl
  rotate_left; · simp only [pk, i64_w, i32_w]; rfl
  refine take_ (i := 7) (N := some 61) (v := ?_) (a' := ?_) #[I, I, I, I, I, O, O, I, I, O, O, O, O, O, O] rfl rfl (take_ofW HT_.out HW_.out (by kernel_rfl)) (fun _ _ _ h => h) (Or.inl ⟨by rfl, ?_⟩) hHeld ?_ ?_
  rotate_left; · rintro w' ⟨s0, s1, s2, s3, s4, s5, s6, s7⟩; go_simp; with_reducible rfl
  rotate_left; · simp only [pk, i64_w, i32_w]; rfl
  refine take_ (i := 9) (N := some 63) (v := ?_) (a' := ?_) #[I, I, I, I, I, O, O, I, I, I, O, O, O, O, O] rfl rfl (take_ofW HT_.out HW_.out (by kernel_rfl)) (fun _ _ _ h => h) (Or.inl ⟨by rfl, ?_⟩) hHeld ?_ ?_
  rotate_left; · rintro w' ⟨s0, s1, s2, s3, s4, s5, s6, s7⟩; go_simp; with_reducible rfl
  rotate_left; · simp only [pk, i64_w, i32_w]; rfl
  refine pure_ (i := 10) (N := some 64) (v := ?_) (a' := ?_) #[I, I, I, I, I, O, O, I, I, I, I, O, O, O, O] rfl rfl (any_of HT_.out (by kernel_rfl)) (fun _ _ _ h => h) (Or.inl ⟨by rfl, ?_⟩) ?_ ?_
  rotate_left; · intro w'; go_simp; with_reducible rfl
  rotate_left; · simp only [pk, i64_w, i32_w]; rfl
  refine take_ (i := 11) (N := some 65) (v := ?_) (a' := ?_) #[I, I, I, I, I, O, O, I, I, I, I, I, O, O, O] rfl rfl (take_ofW HT_.out HW_.out (by kernel_rfl)) (fun _ _ _ h => h) (Or.inl ⟨by rfl, ?_⟩) hHeld ?_ ?_
  rotate_left; · rintro w' ⟨s0, s1, s2, s3, s4, s5, s6, s7⟩; go_simp; with_reducible rfl
  rotate_left; · simp only [pk, i64_w, i32_w]; rfl
  refine one_ (i := 5) (N := some 59) #[I, I, I, I, I, I, O, I, I, I, I, I, O, O, O] rfl rfl (one_of HT_.out (by kernel_rfl)) (by decide) (fun K hK => ?_)
  refine goes_ Tryz.func86 (by kernel_rfl) rfl #[.agg #[.slice (some ad340) l0_0.length c0_0, .slice A0_1 l0_1.length c0_1], .int .i64 (rd ((rd_T62 l0_0 a1).f3) 0)] (by rfl) rfl rfl (by (try simp only [lm]); first | done | rfl | (simp only [List.length_drop, List.length_take]; rfl)) ?_
  with_reducible refine (ih_impl_showIn k (by omega) _ _ l0_0 _ _ l0_1 (rd ((rd_T62 l0_0 a1).f3) 0) t346 _ ?side1 ?side2 ?side3 ?side4 (by first | (with_reducible exact HTAB.out) | exact tabW_below HTAB.out (be w)) A55.out).mono ?_
  (case side1 => exact Kd.C_below HR0_0.out (be w))
  (case side2 => exact HC0_0.out)
  (case side3 => exact Kd.C_below HR0_1.out (be w))
  (case side4 => exact HC0_1.out)
  rintro e w67 ⟨rfl, hb⟩
  refine ⟨_, rfl, ?_⟩
  replace BK339 := As.mk (blk_below (bx BK339.out) hb)
  replace BK341 := As.mk (blk_below (bx BK341.out) hb)
  replace HB := As.mk (below_step (be w) hb)
  (try clear hb)
  (try clear hb2)
  (try clear hk)
  (try clear hi)
  refine hK.out _ _ ⟨(blk_cell BK339.out 0).trans rfl, (blk_cell BK339.out 1).trans rfl, (blk_cell BK341.out 0).trans rfl, (blk_cell BK341.out 1).trans rfl, (blk_cell BK341.out 2).trans rfl, (blk_cell BK341.out 3).trans rfl, (ce HB.out hw345_0 :), (ce HB.out hw347_0 :)⟩ (fun hHeld => ?_)
  clear hK K
  refine norm_ (a' := ?_) ?_ ?_
  rotate_left
  ·
   show Act.put _ (some 59) _ = _
   simp only [pk, i64_w, i32_w]
   rfl
  refine pure_ (i := 6) (N := some 60) (v := ?_) (a' := ?_) #[I, I, I, I, I, I, I, I, I, I, I, I, O, O, O] rfl rfl (any_of HT_.out (by kernel_rfl)) (fun _ _ _ h => h) (Or.inl ⟨by rfl, ?_⟩) ?_ ?_
  rotate_left; · intro w'; go_simp; with_reducible rfl
  rotate_left; · simp only [pk, i64_w, i32_w]; rfl
  refine one_ (i := 12) (N := some 66) #[I, I, I, I, I, I, I, I, I, I, I, I, I, O, O] rfl rfl (one_of HT_.out (by kernel_rfl)) (by decide) (fun K hK => ?_)
  refine goes_ Tryz.func86 (by kernel_rfl) rfl #[.agg #[.slice (some ad340) l0_0.length c0_0, .slice A0_1 l0_1.length c0_1], .int .i64 (rd ((rd_T62 l0_0 a1).f3) 1)] (by rfl) rfl rfl (by (try simp only [lm]); first | done | rfl | (simp only [List.length_drop, List.length_take]; rfl)) ?_
  with_reducible refine (ih_impl_showIn k (by omega) _ _ l0_0 _ _ l0_1 (rd ((rd_T62 l0_0 a1).f3) 1) t348 _ ?side1 ?side2 ?side3 ?side4 (by first | (with_reducible exact HTAB.out) | exact tabW_below HTAB.out (be w)) A58.out).mono ?_
  (case side1 => exact Kd.C_below HR0_0.out (be w))
  (case side2 => exact HC0_0.out)
  (case side3 => exact Kd.C_below HR0_1.out (be w))
  (case side4 => exact HC0_1.out)
  rintro e w68 ⟨rfl, hb⟩
  refine ⟨_, rfl, ?_⟩
  replace BK339 := As.mk (blk_below (bx BK339.out) hb)
  replace BK341 := As.mk (blk_below (bx BK341.out) hb)
  replace HB := As.mk (below_step (be w) hb)
  (try clear hb)
  (try clear hb2)
  (try clear hk)
  (try clear hi)
  refine hK.out _ _ ⟨(blk_cell BK339.out 0).trans rfl, (blk_cell BK339.out 1).trans rfl, (blk_cell BK341.out 0).trans rfl, (blk_cell BK341.out 1).trans rfl, (blk_cell BK341.out 2).trans rfl, (blk_cell BK341.out 3).trans rfl, (ce HB.out hw345_0 :), (ce HB.out hw347_0 :)⟩ (fun hHeld => ?_)
  clear hK K
  refine norm_ (a' := ?_) ?_ ?_
  rotate_left
  ·
   show Act.put _ (some 66) _ = _
   simp only [pk, i64_w, i32_w]
   rfl
  refine pure_ (i := 13) (N := some 67) (v := ?_) (a' := ?_) #[I, I, I, I, I, I, I, I, I, I, I, I, I, I, O] rfl rfl (any_of HT_.out (by kernel_rfl)) (fun _ _ _ h => h) (Or.inl ⟨by rfl, ?_⟩) ?_ ?_
  rotate_left; · intro w'; go_simp; with_reducible rfl
  rotate_left; · simp only [pk, i64_w, i32_w]; rfl
  refine pure_ (i := 14) (N := some 4) (v := ?_) (a' := ?_) #[I, I, I, I, I, I, I, I, I, I, I, I, I, I, I] rfl rfl (any_of HT_.out (by kernel_rfl)) (fun _ _ _ h => h) (Or.inl ⟨by rfl, ?_⟩) ?_ ?_
  rotate_left; · intro w'; go_simp; with_reducible rfl
  rotate_left; · simp only [pk, i64_w, i32_w]; rfl
  refine done_ (done_of HT_.out (by kernel_rfl)) ?_
  try go_wp2
  go_ret
  exact ⟨ez, be w⟩
 rw [if_neg c53] at H
 have c53b0 : (((rd_T62 l0_0 a1).f0) == 9) = false := beq_eq_false_iff_ne.mpr c53
 have c53b1 : (((rd_T62 l0_0 a1).f0) != 9) = true := bne_iff_ne.mpr c53
 by_cases c69 : ((rd_T62 l0_0 a1).f0) = 10
 ·
  rw [if_pos c69] at H
  have c69b0 : (((rd_T62 l0_0 a1).f0) == 10) = true := beq_iff_eq.mpr c69
  have c69b1 : (((rd_T62 l0_0 a1).f0) != 10) = false := bne_eq_false_iff_eq.mpr c69
  clear c69
  by_cases c70 : 0 < (((rd_T62 l0_0 a1).f3).length : Int)
  rotate_left; · rw [if_neg c70] at H; exact absurd H (by simp)
  rw [if_pos c70] at H
  have c70b0 : decide (0 < (((rd_T62 l0_0 a1).f3).length : Int)) = true := decide_eq_true c70
  have c70b1 : decide (0 < ((rd_T62 l0_0 a1).f3).length) = true := decide_eq_true (by omega)
  clear c70
  obtain ⟨t350, A710, H⟩ := Option.bind_eq_some_iff.mp H
  try dsimp only at H
  have A71 := As.mk A710
  clear A710
  by_cases c72 : t350.size + 3 ≤ 9223372036854775807
  rotate_left; · rw [if_neg c72] at H; exact absurd H (by simp)
  rw [if_pos c72] at H
  have c72b0 := eq_true c72
  have c72b1 : decide (t350.size + 3 ≤ 9223372036854775807) = true := decide_eq_true c72
  try have c72b2 : (9223372036854775807 < t350.size + 3) = False := eq_false (Nat.not_lt.2 c72)
  by_cases c73 : 1 < (((rd_T62 l0_0 a1).f3).length : Int)
  rotate_left; · rw [if_neg c73] at H; exact absurd H (by simp)
  rw [if_pos c73] at H
  have c73b0 : decide (1 < (((rd_T62 l0_0 a1).f3).length : Int)) = true := decide_eq_true c73
  have c73b1 : decide (1 < ((rd_T62 l0_0 a1).f3).length) = true := decide_eq_true (by omega)
  clear c73
  obtain ⟨t352, A740, H⟩ := Option.bind_eq_some_iff.mp H
  try dsimp only at H
  have A74 := As.mk A740
  clear A740
  by_cases c75 : (t350 ++ (⟨#[32, 60, 32]⟩ : ByteArray)).size + t352.size ≤ 9223372036854775807
  rotate_left; · rw [if_neg c75] at H; exact absurd H (by simp)
  rw [if_pos c75] at H
  have c75b0 := eq_true c75
  have c75b1 : decide ((t350 ++ (⟨#[32, 60, 32]⟩ : ByteArray)).size + t352.size ≤ 9223372036854775807) = true := decide_eq_true c75
  try have c75b2 : (9223372036854775807 < (t350 ++ (⟨#[32, 60, 32]⟩ : ByteArray)).size + t352.size) = False := eq_false (Nat.not_lt.2 c75)
  try have c75b4 : (9223372036854775807 < t350.size + 3 + t352.size) = False := eq_false (Nat.not_lt.2 (by have h_ := c75; simp only [ByteArray.size_append] at h_; exact h_))
  obtain rfl := Option.some.inj H
  go_enter Tryz.func57, Tryz.ntmps57
  try go_wp2_with (first | ((with_reducible refine gate_dst (N := 2) rfl ?_); refine box_event ?hg (N := 2) ?hd (cs := #[.slice A0_0 l0_0.length c0_0, .slice A0_1 l0_1.length c0_1]) (t := 32) ?hr ?_; (case hd => rfl); (case hg => rfl); (case hr => first | (go_simp; done) | (go_simp; rfl)); intro gb339 hg w76 hbox hb; have BK339 := As.mk (hbox); have GW339 := As.mk (gs w hg); have GE339 := As.mk (gs w hg); replace HB := As.mk (below_step (be w) hb); clear hb hbox hg; obtain ⟨hcz77_0, hcz77_1, hfz77_0, hfz77_1⟩ := cl2 BK339.out; have p340 : 0 ≤ (a1 : Int) := od; have q340 : a1 < (l0_0.length : Int) := od; obtain ⟨ad340, A340_3, c340_3, e340, hx340_0, hx340_1, hx340_2, hx340_3, hl340_3, hi340_3⟩ := at_T62 HR0_0.out a1 p340 q340; cases e340; replace hx340_0 := ce HB.out hx340_0; replace hx340_1 := ce HB.out hx340_1; replace hx340_2 := ce HB.out hx340_2; replace hx340_3 := ce HB.out hx340_3; have HR340_3 := As.mk hi340_3; have HC340_3 := As.mk hl340_3; clear hi340_3 hl340_3; replace p340 := eq_true p340; replace q340 := eq_true q340) | ((with_reducible refine gate_dst (N := 5) rfl ?_); refine box_event ?hg (N := 5) ?hd (cs := #[.int .i64 0, .int .i64 0, .string (⟨#[]⟩ : ByteArray), .slice none 0 0]) (t := 62) ?hr ?_; (case hd => rfl); (case hg => rfl); (case hr => first | (go_simp; done) | (go_simp; rfl)); intro gb341 hg w78 hbox hb; have BK341 := As.mk (hbox); have GW341 := As.mk (gs w hg); have GE341 := As.mk (gs w hg); replace HB := As.mk (below_step (be w) hb); have NB339_341 := As.mk (nl hg (bx BK339.out)); have NB341_339 := As.mk (ng hg (bx BK339.out)); replace BK339 := As.mk (blk_below (bx BK339.out) hb); clear hb hbox hg; have hnb79 := NB341_339.out; have hnc79 := NB339_341.out; obtain ⟨hcz80_0, hcz80_1, hcz80_2, hcz80_3, hfz80_0, hfz80_1, hfz80_2, hfz80_3⟩ := cl4 BK341.out))
  have n0_ : As (((((w78.setCell ⟨gb341, 0, none⟩ (.int .i64 ((rd_T62 l0_0 a1).f0))).setCell ⟨gb341, 1, none⟩ (.int .i64 ((rd_T62 l0_0 a1).f1))).setCell ⟨gb341, 2, none⟩ (.string ((rd_T62 l0_0 a1).f2))).setCell ⟨gb341, 3, none⟩ (.slice A340_3 ((rd_T62 l0_0 a1).f3).length c340_3)).heap[gb339]? = some (.cells #[.slice (some ad340) l0_0.length c0_0, .slice A0_1 l0_1.length c0_1] 32 (0, 0))) := ⟨by refine pl ?_; refine blk_far ?_ NB339_341.out _; refine pl ?_; refine blk_far ?_ NB339_341.out _; refine pl ?_; refine blk_far ?_ NB339_341.out _; refine pl ?_; refine blk_far ?_ NB339_341.out _; exact bx BK339.out⟩
  have n1_ : As (((((w78.setCell ⟨gb341, 0, none⟩ (.int .i64 ((rd_T62 l0_0 a1).f0))).setCell ⟨gb341, 1, none⟩ (.int .i64 ((rd_T62 l0_0 a1).f1))).setCell ⟨gb341, 2, none⟩ (.string ((rd_T62 l0_0 a1).f2))).setCell ⟨gb341, 3, none⟩ (.slice A340_3 ((rd_T62 l0_0 a1).f3).length c340_3)).heap[gb341]? = some (.cells #[.int .i64 ((rd_T62 l0_0 a1).f0), .int .i64 ((rd_T62 l0_0 a1).f1), .string ((rd_T62 l0_0 a1).f2), .slice A340_3 ((rd_T62 l0_0 a1).f3).length c340_3] 62 (0, 0))) := ⟨by refine pl ?_; refine blk_put (cs := #[.int .i64 ((rd_T62 l0_0 a1).f0), .int .i64 ((rd_T62 l0_0 a1).f1), .string ((rd_T62 l0_0 a1).f2), .slice none 0 0]) ?_ 3 _ rfl; refine pl ?_; refine blk_put (cs := #[.int .i64 ((rd_T62 l0_0 a1).f0), .int .i64 ((rd_T62 l0_0 a1).f1), .string (⟨#[]⟩ : ByteArray), .slice none 0 0]) ?_ 2 _ rfl; refine pl ?_; refine blk_put (cs := #[.int .i64 ((rd_T62 l0_0 a1).f0), .int .i64 0, .string (⟨#[]⟩ : ByteArray), .slice none 0 0]) ?_ 1 _ rfl; refine pl ?_; refine blk_put (cs := #[.int .i64 0, .int .i64 0, .string (⟨#[]⟩ : ByteArray), .slice none 0 0]) ?_ 0 _ rfl; exact bx BK341.out⟩
  have n2_ : As (Below w.heap.size w ((((w78.setCell ⟨gb341, 0, none⟩ (.int .i64 ((rd_T62 l0_0 a1).f0))).setCell ⟨gb341, 1, none⟩ (.int .i64 ((rd_T62 l0_0 a1).f1))).setCell ⟨gb341, 2, none⟩ (.string ((rd_T62 l0_0 a1).f2))).setCell ⟨gb341, 3, none⟩ (.slice A340_3 ((rd_T62 l0_0 a1).f3).length c340_3))) := ⟨be w⟩
  (try clear BK339)
  (try clear BK341)
  (try clear HB)
  generalize ((((w78.setCell ⟨gb341, 0, none⟩ (.int .i64 ((rd_T62 l0_0 a1).f0))).setCell ⟨gb341, 1, none⟩ (.int .i64 ((rd_T62 l0_0 a1).f1))).setCell ⟨gb341, 2, none⟩ (.string ((rd_T62 l0_0 a1).f2))).setCell ⟨gb341, 3, none⟩ (.slice A340_3 ((rd_T62 l0_0 a1).f3).length c340_3)) = w81 at n0_ n1_ n2_ ⊢
  have BK339 := n0_
  have BK341 := n1_
  have HB := n2_
  clear n0_ n1_ n2_
  replace BK339 := As.mk (blk_drew BK339.out)
  replace BK341 := As.mk (blk_drew BK341.out)
  replace HB := As.mk (below_drew1 HB.out)
  have p349 : 0 ≤ (0 : Int) := (by omega)
  have q349 : 0 < (((rd_T62 l0_0 a1).f3).length : Int) := od
  obtain ⟨ad349, e349, hx349_0⟩ := Kd.at_int HR340_3.out 0 p349 q349
  have hw349_0 := hx349_0
  (try rw [show ((0 : Int)).toNat = 0 from rfl] at hw349_0)
  (try rw [show 0 * 1 = 0 from rfl] at hw349_0)
  (try rw [Addr.add_zero'] at hw349_0)
  cases e349
  have qi349 : (0 < ((rd_T62 l0_0 a1).f3).length) = True := eq_true (by omega)
  (try rw [show ((0 : Int)).toNat = 0 from rfl] at hx349_0)
  (try rw [Addr.add_zero'] at hx349_0)
  replace hx349_0 := ce HB.out hx349_0
  replace p349 := eq_true p349
  replace q349 := eq_true q349
  have p351 : 0 ≤ (1 : Int) := (by omega)
  have q351 : 1 < (((rd_T62 l0_0 a1).f3).length : Int) := od
  obtain ⟨ad351, e351, hx351_0⟩ := Kd.at_int HR340_3.out 1 p351 q351
  have hw351_0 := hx351_0
  (try rw [show ((1 : Int)).toNat = 1 from rfl] at hw351_0)
  (try rw [show 1 * 1 = 1 from rfl] at hw351_0)
  (try simp only [Nat.reduceMul, Nat.reduceEqDiff, Go.Addr.add, ↓reduceIte] at hw351_0)
  obtain rfl : ad349 = ad351 := (by injection e351)
  (try simp only [show (1 : Int).toNat = 1 from rfl, Nat.reduceMul, Nat.reduceEqDiff, Go.Addr.add, ↓reduceIte] at hx351_0)
  have qi351 : (1 < ((rd_T62 l0_0 a1).f3).length) = True := eq_true (by omega)
  (try rw [show ((1 : Int)).toNat = 1 from rfl] at hx351_0)
  replace hx351_0 := ce HB.out hx351_0
  replace p351 := eq_true p351
  replace q351 := eq_true q351
  refine start_ (n := 15) (S := fun w' => w'.cell? ⟨gb339, 0, none⟩ = some (.slice (some ad340) l0_0.length c0_0) ∧ w'.cell? ⟨gb339, 1, none⟩ = some (.slice A0_1 l0_1.length c0_1) ∧ w'.cell? ⟨gb341, 0, none⟩ = some (.int .i64 ((rd_T62 l0_0 a1).f0)) ∧ w'.cell? ⟨gb341, 1, none⟩ = some (.int .i64 ((rd_T62 l0_0 a1).f1)) ∧ w'.cell? ⟨gb341, 2, none⟩ = some (.string ((rd_T62 l0_0 a1).f2)) ∧ w'.cell? ⟨gb341, 3, none⟩ = some (.slice (some ad349) ((rd_T62 l0_0 a1).f3).length c340_3) ∧ w'.cell? ad349 = some (.int .i64 (rd ((rd_T62 l0_0 a1).f3) 0)) ∧ w'.cell? ⟨ad349.block, ad349.off + 1, none⟩ = some (.int .i64 (rd ((rd_T62 l0_0 a1).f3) 1))) (ds := []) #[O, O, O, O, O, O, O, O, O, O, O, O, O, O, O] (by kernel_rfl) rfl rfl ⟨(blk_cell BK339.out 0).trans rfl, (blk_cell BK339.out 1).trans rfl, (blk_cell BK341.out 0).trans rfl, (blk_cell BK341.out 1).trans rfl, (blk_cell BK341.out 2).trans rfl, (blk_cell BK341.out 3).trans rfl, (ce HB.out hw349_0 :), (ce HB.out hw351_0 :)⟩ (fun hHeld => ?_); refine with_tabW impl_showValue.tab20 impl_showValue.bits20 (fun HT_ HW_ => ?_)
  generalize w81.drew = w82 at BK339 BK341 HB hx349_0 hx351_0 hHeld ⊢
  refine pure_ (i := 1) (N := some 71) (v := ?_) (a' := ?_) #[O, I, O, O, O, O, O, O, O, O, O, O, O, O, O] rfl rfl (any_of HT_.out (by kernel_rfl)) (fun _ _ _ h => h) (Or.inl ⟨by rfl, ?_⟩) ?_ ?_
  rotate_left; · intro w'; go_simp; with_reducible rfl
  rotate_left; · simp only [pk, i64_w, i32_w]; rfl
  refine pure_ (i := 8) (N := some 78) (v := ?_) (a' := ?_) #[O, I, O, O, O, O, O, O, I, O, O, O, O, O, O] rfl rfl (any_of HT_.out (by kernel_rfl)) (fun _ _ _ h => h) (Or.inl ⟨by rfl, ?_⟩) ?_ ?_
  rotate_left; · intro w'; go_simp; with_reducible rfl
  rotate_left; · simp only [pk, i64_w, i32_w]; rfl
  refine take_ (i := 0) (N := some 70) (v := ?_) (a' := ?_) #[I, I, O, O, O, O, O, O, I, O, O, O, O, O, O] rfl rfl (take_ofW HT_.out HW_.out (by kernel_rfl)) (fun _ _ _ h => h) (Or.inl ⟨by rfl, ?_⟩) hHeld ?_ ?_
  rotate_left; · rintro w' ⟨s0, s1, s2, s3, s4, s5, s6, s7⟩; go_simp; with_reducible rfl
  rotate_left; · simp only [pk, i64_w, i32_w]; rfl
  refine take_ (i := 2) (N := some 72) (v := ?_) (a' := ?_) #[I, I, I, O, O, O, O, O, I, O, O, O, O, O, O] rfl rfl (take_ofW HT_.out HW_.out (by kernel_rfl)) (fun _ _ _ h => h) (Or.inl ⟨by rfl, ?_⟩) hHeld ?_ ?_
  rotate_left; · rintro w' ⟨s0, s1, s2, s3, s4, s5, s6, s7⟩; go_simp; with_reducible rfl
  rotate_left; · simp only [pk, i64_w, i32_w]; rfl
  refine pure_ (i := 3) (N := some 73) (v := ?_) (a' := ?_) #[I, I, I, I, O, O, O, O, I, O, O, O, O, O, O] rfl rfl (any_of HT_.out (by kernel_rfl)) (fun _ _ _ h => h) (Or.inl ⟨by rfl, ?_⟩) ?_ ?_
  rotate_left; · intro w'; go_simp; with_reducible rfl
  rotate_left; · simp only [pk, i64_w, i32_w]; rfl
  refine take_ (i := 4) (N := some 74) (v := ?_) (a' := ?_) #[I, I, I, I, I, O, O, O, I, O, O, O, O, O, O] rfl rfl (take_ofW HT_.out HW_.out (by kernel_rfl)) (fun _ _ _ h => h) (Or.inl ⟨by rfl, ?_⟩) hHeld ?_ ?_
  rotate_left; · rintro w' ⟨s0, s1, s2, s3, s4, s5, s6, s7⟩; go_simp; with_reducible rfl
  rotate_left; · simp only [pk, i64_w, i32_w]; rfl
  refine take_ (i := 7) (N := some 77) (v := ?_) (a' := ?_) #[I, I, I, I, I, O, O, I, I, O, O, O, O, O, O] rfl rfl (take_ofW HT_.out HW_.out (by kernel_rfl)) (fun _ _ _ h => h) (Or.inl ⟨by rfl, ?_⟩) hHeld ?_ ?_
  rotate_left; · rintro w' ⟨s0, s1, s2, s3, s4, s5, s6, s7⟩; go_simp; with_reducible rfl
  rotate_left; · simp only [pk, i64_w, i32_w]; rfl
  refine take_ (i := 9) (N := some 79) (v := ?_) (a' := ?_) #[I, I, I, I, I, O, O, I, I, I, O, O, O, O, O] rfl rfl (take_ofW HT_.out HW_.out (by kernel_rfl)) (fun _ _ _ h => h) (Or.inl ⟨by rfl, ?_⟩) hHeld ?_ ?_
  rotate_left; · rintro w' ⟨s0, s1, s2, s3, s4, s5, s6, s7⟩; go_simp; with_reducible rfl
  rotate_left; · simp only [pk, i64_w, i32_w]; rfl
  refine pure_ (i := 10) (N := some 80) (v := ?_) (a' := ?_) #[I, I, I, I, I, O, O, I, I, I, I, O, O, O, O] rfl rfl (any_of HT_.out (by kernel_rfl)) (fun _ _ _ h => h) (Or.inl ⟨by rfl, ?_⟩) ?_ ?_
  rotate_left; · intro w'; go_simp; with_reducible rfl
  rotate_left; · simp only [pk, i64_w, i32_w]; rfl
  refine take_ (i := 11) (N := some 81) (v := ?_) (a' := ?_) #[I, I, I, I, I, O, O, I, I, I, I, I, O, O, O] rfl rfl (take_ofW HT_.out HW_.out (by kernel_rfl)) (fun _ _ _ h => h) (Or.inl ⟨by rfl, ?_⟩) hHeld ?_ ?_
  rotate_left; · rintro w' ⟨s0, s1, s2, s3, s4, s5, s6, s7⟩; go_simp; with_reducible rfl
  rotate_left; · simp only [pk, i64_w, i32_w]; rfl
  refine one_ (i := 5) (N := some 75) #[I, I, I, I, I, I, O, I, I, I, I, I, O, O, O] rfl rfl (one_of HT_.out (by kernel_rfl)) (by decide) (fun K hK => ?_)
  refine goes_ Tryz.func86 (by kernel_rfl) rfl #[.agg #[.slice (some ad340) l0_0.length c0_0, .slice A0_1 l0_1.length c0_1], .int .i64 (rd ((rd_T62 l0_0 a1).f3) 0)] (by rfl) rfl rfl (by (try simp only [lm]); first | done | rfl | (simp only [List.length_drop, List.length_take]; rfl)) ?_
  with_reducible refine (ih_impl_showIn k (by omega) _ _ l0_0 _ _ l0_1 (rd ((rd_T62 l0_0 a1).f3) 0) t350 _ ?side1 ?side2 ?side3 ?side4 (by first | (with_reducible exact HTAB.out) | exact tabW_below HTAB.out (be w)) A71.out).mono ?_
  (case side1 => exact Kd.C_below HR0_0.out (be w))
  (case side2 => exact HC0_0.out)
  (case side3 => exact Kd.C_below HR0_1.out (be w))
  (case side4 => exact HC0_1.out)
  rintro e w83 ⟨rfl, hb⟩
  refine ⟨_, rfl, ?_⟩
  replace BK339 := As.mk (blk_below (bx BK339.out) hb)
  replace BK341 := As.mk (blk_below (bx BK341.out) hb)
  replace HB := As.mk (below_step (be w) hb)
  (try clear hb)
  (try clear hb2)
  (try clear hk)
  (try clear hi)
  refine hK.out _ _ ⟨(blk_cell BK339.out 0).trans rfl, (blk_cell BK339.out 1).trans rfl, (blk_cell BK341.out 0).trans rfl, (blk_cell BK341.out 1).trans rfl, (blk_cell BK341.out 2).trans rfl, (blk_cell BK341.out 3).trans rfl, (ce HB.out hw349_0 :), (ce HB.out hw351_0 :)⟩ (fun hHeld => ?_)
  clear hK K
  refine norm_ (a' := ?_) ?_ ?_
  rotate_left
  ·
   show Act.put _ (some 75) _ = _
   simp only [pk, i64_w, i32_w]
   rfl
  refine pure_ (i := 6) (N := some 76) (v := ?_) (a' := ?_) #[I, I, I, I, I, I, I, I, I, I, I, I, O, O, O] rfl rfl (any_of HT_.out (by kernel_rfl)) (fun _ _ _ h => h) (Or.inl ⟨by rfl, ?_⟩) ?_ ?_
  rotate_left; · intro w'; go_simp; with_reducible rfl
  rotate_left; · simp only [pk, i64_w, i32_w]; rfl
  refine one_ (i := 12) (N := some 82) #[I, I, I, I, I, I, I, I, I, I, I, I, I, O, O] rfl rfl (one_of HT_.out (by kernel_rfl)) (by decide) (fun K hK => ?_)
  refine goes_ Tryz.func86 (by kernel_rfl) rfl #[.agg #[.slice (some ad340) l0_0.length c0_0, .slice A0_1 l0_1.length c0_1], .int .i64 (rd ((rd_T62 l0_0 a1).f3) 1)] (by rfl) rfl rfl (by (try simp only [lm]); first | done | rfl | (simp only [List.length_drop, List.length_take]; rfl)) ?_
  with_reducible refine (ih_impl_showIn k (by omega) _ _ l0_0 _ _ l0_1 (rd ((rd_T62 l0_0 a1).f3) 1) t352 _ ?side1 ?side2 ?side3 ?side4 (by first | (with_reducible exact HTAB.out) | exact tabW_below HTAB.out (be w)) A74.out).mono ?_
  (case side1 => exact Kd.C_below HR0_0.out (be w))
  (case side2 => exact HC0_0.out)
  (case side3 => exact Kd.C_below HR0_1.out (be w))
  (case side4 => exact HC0_1.out)
  rintro e w84 ⟨rfl, hb⟩
  refine ⟨_, rfl, ?_⟩
  replace BK339 := As.mk (blk_below (bx BK339.out) hb)
  replace BK341 := As.mk (blk_below (bx BK341.out) hb)
  replace HB := As.mk (below_step (be w) hb)
  (try clear hb)
  (try clear hb2)
  (try clear hk)
  (try clear hi)
  refine hK.out _ _ ⟨(blk_cell BK339.out 0).trans rfl, (blk_cell BK339.out 1).trans rfl, (blk_cell BK341.out 0).trans rfl, (blk_cell BK341.out 1).trans rfl, (blk_cell BK341.out 2).trans rfl, (blk_cell BK341.out 3).trans rfl, (ce HB.out hw349_0 :), (ce HB.out hw351_0 :)⟩ (fun hHeld => ?_)
  clear hK K
  refine norm_ (a' := ?_) ?_ ?_
  rotate_left
  ·
   show Act.put _ (some 82) _ = _
   simp only [pk, i64_w, i32_w]
   rfl
  refine pure_ (i := 13) (N := some 83) (v := ?_) (a' := ?_) #[I, I, I, I, I, I, I, I, I, I, I, I, I, I, O] rfl rfl (any_of HT_.out (by kernel_rfl)) (fun _ _ _ h => h) (Or.inl ⟨by rfl, ?_⟩) ?_ ?_
  rotate_left; · intro w'; go_simp; with_reducible rfl
  rotate_left; · simp only [pk, i64_w, i32_w]; rfl
  refine pure_ (i := 14) (N := some 4) (v := ?_) (a' := ?_) #[I, I, I, I, I, I, I, I, I, I, I, I, I, I, I] rfl rfl (any_of HT_.out (by kernel_rfl)) (fun _ _ _ h => h) (Or.inl ⟨by rfl, ?_⟩) ?_ ?_
  rotate_left; · intro w'; go_simp; with_reducible rfl
  rotate_left; · simp only [pk, i64_w, i32_w]; rfl
  refine done_ (done_of HT_.out (by kernel_rfl)) ?_
  try go_wp2
  go_ret
  exact ⟨ez, be w⟩
 rw [if_neg c69] at H
 have c69b0 : (((rd_T62 l0_0 a1).f0) == 10) = false := beq_eq_false_iff_ne.mpr c69
 have c69b1 : (((rd_T62 l0_0 a1).f0) != 10) = true := bne_iff_ne.mpr c69
 by_cases c85 : ((rd_T62 l0_0 a1).f0) = 11
 ·
  rw [if_pos c85] at H
  have c85b0 : (((rd_T62 l0_0 a1).f0) == 11) = true := beq_iff_eq.mpr c85
  have c85b1 : (((rd_T62 l0_0 a1).f0) != 11) = false := bne_eq_false_iff_eq.mpr c85
  clear c85
  by_cases c86 : 0 < (((rd_T62 l0_0 a1).f3).length : Int)
  rotate_left; · rw [if_neg c86] at H; exact absurd H (by simp)
  rw [if_pos c86] at H
  have c86b0 : decide (0 < (((rd_T62 l0_0 a1).f3).length : Int)) = true := decide_eq_true c86
  have c86b1 : decide (0 < ((rd_T62 l0_0 a1).f3).length) = true := decide_eq_true (by omega)
  clear c86
  obtain ⟨t354, A870, H⟩ := Option.bind_eq_some_iff.mp H
  try dsimp only at H
  have A87 := As.mk A870
  clear A870
  by_cases c88 : t354.size + 4 ≤ 9223372036854775807
  rotate_left; · rw [if_neg c88] at H; exact absurd H (by simp)
  rw [if_pos c88] at H
  have c88b0 := eq_true c88
  have c88b1 : decide (t354.size + 4 ≤ 9223372036854775807) = true := decide_eq_true c88
  try have c88b2 : (9223372036854775807 < t354.size + 4) = False := eq_false (Nat.not_lt.2 c88)
  by_cases c89 : 1 < (((rd_T62 l0_0 a1).f3).length : Int)
  rotate_left; · rw [if_neg c89] at H; exact absurd H (by simp)
  rw [if_pos c89] at H
  have c89b0 : decide (1 < (((rd_T62 l0_0 a1).f3).length : Int)) = true := decide_eq_true c89
  have c89b1 : decide (1 < ((rd_T62 l0_0 a1).f3).length) = true := decide_eq_true (by omega)
  clear c89
  obtain ⟨t356, A900, H⟩ := Option.bind_eq_some_iff.mp H
  try dsimp only at H
  have A90 := As.mk A900
  clear A900
  by_cases c91 : (t354 ++ (⟨#[32, 61, 61, 32]⟩ : ByteArray)).size + t356.size ≤ 9223372036854775807
  rotate_left; · rw [if_neg c91] at H; exact absurd H (by simp)
  rw [if_pos c91] at H
  have c91b0 := eq_true c91
  have c91b1 : decide ((t354 ++ (⟨#[32, 61, 61, 32]⟩ : ByteArray)).size + t356.size ≤ 9223372036854775807) = true := decide_eq_true c91
  try have c91b2 : (9223372036854775807 < (t354 ++ (⟨#[32, 61, 61, 32]⟩ : ByteArray)).size + t356.size) = False := eq_false (Nat.not_lt.2 c91)
  try have c91b4 : (9223372036854775807 < t354.size + 4 + t356.size) = False := eq_false (Nat.not_lt.2 (by have h_ := c91; simp only [ByteArray.size_append] at h_; exact h_))
  obtain rfl := Option.some.inj H
  go_enter Tryz.func57, Tryz.ntmps57
  try go_wp2_with (first | ((with_reducible refine gate_dst (N := 2) rfl ?_); refine box_event ?hg (N := 2) ?hd (cs := #[.slice A0_0 l0_0.length c0_0, .slice A0_1 l0_1.length c0_1]) (t := 32) ?hr ?_; (case hd => rfl); (case hg => rfl); (case hr => first | (go_simp; done) | (go_simp; rfl)); intro gb339 hg w92 hbox hb; have BK339 := As.mk (hbox); have GW339 := As.mk (gs w hg); have GE339 := As.mk (gs w hg); replace HB := As.mk (below_step (be w) hb); clear hb hbox hg; obtain ⟨hcz93_0, hcz93_1, hfz93_0, hfz93_1⟩ := cl2 BK339.out; have p340 : 0 ≤ (a1 : Int) := od; have q340 : a1 < (l0_0.length : Int) := od; obtain ⟨ad340, A340_3, c340_3, e340, hx340_0, hx340_1, hx340_2, hx340_3, hl340_3, hi340_3⟩ := at_T62 HR0_0.out a1 p340 q340; cases e340; replace hx340_0 := ce HB.out hx340_0; replace hx340_1 := ce HB.out hx340_1; replace hx340_2 := ce HB.out hx340_2; replace hx340_3 := ce HB.out hx340_3; have HR340_3 := As.mk hi340_3; have HC340_3 := As.mk hl340_3; clear hi340_3 hl340_3; replace p340 := eq_true p340; replace q340 := eq_true q340) | ((with_reducible refine gate_dst (N := 5) rfl ?_); refine box_event ?hg (N := 5) ?hd (cs := #[.int .i64 0, .int .i64 0, .string (⟨#[]⟩ : ByteArray), .slice none 0 0]) (t := 62) ?hr ?_; (case hd => rfl); (case hg => rfl); (case hr => first | (go_simp; done) | (go_simp; rfl)); intro gb341 hg w94 hbox hb; have BK341 := As.mk (hbox); have GW341 := As.mk (gs w hg); have GE341 := As.mk (gs w hg); replace HB := As.mk (below_step (be w) hb); have NB339_341 := As.mk (nl hg (bx BK339.out)); have NB341_339 := As.mk (ng hg (bx BK339.out)); replace BK339 := As.mk (blk_below (bx BK339.out) hb); clear hb hbox hg; have hnb95 := NB341_339.out; have hnc95 := NB339_341.out; obtain ⟨hcz96_0, hcz96_1, hcz96_2, hcz96_3, hfz96_0, hfz96_1, hfz96_2, hfz96_3⟩ := cl4 BK341.out))
  have n0_ : As (((((w94.setCell ⟨gb341, 0, none⟩ (.int .i64 ((rd_T62 l0_0 a1).f0))).setCell ⟨gb341, 1, none⟩ (.int .i64 ((rd_T62 l0_0 a1).f1))).setCell ⟨gb341, 2, none⟩ (.string ((rd_T62 l0_0 a1).f2))).setCell ⟨gb341, 3, none⟩ (.slice A340_3 ((rd_T62 l0_0 a1).f3).length c340_3)).heap[gb339]? = some (.cells #[.slice (some ad340) l0_0.length c0_0, .slice A0_1 l0_1.length c0_1] 32 (0, 0))) := ⟨by refine pl ?_; refine blk_far ?_ NB339_341.out _; refine pl ?_; refine blk_far ?_ NB339_341.out _; refine pl ?_; refine blk_far ?_ NB339_341.out _; refine pl ?_; refine blk_far ?_ NB339_341.out _; exact bx BK339.out⟩
  have n1_ : As (((((w94.setCell ⟨gb341, 0, none⟩ (.int .i64 ((rd_T62 l0_0 a1).f0))).setCell ⟨gb341, 1, none⟩ (.int .i64 ((rd_T62 l0_0 a1).f1))).setCell ⟨gb341, 2, none⟩ (.string ((rd_T62 l0_0 a1).f2))).setCell ⟨gb341, 3, none⟩ (.slice A340_3 ((rd_T62 l0_0 a1).f3).length c340_3)).heap[gb341]? = some (.cells #[.int .i64 ((rd_T62 l0_0 a1).f0), .int .i64 ((rd_T62 l0_0 a1).f1), .string ((rd_T62 l0_0 a1).f2), .slice A340_3 ((rd_T62 l0_0 a1).f3).length c340_3] 62 (0, 0))) := ⟨by refine pl ?_; refine blk_put (cs := #[.int .i64 ((rd_T62 l0_0 a1).f0), .int .i64 ((rd_T62 l0_0 a1).f1), .string ((rd_T62 l0_0 a1).f2), .slice none 0 0]) ?_ 3 _ rfl; refine pl ?_; refine blk_put (cs := #[.int .i64 ((rd_T62 l0_0 a1).f0), .int .i64 ((rd_T62 l0_0 a1).f1), .string (⟨#[]⟩ : ByteArray), .slice none 0 0]) ?_ 2 _ rfl; refine pl ?_; refine blk_put (cs := #[.int .i64 ((rd_T62 l0_0 a1).f0), .int .i64 0, .string (⟨#[]⟩ : ByteArray), .slice none 0 0]) ?_ 1 _ rfl; refine pl ?_; refine blk_put (cs := #[.int .i64 0, .int .i64 0, .string (⟨#[]⟩ : ByteArray), .slice none 0 0]) ?_ 0 _ rfl; exact bx BK341.out⟩
  have n2_ : As (Below w.heap.size w ((((w94.setCell ⟨gb341, 0, none⟩ (.int .i64 ((rd_T62 l0_0 a1).f0))).setCell ⟨gb341, 1, none⟩ (.int .i64 ((rd_T62 l0_0 a1).f1))).setCell ⟨gb341, 2, none⟩ (.string ((rd_T62 l0_0 a1).f2))).setCell ⟨gb341, 3, none⟩ (.slice A340_3 ((rd_T62 l0_0 a1).f3).length c340_3))) := ⟨be w⟩
  (try clear BK339)
  (try clear BK341)
  (try clear HB)
  generalize ((((w94.setCell ⟨gb341, 0, none⟩ (.int .i64 ((rd_T62 l0_0 a1).f0))).setCell ⟨gb341, 1, none⟩ (.int .i64 ((rd_T62 l0_0 a1).f1))).setCell ⟨gb341, 2, none⟩ (.string ((rd_T62 l0_0 a1).f2))).setCell ⟨gb341, 3, none⟩ (.slice A340_3 ((rd_T62 l0_0 a1).f3).length c340_3)) = w97 at n0_ n1_ n2_ ⊢
  have BK339 := n0_
  have BK341 := n1_
  have HB := n2_
  clear n0_ n1_ n2_
  replace BK339 := As.mk (blk_drew BK339.out)
  replace BK341 := As.mk (blk_drew BK341.out)
  replace HB := As.mk (below_drew1 HB.out)
  have p353 : 0 ≤ (0 : Int) := (by omega)
  have q353 : 0 < (((rd_T62 l0_0 a1).f3).length : Int) := od
  obtain ⟨ad353, e353, hx353_0⟩ := Kd.at_int HR340_3.out 0 p353 q353
  have hw353_0 := hx353_0
  (try rw [show ((0 : Int)).toNat = 0 from rfl] at hw353_0)
  (try rw [show 0 * 1 = 0 from rfl] at hw353_0)
  (try rw [Addr.add_zero'] at hw353_0)
  cases e353
  have qi353 : (0 < ((rd_T62 l0_0 a1).f3).length) = True := eq_true (by omega)
  (try rw [show ((0 : Int)).toNat = 0 from rfl] at hx353_0)
  (try rw [Addr.add_zero'] at hx353_0)
  replace hx353_0 := ce HB.out hx353_0
  replace p353 := eq_true p353
  replace q353 := eq_true q353
  have p355 : 0 ≤ (1 : Int) := (by omega)
  have q355 : 1 < (((rd_T62 l0_0 a1).f3).length : Int) := od
  obtain ⟨ad355, e355, hx355_0⟩ := Kd.at_int HR340_3.out 1 p355 q355
  have hw355_0 := hx355_0
  (try rw [show ((1 : Int)).toNat = 1 from rfl] at hw355_0)
  (try rw [show 1 * 1 = 1 from rfl] at hw355_0)
  (try simp only [Nat.reduceMul, Nat.reduceEqDiff, Go.Addr.add, ↓reduceIte] at hw355_0)
  obtain rfl : ad353 = ad355 := (by injection e355)
  (try simp only [show (1 : Int).toNat = 1 from rfl, Nat.reduceMul, Nat.reduceEqDiff, Go.Addr.add, ↓reduceIte] at hx355_0)
  have qi355 : (1 < ((rd_T62 l0_0 a1).f3).length) = True := eq_true (by omega)
  (try rw [show ((1 : Int)).toNat = 1 from rfl] at hx355_0)
  replace hx355_0 := ce HB.out hx355_0
  replace p355 := eq_true p355
  replace q355 := eq_true q355
  refine start_ (n := 15) (S := fun w' => w'.cell? ⟨gb339, 0, none⟩ = some (.slice (some ad340) l0_0.length c0_0) ∧ w'.cell? ⟨gb339, 1, none⟩ = some (.slice A0_1 l0_1.length c0_1) ∧ w'.cell? ⟨gb341, 0, none⟩ = some (.int .i64 ((rd_T62 l0_0 a1).f0)) ∧ w'.cell? ⟨gb341, 1, none⟩ = some (.int .i64 ((rd_T62 l0_0 a1).f1)) ∧ w'.cell? ⟨gb341, 2, none⟩ = some (.string ((rd_T62 l0_0 a1).f2)) ∧ w'.cell? ⟨gb341, 3, none⟩ = some (.slice (some ad353) ((rd_T62 l0_0 a1).f3).length c340_3) ∧ w'.cell? ad353 = some (.int .i64 (rd ((rd_T62 l0_0 a1).f3) 0)) ∧ w'.cell? ⟨ad353.block, ad353.off + 1, none⟩ = some (.int .i64 (rd ((rd_T62 l0_0 a1).f3) 1))) (ds := []) #[O, O, O, O, O, O, O, O, O, O, O, O, O, O, O] (by kernel_rfl) rfl rfl ⟨(blk_cell BK339.out 0).trans rfl, (blk_cell BK339.out 1).trans rfl, (blk_cell BK341.out 0).trans rfl, (blk_cell BK341.out 1).trans rfl, (blk_cell BK341.out 2).trans rfl, (blk_cell BK341.out 3).trans rfl, (ce HB.out hw353_0 :), (ce HB.out hw355_0 :)⟩ (fun hHeld => ?_); refine with_tabW impl_showValue.tab22 impl_showValue.bits22 (fun HT_ HW_ => ?_)
  generalize w97.drew = w98 at BK339 BK341 HB hx353_0 hx355_0 hHeld ⊢
  refine pure_ (i := 1) (N := some 87) (v := ?_) (a' := ?_) #[O, I, O, O, O, O, O, O, O, O, O, O, O, O, O] rfl rfl (any_of HT_.out (by kernel_rfl)) (fun _ _ _ h => h) (Or.inl ⟨by rfl, ?_⟩) ?_ ?_
  rotate_left; · intro w'; go_simp; with_reducible rfl
  rotate_left; · simp only [pk, i64_w, i32_w]; rfl
  refine pure_ (i := 8) (N := some 94) (v := ?_) (a' := ?_) #[O, I, O, O, O, O, O, O, I, O, O, O, O, O, O] rfl rfl (any_of HT_.out (by kernel_rfl)) (fun _ _ _ h => h) (Or.inl ⟨by rfl, ?_⟩) ?_ ?_
  rotate_left; · intro w'; go_simp; with_reducible rfl
  rotate_left; · simp only [pk, i64_w, i32_w]; rfl
  refine take_ (i := 0) (N := some 86) (v := ?_) (a' := ?_) #[I, I, O, O, O, O, O, O, I, O, O, O, O, O, O] rfl rfl (take_ofW HT_.out HW_.out (by kernel_rfl)) (fun _ _ _ h => h) (Or.inl ⟨by rfl, ?_⟩) hHeld ?_ ?_
  rotate_left; · rintro w' ⟨s0, s1, s2, s3, s4, s5, s6, s7⟩; go_simp; with_reducible rfl
  rotate_left; · simp only [pk, i64_w, i32_w]; rfl
  refine take_ (i := 2) (N := some 88) (v := ?_) (a' := ?_) #[I, I, I, O, O, O, O, O, I, O, O, O, O, O, O] rfl rfl (take_ofW HT_.out HW_.out (by kernel_rfl)) (fun _ _ _ h => h) (Or.inl ⟨by rfl, ?_⟩) hHeld ?_ ?_
  rotate_left; · rintro w' ⟨s0, s1, s2, s3, s4, s5, s6, s7⟩; go_simp; with_reducible rfl
  rotate_left; · simp only [pk, i64_w, i32_w]; rfl
  refine pure_ (i := 3) (N := some 89) (v := ?_) (a' := ?_) #[I, I, I, I, O, O, O, O, I, O, O, O, O, O, O] rfl rfl (any_of HT_.out (by kernel_rfl)) (fun _ _ _ h => h) (Or.inl ⟨by rfl, ?_⟩) ?_ ?_
  rotate_left; · intro w'; go_simp; with_reducible rfl
  rotate_left; · simp only [pk, i64_w, i32_w]; rfl
  refine take_ (i := 4) (N := some 90) (v := ?_) (a' := ?_) #[I, I, I, I, I, O, O, O, I, O, O, O, O, O, O] rfl rfl (take_ofW HT_.out HW_.out (by kernel_rfl)) (fun _ _ _ h => h) (Or.inl ⟨by rfl, ?_⟩) hHeld ?_ ?_
  rotate_left; · rintro w' ⟨s0, s1, s2, s3, s4, s5, s6, s7⟩; go_simp; with_reducible rfl
  rotate_left; · simp only [pk, i64_w, i32_w]; rfl
  refine take_ (i := 7) (N := some 93) (v := ?_) (a' := ?_) #[I, I, I, I, I, O, O, I, I, O, O, O, O, O, O] rfl rfl (take_ofW HT_.out HW_.out (by kernel_rfl)) (fun _ _ _ h => h) (Or.inl ⟨by rfl, ?_⟩) hHeld ?_ ?_
  rotate_left; · rintro w' ⟨s0, s1, s2, s3, s4, s5, s6, s7⟩; go_simp; with_reducible rfl
  rotate_left; · simp only [pk, i64_w, i32_w]; rfl
  refine take_ (i := 9) (N := some 95) (v := ?_) (a' := ?_) #[I, I, I, I, I, O, O, I, I, I, O, O, O, O, O] rfl rfl (take_ofW HT_.out HW_.out (by kernel_rfl)) (fun _ _ _ h => h) (Or.inl ⟨by rfl, ?_⟩) hHeld ?_ ?_
  rotate_left; · rintro w' ⟨s0, s1, s2, s3, s4, s5, s6, s7⟩; go_simp; with_reducible rfl
  rotate_left; · simp only [pk, i64_w, i32_w]; rfl
  refine pure_ (i := 10) (N := some 96) (v := ?_) (a' := ?_) #[I, I, I, I, I, O, O, I, I, I, I, O, O, O, O] rfl rfl (any_of HT_.out (by kernel_rfl)) (fun _ _ _ h => h) (Or.inl ⟨by rfl, ?_⟩) ?_ ?_
  rotate_left; · intro w'; go_simp; with_reducible rfl
  rotate_left; · simp only [pk, i64_w, i32_w]; rfl
  refine take_ (i := 11) (N := some 97) (v := ?_) (a' := ?_) #[I, I, I, I, I, O, O, I, I, I, I, I, O, O, O] rfl rfl (take_ofW HT_.out HW_.out (by kernel_rfl)) (fun _ _ _ h => h) (Or.inl ⟨by rfl, ?_⟩) hHeld ?_ ?_
  rotate_left; · rintro w' ⟨s0, s1, s2, s3, s4, s5, s6, s7⟩; go_simp; with_reducible rfl
  rotate_left; · simp only [pk, i64_w, i32_w]; rfl
  refine one_ (i := 5) (N := some 91) #[I, I, I, I, I, I, O, I, I, I, I, I, O, O, O] rfl rfl (one_of HT_.out (by kernel_rfl)) (by decide) (fun K hK => ?_)
  refine goes_ Tryz.func86 (by kernel_rfl) rfl #[.agg #[.slice (some ad340) l0_0.length c0_0, .slice A0_1 l0_1.length c0_1], .int .i64 (rd ((rd_T62 l0_0 a1).f3) 0)] (by rfl) rfl rfl (by (try simp only [lm]); first | done | rfl | (simp only [List.length_drop, List.length_take]; rfl)) ?_
  with_reducible refine (ih_impl_showIn k (by omega) _ _ l0_0 _ _ l0_1 (rd ((rd_T62 l0_0 a1).f3) 0) t354 _ ?side1 ?side2 ?side3 ?side4 (by first | (with_reducible exact HTAB.out) | exact tabW_below HTAB.out (be w)) A87.out).mono ?_
  (case side1 => exact Kd.C_below HR0_0.out (be w))
  (case side2 => exact HC0_0.out)
  (case side3 => exact Kd.C_below HR0_1.out (be w))
  (case side4 => exact HC0_1.out)
  rintro e w99 ⟨rfl, hb⟩
  refine ⟨_, rfl, ?_⟩
  replace BK339 := As.mk (blk_below (bx BK339.out) hb)
  replace BK341 := As.mk (blk_below (bx BK341.out) hb)
  replace HB := As.mk (below_step (be w) hb)
  (try clear hb)
  (try clear hb2)
  (try clear hk)
  (try clear hi)
  refine hK.out _ _ ⟨(blk_cell BK339.out 0).trans rfl, (blk_cell BK339.out 1).trans rfl, (blk_cell BK341.out 0).trans rfl, (blk_cell BK341.out 1).trans rfl, (blk_cell BK341.out 2).trans rfl, (blk_cell BK341.out 3).trans rfl, (ce HB.out hw353_0 :), (ce HB.out hw355_0 :)⟩ (fun hHeld => ?_)
  clear hK K
  refine norm_ (a' := ?_) ?_ ?_
  rotate_left
  ·
   show Act.put _ (some 91) _ = _
   simp only [pk, i64_w, i32_w]
   rfl
  refine pure_ (i := 6) (N := some 92) (v := ?_) (a' := ?_) #[I, I, I, I, I, I, I, I, I, I, I, I, O, O, O] rfl rfl (any_of HT_.out (by kernel_rfl)) (fun _ _ _ h => h) (Or.inl ⟨by rfl, ?_⟩) ?_ ?_
  rotate_left; · intro w'; go_simp; with_reducible rfl
  rotate_left; · simp only [pk, i64_w, i32_w]; rfl
  refine one_ (i := 12) (N := some 98) #[I, I, I, I, I, I, I, I, I, I, I, I, I, O, O] rfl rfl (one_of HT_.out (by kernel_rfl)) (by decide) (fun K hK => ?_)
  refine goes_ Tryz.func86 (by kernel_rfl) rfl #[.agg #[.slice (some ad340) l0_0.length c0_0, .slice A0_1 l0_1.length c0_1], .int .i64 (rd ((rd_T62 l0_0 a1).f3) 1)] (by rfl) rfl rfl (by (try simp only [lm]); first | done | rfl | (simp only [List.length_drop, List.length_take]; rfl)) ?_
  with_reducible refine (ih_impl_showIn k (by omega) _ _ l0_0 _ _ l0_1 (rd ((rd_T62 l0_0 a1).f3) 1) t356 _ ?side1 ?side2 ?side3 ?side4 (by first | (with_reducible exact HTAB.out) | exact tabW_below HTAB.out (be w)) A90.out).mono ?_
  (case side1 => exact Kd.C_below HR0_0.out (be w))
  (case side2 => exact HC0_0.out)
  (case side3 => exact Kd.C_below HR0_1.out (be w))
  (case side4 => exact HC0_1.out)
  rintro e w100 ⟨rfl, hb⟩
  refine ⟨_, rfl, ?_⟩
  replace BK339 := As.mk (blk_below (bx BK339.out) hb)
  replace BK341 := As.mk (blk_below (bx BK341.out) hb)
  replace HB := As.mk (below_step (be w) hb)
  (try clear hb)
  (try clear hb2)
  (try clear hk)
  (try clear hi)
  refine hK.out _ _ ⟨(blk_cell BK339.out 0).trans rfl, (blk_cell BK339.out 1).trans rfl, (blk_cell BK341.out 0).trans rfl, (blk_cell BK341.out 1).trans rfl, (blk_cell BK341.out 2).trans rfl, (blk_cell BK341.out 3).trans rfl, (ce HB.out hw353_0 :), (ce HB.out hw355_0 :)⟩ (fun hHeld => ?_)
  clear hK K
  refine norm_ (a' := ?_) ?_ ?_
  rotate_left
  ·
   show Act.put _ (some 98) _ = _
   simp only [pk, i64_w, i32_w]
   rfl
  refine pure_ (i := 13) (N := some 99) (v := ?_) (a' := ?_) #[I, I, I, I, I, I, I, I, I, I, I, I, I, I, O] rfl rfl (any_of HT_.out (by kernel_rfl)) (fun _ _ _ h => h) (Or.inl ⟨by rfl, ?_⟩) ?_ ?_
  rotate_left; · intro w'; go_simp; with_reducible rfl
  rotate_left; · simp only [pk, i64_w, i32_w]; rfl
  refine pure_ (i := 14) (N := some 4) (v := ?_) (a' := ?_) #[I, I, I, I, I, I, I, I, I, I, I, I, I, I, I] rfl rfl (any_of HT_.out (by kernel_rfl)) (fun _ _ _ h => h) (Or.inl ⟨by rfl, ?_⟩) ?_ ?_
  rotate_left; · intro w'; go_simp; with_reducible rfl
  rotate_left; · simp only [pk, i64_w, i32_w]; rfl
  refine done_ (done_of HT_.out (by kernel_rfl)) ?_
  try go_wp2
  go_ret
  exact ⟨ez, be w⟩
 rw [if_neg c85] at H
 have c85b0 : (((rd_T62 l0_0 a1).f0) == 11) = false := beq_eq_false_iff_ne.mpr c85
 have c85b1 : (((rd_T62 l0_0 a1).f0) != 11) = true := bne_iff_ne.mpr c85
 by_cases c101 : ((rd_T62 l0_0 a1).f0) = 12
 rotate_left
 ·
  rw [if_neg c101] at H
  have c101b0 : (((rd_T62 l0_0 a1).f0) == 12) = false := beq_eq_false_iff_ne.mpr c101
  have c101b1 : (((rd_T62 l0_0 a1).f0) != 12) = true := bne_iff_ne.mpr c101
  obtain rfl := Option.some.inj H
  go_enter Tryz.func57, Tryz.ntmps57
  go_wp2_with (first | ((with_reducible refine gate_dst (N := 2) rfl ?_); refine box_event ?hg (N := 2) ?hd (cs := #[.slice A0_0 l0_0.length c0_0, .slice A0_1 l0_1.length c0_1]) (t := 32) ?hr ?_; (case hd => rfl); (case hg => rfl); (case hr => first | (go_simp; done) | (go_simp; rfl)); intro gb339 hg w123 hbox hb; have BK339 := As.mk (hbox); have GW339 := As.mk (gs w hg); have GE339 := As.mk (gs w hg); replace HB := As.mk (below_step (be w) hb); clear hb hbox hg; obtain ⟨hcz124_0, hcz124_1, hfz124_0, hfz124_1⟩ := cl2 BK339.out; have p340 : 0 ≤ (a1 : Int) := od; have q340 : a1 < (l0_0.length : Int) := od; obtain ⟨ad340, A340_3, c340_3, e340, hx340_0, hx340_1, hx340_2, hx340_3, hl340_3, hi340_3⟩ := at_T62 HR0_0.out a1 p340 q340; cases e340; replace hx340_0 := ce HB.out hx340_0; replace hx340_1 := ce HB.out hx340_1; replace hx340_2 := ce HB.out hx340_2; replace hx340_3 := ce HB.out hx340_3; have HR340_3 := As.mk hi340_3; have HC340_3 := As.mk hl340_3; clear hi340_3 hl340_3; replace p340 := eq_true p340; replace q340 := eq_true q340) | ((with_reducible refine gate_dst (N := 5) rfl ?_); refine box_event ?hg (N := 5) ?hd (cs := #[.int .i64 0, .int .i64 0, .string (⟨#[]⟩ : ByteArray), .slice none 0 0]) (t := 62) ?hr ?_; (case hd => rfl); (case hg => rfl); (case hr => first | (go_simp; done) | (go_simp; rfl)); intro gb341 hg w125 hbox hb; have BK341 := As.mk (hbox); have GW341 := As.mk (gs w hg); have GE341 := As.mk (gs w hg); replace HB := As.mk (below_step (be w) hb); clear hb hbox hg; obtain ⟨hcz126_0, hcz126_1, hcz126_2, hcz126_3, hfz126_0, hfz126_1, hfz126_2, hfz126_3⟩ := cl4 BK341.out))
  go_ret
  exact ⟨ez, be w⟩
 rw [if_pos c101] at H
 have c101b0 : (((rd_T62 l0_0 a1).f0) == 12) = true := beq_iff_eq.mpr c101
 have c101b1 : (((rd_T62 l0_0 a1).f0) != 12) = false := bne_eq_false_iff_eq.mpr c101
 clear c101
 have H' := As.mk H
 clear H
 go_enter Tryz.func57, Tryz.ntmps57
 go_wp2_with (first | ((with_reducible refine gate_dst (N := 2) rfl ?_); refine box_event ?hg (N := 2) ?hd (cs := #[.slice A0_0 l0_0.length c0_0, .slice A0_1 l0_1.length c0_1]) (t := 32) ?hr ?_; (case hd => rfl); (case hg => rfl); (case hr => first | (go_simp; done) | (go_simp; rfl)); intro gb339 hg w102 hbox hb; have BK339 := As.mk (hbox); have GW339 := As.mk (gs w hg); have GE339 := As.mk (gs w hg); replace HB := As.mk (below_step (be w) hb); clear hb hbox hg; obtain ⟨hcz103_0, hcz103_1, hfz103_0, hfz103_1⟩ := cl2 BK339.out; have p340 : 0 ≤ (a1 : Int) := od; have q340 : a1 < (l0_0.length : Int) := od; obtain ⟨ad340, A340_3, c340_3, e340, hx340_0, hx340_1, hx340_2, hx340_3, hl340_3, hi340_3⟩ := at_T62 HR0_0.out a1 p340 q340; cases e340; replace hx340_0 := ce HB.out hx340_0; replace hx340_1 := ce HB.out hx340_1; replace hx340_2 := ce HB.out hx340_2; replace hx340_3 := ce HB.out hx340_3; have HR340_3 := As.mk hi340_3; have HC340_3 := As.mk hl340_3; clear hi340_3 hl340_3; replace p340 := eq_true p340; replace q340 := eq_true q340) | ((with_reducible refine gate_dst (N := 5) rfl ?_); refine box_event ?hg (N := 5) ?hd (cs := #[.int .i64 0, .int .i64 0, .string (⟨#[]⟩ : ByteArray), .slice none 0 0]) (t := 62) ?hr ?_; (case hd => rfl); (case hg => rfl); (case hr => first | (go_simp; done) | (go_simp; rfl)); intro gb341 hg w104 hbox hb; have BK341 := As.mk (hbox); have GW341 := As.mk (gs w hg); have GE341 := As.mk (gs w hg); replace HB := As.mk (below_step (be w) hb); have NB339_341 := As.mk (nl hg (bx BK339.out)); have NB341_339 := As.mk (ng hg (bx BK339.out)); replace BK339 := As.mk (blk_below (bx BK339.out) hb); clear hb hbox hg; have hnb105 := NB341_339.out; have hnc105 := NB339_341.out; obtain ⟨hcz106_0, hcz106_1, hcz106_2, hcz106_3, hfz106_0, hfz106_1, hfz106_2, hfz106_3⟩ := cl4 BK341.out))
 go_loopg [6, 105] k (fun kq v6 v105 w' => ∃ (x6_1 : List ByteArray) (x105_1 : Int), v105 = .int .i64 x105_1 ∧ As (impl_showValue.l0 kq x6_1 ((rd_T62 l0_0 a1).f3) (((rd_T62 l0_0 a1).f3).length : Int) x105_1 l0_0 l0_1 ((rd_T62 l0_0 a1).f0) ((rd_T62 l0_0 a1).f1) ((rd_T62 l0_0 a1).f2) ((rd_T62 l0_0 a1).f3) = some r) ∧ As (kq ≤ k) ∧ As (Kd.R Kd.string 9 w' w.heap.size (fun _ => True) v6 x6_1) ∧ As (w'.heap[gb339]? = some (.cells #[(.slice (some ad340) l0_0.length c0_0), (.slice A0_1 l0_1.length c0_1)] 32 (0, 0))) ∧ As (w'.heap[gb341]? = some (.cells #[.int .i64 ((rd_T62 l0_0 a1).f0), .int .i64 ((rd_T62 l0_0 a1).f1), .string ((rd_T62 l0_0 a1).f2), (.slice A340_3 ((rd_T62 l0_0 a1).f3).length c340_3)] 62 (0, 0))) ∧ As (Below w.heap.size w w'))
 case atStart => exact ⟨(([] : List ByteArray)), (0), (by first | rfl | (simp; done) | (simp [*]; done)), H', ⟨Nat.le_refl _⟩, ⟨by first | exact Kd.R_nil _ _ _ _ _ | exact Kd.N_nil _ _ _ _ _ | exact Kd.V_nil _ _ _ _ _ | exact Kd.Q_nil _ _ _ _ _ | exact Kd.S_nil _ _ _ _ _⟩, ⟨by refine pl ?_; refine blk_far ?_ NB339_341.out _; refine pl ?_; refine blk_far ?_ NB339_341.out _; refine pl ?_; refine blk_far ?_ NB339_341.out _; refine pl ?_; refine blk_far ?_ NB339_341.out _; exact bx BK339.out⟩, ⟨by refine pl ?_; refine blk_put (cs := #[.int .i64 ((rd_T62 l0_0 a1).f0), .int .i64 ((rd_T62 l0_0 a1).f1), .string ((rd_T62 l0_0 a1).f2), .slice none 0 0]) ?_ 3 _ rfl; refine pl ?_; refine blk_put (cs := #[.int .i64 ((rd_T62 l0_0 a1).f0), .int .i64 ((rd_T62 l0_0 a1).f1), .string (⟨#[]⟩ : ByteArray), .slice none 0 0]) ?_ 2 _ rfl; refine pl ?_; refine blk_put (cs := #[.int .i64 ((rd_T62 l0_0 a1).f0), .int .i64 0, .string (⟨#[]⟩ : ByteArray), .slice none 0 0]) ?_ 1 _ rfl; refine pl ?_; refine blk_put (cs := #[.int .i64 0, .int .i64 0, .string (⟨#[]⟩ : ByteArray), .slice none 0 0]) ?_ 0 _ rfl; exact bx BK341.out⟩, ⟨be w⟩⟩
 case round =>
  clear H'
  (try clear c3); (try clear c5); (try clear c53); (try clear c53b0); (try clear c53b1); (try clear c69); (try clear c69b0); (try clear c69b1); (try clear c85); (try clear c85b0); (try clear c85b1); (try clear c101); (try clear c101b0); (try clear c101b1); (try clear hcz103_0); (try clear hcz103_1); (try clear hcz106_0); (try clear hcz106_1); (try clear hcz106_2); (try clear hcz106_3); (try clear hfz103_0); (try clear hfz103_1); (try clear hfz106_0); (try clear hfz106_1); (try clear hfz106_2); (try clear hfz106_3); (try clear hx340_0); (try clear hx340_1); (try clear hx340_2); (try clear hx340_3); (try clear p340); (try clear q340)
  obtain ⟨x6_1, x105_1, rfl, HA, HK1, HO_6, BK339, BK341, HB⟩ := hrel
  cases gk with
  | zero => exact absurd HA.out (by simp [impl_showValue.l0])
  | succ k1 =>
   have H := HA.out
   clear HA
   simp only [impl_showValue.l0] at H
   by_cases c107 : x105_1 < (((rd_T62 l0_0 a1).f3).length : Int)
   ·
    rw [if_pos c107] at H
    have c107b0 : decide (x105_1 < (((rd_T62 l0_0 a1).f3).length : Int)) = true := decide_eq_true c107
    clear c107
    by_cases c108 : 0 ≤ x105_1
    rotate_left; · rw [if_neg c108] at H; exact absurd H (by simp)
    rw [if_pos c108] at H
    have c108b0 : decide (0 ≤ x105_1) = true := decide_eq_true c108
    clear c108
    by_cases c109 : x105_1 < (((rd_T62 l0_0 a1).f3).length : Int)
    rotate_left; · rw [if_neg c109] at H; exact absurd H (by simp)
    rw [if_pos c109] at H
    have c109b0 : decide (x105_1 < (((rd_T62 l0_0 a1).f3).length : Int)) = true := decide_eq_true c109
    clear c109
    obtain ⟨t358, A1100, H⟩ := Option.bind_eq_some_iff.mp H
    try dsimp only at H
    have A110 := As.mk A1100
    clear A1100
    by_cases c111 : x6_1.length < 8796093022208
    rotate_left; · rw [if_neg c111] at H; exact absurd H (by simp)
    rw [if_pos c111] at H
    have LMc111 := As.mk c111
    clear c111
    obtain ⟨y359, hy359⟩ : ∃ y_ : List ByteArray, y_ = (x6_1 ++ [t358]) := ⟨_, rfl⟩
    replace H : (impl_showValue.l0 k1 y359 ((rd_T62 l0_0 a1).f3) (((rd_T62 l0_0 a1).f3).length : Int) (wrap64 (x105_1 + 1)) l0_0 l0_1 ((rd_T62 l0_0 a1).f0) ((rd_T62 l0_0 a1).f1) ((rd_T62 l0_0 a1).f2) ((rd_T62 l0_0 a1).f3)) = some r := by first | (rw [hy359]; with_reducible exact H) | (have H2_ := (Option.bind_some _ _).symm.trans H; rw [hy359]; with_reducible exact H2_) | (have H2_ := (Option.bind_some _ _).symm.trans H; with_reducible exact H2_) | with_reducible exact H | (rw [hy359]; exact H) | exact H
    have Ny359 := As.mk hy359
    clear hy359
    have H' := As.mk H
    clear H
    have p357 : 0 ≤ (x105_1 : Int) := od
    have q357 : x105_1 < (((rd_T62 l0_0 a1).f3).length : Int) := od
    obtain ⟨ad357, e357, hx357_0⟩ := Kd.at_int HR340_3.out x105_1 p357 q357
    cases e357
    replace hx357_0 := ce HB.out hx357_0
    replace p357 := eq_true p357
    replace q357 := eq_true q357
    have hnb112 := NB339_341.out
    have hnc112 := NB341_339.out
    obtain ⟨hcz113_0, hcz113_1, hfz113_0, hfz113_1⟩ := cl2 BK339.out
    go_wp2_with (first | ((with_reducible refine gate_callee (f := 57) rfl ?_); refine goesL_ (some 112) rfl rfl Tryz.func57 (by kernel_rfl) rfl #[.agg #[.slice (some ad340) l0_0.length c0_0, .slice A0_1 l0_1.length c0_1], .int .i64 (rd ((rd_T62 l0_0 a1).f3) x105_1)] rfl (by (try simp only [lm]); first | done | rfl | (simp only [List.length_drop, List.length_take]; rfl)) ?_; (with_reducible refine (ih k1 (by have := HK1.out; omega) _ _ l0_0 _ _ l0_1 (rd ((rd_T62 l0_0 a1).f3) x105_1) t358 _ ?side1 ?side2 ?side3 ?side4 (by first | (with_reducible exact HTAB.out) | exact tabW_below HTAB.out (be w)) A110.out).mono ?_); (case side1 => exact Kd.C_below HR0_0.out (be w)); (case side2 => exact HC0_0.out); (case side3 => exact Kd.C_below HR0_1.out (be w)); (case side4 => exact HC0_1.out); rintro e w114 ⟨rfl, hb⟩; refine ⟨_, rfl, ?_⟩; replace HO_6 := As.mk (Kd.R_below (by (with_reducible repeat (first | apply Kd.R_alloc | apply Kd.R_drewN | apply Kd.R_drew)); exact HO_6.out) hb); replace BK339 := As.mk (blk_below (bx BK339.out) hb); replace BK341 := As.mk (blk_below (bx BK341.out) hb); replace HB := As.mk (below_step (be w) hb); (try clear hb); (try clear hb2); (try clear hk); (try clear hi)) | ((with_reducible refine gate_builtin (b := .append) (xs := #[.tmp 109, .tmp 113]) rfl ?_); at_builtin; refine Kd.R_append Kd.string (w0 := w) w.heap.size rfl (.tmp 109) (.tmp 113) 98 9 (.string ⟨#[]⟩) 16 rfl Tryz.underlying98 info9 rfl (by decide) (by omega) u6 x6_1 t358 [.string t358] (fun _ => True) (fun _ => False) rfl rfl ?aP (fun _ hk => hk.elim) ?aF ?aO ?aB ?aS ?aL ?_; (case aP => exact rfl); (case aB => exact (be w)); (case aF => exact (fun _ _ => trivial)); (case aO => exact (by (with_reducible repeat (first | apply Kd.R_alloc | apply Kd.R_drewN | apply Kd.R_drew)); exact HO_6.out)); (case aS => exact (below_size (be w))); (case aL => have := LMc111.out; omega); intro v360 w115 ho hb hg hat; rw [← Ny359.out] at ho; replace BK339 := As.mk (blk_grown (g := gb339) (o := .cells #[.slice (some ad340) l0_0.length c0_0, .slice A0_1 l0_1.length c0_1] 32 (0, 0)) (bx BK339.out) hg (Kd.R_ne HO_6.out BK339.out (by decide))); replace BK341 := As.mk (blk_grown (g := gb341) (o := .cells #[.int .i64 ((rd_T62 l0_0 a1).f0), .int .i64 ((rd_T62 l0_0 a1).f1), .string ((rd_T62 l0_0 a1).f2), .slice (some ad357) ((rd_T62 l0_0 a1).f3).length c340_3] 62 (0, 0)) (bx BK341.out) hg (Kd.R_ne HO_6.out BK341.out (by decide))); replace HB := As.mk (hb); have HO361 := As.mk (ho); clear HO_6; clear ho hb hg hat))
    go_roundg k1
    case measure => have := HK1.out; omega
    case rel => exact ⟨(y359), (wrap64 (x105_1 + 1)), (by first | rfl | (simp; done) | (simp [*]; done)), H', ⟨by have := HK1.out; omega⟩, ⟨by (with_reducible repeat (first | apply Kd.R_alloc | apply Kd.R_drewN | apply Kd.R_drew)); exact HO361.out⟩, ⟨bx BK339.out⟩, ⟨bx BK341.out⟩, ⟨be w⟩⟩
   rw [if_neg c107] at H
   have c107b0 : decide (x105_1 < (((rd_T62 l0_0 a1).f3).length : Int)) = false := decide_eq_false c107
   clear c107
   by_cases c116 : ((rd_T62 l0_0 a1).f2).size + 1 ≤ 9223372036854775807
   rotate_left; · rw [if_neg c116] at H; exact absurd H (by simp)
   rw [if_pos c116] at H
   have c116b0 := eq_true c116
   have c116b1 : decide (((rd_T62 l0_0 a1).f2).size + 1 ≤ 9223372036854775807) = true := decide_eq_true c116
   try have c116b2 : (9223372036854775807 < ((rd_T62 l0_0 a1).f2).size + 1) = False := eq_false (Nat.not_lt.2 c116)
   obtain ⟨t362, A1170, H⟩ := Option.bind_eq_some_iff.mp H
   try dsimp only at H
   have A117 := As.mk A1170
   clear A1170
   by_cases c118 : (((rd_T62 l0_0 a1).f2) ++ (⟨#[40]⟩ : ByteArray)).size + t362.size ≤ 9223372036854775807
   rotate_left; · rw [if_neg c118] at H; exact absurd H (by simp)
   rw [if_pos c118] at H
   have c118b0 := eq_true c118
   have c118b1 : decide ((((rd_T62 l0_0 a1).f2) ++ (⟨#[40]⟩ : ByteArray)).size + t362.size ≤ 9223372036854775807) = true := decide_eq_true c118
   try have c118b2 : (9223372036854775807 < (((rd_T62 l0_0 a1).f2) ++ (⟨#[40]⟩ : ByteArray)).size + t362.size) = False := eq_false (Nat.not_lt.2 c118)
   try have c118b4 : (9223372036854775807 < ((rd_T62 l0_0 a1).f2).size + 1 + t362.size) = False := eq_false (Nat.not_lt.2 (by have h_ := c118; simp only [ByteArray.size_append] at h_; exact h_))
   by_cases c119 : ((((rd_T62 l0_0 a1).f2) ++ (⟨#[40]⟩ : ByteArray)) ++ t362).size + 1 ≤ 9223372036854775807
   rotate_left; · rw [if_neg c119] at H; exact absurd H (by simp)
   rw [if_pos c119] at H
   have c119b0 := eq_true c119
   have c119b1 : decide (((((rd_T62 l0_0 a1).f2) ++ (⟨#[40]⟩ : ByteArray)) ++ t362).size + 1 ≤ 9223372036854775807) = true := decide_eq_true c119
   try have c119b2 : (9223372036854775807 < ((((rd_T62 l0_0 a1).f2) ++ (⟨#[40]⟩ : ByteArray)) ++ t362).size + 1) = False := eq_false (Nat.not_lt.2 c119)
   try have c119b4 : (9223372036854775807 < ((rd_T62 l0_0 a1).f2).size + 1 + t362.size + 1) = False := eq_false (Nat.not_lt.2 (by have h_ := c119; simp only [ByteArray.size_append] at h_; exact h_))
   obtain rfl := Option.some.inj H
   try go_wp2
   replace HO_6 := As.mk (Kd.R_drew HO_6.out)
   replace BK339 := As.mk (blk_drew BK339.out)
   replace BK341 := As.mk (blk_drew BK341.out)
   replace HB := As.mk (below_drew1 HB.out)
   obtain ⟨Ao121, co121, eo121⟩ := Kd.R_slice HO_6.out
   (first | subst eo121 | (injection eo121 with f1_ f2_ f3_; have f4_ := f1_.symm; have f5_ := f3_.symm; clear f1_ f2_ f3_; subst f4_; subst f5_))
   refine start_ (n := 8) (S := fun w' => w'.cell? ⟨gb341, 0, none⟩ = some (.int .i64 ((rd_T62 l0_0 a1).f0)) ∧ w'.cell? ⟨gb341, 1, none⟩ = some (.int .i64 ((rd_T62 l0_0 a1).f1)) ∧ w'.cell? ⟨gb341, 2, none⟩ = some (.string ((rd_T62 l0_0 a1).f2)) ∧ w'.cell? ⟨gb341, 3, none⟩ = some (.slice A340_3 ((rd_T62 l0_0 a1).f3).length c340_3)) (ds := []) #[O, O, O, O, O, O, O, O] (by kernel_rfl) rfl rfl ⟨(blk_cell BK341.out 0).trans rfl, (blk_cell BK341.out 1).trans rfl, (blk_cell BK341.out 2).trans rfl, (blk_cell BK341.out 3).trans rfl⟩ (fun hHeld => ?_); refine with_tabW impl_showValue.tab30 impl_showValue.bits30 (fun HT_ HW_ => ?_)
   generalize wr.drew = w120 at HO_6 BK339 BK341 HB hHeld ⊢
   refine pure_ (i := 0) (N := some 116) (v := ?_) (a' := ?_) #[I, O, O, O, O, O, O, O] rfl rfl (any_of HT_.out (by kernel_rfl)) (fun _ _ _ h => h) (Or.inl ⟨by rfl, ?_⟩) ?_ ?_
   rotate_left; · intro w'; go_simp; with_reducible rfl
   rotate_left; · simp only [pk, i64_w, i32_w]; rfl
   refine pure_ (i := 3) (N := some 119) (v := ?_) (a' := ?_) #[I, O, O, I, O, O, O, O] rfl rfl (any_of HT_.out (by kernel_rfl)) (fun _ _ _ h => h) (Or.inl ⟨by rfl, ?_⟩) ?_ ?_
   rotate_left; · intro w'; go_simp; with_reducible rfl
   rotate_left; · simp only [pk, i64_w, i32_w]; rfl
   refine take_ (i := 1) (N := some 117) (v := ?_) (a' := ?_) #[I, I, O, I, O, O, O, O] rfl rfl (take_ofW HT_.out HW_.out (by kernel_rfl)) (fun _ _ _ h => h) (Or.inl ⟨by rfl, ?_⟩) hHeld ?_ ?_
   rotate_left; · rintro w' ⟨s0, s1, s2, s3⟩; go_simp; with_reducible rfl
   rotate_left; · simp only [pk, i64_w, i32_w]; rfl
   refine pure_ (i := 2) (N := some 118) (v := ?_) (a' := ?_) #[I, I, I, I, O, O, O, O] rfl rfl (any_of HT_.out (by kernel_rfl)) (fun _ _ _ h => h) (Or.inl ⟨by rfl, ?_⟩) ?_ ?_
   rotate_left; · intro w'; go_simp; with_reducible rfl
   rotate_left; · simp only [pk, i64_w, i32_w]; rfl
   refine one_ (i := 4) (N := some 120) #[I, I, I, I, I, O, O, O] rfl rfl (one_of HT_.out (by kernel_rfl)) (by decide) (fun K hK => ?_)
   refine goes_ Tryz.func84 (by kernel_rfl) rfl #[.slice Ao121 x6_1.length co121, .string (⟨#[44, 32]⟩ : ByteArray)] (by rfl) rfl rfl (by (try simp only [lm]); first | done | rfl | (simp only [List.length_drop, List.length_take]; rfl)) ?_
   with_reducible refine (strings_Join.calls _ _ x6_1 (⟨#[44, 32]⟩ : ByteArray) t362 _ ?side1 ?side2 A117.out).mono ?_
   (case side1 => repeat (first | exact (Kd.R_reads' HO_6.out).2.2 | (with_reducible refine Kd.C_alloc ?_ _) | (with_reducible refine Kd.C_drewN ?_ _) | (with_reducible refine Kd.C_drew ?_)))
   (case side2 => exact (Kd.R_reads' HO_6.out).2.1)
   rintro e w122 ⟨rfl, hb⟩
   refine ⟨_, rfl, ?_⟩
   replace HO_6 := As.mk (Kd.R_below (by (with_reducible repeat (first | apply Kd.R_alloc | apply Kd.R_drewN | apply Kd.R_drew)); exact HO_6.out) hb)
   replace BK339 := As.mk (blk_below (bx BK339.out) hb)
   replace BK341 := As.mk (blk_below (bx BK341.out) hb)
   replace HB := As.mk (below_step (be w) hb)
   (try clear hb)
   (try clear hb2)
   (try clear hk)
   (try clear hi)
   refine hK.out _ _ ⟨(blk_cell BK341.out 0).trans rfl, (blk_cell BK341.out 1).trans rfl, (blk_cell BK341.out 2).trans rfl, (blk_cell BK341.out 3).trans rfl⟩ (fun hHeld => ?_)
   clear hK K
   refine norm_ (a' := ?_) ?_ ?_
   rotate_left
   ·
    show Act.put _ (some 120) _ = _
    simp only [pk, i64_w, i32_w]
    rfl
   refine pure_ (i := 5) (N := some 121) (v := ?_) (a' := ?_) #[I, I, I, I, I, I, O, O] rfl rfl (any_of HT_.out (by kernel_rfl)) (fun _ _ _ h => h) (Or.inl ⟨by rfl, ?_⟩) ?_ ?_
   rotate_left; · intro w'; go_simp; with_reducible rfl
   rotate_left; · simp only [pk, i64_w, i32_w]; rfl
   refine pure_ (i := 6) (N := some 122) (v := ?_) (a' := ?_) #[I, I, I, I, I, I, I, O] rfl rfl (any_of HT_.out (by kernel_rfl)) (fun _ _ _ h => h) (Or.inl ⟨by rfl, ?_⟩) ?_ ?_
   rotate_left; · intro w'; go_simp; with_reducible rfl
   rotate_left; · simp only [pk, i64_w, i32_w]; rfl
   refine pure_ (i := 7) (N := some 4) (v := ?_) (a' := ?_) #[I, I, I, I, I, I, I, I] rfl rfl (any_of HT_.out (by kernel_rfl)) (fun _ _ _ h => h) (Or.inl ⟨by rfl, ?_⟩) ?_ ?_
   rotate_left; · intro w'; go_simp; with_reducible rfl
   rotate_left; · simp only [pk, i64_w, i32_w]; rfl
   refine done_ (done_of HT_.out (by kernel_rfl)) ?_
   try go_wp2
   go_ret
   exact ⟨ez, be w⟩
theorem impl_showValue.allO (k : Nat) : impl_showIn.C k ∧ impl_showValue.C k := by
  induction k using Nat.strongRecOn with
  | _ k ih => exact ⟨impl_showIn.callsO k (fun m_ h_ => (ih m_ h_).1) (fun m_ h_ => (ih m_ h_).2), impl_showValue.callsO k (fun m_ h_ => (ih m_ h_).1) (fun m_ h_ => (ih m_ h_).2)⟩
theorem impl_showIn.calls (k : Nat) : ∀ (A0_0 : Option Addr) (c0_0 : Nat) (l0_0 : List (S62)) (A0_1 : Option Addr) (c0_1 : Nat) (l0_1 : List (S56)) (a1 : Int) (r : ByteArray) (w : World) (hr0_0 : Kd.C k62 w A0_0 l0_0.length l0_0) (hc0_0 : l0_0.length ≤ c0_0) (hr0_1 : Kd.C k56 w A0_1 l0_1.length l0_1) (hc0_1 : l0_1.length ≤ c0_1) (hTab : TabW w) (h : impl_showIn.f k l0_0 l0_1 a1 = some r),
  Calls Tryz.prog 86 #[.agg #[.slice A0_0 l0_0.length c0_0, .slice A0_1 l0_1.length c0_1], .int .i64 a1] w fun e w' => e = .returned (.string r) ∧ Below w.heap.size w w' := (impl_showValue.allO k).1
theorem impl_showValue.calls (k : Nat) : ∀ (A0_0 : Option Addr) (c0_0 : Nat) (l0_0 : List (S62)) (A0_1 : Option Addr) (c0_1 : Nat) (l0_1 : List (S56)) (a1 : Int) (r : ByteArray) (w : World) (hr0_0 : Kd.C k62 w A0_0 l0_0.length l0_0) (hc0_0 : l0_0.length ≤ c0_0) (hr0_1 : Kd.C k56 w A0_1 l0_1.length l0_1) (hc0_1 : l0_1.length ≤ c0_1) (hTab : TabW w) (h : impl_showValue.f k l0_0 l0_1 a1 = some r),
  Calls Tryz.prog 57 #[.agg #[.slice A0_0 l0_0.length c0_0, .slice A0_1 l0_1.length c0_1], .int .i64 a1] w fun e w' => e = .returned (.string r) ∧ Below w.heap.size w w' := (impl_showValue.allO k).2

end Go.Proofs.YtcoapbnbakmkoaaGreatDoor.PFnExactShowValue
