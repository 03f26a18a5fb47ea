/- Written by a program of this session (a turned copy of the kit's print): a contract for each Go function. No condition beside those in each statement. -/
import Derived.Test.YtcoapbnbakmkoaaGreatDoorPFnExactShowStepx0
import Derived.Test.YtcoapbnbakmkoaaGreatDoorPFnExactShowStepx9
import Derived.Test.YtcoapbnbakmkoaaGreatDoorPFnExactShowStepx12
namespace Go.Proofs.YtcoapbnbakmkoaaGreatDoor.PFnExactShowStep
open Go.RowKit Go.Proofs.YtcoapbnbakmkoaaGreatDoor.Given Go.Proofs.YtcoapbnbakmkoaaGreatDoorW.PrintWords Go.Proofs.YtcoapbnbakmkoaaGreatDoorW.PrintLast Go.Proofs.YtcoapbnbakmkoaaGreatDoorW.PrintMore
attribute [local go_sem] max2_int min2_int max_two min_two max_three min_three max_four min_four   -- for this text's walks alone
set_option linter.unusedVariables false
set_option linter.unusedSimpArgs false

/-! ### impl_showValue: function 57 -/
/-! ### impl_showIn: function 86 -/
mutual
def impl_showIn.f : Nat → List (S62) → List (S56) → Int → Option (ByteArray)
  | 0, _, _, _ => none
  | k + 1, l0_0, l0_1, a1 => if 0 ≤ a1 then (if a1 < (l0_0.length : Int) then ((impl_in.f ((rd_T62 l0_0 a1).f0) 9 11).bind fun t363 => (if t363 = true then ((impl_showValue.f k l0_0 l0_1 a1).bind fun t364 => (if 1 + t364.size ≤ 9223372036854775807 then (if ((⟨#[40]⟩ : ByteArray) ++ t364).size + 1 ≤ 9223372036854775807 then (some (((⟨#[40]⟩ : ByteArray) ++ t364) ++ (⟨#[41]⟩ : ByteArray))) else (none)) else (none))) else ((impl_showValue.f k l0_0 l0_1 a1).bind fun t365 => (some t365)))) else (none)) else (none)
def impl_showValue.l0 : Nat → List ByteArray → List Int → Int → Int → List (S62) → List (S56) → Int → Int → ByteArray → List Int → Option (ByteArray)
  | 0, _, _, _, _, _, _, _, _, _, _ => none
  | k + 1, x6, x103, x104, x105, x367000, x367001, x369000, x369001, x369002, x369003 => if x105 < x104 then (if 0 ≤ x105 then (if x105 < (x103.length : Int) then ((impl_showValue.f k x367000 x367001 (rd x103 x105)).bind fun t385 => (if x6.length < 8796093022208 then (impl_showValue.l0 k (x6 ++ [t385]) x103 x104 (wrap64 (x105 + 1)) x367000 x367001 x369000 x369001 x369002 x369003) else (none))) else (none)) else (none)) else (if x369002.size + 1 ≤ 9223372036854775807 then ((strings_Join.f x6 (⟨#[44, 32]⟩ : ByteArray)).bind fun t389 => (if (x369002 ++ (⟨#[40]⟩ : ByteArray)).size + t389.size ≤ 9223372036854775807 then (if ((x369002 ++ (⟨#[40]⟩ : ByteArray)) ++ t389).size + 1 ≤ 9223372036854775807 then (some (((x369002 ++ (⟨#[40]⟩ : ByteArray)) ++ t389) ++ (⟨#[41]⟩ : ByteArray))) else (none)) else (none))) else (none))
def impl_showValue.f : Nat → List (S62) → List (S56) → Int → Option (ByteArray)
  | 0, _, _, _ => none
  | k + 1, l0_0, l0_1, a1 => if 0 ≤ a1 then (if a1 < (l0_0.length : Int) then (if ((rd_T62 l0_0 a1).f0) = 1 then ((impl_Decimal.f ((rd_T62 l0_0 a1).f1)).bind fun t369 => (some t369)) else (if ((rd_T62 l0_0 a1).f0) = 3 then (if 1 + ((rd_T62 l0_0 a1).f2).size ≤ 9223372036854775807 then (some ((⟨#[42]⟩ : ByteArray) ++ ((rd_T62 l0_0 a1).f2))) else (none)) else (if ((rd_T62 l0_0 a1).f0) = 4 then (if 6 + ((rd_T62 l0_0 a1).f2).size ≤ 9223372036854775807 then (some ((⟨#[99, 108, 111, 110, 101, 32]⟩ : ByteArray) ++ ((rd_T62 l0_0 a1).f2))) else (none)) else (if ((rd_T62 l0_0 a1).f0) = 5 then (if 1 + ((rd_T62 l0_0 a1).f2).size ≤ 9223372036854775807 then (some ((⟨#[38]⟩ : ByteArray) ++ ((rd_T62 l0_0 a1).f2))) else (none)) else (if ((rd_T62 l0_0 a1).f0) = 6 then (if 5 + ((rd_T62 l0_0 a1).f2).size ≤ 9223372036854775807 then (some ((⟨#[38, 109, 117, 116, 32]⟩ : ByteArray) ++ ((rd_T62 l0_0 a1).f2))) else (none)) else (if ((rd_T62 l0_0 a1).f0) = 7 then (some (⟨#[105, 110, 112, 117, 116]⟩ : ByteArray)) else (if ((rd_T62 l0_0 a1).f0) = 8 then (if 0 < (((rd_T62 l0_0 a1).f3).length : Int) then ((impl_showIn.f k l0_0 l0_1 (rd ((rd_T62 l0_0 a1).f3) 0)).bind fun t371 => (if 4 + t371.size ≤ 9223372036854775807 then (some ((⟨#[110, 101, 119, 32]⟩ : ByteArray) ++ t371)) else (none))) else (none)) else (if ((rd_T62 l0_0 a1).f0) = 9 then (if 0 < (((rd_T62 l0_0 a1).f3).length : Int) then ((impl_showIn.f k l0_0 l0_1 (rd ((rd_T62 l0_0 a1).f3) 0)).bind fun t373 => (if t373.size + 3 ≤ 9223372036854775807 then (if 1 < (((rd_T62 l0_0 a1).f3).length : Int) then ((impl_showIn.f k l0_0 l0_1 (rd ((rd_T62 l0_0 a1).f3) 1)).bind fun t375 => (if (t373 ++ (⟨#[32, 43, 32]⟩ : ByteArray)).size + t375.size ≤ 9223372036854775807 then (some ((t373 ++ (⟨#[32, 43, 32]⟩ : ByteArray)) ++ t375)) else (none))) else (none)) else (none))) else (none)) else (if ((rd_T62 l0_0 a1).f0) = 10 then (if 0 < (((rd_T62 l0_0 a1).f3).length : Int) then ((impl_showIn.f k l0_0 l0_1 (rd ((rd_T62 l0_0 a1).f3) 0)).bind fun t377 => (if t377.size + 3 ≤ 9223372036854775807 then (if 1 < (((rd_T62 l0_0 a1).f3).length : Int) then ((impl_showIn.f k l0_0 l0_1 (rd ((rd_T62 l0_0 a1).f3) 1)).bind fun t379 => (if (t377 ++ (⟨#[32, 60, 32]⟩ : ByteArray)).size + t379.size ≤ 9223372036854775807 then (some ((t377 ++ (⟨#[32, 60, 32]⟩ : ByteArray)) ++ t379)) else (none))) else (none)) else (none))) else (none)) else (if ((rd_T62 l0_0 a1).f0) = 11 then (if 0 < (((rd_T62 l0_0 a1).f3).length : Int) then ((impl_showIn.f k l0_0 l0_1 (rd ((rd_T62 l0_0 a1).f3) 0)).bind fun t381 => (if t381.size + 4 ≤ 9223372036854775807 then (if 1 < (((rd_T62 l0_0 a1).f3).length : Int) then ((impl_showIn.f k l0_0 l0_1 (rd ((rd_T62 l0_0 a1).f3) 1)).bind fun t383 => (if (t381 ++ (⟨#[32, 61, 61, 32]⟩ : ByteArray)).size + t383.size ≤ 9223372036854775807 then (some ((t381 ++ (⟨#[32, 61, 61, 32]⟩ : ByteArray)) ++ t383)) else (none))) else (none)) else (none))) else (none)) else (if ((rd_T62 l0_0 a1).f0) = 12 then (impl_showValue.l0 k ([] : List ByteArray) ((rd_T62 l0_0 a1).f3) (((rd_T62 l0_0 a1).f3).length : Int) 0 l0_0 l0_1 ((rd_T62 l0_0 a1).f0) ((rd_T62 l0_0 a1).f1) ((rd_T62 l0_0 a1).f2) ((rd_T62 l0_0 a1).f3)) else (some ((rd_T62 l0_0 a1).f2))))))))))))) else (none)) else (none)
end
theorem impl_showValue.mono_l : ∀ k, (∀ y0 y1 y2, LeO (impl_showIn.f k y0 y1 y2) (impl_showIn.f (k + 1) y0 y1 y2)) ∧ (∀ y0 y1 y2, LeO (impl_showValue.f k y0 y1 y2) (impl_showValue.f (k + 1) y0 y1 y2)) ∧ (∀ y0 y1 y2 y3 y4 y5 y6 y7 y8 y9, LeO (impl_showValue.l0 k y0 y1 y2 y3 y4 y5 y6 y7 y8 y9) (impl_showValue.l0 (k + 1) y0 y1 y2 y3 y4 y5 y6 y7 y8 y9))
  | 0 => ⟨fun _ _ _ r h => by simp [impl_showIn.f] at h, fun _ _ _ r h => by simp [impl_showValue.f] at h, fun _ _ _ _ _ _ _ _ _ _ r h => by simp [impl_showValue.l0] at h⟩
  | k + 1 => by
    obtain ⟨ih0, ih1, ih2⟩ := impl_showValue.mono_l k
    refine ⟨?_, ?_, ?_⟩
    · intro y0 y1 y2
      unfold impl_showIn.f
      repeat' first
      | (with_reducible exact ih0 _ _ _)
      | (with_reducible exact ih1 _ _ _)
      | (with_reducible exact ih2 _ _ _ _ _ _ _ _ _ _)
      | (with_reducible exact LeO.refl _)
      | (with_reducible exact LeO.none _)
      | (with_reducible refine LeO.ite ?_ ?_)
      | (with_reducible refine LeO.bind ?_ (fun _ => ?_))
      | exact ih0 _ _ _
      | exact ih1 _ _ _
      | exact ih2 _ _ _ _ _ _ _ _ _ _
      | exact LeO.none _
      | refine LeO.ite ?_ ?_
      | refine LeO.bind ?_ (fun _ => ?_)
    · intro y0 y1 y2
      unfold impl_showValue.f
      repeat' first
      | (with_reducible exact ih0 _ _ _)
      | (with_reducible exact ih1 _ _ _)
      | (with_reducible exact ih2 _ _ _ _ _ _ _ _ _ _)
      | (with_reducible exact LeO.refl _)
      | (with_reducible exact LeO.none _)
      | (with_reducible refine LeO.ite ?_ ?_)
      | (with_reducible refine LeO.bind ?_ (fun _ => ?_))
      | exact ih0 _ _ _
      | exact ih1 _ _ _
      | exact ih2 _ _ _ _ _ _ _ _ _ _
      | exact LeO.none _
      | refine LeO.ite ?_ ?_
      | refine LeO.bind ?_ (fun _ => ?_)
    · intro y0 y1 y2 y3 y4 y5 y6 y7 y8 y9
      unfold impl_showValue.l0
      repeat' first
      | (with_reducible exact ih0 _ _ _)
      | (with_reducible exact ih1 _ _ _)
      | (with_reducible exact ih2 _ _ _ _ _ _ _ _ _ _)
      | (with_reducible exact LeO.refl _)
      | (with_reducible exact LeO.none _)
      | (with_reducible refine LeO.ite ?_ ?_)
      | (with_reducible refine LeO.bind ?_ (fun _ => ?_))
      | exact ih0 _ _ _
      | exact ih1 _ _ _
      | exact ih2 _ _ _ _ _ _ _ _ _ _
      | exact LeO.none _
      | refine LeO.ite ?_ ?_
      | refine LeO.bind ?_ (fun _ => ?_)
theorem impl_showIn.mono : ∀ a0 a1 a2 k, LeO (impl_showIn.f k a0 a1 a2) (impl_showIn.f (k + 1) a0 a1 a2) := by
  intro a0 a1 a2 k
  obtain ⟨ih0, ih1, ih2⟩ := impl_showValue.mono_l k
  exact ih0 a0 a1 a2
theorem impl_showValue.mono : ∀ a0 a1 a2 k, LeO (impl_showValue.f k a0 a1 a2) (impl_showValue.f (k + 1) a0 a1 a2) := by
  intro a0 a1 a2 k
  obtain ⟨ih0, ih1, ih2⟩ := impl_showValue.mono_l k
  exact ih1 a0 a1 a2
abbrev impl_showIn.C (k : Nat) : Prop := ∀ (A0_0 : Option Addr) (c0_0 : Nat) (l0_0 : List (S62)) (A0_1 : Option Addr) (c0_1 : Nat) (l0_1 : List (S56)) (a1 : Int) (r : ByteArray) (w : World) (hr0_0 : Kd.C k62 w A0_0 l0_0.length l0_0) (hc0_0 : l0_0.length ≤ c0_0) (hr0_1 : Kd.C k56 w A0_1 l0_1.length l0_1) (hc0_1 : l0_1.length ≤ c0_1) (hTab : TabW w) (h : impl_showIn.f k l0_0 l0_1 a1 = some r),
  Calls Tryz.prog 86 #[.agg #[.slice A0_0 l0_0.length c0_0, .slice A0_1 l0_1.length c0_1], .int .i64 a1] w fun e w' => e = .returned (.string r) ∧ Below w.heap.size w w'
abbrev impl_showValue.C (k : Nat) : Prop := ∀ (A0_0 : Option Addr) (c0_0 : Nat) (l0_0 : List (S62)) (A0_1 : Option Addr) (c0_1 : Nat) (l0_1 : List (S56)) (a1 : Int) (r : ByteArray) (w : World) (hr0_0 : Kd.C k62 w A0_0 l0_0.length l0_0) (hc0_0 : l0_0.length ≤ c0_0) (hr0_1 : Kd.C k56 w A0_1 l0_1.length l0_1) (hc0_1 : l0_1.length ≤ c0_1) (hTab : TabW w) (h : impl_showValue.f k l0_0 l0_1 a1 = some r),
  Calls Tryz.prog 57 #[.agg #[.slice A0_0 l0_0.length c0_0, .slice A0_1 l0_1.length c0_1], .int .i64 a1] w fun e w' => e = .returned (.string r) ∧ Below w.heap.size w w'
set_option maxHeartbeats 8000000 in
set_option maxRecDepth 100000 in
theorem impl_showIn.callsO (k : Nat) (ih : ∀ m_, m_ < k → impl_showIn.C m_) (ih_impl_showValue : ∀ m_, m_ < k → impl_showValue.C m_) : impl_showIn.C k := by
 intro A0_0 c0_0 l0_0 A0_1 c0_1 l0_1 a1 r w hr0_0 hc0_0 hr0_1 hc0_1 hTab h
 have HTAB := As.mk hTab
 clear hTab
 cases k with
 | zero => exact absurd h (by simp [impl_showIn.f])
 | succ k =>
 simp only [impl_showIn.f] at h
 have hu32 := Tryz.underlying32
 have HR0_0 := As.mk hr0_0
 have HC0_0 := As.mk hc0_0
 clear hr0_0 hc0_0
 have HR0_1 := As.mk hr0_1
 have HC0_1 := As.mk hc0_1
 clear hr0_1 hc0_1
 have HB := As.mk (Below.refl w.heap.size w)
 have H : (if 0 ≤ a1 then (if a1 < (l0_0.length : Int) then ((impl_in.f ((rd_T62 l0_0 a1).f0) 9 11).bind fun t363 => (if t363 = true then ((impl_showValue.f k l0_0 l0_1 a1).bind fun t364 => (if 1 + t364.size ≤ 9223372036854775807 then (if ((⟨#[40]⟩ : ByteArray) ++ t364).size + 1 ≤ 9223372036854775807 then (some (((⟨#[40]⟩ : ByteArray) ++ t364) ++ (⟨#[41]⟩ : ByteArray))) else (none)) else (none))) else ((impl_showValue.f k l0_0 l0_1 a1).bind fun t365 => (some t365)))) else (none)) else (none)) = some r := h
 clear h
 by_cases c3 : 0 ≤ a1
 rotate_left; · rw [if_neg c3] at H; exact absurd H (by simp)

 rw [if_pos c3] at H
 have c3b0 := decide_eq_true c3
 clear c3
 have c4 := i1 H; replace H := i2 H
 have c4b0 := decide_eq_true c4
 clear c4
 obtain ⟨t363, A50, H⟩ := Option.bind_eq_some_iff.mp H
 try dsimp only at H
 have A5 := As.mk A50
 clear A50
 by_cases c6 : t363 = true
 rotate_left
 ·
  replace c6 := Bool.eq_false_iff.mpr c6
  subst c6
  rw [if_neg (show ¬ (false = true) by decide)] at H
  obtain ⟨t365, A130, H⟩ := Option.bind_eq_some_iff.mp H
  try dsimp only at H
  have A13 := As.mk A130
  clear A130
  obtain rfl := Option.some.inj H
  go_enter Tryz.func86, Tryz.ntmps86
  go_wp2_with (first | ((with_reducible refine gate_dst (N := 2) rfl ?_); refine box_event ?hg (N := 2) ?hd (cs := #[.slice A0_0 l0_0.length c0_0, .slice A0_1 l0_1.length c0_1]) (t := 32) ?hr ?_; (case hd => rfl); (case hg => rfl); (case hr => first | (go_simp; done) | (go_simp; rfl)); intro gb361 hg w14 hbox hb; have BK361 := As.mk (hbox); have GW361 := As.mk (gs w hg); replace HB := As.mk (below_step (be w) hb); clear hb hbox hg; obtain ⟨hcz15_0, hcz15_1, hfz15_0, hfz15_1⟩ := cl2 BK361.out; have p362 : 0 ≤ (a1 : Int) := od; have q362 : a1 < (l0_0.length : Int) := od; obtain ⟨ad362, A362_3, c362_3, e362, hx362_0, hx362_1, hx362_2, hx362_3, hl362_3, hi362_3⟩ := at_T62 HR0_0.out a1 p362 q362; cases e362; replace hx362_0 := ce HB.out hx362_0; replace hx362_1 := ce HB.out hx362_1; replace hx362_2 := ce HB.out hx362_2; replace hx362_3 := ce HB.out hx362_3; have HR362_3 := As.mk hi362_3; have HC362_3 := As.mk hl362_3; clear hi362_3 hl362_3; replace p362 := eq_true p362; replace q362 := eq_true q362) | ((with_reducible refine gate_callee (f := 36) rfl ?_); refine goesL_ (some 11) rfl rfl Tryz.func36 (by kernel_rfl) rfl #[.int .i64 ((rd_T62 l0_0 a1).f0), .int .i64 9, .int .i64 11] rfl gl ?_; (with_reducible refine (impl_in.calls ((rd_T62 l0_0 a1).f0) 9 11 false _ A5.out).mono ?_); rintro e w' ⟨rfl, ⟨nd, rfl⟩⟩; refine ⟨_, rfl, ?_⟩) | ((with_reducible refine gate_callee (f := 57) rfl ?_); refine goesL_ (some 19) rfl rfl Tryz.func57 (by kernel_rfl) rfl #[.agg #[.slice (some ad362) l0_0.length c0_0, .slice A0_1 l0_1.length c0_1], .int .i64 a1] rfl gl ?_; (with_reducible refine (ih_impl_showValue k (by omega) _ _ l0_0 _ _ l0_1 a1 t365 _ ?side1 ?side2 ?side3 ?side4 (by first | (with_reducible exact HTAB.out) | exact tabW_below HTAB.out (be w)) A13.out).mono ?_); (case side1 => exact Kd.C_below HR0_0.out (be w)); (case side2 => exact HC0_0.out); (case side3 => exact Kd.C_below HR0_1.out (be w)); (case side4 => exact HC0_1.out); rintro e w16 ⟨rfl, hb⟩; refine ⟨_, rfl, ?_⟩; replace HB := As.mk (below_step (be w) hb); (try clear hb)))
  go_ret
  exact ⟨ez, be w⟩
 subst c6
 rw [if_pos rfl] at H
 obtain ⟨t364, A70, H⟩ := Option.bind_eq_some_iff.mp H
 try dsimp only at H
 have A7 := As.mk A70
 clear A70
 have c8 := i1 H; replace H := i2 H
 have c8b0 := eq_true c8
 have c8b1 := decide_eq_true c8
 try have c8b2 := eq_false (Nat.not_lt.2 c8)
 have c9 := i1 H; replace H := i2 H
 have c9b0 := eq_true c9
 have c9b1 := decide_eq_true c9
 try have c9b2 := eq_false (Nat.not_lt.2 c9)
 try have c9b4 : (9223372036854775807 < 1 + t364.size + 1) = False := eq_false (Nat.not_lt.2 (by have h_ := c9; simp only [ByteArray.size_append] at h_; exact h_))
 obtain rfl := Option.some.inj H
 go_enter Tryz.func86, Tryz.ntmps86
 go_wp2_with (first | ((with_reducible refine gate_dst (N := 2) rfl ?_); refine box_event ?hg (N := 2) ?hd (cs := #[.slice A0_0 l0_0.length c0_0, .slice A0_1 l0_1.length c0_1]) (t := 32) ?hr ?_; (case hd => rfl); (case hg => rfl); (case hr => first | (go_simp; done) | (go_simp; rfl)); intro gb361 hg w10 hbox hb; have BK361 := As.mk (hbox); have GW361 := As.mk (gs w hg); replace HB := As.mk (below_step (be w) hb); clear hb hbox hg; obtain ⟨hcz11_0, hcz11_1, hfz11_0, hfz11_1⟩ := cl2 BK361.out; have p362 : 0 ≤ (a1 : Int) := od; have q362 : a1 < (l0_0.length : Int) := od; obtain ⟨ad362, A362_3, c362_3, e362, hx362_0, hx362_1, hx362_2, hx362_3, hl362_3, hi362_3⟩ := at_T62 HR0_0.out a1 p362 q362; cases e362; replace hx362_0 := ce HB.out hx362_0; replace hx362_1 := ce HB.out hx362_1; replace hx362_2 := ce HB.out hx362_2; replace hx362_3 := ce HB.out hx362_3; have HR362_3 := As.mk hi362_3; have HC362_3 := As.mk hl362_3; clear hi362_3 hl362_3; replace p362 := eq_true p362; replace q362 := eq_true q362) | ((with_reducible refine gate_callee (f := 36) rfl ?_); refine goesL_ (some 11) rfl rfl Tryz.func36 (by kernel_rfl) rfl #[.int .i64 ((rd_T62 l0_0 a1).f0), .int .i64 9, .int .i64 11] rfl gl ?_; (with_reducible refine (impl_in.calls ((rd_T62 l0_0 a1).f0) 9 11 true _ A5.out).mono ?_); rintro e w' ⟨rfl, ⟨nd, rfl⟩⟩; refine ⟨_, rfl, ?_⟩) | ((with_reducible refine gate_callee (f := 57) rfl ?_); refine goesL_ (some 14) rfl rfl Tryz.func57 (by kernel_rfl) rfl #[.agg #[.slice (some ad362) l0_0.length c0_0, .slice A0_1 l0_1.length c0_1], .int .i64 a1] rfl gl ?_; (with_reducible refine (ih_impl_showValue k (by omega) _ _ l0_0 _ _ l0_1 a1 t364 _ ?side1 ?side2 ?side3 ?side4 (by first | (with_reducible exact HTAB.out) | exact tabW_below HTAB.out (be w)) A7.out).mono ?_); (case side1 => exact Kd.C_below HR0_0.out (be w)); (case side2 => exact HC0_0.out); (case side3 => exact Kd.C_below HR0_1.out (be w)); (case side4 => exact HC0_1.out); rintro e w12 ⟨rfl, hb⟩; refine ⟨_, rfl, ?_⟩; replace HB := As.mk (below_step (be w) hb); (try clear hb)))
 go_ret
 exact ⟨ez, be w⟩
def impl_showValue.T16 : Bool × List (List Nat × List Nat) := (true, [([], []), ([], []), ([1], [1]), ([2], [2]), ([3], [3]), ([0, 4], [0, 4]), ([5], [5]), ([6, 5, 0, 1, 2, 3, 4, 5, 6], [6])])
def impl_showValue.B16 : List Nat := [0, 0, 2, 6, 14, 31, 63, 127]
theorem impl_showValue.tab16 : rtab .any (opsOf Tryz.f57 16) = impl_showValue.T16 := by kernel_rfl
theorem impl_showValue.bits16 : waitsOk impl_showValue.T16.2 impl_showValue.B16 = true := by kernel_rfl
def impl_showValue.T18 : Bool × List (List Nat × List Nat) := (true, [([], []), ([], []), ([1], [1]), ([2], [2]), ([3], [3]), ([0, 4], [0, 4]), ([5], [5]), ([], []), ([], []), ([8], [8]), ([9], [9]), ([10], [10]), ([7, 11, 5], [7, 11]), ([6, 12], [6, 12]), ([13, 12, 0, 1, 2, 3, 4, 5, 6, 7, 8, 9, 10, 11, 12, 13], [13])])
def impl_showValue.B18 : List Nat := [0, 0, 2, 6, 14, 31, 63, 0, 0, 256, 768, 1792, 4031, 8191, 16383]
theorem impl_showValue.tab18 : rtab .any (opsOf Tryz.f57 18) = impl_showValue.T18 := by kernel_rfl
theorem impl_showValue.bits18 : waitsOk impl_showValue.T18.2 impl_showValue.B18 = true := by kernel_rfl
def impl_showValue.T20 : Bool × List (List Nat × List Nat) := (true, [([], []), ([], []), ([1], [1]), ([2], [2]), ([3], [3]), ([0, 4], [0, 4]), ([5], [5]), ([], []), ([], []), ([8], [8]), ([9], [9]), ([10], [10]), ([7, 11, 5], [7, 11]), ([6, 12], [6, 12]), ([13, 12, 0, 1, 2, 3, 4, 5, 6, 7, 8, 9, 10, 11, 12, 13], [13])])
def impl_showValue.B20 : List Nat := [0, 0, 2, 6, 14, 31, 63, 0, 0, 256, 768, 1792, 4031, 8191, 16383]
theorem impl_showValue.tab20 : rtab .any (opsOf Tryz.f57 20) = impl_showValue.T20 := by kernel_rfl
theorem impl_showValue.bits20 : waitsOk impl_showValue.T20.2 impl_showValue.B20 = true := by kernel_rfl
def impl_showValue.T22 : Bool × List (List Nat × List Nat) := (true, [([], []), ([], []), ([1], [1]), ([2], [2]), ([3], [3]), ([0, 4], [0, 4]), ([5], [5]), ([], []), ([], []), ([8], [8]), ([9], [9]), ([10], [10]), ([7, 11, 5], [7, 11]), ([6, 12], [6, 12]), ([13, 12, 0, 1, 2, 3, 4, 5, 6, 7, 8, 9, 10, 11, 12, 13], [13])])
def impl_showValue.B22 : List Nat := [0, 0, 2, 6, 14, 31, 63, 0, 0, 256, 768, 1792, 4031, 8191, 16383]
theorem impl_showValue.tab22 : rtab .any (opsOf Tryz.f57 22) = impl_showValue.T22 := by kernel_rfl
theorem impl_showValue.bits22 : waitsOk impl_showValue.T22.2 impl_showValue.B22 = true := by kernel_rfl
def impl_showValue.T30 : Bool × List (List Nat × List Nat) := (true, [([], []), ([0], [0]), ([1], [1]), ([], []), ([3], [3]), ([2, 4], [2, 4]), ([5], [5]), ([6, 4, 0, 1, 2, 3, 4, 5, 6], [6])])
def impl_showValue.B30 : List Nat := [0, 1, 3, 0, 8, 31, 63, 127]
theorem impl_showValue.tab30 : rtab .any (opsOf Tryz.f57 30) = impl_showValue.T30 := by kernel_rfl
theorem impl_showValue.bits30 : waitsOk impl_showValue.T30.2 impl_showValue.B30 = true := by kernel_rfl
set_option maxHeartbeats 8000000 in
set_option maxRecDepth 100000 in
theorem impl_showValue.callsO (k : Nat) (ih_impl_showIn : ∀ m_, m_ < k → impl_showIn.C m_) (ih : ∀ m_, m_ < k → impl_showValue.C m_) : impl_showValue.C k := by
 intro A0_0 c0_0 l0_0 A0_1 c0_1 l0_1 a1 r w hr0_0 hc0_0 hr0_1 hc0_1 hTab h
 have HTAB := As.mk hTab
 clear hTab
 cases k with
 | zero => exact absurd h (by simp [impl_showValue.f])
 | succ k =>
 simp only [impl_showValue.f] at h
 have hu32 := Tryz.underlying32
 have hu62 := Tryz.underlying62
 have HR0_0 := As.mk hr0_0
 have HC0_0 := As.mk hc0_0
 clear hr0_0 hc0_0
 have HR0_1 := As.mk hr0_1
 have HC0_1 := As.mk hc0_1
 clear hr0_1 hc0_1
 have HB := As.mk (Below.refl w.heap.size w)
 have H := h
 clear h
 by_cases c3 : 0 ≤ a1
 rotate_left; · rw [if_neg c3] at H; exact absurd H (by simp)

 rw [if_pos c3] at H
 have c3b0 := decide_eq_true c3
 clear c3
 have c4 := i1 H; replace H := i2 H
 have c4b0 := decide_eq_true c4
 clear c4
 by_cases c5 : ((rd_T62 l0_0 a1).f0) = 1
 ·
  rw [if_pos c5] at H
  have c5b0 : (((rd_T62 l0_0 a1).f0) == 1) = true := beq_iff_eq.mpr c5
  have c5b1 : (((rd_T62 l0_0 a1).f0) != 1) = false := bne_eq_false_iff_eq.mpr c5
  clear c5
  obtain ⟨t369, A60, H⟩ := Option.bind_eq_some_iff.mp H
  try dsimp only at H
  have A6 := As.mk A60
  clear A60
  obtain rfl := Option.some.inj H
  go_enter Tryz.func57, Tryz.ntmps57
  go_wp2_with (first | ((with_reducible refine gate_dst (N := 2) rfl ?_); refine box_event ?hg (N := 2) ?hd (cs := #[.slice A0_0 l0_0.length c0_0, .slice A0_1 l0_1.length c0_1]) (t := 32) ?hr ?_; (case hd => rfl); (case hg => rfl); (case hr => first | (go_simp; done) | (go_simp; rfl)); intro gb366 hg w7 hbox hb; have BK366 := As.mk (hbox); have GW366 := As.mk (gs w hg); replace HB := As.mk (below_step (be w) hb); clear hb hbox hg; obtain ⟨hcz8_0, hcz8_1, hfz8_0, hfz8_1⟩ := cl2 BK366.out; have p367 : 0 ≤ (a1 : Int) := od; have q367 : a1 < (l0_0.length : Int) := od; obtain ⟨ad367, A367_3, c367_3, e367, hx367_0, hx367_1, hx367_2, hx367_3, hl367_3, hi367_3⟩ := at_T62 HR0_0.out a1 p367 q367; cases e367; replace hx367_0 := ce HB.out hx367_0; replace hx367_1 := ce HB.out hx367_1; replace hx367_2 := ce HB.out hx367_2; replace hx367_3 := ce HB.out hx367_3; have HR367_3 := As.mk hi367_3; have HC367_3 := As.mk hl367_3; clear hi367_3 hl367_3; replace p367 := eq_true p367; replace q367 := eq_true q367) | ((with_reducible refine gate_dst (N := 5) rfl ?_); refine box_event ?hg (N := 5) ?hd (cs := #[.int .i64 0, .int .i64 0, .string (⟨#[]⟩ : ByteArray), .slice none 0 0]) (t := 62) ?hr ?_; (case hd => rfl); (case hg => rfl); (case hr => first | (go_simp; done) | (go_simp; rfl)); intro gb368 hg w9 hbox hb; have BK368 := As.mk (hbox); have GW368 := As.mk (gs w hg); replace HB := As.mk (below_step (be w) hb); clear hb hbox hg; obtain ⟨hcz10_0, hcz10_1, hcz10_2, hcz10_3, hfz10_0, hfz10_1, hfz10_2, hfz10_3⟩ := cl4 BK368.out) | ((with_reducible refine gate_callee (f := 85) rfl ?_); refine goesL_ (some 20) rfl rfl Tryz.func85 (by kernel_rfl) rfl #[.int .i64 ((rd_T62 l0_0 a1).f1)] rfl gl ?_; (with_reducible refine (impl_Decimal.calls ((rd_T62 l0_0 a1).f1) t369 _ (by first | (with_reducible exact HTAB.out) | exact tabW_below HTAB.out (be w)) A6.out).mono ?_); rintro e w11 ⟨rfl, hb⟩; refine ⟨_, rfl, ?_⟩; replace BK368 := As.mk (blk_below (g := gb368) (o := .cells #[.int .i64 ((rd_T62 l0_0 a1).f0), .int .i64 ((rd_T62 l0_0 a1).f1), .string ((rd_T62 l0_0 a1).f2), .slice A367_3 ((rd_T62 l0_0 a1).f3).length c367_3] 62 (0, 0)) (by refine pl ?_; refine blk_put (cs := #[.int .i64 ((rd_T62 l0_0 a1).f0), .int .i64 ((rd_T62 l0_0 a1).f1), .string ((rd_T62 l0_0 a1).f2), .slice none 0 0]) ?_ 3 _ rfl; refine pl ?_; refine blk_put (cs := #[.int .i64 ((rd_T62 l0_0 a1).f0), .int .i64 ((rd_T62 l0_0 a1).f1), .string (⟨#[]⟩ : ByteArray), .slice none 0 0]) ?_ 2 _ rfl; refine pl ?_; refine blk_put (cs := #[.int .i64 ((rd_T62 l0_0 a1).f0), .int .i64 0, .string (⟨#[]⟩ : ByteArray), .slice none 0 0]) ?_ 1 _ rfl; refine pl ?_; refine blk_put (cs := #[.int .i64 0, .int .i64 0, .string (⟨#[]⟩ : ByteArray), .slice none 0 0]) ?_ 0 _ rfl; exact bx BK368.out) hb); replace HB := As.mk (below_step (be w) hb); (try clear hb)))
  go_ret
  exact ⟨ez, be w⟩
 rw [if_neg c5] at H
 have c5b0 : (((rd_T62 l0_0 a1).f0) == 1) = false := beq_eq_false_iff_ne.mpr c5
 have c5b1 : (((rd_T62 l0_0 a1).f0) != 1) = true := bne_iff_ne.mpr c5
 by_cases c12 : ((rd_T62 l0_0 a1).f0) = 3
 ·
  rw [if_pos c12] at H
  have c12b0 : (((rd_T62 l0_0 a1).f0) == 3) = true := beq_iff_eq.mpr c12
  have c12b1 : (((rd_T62 l0_0 a1).f0) != 3) = false := bne_eq_false_iff_eq.mpr c12
  clear c12
  have c13 := i1 H; replace H := i2 H
  have c13b0 := eq_true c13
  have c13b1 := decide_eq_true c13
  try have c13b2 := eq_false (Nat.not_lt.2 c13)
  obtain rfl := Option.some.inj H
  go_enter Tryz.func57, Tryz.ntmps57
  go_wp2_with (first | ((with_reducible refine gate_dst (N := 2) rfl ?_); refine box_event ?hg (N := 2) ?hd (cs := #[.slice A0_0 l0_0.length c0_0, .slice A0_1 l0_1.length c0_1]) (t := 32) ?hr ?_; (case hd => rfl); (case hg => rfl); (case hr => first | (go_simp; done) | (go_simp; rfl)); intro gb366 hg w14 hbox hb; have BK366 := As.mk (hbox); have GW366 := As.mk (gs w hg); replace HB := As.mk (below_step (be w) hb); clear hb hbox hg; obtain ⟨hcz15_0, hcz15_1, hfz15_0, hfz15_1⟩ := cl2 BK366.out; have p367 : 0 ≤ (a1 : Int) := od; have q367 : a1 < (l0_0.length : Int) := od; obtain ⟨ad367, A367_3, c367_3, e367, hx367_0, hx367_1, hx367_2, hx367_3, hl367_3, hi367_3⟩ := at_T62 HR0_0.out a1 p367 q367; cases e367; replace hx367_0 := ce HB.out hx367_0; replace hx367_1 := ce HB.out hx367_1; replace hx367_2 := ce HB.out hx367_2; replace hx367_3 := ce HB.out hx367_3; have HR367_3 := As.mk hi367_3; have HC367_3 := As.mk hl367_3; clear hi367_3 hl367_3; replace p367 := eq_true p367; replace q367 := eq_true q367) | ((with_reducible refine gate_dst (N := 5) rfl ?_); refine box_event ?hg (N := 5) ?hd (cs := #[.int .i64 0, .int .i64 0, .string (⟨#[]⟩ : ByteArray), .slice none 0 0]) (t := 62) ?hr ?_; (case hd => rfl); (case hg => rfl); (case hr => first | (go_simp; done) | (go_simp; rfl)); intro gb368 hg w16 hbox hb; have BK368 := As.mk (hbox); have GW368 := As.mk (gs w hg); replace HB := As.mk (below_step (be w) hb); clear hb hbox hg; obtain ⟨hcz17_0, hcz17_1, hcz17_2, hcz17_3, hfz17_0, hfz17_1, hfz17_2, hfz17_3⟩ := cl4 BK368.out))
  go_ret
  exact ⟨ez, be w⟩
 rw [if_neg c12] at H
 have c12b0 : (((rd_T62 l0_0 a1).f0) == 3) = false := beq_eq_false_iff_ne.mpr c12
 have c12b1 : (((rd_T62 l0_0 a1).f0) != 3) = true := bne_iff_ne.mpr c12
 by_cases c18 : ((rd_T62 l0_0 a1).f0) = 4
 ·
  rw [if_pos c18] at H
  have c18b0 : (((rd_T62 l0_0 a1).f0) == 4) = true := beq_iff_eq.mpr c18
  have c18b1 : (((rd_T62 l0_0 a1).f0) != 4) = false := bne_eq_false_iff_eq.mpr c18
  clear c18
  have c19 := i1 H; replace H := i2 H
  have c19b0 := eq_true c19
  have c19b1 := decide_eq_true c19
  try have c19b2 := eq_false (Nat.not_lt.2 c19)
  obtain rfl := Option.some.inj H
  go_enter Tryz.func57, Tryz.ntmps57
  go_wp2_with (first | ((with_reducible refine gate_dst (N := 2) rfl ?_); refine box_event ?hg (N := 2) ?hd (cs := #[.slice A0_0 l0_0.length c0_0, .slice A0_1 l0_1.length c0_1]) (t := 32) ?hr ?_; (case hd => rfl); (case hg => rfl); (case hr => first | (go_simp; done) | (go_simp; rfl)); intro gb366 hg w20 hbox hb; have BK366 := As.mk (hbox); have GW366 := As.mk (gs w hg); replace HB := As.mk (below_step (be w) hb); clear hb hbox hg; obtain ⟨hcz21_0, hcz21_1, hfz21_0, hfz21_1⟩ := cl2 BK366.out; have p367 : 0 ≤ (a1 : Int) := od; have q367 : a1 < (l0_0.length : Int) := od; obtain ⟨ad367, A367_3, c367_3, e367, hx367_0, hx367_1, hx367_2, hx367_3, hl367_3, hi367_3⟩ := at_T62 HR0_0.out a1 p367 q367; cases e367; replace hx367_0 := ce HB.out hx367_0; replace hx367_1 := ce HB.out hx367_1; replace hx367_2 := ce HB.out hx367_2; replace hx367_3 := ce HB.out hx367_3; have HR367_3 := As.mk hi367_3; have HC367_3 := As.mk hl367_3; clear hi367_3 hl367_3; replace p367 := eq_true p367; replace q367 := eq_true q367) | ((with_reducible refine gate_dst (N := 5) rfl ?_); refine box_event ?hg (N := 5) ?hd (cs := #[.int .i64 0, .int .i64 0, .string (⟨#[]⟩ : ByteArray), .slice none 0 0]) (t := 62) ?hr ?_; (case hd => rfl); (case hg => rfl); (case hr => first | (go_simp; done) | (go_simp; rfl)); intro gb368 hg w22 hbox hb; have BK368 := As.mk (hbox); have GW368 := As.mk (gs w hg); replace HB := As.mk (below_step (be w) hb); clear hb hbox hg; obtain ⟨hcz23_0, hcz23_1, hcz23_2, hcz23_3, hfz23_0, hfz23_1, hfz23_2, hfz23_3⟩ := cl4 BK368.out))
  go_ret
  exact ⟨ez, be w⟩
 rw [if_neg c18] at H
 have c18b0 : (((rd_T62 l0_0 a1).f0) == 4) = false := beq_eq_false_iff_ne.mpr c18
 have c18b1 : (((rd_T62 l0_0 a1).f0) != 4) = true := bne_iff_ne.mpr c18
 by_cases c24 : ((rd_T62 l0_0 a1).f0) = 5
 ·
  rw [if_pos c24] at H
  have c24b0 : (((rd_T62 l0_0 a1).f0) == 5) = true := beq_iff_eq.mpr c24
  have c24b1 : (((rd_T62 l0_0 a1).f0) != 5) = false := bne_eq_false_iff_eq.mpr c24
  clear c24
  have c25 := i1 H; replace H := i2 H
  have c25b0 := eq_true c25
  have c25b1 := decide_eq_true c25
  try have c25b2 := eq_false (Nat.not_lt.2 c25)
  obtain rfl := Option.some.inj H
  go_enter Tryz.func57, Tryz.ntmps57
  go_wp2_with (first | ((with_reducible refine gate_dst (N := 2) rfl ?_); refine box_event ?hg (N := 2) ?hd (cs := #[.slice A0_0 l0_0.length c0_0, .slice A0_1 l0_1.length c0_1]) (t := 32) ?hr ?_; (case hd => rfl); (case hg => rfl); (case hr => first | (go_simp; done) | (go_simp; rfl)); intro gb366 hg w26 hbox hb; have BK366 := As.mk (hbox); have GW366 := As.mk (gs w hg); replace HB := As.mk (below_step (be w) hb); clear hb hbox hg; obtain ⟨hcz27_0, hcz27_1, hfz27_0, hfz27_1⟩ := cl2 BK366.out; have p367 : 0 ≤ (a1 : Int) := od; have q367 : a1 < (l0_0.length : Int) := od; obtain ⟨ad367, A367_3, c367_3, e367, hx367_0, hx367_1, hx367_2, hx367_3, hl367_3, hi367_3⟩ := at_T62 HR0_0.out a1 p367 q367; cases e367; replace hx367_0 := ce HB.out hx367_0; replace hx367_1 := ce HB.out hx367_1; replace hx367_2 := ce HB.out hx367_2; replace hx367_3 := ce HB.out hx367_3; have HR367_3 := As.mk hi367_3; have HC367_3 := As.mk hl367_3; clear hi367_3 hl367_3; replace p367 := eq_true p367; replace q367 := eq_true q367) | ((with_reducible refine gate_dst (N := 5) rfl ?_); refine box_event ?hg (N := 5) ?hd (cs := #[.int .i64 0, .int .i64 0, .string (⟨#[]⟩ : ByteArray), .slice none 0 0]) (t := 62) ?hr ?_; (case hd => rfl); (case hg => rfl); (case hr => first | (go_simp; done) | (go_simp; rfl)); intro gb368 hg w28 hbox hb; have BK368 := As.mk (hbox); have GW368 := As.mk (gs w hg); replace HB := As.mk (below_step (be w) hb); clear hb hbox hg; obtain ⟨hcz29_0, hcz29_1, hcz29_2, hcz29_3, hfz29_0, hfz29_1, hfz29_2, hfz29_3⟩ := cl4 BK368.out))
  go_ret
  exact ⟨ez, be w⟩
 rw [if_neg c24] at H
 have c24b0 : (((rd_T62 l0_0 a1).f0) == 5) = false := beq_eq_false_iff_ne.mpr c24
 have c24b1 : (((rd_T62 l0_0 a1).f0) != 5) = true := bne_iff_ne.mpr c24
 by_cases c30 : ((rd_T62 l0_0 a1).f0) = 6
 ·
  rw [if_pos c30] at H
  have c30b0 : (((rd_T62 l0_0 a1).f0) == 6) = true := beq_iff_eq.mpr c30
  have c30b1 : (((rd_T62 l0_0 a1).f0) != 6) = false := bne_eq_false_iff_eq.mpr c30
  clear c30
  have c31 := i1 H; replace H := i2 H
  have c31b0 := eq_true c31
  have c31b1 := decide_eq_true c31
  try have c31b2 := eq_false (Nat.not_lt.2 c31)
  obtain rfl := Option.some.inj H
  go_enter Tryz.func57, Tryz.ntmps57
  go_wp2_with (first | ((with_reducible refine gate_dst (N := 2) rfl ?_); refine box_event ?hg (N := 2) ?hd (cs := #[.slice A0_0 l0_0.length c0_0, .slice A0_1 l0_1.length c0_1]) (t := 32) ?hr ?_; (case hd => rfl); (case hg => rfl); (case hr => first | (go_simp; done) | (go_simp; rfl)); intro gb366 hg w32 hbox hb; have BK366 := As.mk (hbox); have GW366 := As.mk (gs w hg); replace HB := As.mk (below_step (be w) hb); clear hb hbox hg; obtain ⟨hcz33_0, hcz33_1, hfz33_0, hfz33_1⟩ := cl2 BK366.out; have p367 : 0 ≤ (a1 : Int) := od; have q367 : a1 < (l0_0.length : Int) := od; obtain ⟨ad367, A367_3, c367_3, e367, hx367_0, hx367_1, hx367_2, hx367_3, hl367_3, hi367_3⟩ := at_T62 HR0_0.out a1 p367 q367; cases e367; replace hx367_0 := ce HB.out hx367_0; replace hx367_1 := ce HB.out hx367_1; replace hx367_2 := ce HB.out hx367_2; replace hx367_3 := ce HB.out hx367_3; have HR367_3 := As.mk hi367_3; have HC367_3 := As.mk hl367_3; clear hi367_3 hl367_3; replace p367 := eq_true p367; replace q367 := eq_true q367) | ((with_reducible refine gate_dst (N := 5) rfl ?_); refine box_event ?hg (N := 5) ?hd (cs := #[.int .i64 0, .int .i64 0, .string (⟨#[]⟩ : ByteArray), .slice none 0 0]) (t := 62) ?hr ?_; (case hd => rfl); (case hg => rfl); (case hr => first | (go_simp; done) | (go_simp; rfl)); intro gb368 hg w34 hbox hb; have BK368 := As.mk (hbox); have GW368 := As.mk (gs w hg); replace HB := As.mk (below_step (be w) hb); clear hb hbox hg; obtain ⟨hcz35_0, hcz35_1, hcz35_2, hcz35_3, hfz35_0, hfz35_1, hfz35_2, hfz35_3⟩ := cl4 BK368.out))
  go_ret
  exact ⟨ez, be w⟩
 rw [if_neg c30] at H
 have c30b0 : (((rd_T62 l0_0 a1).f0) == 6) = false := beq_eq_false_iff_ne.mpr c30
 have c30b1 : (((rd_T62 l0_0 a1).f0) != 6) = true := bne_iff_ne.mpr c30
 by_cases c36 : ((rd_T62 l0_0 a1).f0) = 7
 ·
  rw [if_pos c36] at H
  have c36b0 : (((rd_T62 l0_0 a1).f0) == 7) = true := beq_iff_eq.mpr c36
  have c36b1 : (((rd_T62 l0_0 a1).f0) != 7) = false := bne_eq_false_iff_eq.mpr c36
  clear c36
  obtain rfl := Option.some.inj H
  go_enter Tryz.func57, Tryz.ntmps57
  go_wp2_with (first | ((with_reducible refine gate_dst (N := 2) rfl ?_); refine box_event ?hg (N := 2) ?hd (cs := #[.slice A0_0 l0_0.length c0_0, .slice A0_1 l0_1.length c0_1]) (t := 32) ?hr ?_; (case hd => rfl); (case hg => rfl); (case hr => first | (go_simp; done) | (go_simp; rfl)); intro gb366 hg w37 hbox hb; have BK366 := As.mk (hbox); have GW366 := As.mk (gs w hg); replace HB := As.mk (below_step (be w) hb); clear hb hbox hg; obtain ⟨hcz38_0, hcz38_1, hfz38_0, hfz38_1⟩ := cl2 BK366.out; have p367 : 0 ≤ (a1 : Int) := od; have q367 : a1 < (l0_0.length : Int) := od; obtain ⟨ad367, A367_3, c367_3, e367, hx367_0, hx367_1, hx367_2, hx367_3, hl367_3, hi367_3⟩ := at_T62 HR0_0.out a1 p367 q367; cases e367; replace hx367_0 := ce HB.out hx367_0; replace hx367_1 := ce HB.out hx367_1; replace hx367_2 := ce HB.out hx367_2; replace hx367_3 := ce HB.out hx367_3; have HR367_3 := As.mk hi367_3; have HC367_3 := As.mk hl367_3; clear hi367_3 hl367_3; replace p367 := eq_true p367; replace q367 := eq_true q367) | ((with_reducible refine gate_dst (N := 5) rfl ?_); refine box_event ?hg (N := 5) ?hd (cs := #[.int .i64 0, .int .i64 0, .string (⟨#[]⟩ : ByteArray), .slice none 0 0]) (t := 62) ?hr ?_; (case hd => rfl); (case hg => rfl); (case hr => first | (go_simp; done) | (go_simp; rfl)); intro gb368 hg w39 hbox hb; have BK368 := As.mk (hbox); have GW368 := As.mk (gs w hg); replace HB := As.mk (below_step (be w) hb); clear hb hbox hg; obtain ⟨hcz40_0, hcz40_1, hcz40_2, hcz40_3, hfz40_0, hfz40_1, hfz40_2, hfz40_3⟩ := cl4 BK368.out))
  go_ret
  exact ⟨ez, be w⟩
 rw [if_neg c36] at H
 have c36b0 : (((rd_T62 l0_0 a1).f0) == 7) = false := beq_eq_false_iff_ne.mpr c36
 have c36b1 : (((rd_T62 l0_0 a1).f0) != 7) = true := bne_iff_ne.mpr c36
 by_cases c41 : ((rd_T62 l0_0 a1).f0) = 8
 ·
  rw [if_pos c41] at H
  have c41b0 : (((rd_T62 l0_0 a1).f0) == 8) = true := beq_iff_eq.mpr c41
  have c41b1 : (((rd_T62 l0_0 a1).f0) != 8) = false := bne_eq_false_iff_eq.mpr c41
  clear c41
  have c42 := i1 H; replace H := i2 H
  have c42b0 := decide_eq_true c42
  have c42b1 : decide (0 < ((rd_T62 l0_0 a1).f3).length) = true := decide_eq_true (by omega)
  clear c42
  obtain ⟨t371, A430, H⟩ := Option.bind_eq_some_iff.mp H
  try dsimp only at H
  have A43 := As.mk A430
  clear A430
  have c44 := i1 H; replace H := i2 H
  have c44b0 := eq_true c44
  have c44b1 := decide_eq_true c44
  try have c44b2 := eq_false (Nat.not_lt.2 c44)
  obtain rfl := Option.some.inj H
  go_enter Tryz.func57, Tryz.ntmps57
  try go_wp2_with (first | ((with_reducible refine gate_dst (N := 2) rfl ?_); refine box_event ?hg (N := 2) ?hd (cs := #[.slice A0_0 l0_0.length c0_0, .slice A0_1 l0_1.length c0_1]) (t := 32) ?hr ?_; (case hd => rfl); (case hg => rfl); (case hr => first | (go_simp; done) | (go_simp; rfl)); intro gb366 hg w45 hbox hb; have BK366 := As.mk (hbox); have GW366 := As.mk (gs w hg); replace HB := As.mk (below_step (be w) hb); clear hb hbox hg; obtain ⟨hcz46_0, hcz46_1, hfz46_0, hfz46_1⟩ := cl2 BK366.out; have p367 : 0 ≤ (a1 : Int) := od; have q367 : a1 < (l0_0.length : Int) := od; obtain ⟨ad367, A367_3, c367_3, e367, hx367_0, hx367_1, hx367_2, hx367_3, hl367_3, hi367_3⟩ := at_T62 HR0_0.out a1 p367 q367; cases e367; replace hx367_0 := ce HB.out hx367_0; replace hx367_1 := ce HB.out hx367_1; replace hx367_2 := ce HB.out hx367_2; replace hx367_3 := ce HB.out hx367_3; have HR367_3 := As.mk hi367_3; have HC367_3 := As.mk hl367_3; clear hi367_3 hl367_3; replace p367 := eq_true p367; replace q367 := eq_true q367) | ((with_reducible refine gate_dst (N := 5) rfl ?_); refine box_event ?hg (N := 5) ?hd (cs := #[.int .i64 0, .int .i64 0, .string (⟨#[]⟩ : ByteArray), .slice none 0 0]) (t := 62) ?hr ?_; (case hd => rfl); (case hg => rfl); (case hr => first | (go_simp; done) | (go_simp; rfl)); intro gb368 hg w47 hbox hb; have BK368 := As.mk (hbox); have GW368 := As.mk (gs w hg); replace HB := As.mk (below_step (be w) hb); have NB366_368 := As.mk (nl hg (bx BK366.out)); have NB368_366 := As.mk (ng hg (bx BK366.out)); replace BK366 := As.mk (blk_below (bx BK366.out) hb); clear hb hbox hg; have hnb48 := NB368_366.out; have hnc48 := NB366_368.out; obtain ⟨hcz49_0, hcz49_1, hcz49_2, hcz49_3, hfz49_0, hfz49_1, hfz49_2, hfz49_3⟩ := cl4 BK368.out))
  have n0_ : As (((((w47.setCell ⟨gb368, 0, none⟩ (.int .i64 ((rd_T62 l0_0 a1).f0))).setCell ⟨gb368, 1, none⟩ (.int .i64 ((rd_T62 l0_0 a1).f1))).setCell ⟨gb368, 2, none⟩ (.string ((rd_T62 l0_0 a1).f2))).setCell ⟨gb368, 3, none⟩ (.slice A367_3 ((rd_T62 l0_0 a1).f3).length c367_3)).heap[gb366]? = some (.cells #[.slice (some ad367) l0_0.length c0_0, .slice A0_1 l0_1.length c0_1] 32 (0, 0))) := ⟨by refine pl ?_; refine blk_far ?_ NB366_368.out _; refine pl ?_; refine blk_far ?_ NB366_368.out _; refine pl ?_; refine blk_far ?_ NB366_368.out _; refine pl ?_; refine blk_far ?_ NB366_368.out _; exact bx BK366.out⟩
  have n1_ : As (((((w47.setCell ⟨gb368, 0, none⟩ (.int .i64 ((rd_T62 l0_0 a1).f0))).setCell ⟨gb368, 1, none⟩ (.int .i64 ((rd_T62 l0_0 a1).f1))).setCell ⟨gb368, 2, none⟩ (.string ((rd_T62 l0_0 a1).f2))).setCell ⟨gb368, 3, none⟩ (.slice A367_3 ((rd_T62 l0_0 a1).f3).length c367_3)).heap[gb368]? = some (.cells #[.int .i64 ((rd_T62 l0_0 a1).f0), .int .i64 ((rd_T62 l0_0 a1).f1), .string ((rd_T62 l0_0 a1).f2), .slice A367_3 ((rd_T62 l0_0 a1).f3).length c367_3] 62 (0, 0))) := ⟨by refine pl ?_; refine blk_put (cs := #[.int .i64 ((rd_T62 l0_0 a1).f0), .int .i64 ((rd_T62 l0_0 a1).f1), .string ((rd_T62 l0_0 a1).f2), .slice none 0 0]) ?_ 3 _ rfl; refine pl ?_; refine blk_put (cs := #[.int .i64 ((rd_T62 l0_0 a1).f0), .int .i64 ((rd_T62 l0_0 a1).f1), .string (⟨#[]⟩ : ByteArray), .slice none 0 0]) ?_ 2 _ rfl; refine pl ?_; refine blk_put (cs := #[.int .i64 ((rd_T62 l0_0 a1).f0), .int .i64 0, .string (⟨#[]⟩ : ByteArray), .slice none 0 0]) ?_ 1 _ rfl; refine pl ?_; refine blk_put (cs := #[.int .i64 0, .int .i64 0, .string (⟨#[]⟩ : ByteArray), .slice none 0 0]) ?_ 0 _ rfl; exact bx BK368.out⟩
  have n2_ : As (Below w.heap.size w ((((w47.setCell ⟨gb368, 0, none⟩ (.int .i64 ((rd_T62 l0_0 a1).f0))).setCell ⟨gb368, 1, none⟩ (.int .i64 ((rd_T62 l0_0 a1).f1))).setCell ⟨gb368, 2, none⟩ (.string ((rd_T62 l0_0 a1).f2))).setCell ⟨gb368, 3, none⟩ (.slice A367_3 ((rd_T62 l0_0 a1).f3).length c367_3))) := ⟨be w⟩
  (try clear BK366)
  (try clear BK368)
  (try clear HB)
  generalize ((((w47.setCell ⟨gb368, 0, none⟩ (.int .i64 ((rd_T62 l0_0 a1).f0))).setCell ⟨gb368, 1, none⟩ (.int .i64 ((rd_T62 l0_0 a1).f1))).setCell ⟨gb368, 2, none⟩ (.string ((rd_T62 l0_0 a1).f2))).setCell ⟨gb368, 3, none⟩ (.slice A367_3 ((rd_T62 l0_0 a1).f3).length c367_3)) = w50 at n0_ n1_ n2_ ⊢
  have BK366 := n0_
  have BK368 := n1_
  have HB := n2_
  clear n0_ n1_ n2_
  replace BK366 := As.mk (blk_drew BK366.out)
  replace BK368 := As.mk (blk_drew BK368.out)
  replace HB := As.mk (below_drew1 HB.out)
  have p370 : 0 ≤ (0 : Int) := (by omega)
  have q370 : 0 < (((rd_T62 l0_0 a1).f3).length : Int) := od
  obtain ⟨ad370, e370, hx370_0⟩ := Kd.at_int HR367_3.out 0 p370 q370
  have hw370_0 := hx370_0
  (try rw [show ((0 : Int)).toNat = 0 from rfl] at hw370_0)
  (try rw [show 0 * 1 = 0 from rfl] at hw370_0)
  (try rw [Addr.add_zero'] at hw370_0)
  cases e370
  have qi370 : (0 < ((rd_T62 l0_0 a1).f3).length) = True := eq_true (by omega)
  (try rw [show ((0 : Int)).toNat = 0 from rfl] at hx370_0)
  (try rw [Addr.add_zero'] at hx370_0)
  replace hx370_0 := ce HB.out hx370_0
  replace p370 := eq_true p370
  replace q370 := eq_true q370
  refine start_ (n := 8) (S := fun w' => w'.cell? ⟨gb366, 0, none⟩ = some (.slice (some ad367) l0_0.length c0_0) ∧ w'.cell? ⟨gb366, 1, none⟩ = some (.slice A0_1 l0_1.length c0_1) ∧ w'.cell? ⟨gb368, 0, none⟩ = some (.int .i64 ((rd_T62 l0_0 a1).f0)) ∧ w'.cell? ⟨gb368, 1, none⟩ = some (.int .i64 ((rd_T62 l0_0 a1).f1)) ∧ w'.cell? ⟨gb368, 2, none⟩ = some (.string ((rd_T62 l0_0 a1).f2)) ∧ w'.cell? ⟨gb368, 3, none⟩ = some (.slice (some ad370) ((rd_T62 l0_0 a1).f3).length c367_3) ∧ w'.cell? ad370 = some (.int .i64 (rd ((rd_T62 l0_0 a1).f3) 0))) (ds := []) #[O,O,O,O,O,O,O,O] (by kernel_rfl) rfl rfl ⟨(blk_cell BK366.out 0).trans rfl, (blk_cell BK366.out 1).trans rfl, (blk_cell BK368.out 0).trans rfl, (blk_cell BK368.out 1).trans rfl, (blk_cell BK368.out 2).trans rfl, (blk_cell BK368.out 3).trans rfl, (ce HB.out hw370_0 :)⟩ (fun hHeld => ?_); refine with_tabW impl_showValue.tab16 impl_showValue.bits16 (fun HT_ HW_ => ?_)
  generalize w50.drew = w51 at BK366 BK368 HB hx370_0 hHeld ⊢
  refine pq 1 46 #[O,I,O,O,O,O,O,O] HT_.out rfl rfl ?_ (fun _ _ _ h => h) ?_ ?_ ?_ ?_
  rotate_left; · intro w'; go_simp; with_reducible rfl
  rotate_left; · simp only [pk, i64_w, i32_w]; rfl
  refine tq 0 45 #[I,I,O,O,O,O,O,O] HT_.out HW_.out rfl rfl ?_ (fun _ _ _ h => h) ?_ hHeld ?_ ?_ ?_
  rotate_left; · rintro w' ⟨s0, s1, s2, s3, s4, s5, s6⟩; go_simp; with_reducible rfl
  rotate_left; · simp only [pk, i64_w, i32_w]; rfl
  refine tq 2 47 #[I,I,I,O,O,O,O,O] HT_.out HW_.out rfl rfl ?_ (fun _ _ _ h => h) ?_ hHeld ?_ ?_ ?_
  rotate_left; · rintro w' ⟨s0, s1, s2, s3, s4, s5, s6⟩; go_simp; with_reducible rfl
  rotate_left; · simp only [pk, i64_w, i32_w]; rfl
  refine pq 3 48 #[I,I,I,I,O,O,O,O] HT_.out rfl rfl ?_ (fun _ _ _ h => h) ?_ ?_ ?_ ?_
  rotate_left; · intro w'; go_simp; with_reducible rfl
  rotate_left; · simp only [pk, i64_w, i32_w]; rfl
  refine tq 4 49 #[I,I,I,I,I,O,O,O] HT_.out HW_.out rfl rfl ?_ (fun _ _ _ h => h) ?_ hHeld ?_ ?_ ?_
  rotate_left; · rintro w' ⟨s0, s1, s2, s3, s4, s5, s6⟩; go_simp; with_reducible rfl
  rotate_left; · simp only [pk, i64_w, i32_w]; rfl
  refine one_ (i := 5) (N := some 50) #[I,I,I,I,I,I,O,O] rfl rfl (one_of HT_.out (by kernel_rfl)) (by decide) (fun K hK => ?_)
  refine goes_ Tryz.func86 (by kernel_rfl) rfl #[.agg #[.slice (some ad367) l0_0.length c0_0, .slice A0_1 l0_1.length c0_1], .int .i64 (rd ((rd_T62 l0_0 a1).f3) 0)] (by rfl) rfl rfl gl ?_
  with_reducible refine (ih_impl_showIn k (by omega) _ _ l0_0 _ _ l0_1 (rd ((rd_T62 l0_0 a1).f3) 0) t371 _ ?side1 ?side2 ?side3 ?side4 (by first | (with_reducible exact HTAB.out) | exact tabW_below HTAB.out (be w)) A43.out).mono ?_
  (case side1 => exact Kd.C_below HR0_0.out (be w))
  (case side2 => exact HC0_0.out)
  (case side3 => exact Kd.C_below HR0_1.out (be w))
  (case side4 => exact HC0_1.out)
  rintro e w52 ⟨rfl, hb⟩
  refine ⟨_, rfl, ?_⟩
  replace BK366 := As.mk (blk_below (bx BK366.out) hb)
  replace BK368 := As.mk (blk_below (bx BK368.out) hb)
  replace HB := As.mk (below_step (be w) hb)
  (try clear hb)
  (try clear hb2)
  (try clear hk)
  (try clear hi)
  refine hK.out _ _ ⟨(blk_cell BK366.out 0).trans rfl, (blk_cell BK366.out 1).trans rfl, (blk_cell BK368.out 0).trans rfl, (blk_cell BK368.out 1).trans rfl, (blk_cell BK368.out 2).trans rfl, (blk_cell BK368.out 3).trans rfl, (ce HB.out hw370_0 :)⟩ (fun hHeld => ?_)
  clear hK K
  refine norm_ (a' := ?_) ?_ ?_
  rotate_left
  ·
   show Act.put _ (some 50) _ = _
   simp only [pk, i64_w, i32_w]
   rfl
  refine pq 6 51 #[I,I,I,I,I,I,I,O] HT_.out rfl rfl ?_ (fun _ _ _ h => h) ?_ ?_ ?_ ?_
  rotate_left; · intro w'; go_simp; with_reducible rfl
  rotate_left; · simp only [pk, i64_w, i32_w]; rfl
  refine pq 7 4 #[I,I,I,I,I,I,I,I] HT_.out rfl rfl ?_ (fun _ _ _ h => h) ?_ ?_ ?_ ?_
  rotate_left; · intro w'; go_simp; with_reducible rfl
  rotate_left; · simp only [pk, i64_w, i32_w]; rfl
  refine done_ (done_of HT_.out (by kernel_rfl)) ?_
  try go_wp2
  go_ret
  exact ⟨ez, be w⟩
 rw [if_neg c41] at H
 have c41b0 : (((rd_T62 l0_0 a1).f0) == 8) = false := beq_eq_false_iff_ne.mpr c41
 have c41b1 : (((rd_T62 l0_0 a1).f0) != 8) = true := bne_iff_ne.mpr c41
 by_cases c53 : ((rd_T62 l0_0 a1).f0) = 9
 ·
  rw [if_pos c53] at H
  have c53b0 : (((rd_T62 l0_0 a1).f0) == 9) = true := beq_iff_eq.mpr c53
  have c53b1 : (((rd_T62 l0_0 a1).f0) != 9) = false := bne_eq_false_iff_eq.mpr c53
  clear c53
  have c54 := i1 H; replace H := i2 H
  have c54b0 := decide_eq_true c54
  have c54b1 : decide (0 < ((rd_T62 l0_0 a1).f3).length) = true := decide_eq_true (by omega)
  clear c54
  obtain ⟨t373, A550, H⟩ := Option.bind_eq_some_iff.mp H
  try dsimp only at H
  have A55 := As.mk A550
  clear A550
  have c56 := i1 H; replace H := i2 H
  have c56b0 := eq_true c56
  have c56b1 := decide_eq_true c56
  try have c56b2 := eq_false (Nat.not_lt.2 c56)
  have c57 := i1 H; replace H := i2 H
  have c57b0 := decide_eq_true c57
  have c57b1 : decide (1 < ((rd_T62 l0_0 a1).f3).length) = true := decide_eq_true (by omega)
  clear c57
  obtain ⟨t375, A580, H⟩ := Option.bind_eq_some_iff.mp H
  try dsimp only at H
  have A58 := As.mk A580
  clear A580
  have c59 := i1 H; replace H := i2 H
  have c59b0 := eq_true c59
  have c59b1 := decide_eq_true c59
  try have c59b2 := eq_false (Nat.not_lt.2 c59)
  try have c59b4 : (9223372036854775807 < t373.size + 3 + t375.size) = False := eq_false (Nat.not_lt.2 (by have h_ := c59; simp only [ByteArray.size_append] at h_; exact h_))
  obtain rfl := Option.some.inj H
  go_enter Tryz.func57, Tryz.ntmps57
  try go_wp2_with (first | ((with_reducible refine gate_dst (N := 2) rfl ?_); refine box_event ?hg (N := 2) ?hd (cs := #[.slice A0_0 l0_0.length c0_0, .slice A0_1 l0_1.length c0_1]) (t := 32) ?hr ?_; (case hd => rfl); (case hg => rfl); (case hr => first | (go_simp; done) | (go_simp; rfl)); intro gb366 hg w60 hbox hb; have BK366 := As.mk (hbox); have GW366 := As.mk (gs w hg); replace HB := As.mk (below_step (be w) hb); clear hb hbox hg; obtain ⟨hcz61_0, hcz61_1, hfz61_0, hfz61_1⟩ := cl2 BK366.out; have p367 : 0 ≤ (a1 : Int) := od; have q367 : a1 < (l0_0.length : Int) := od; obtain ⟨ad367, A367_3, c367_3, e367, hx367_0, hx367_1, hx367_2, hx367_3, hl367_3, hi367_3⟩ := at_T62 HR0_0.out a1 p367 q367; cases e367; replace hx367_0 := ce HB.out hx367_0; replace hx367_1 := ce HB.out hx367_1; replace hx367_2 := ce HB.out hx367_2; replace hx367_3 := ce HB.out hx367_3; have HR367_3 := As.mk hi367_3; have HC367_3 := As.mk hl367_3; clear hi367_3 hl367_3; replace p367 := eq_true p367; replace q367 := eq_true q367) | ((with_reducible refine gate_dst (N := 5) rfl ?_); refine box_event ?hg (N := 5) ?hd (cs := #[.int .i64 0, .int .i64 0, .string (⟨#[]⟩ : ByteArray), .slice none 0 0]) (t := 62) ?hr ?_; (case hd => rfl); (case hg => rfl); (case hr => first | (go_simp; done) | (go_simp; rfl)); intro gb368 hg w62 hbox hb; have BK368 := As.mk (hbox); have GW368 := As.mk (gs w hg); replace HB := As.mk (below_step (be w) hb); have NB366_368 := As.mk (nl hg (bx BK366.out)); have NB368_366 := As.mk (ng hg (bx BK366.out)); replace BK366 := As.mk (blk_below (bx BK366.out) hb); clear hb hbox hg; have hnb63 := NB368_366.out; have hnc63 := NB366_368.out; obtain ⟨hcz64_0, hcz64_1, hcz64_2, hcz64_3, hfz64_0, hfz64_1, hfz64_2, hfz64_3⟩ := cl4 BK368.out))
  have n0_ : As (((((w62.setCell ⟨gb368, 0, none⟩ (.int .i64 ((rd_T62 l0_0 a1).f0))).setCell ⟨gb368, 1, none⟩ (.int .i64 ((rd_T62 l0_0 a1).f1))).setCell ⟨gb368, 2, none⟩ (.string ((rd_T62 l0_0 a1).f2))).setCell ⟨gb368, 3, none⟩ (.slice A367_3 ((rd_T62 l0_0 a1).f3).length c367_3)).heap[gb366]? = some (.cells #[.slice (some ad367) l0_0.length c0_0, .slice A0_1 l0_1.length c0_1] 32 (0, 0))) := ⟨by refine pl ?_; refine blk_far ?_ NB366_368.out _; refine pl ?_; refine blk_far ?_ NB366_368.out _; refine pl ?_; refine blk_far ?_ NB366_368.out _; refine pl ?_; refine blk_far ?_ NB366_368.out _; exact bx BK366.out⟩
  have n1_ : As (((((w62.setCell ⟨gb368, 0, none⟩ (.int .i64 ((rd_T62 l0_0 a1).f0))).setCell ⟨gb368, 1, none⟩ (.int .i64 ((rd_T62 l0_0 a1).f1))).setCell ⟨gb368, 2, none⟩ (.string ((rd_T62 l0_0 a1).f2))).setCell ⟨gb368, 3, none⟩ (.slice A367_3 ((rd_T62 l0_0 a1).f3).length c367_3)).heap[gb368]? = some (.cells #[.int .i64 ((rd_T62 l0_0 a1).f0), .int .i64 ((rd_T62 l0_0 a1).f1), .string ((rd_T62 l0_0 a1).f2), .slice A367_3 ((rd_T62 l0_0 a1).f3).length c367_3] 62 (0, 0))) := ⟨by refine pl ?_; refine blk_put (cs := #[.int .i64 ((rd_T62 l0_0 a1).f0), .int .i64 ((rd_T62 l0_0 a1).f1), .string ((rd_T62 l0_0 a1).f2), .slice none 0 0]) ?_ 3 _ rfl; refine pl ?_; refine blk_put (cs := #[.int .i64 ((rd_T62 l0_0 a1).f0), .int .i64 ((rd_T62 l0_0 a1).f1), .string (⟨#[]⟩ : ByteArray), .slice none 0 0]) ?_ 2 _ rfl; refine pl ?_; refine blk_put (cs := #[.int .i64 ((rd_T62 l0_0 a1).f0), .int .i64 0, .string (⟨#[]⟩ : ByteArray), .slice none 0 0]) ?_ 1 _ rfl; refine pl ?_; refine blk_put (cs := #[.int .i64 0, .int .i64 0, .string (⟨#[]⟩ : ByteArray), .slice none 0 0]) ?_ 0 _ rfl; exact bx BK368.out⟩
  have n2_ : As (Below w.heap.size w ((((w62.setCell ⟨gb368, 0, none⟩ (.int .i64 ((rd_T62 l0_0 a1).f0))).setCell ⟨gb368, 1, none⟩ (.int .i64 ((rd_T62 l0_0 a1).f1))).setCell ⟨gb368, 2, none⟩ (.string ((rd_T62 l0_0 a1).f2))).setCell ⟨gb368, 3, none⟩ (.slice A367_3 ((rd_T62 l0_0 a1).f3).length c367_3))) := ⟨be w⟩
  (try clear BK366)
  (try clear BK368)
  (try clear HB)
  generalize ((((w62.setCell ⟨gb368, 0, none⟩ (.int .i64 ((rd_T62 l0_0 a1).f0))).setCell ⟨gb368, 1, none⟩ (.int .i64 ((rd_T62 l0_0 a1).f1))).setCell ⟨gb368, 2, none⟩ (.string ((rd_T62 l0_0 a1).f2))).setCell ⟨gb368, 3, none⟩ (.slice A367_3 ((rd_T62 l0_0 a1).f3).length c367_3)) = w65 at n0_ n1_ n2_ ⊢
  have BK366 := n0_
  have BK368 := n1_
  have HB := n2_
  clear n0_ n1_ n2_
  replace BK366 := As.mk (blk_drew BK366.out)
  replace BK368 := As.mk (blk_drew BK368.out)
  replace HB := As.mk (below_drew1 HB.out)
  have p372 : 0 ≤ (0 : Int) := (by omega)
  have q372 : 0 < (((rd_T62 l0_0 a1).f3).length : Int) := od
  obtain ⟨ad372, e372, hx372_0⟩ := Kd.at_int HR367_3.out 0 p372 q372
  have hw372_0 := hx372_0
  (try rw [show ((0 : Int)).toNat = 0 from rfl] at hw372_0)
  (try rw [show 0 * 1 = 0 from rfl] at hw372_0)
  (try rw [Addr.add_zero'] at hw372_0)
  cases e372
  have qi372 : (0 < ((rd_T62 l0_0 a1).f3).length) = True := eq_true (by omega)
  (try rw [show ((0 : Int)).toNat = 0 from rfl] at hx372_0)
  (try rw [Addr.add_zero'] at hx372_0)
  replace hx372_0 := ce HB.out hx372_0
  replace p372 := eq_true p372
  replace q372 := eq_true q372
  have p374 : 0 ≤ (1 : Int) := (by omega)
  have q374 : 1 < (((rd_T62 l0_0 a1).f3).length : Int) := od
  obtain ⟨ad374, e374, hx374_0⟩ := Kd.at_int HR367_3.out 1 p374 q374
  have hw374_0 := hx374_0
  (try rw [show ((1 : Int)).toNat = 1 from rfl] at hw374_0)
  (try rw [show 1 * 1 = 1 from rfl] at hw374_0)
  (try simp only [Nat.reduceMul, Nat.reduceEqDiff, Go.Addr.add, ↓reduceIte] at hw374_0)
  obtain rfl : ad372 = ad374 := (by injection e374)
  (try simp only [show (1 : Int).toNat = 1 from rfl, Nat.reduceMul, Nat.reduceEqDiff, Go.Addr.add, ↓reduceIte] at hx374_0)
  have qi374 : (1 < ((rd_T62 l0_0 a1).f3).length) = True := eq_true (by omega)
  (try rw [show ((1 : Int)).toNat = 1 from rfl] at hx374_0)
  replace hx374_0 := ce HB.out hx374_0
  replace p374 := eq_true p374
  replace q374 := eq_true q374
  refine start_ (n := 15) (S := fun w' => w'.cell? ⟨gb366, 0, none⟩ = some (.slice (some ad367) l0_0.length c0_0) ∧ w'.cell? ⟨gb366, 1, none⟩ = some (.slice A0_1 l0_1.length c0_1) ∧ w'.cell? ⟨gb368, 0, none⟩ = some (.int .i64 ((rd_T62 l0_0 a1).f0)) ∧ w'.cell? ⟨gb368, 1, none⟩ = some (.int .i64 ((rd_T62 l0_0 a1).f1)) ∧ w'.cell? ⟨gb368, 2, none⟩ = some (.string ((rd_T62 l0_0 a1).f2)) ∧ w'.cell? ⟨gb368, 3, none⟩ = some (.slice (some ad372) ((rd_T62 l0_0 a1).f3).length c367_3) ∧ w'.cell? ad372 = some (.int .i64 (rd ((rd_T62 l0_0 a1).f3) 0)) ∧ w'.cell? ⟨ad372.block, ad372.off + 1, none⟩ = some (.int .i64 (rd ((rd_T62 l0_0 a1).f3) 1))) (ds := []) #[O,O,O,O,O,O,O,O,O,O,O,O,O,O,O] (by kernel_rfl) rfl rfl ⟨(blk_cell BK366.out 0).trans rfl, (blk_cell BK366.out 1).trans rfl, (blk_cell BK368.out 0).trans rfl, (blk_cell BK368.out 1).trans rfl, (blk_cell BK368.out 2).trans rfl, (blk_cell BK368.out 3).trans rfl, (ce HB.out hw372_0 :), (ce HB.out hw374_0 :)⟩ (fun hHeld => ?_); refine with_tabW impl_showValue.tab18 impl_showValue.bits18 (fun HT_ HW_ => ?_)
  generalize w65.drew = w66 at BK366 BK368 HB hx372_0 hx374_0 hHeld ⊢
  refine pq 1 55 #[O,I,O,O,O,O,O,O,O,O,O,O,O,O,O] HT_.out rfl rfl ?_ (fun _ _ _ h => h) ?_ ?_ ?_ ?_
  rotate_left; · intro w'; go_simp; with_reducible rfl
  rotate_left; · simp only [pk, i64_w, i32_w]; rfl
  refine pq 8 62 #[O,I,O,O,O,O,O,O,I,O,O,O,O,O,O] HT_.out rfl rfl ?_ (fun _ _ _ h => h) ?_ ?_ ?_ ?_
  rotate_left; · intro w'; go_simp; with_reducible rfl
  rotate_left; · simp only [pk, i64_w, i32_w]; rfl
  refine tq 0 54 #[I,I,O,O,O,O,O,O,I,O,O,O,O,O,O] HT_.out HW_.out rfl rfl ?_ (fun _ _ _ h => h) ?_ hHeld ?_ ?_ ?_
  rotate_left; · rintro w' ⟨s0, s1, s2, s3, s4, s5, s6, s7⟩; go_simp; with_reducible rfl
  rotate_left; · simp only [pk, i64_w, i32_w]; rfl
  refine tq 2 56 #[I,I,I,O,O,O,O,O,I,O,O,O,O,O,O] HT_.out HW_.out rfl rfl ?_ (fun _ _ _ h => h) ?_ hHeld ?_ ?_ ?_
  rotate_left; · rintro w' ⟨s0, s1, s2, s3, s4, s5, s6, s7⟩; go_simp; with_reducible rfl
  rotate_left; · simp only [pk, i64_w, i32_w]; rfl
  refine pq 3 57 #[I,I,I,I,O,O,O,O,I,O,O,O,O,O,O] HT_.out rfl rfl ?_ (fun _ _ _ h => h) ?_ ?_ ?_ ?_
  rotate_left; · intro w'; go_simp; with_reducible rfl
  rotate_left; · simp only [pk, i64_w, i32_w]; rfl
  refine tq 4 58 #[I,I,I,I,I,O,O,O,I,O,O,O,O,O,O] HT_.out HW_.out rfl rfl ?_ (fun _ _ _ h => h) ?_ hHeld ?_ ?_ ?_
  rotate_left; · rintro w' ⟨s0, s1, s2, s3, s4, s5, s6, s7⟩; go_simp; with_reducible rfl
  rotate_left; · simp only [pk, i64_w, i32_w]; rfl
  refine tq 7 61 #[I,I,I,I,I,O,O,I,I,O,O,O,O,O,O] HT_.out HW_.out rfl rfl ?_ (fun _ _ _ h => h) ?_ hHeld ?_ ?_ ?_
  rotate_left; · rintro w' ⟨s0, s1, s2, s3, s4, s5, s6, s7⟩; go_simp; with_reducible rfl
  rotate_left; · simp only [pk, i64_w, i32_w]; rfl
  refine tq 9 63 #[I,I,I,I,I,O,O,I,I,I,O,O,O,O,O] HT_.out HW_.out rfl rfl ?_ (fun _ _ _ h => h) ?_ hHeld ?_ ?_ ?_
  rotate_left; · rintro w' ⟨s0, s1, s2, s3, s4, s5, s6, s7⟩; go_simp; with_reducible rfl
  rotate_left; · simp only [pk, i64_w, i32_w]; rfl
  refine pq 10 64 #[I,I,I,I,I,O,O,I,I,I,I,O,O,O,O] HT_.out rfl rfl ?_ (fun _ _ _ h => h) ?_ ?_ ?_ ?_
  rotate_left; · intro w'; go_simp; with_reducible rfl
  rotate_left; · simp only [pk, i64_w, i32_w]; rfl
  refine tq 11 65 #[I,I,I,I,I,O,O,I,I,I,I,I,O,O,O] HT_.out HW_.out rfl rfl ?_ (fun _ _ _ h => h) ?_ hHeld ?_ ?_ ?_
  rotate_left; · rintro w' ⟨s0, s1, s2, s3, s4, s5, s6, s7⟩; go_simp; with_reducible rfl
  rotate_left; · simp only [pk, i64_w, i32_w]; rfl
  refine one_ (i := 5) (N := some 59) #[I,I,I,I,I,I,O,I,I,I,I,I,O,O,O] rfl rfl (one_of HT_.out (by kernel_rfl)) (by decide) (fun K hK => ?_)
  refine goes_ Tryz.func86 (by kernel_rfl) rfl #[.agg #[.slice (some ad367) l0_0.length c0_0, .slice A0_1 l0_1.length c0_1], .int .i64 (rd ((rd_T62 l0_0 a1).f3) 0)] (by rfl) rfl rfl gl ?_
  with_reducible refine (ih_impl_showIn k (by omega) _ _ l0_0 _ _ l0_1 (rd ((rd_T62 l0_0 a1).f3) 0) t373 _ ?side1 ?side2 ?side3 ?side4 (by first | (with_reducible exact HTAB.out) | exact tabW_below HTAB.out (be w)) A55.out).mono ?_
  (case side1 => exact Kd.C_below HR0_0.out (be w))
  (case side2 => exact HC0_0.out)
  (case side3 => exact Kd.C_below HR0_1.out (be w))
  (case side4 => exact HC0_1.out)
  rintro e w67 ⟨rfl, hb⟩
  refine ⟨_, rfl, ?_⟩
  replace BK366 := As.mk (blk_below (bx BK366.out) hb)
  replace BK368 := As.mk (blk_below (bx BK368.out) hb)
  replace HB := As.mk (below_step (be w) hb)
  (try clear hb)
  (try clear hb2)
  (try clear hk)
  (try clear hi)
  refine hK.out _ _ ⟨(blk_cell BK366.out 0).trans rfl, (blk_cell BK366.out 1).trans rfl, (blk_cell BK368.out 0).trans rfl, (blk_cell BK368.out 1).trans rfl, (blk_cell BK368.out 2).trans rfl, (blk_cell BK368.out 3).trans rfl, (ce HB.out hw372_0 :), (ce HB.out hw374_0 :)⟩ (fun hHeld => ?_)
  clear hK K
  refine norm_ (a' := ?_) ?_ ?_
  rotate_left
  ·
   show Act.put _ (some 59) _ = _
   simp only [pk, i64_w, i32_w]
   rfl
  refine pq 6 60 #[I,I,I,I,I,I,I,I,I,I,I,I,O,O,O] HT_.out rfl rfl ?_ (fun _ _ _ h => h) ?_ ?_ ?_ ?_
  rotate_left; · intro w'; go_simp; with_reducible rfl
  rotate_left; · simp only [pk, i64_w, i32_w]; rfl
  refine one_ (i := 12) (N := some 66) #[I,I,I,I,I,I,I,I,I,I,I,I,I,O,O] rfl rfl (one_of HT_.out (by kernel_rfl)) (by decide) (fun K hK => ?_)
  refine goes_ Tryz.func86 (by kernel_rfl) rfl #[.agg #[.slice (some ad367) l0_0.length c0_0, .slice A0_1 l0_1.length c0_1], .int .i64 (rd ((rd_T62 l0_0 a1).f3) 1)] (by rfl) rfl rfl gl ?_
  with_reducible refine (ih_impl_showIn k (by omega) _ _ l0_0 _ _ l0_1 (rd ((rd_T62 l0_0 a1).f3) 1) t375 _ ?side1 ?side2 ?side3 ?side4 (by first | (with_reducible exact HTAB.out) | exact tabW_below HTAB.out (be w)) A58.out).mono ?_
  (case side1 => exact Kd.C_below HR0_0.out (be w))
  (case side2 => exact HC0_0.out)
  (case side3 => exact Kd.C_below HR0_1.out (be w))
  (case side4 => exact HC0_1.out)
  rintro e w68 ⟨rfl, hb⟩
  refine ⟨_, rfl, ?_⟩
  replace BK366 := As.mk (blk_below (bx BK366.out) hb)
  replace BK368 := As.mk (blk_below (bx BK368.out) hb)
  replace HB := As.mk (below_step (be w) hb)
  (try clear hb)
  (try clear hb2)
  (try clear hk)
  (try clear hi)
  refine hK.out _ _ ⟨(blk_cell BK366.out 0).trans rfl, (blk_cell BK366.out 1).trans rfl, (blk_cell BK368.out 0).trans rfl, (blk_cell BK368.out 1).trans rfl, (blk_cell BK368.out 2).trans rfl, (blk_cell BK368.out 3).trans rfl, (ce HB.out hw372_0 :), (ce HB.out hw374_0 :)⟩ (fun hHeld => ?_)
  clear hK K
  refine norm_ (a' := ?_) ?_ ?_
  rotate_left
  ·
   show Act.put _ (some 66) _ = _
   simp only [pk, i64_w, i32_w]
   rfl
  refine pq 13 67 #[I,I,I,I,I,I,I,I,I,I,I,I,I,I,O] HT_.out rfl rfl ?_ (fun _ _ _ h => h) ?_ ?_ ?_ ?_
  rotate_left; · intro w'; go_simp; with_reducible rfl
  rotate_left; · simp only [pk, i64_w, i32_w]; rfl
  refine pq 14 4 #[I,I,I,I,I,I,I,I,I,I,I,I,I,I,I] HT_.out rfl rfl ?_ (fun _ _ _ h => h) ?_ ?_ ?_ ?_
  rotate_left; · intro w'; go_simp; with_reducible rfl
  rotate_left; · simp only [pk, i64_w, i32_w]; rfl
  refine done_ (done_of HT_.out (by kernel_rfl)) ?_
  try go_wp2
  go_ret
  exact ⟨ez, be w⟩
 rw [if_neg c53] at H
 have c53b0 : (((rd_T62 l0_0 a1).f0) == 9) = false := beq_eq_false_iff_ne.mpr c53
 have c53b1 : (((rd_T62 l0_0 a1).f0) != 9) = true := bne_iff_ne.mpr c53
 by_cases c69 : ((rd_T62 l0_0 a1).f0) = 10
 ·
  rw [if_pos c69] at H
  have c69b0 : (((rd_T62 l0_0 a1).f0) == 10) = true := beq_iff_eq.mpr c69
  have c69b1 : (((rd_T62 l0_0 a1).f0) != 10) = false := bne_eq_false_iff_eq.mpr c69
  clear c69
  have c70 := i1 H; replace H := i2 H
  have c70b0 := decide_eq_true c70
  have c70b1 : decide (0 < ((rd_T62 l0_0 a1).f3).length) = true := decide_eq_true (by omega)
  clear c70
  obtain ⟨t377, A710, H⟩ := Option.bind_eq_some_iff.mp H
  try dsimp only at H
  have A71 := As.mk A710
  clear A710
  have c72 := i1 H; replace H := i2 H
  have c72b0 := eq_true c72
  have c72b1 := decide_eq_true c72
  try have c72b2 := eq_false (Nat.not_lt.2 c72)
  have c73 := i1 H; replace H := i2 H
  have c73b0 := decide_eq_true c73
  have c73b1 : decide (1 < ((rd_T62 l0_0 a1).f3).length) = true := decide_eq_true (by omega)
  clear c73
  obtain ⟨t379, A740, H⟩ := Option.bind_eq_some_iff.mp H
  try dsimp only at H
  have A74 := As.mk A740
  clear A740
  have c75 := i1 H; replace H := i2 H
  have c75b0 := eq_true c75
  have c75b1 := decide_eq_true c75
  try have c75b2 := eq_false (Nat.not_lt.2 c75)
  try have c75b4 : (9223372036854775807 < t377.size + 3 + t379.size) = False := eq_false (Nat.not_lt.2 (by have h_ := c75; simp only [ByteArray.size_append] at h_; exact h_))
  obtain rfl := Option.some.inj H
  go_enter Tryz.func57, Tryz.ntmps57
  try go_wp2_with (first | ((with_reducible refine gate_dst (N := 2) rfl ?_); refine box_event ?hg (N := 2) ?hd (cs := #[.slice A0_0 l0_0.length c0_0, .slice A0_1 l0_1.length c0_1]) (t := 32) ?hr ?_; (case hd => rfl); (case hg => rfl); (case hr => first | (go_simp; done) | (go_simp; rfl)); intro gb366 hg w76 hbox hb; have BK366 := As.mk (hbox); have GW366 := As.mk (gs w hg); replace HB := As.mk (below_step (be w) hb); clear hb hbox hg; obtain ⟨hcz77_0, hcz77_1, hfz77_0, hfz77_1⟩ := cl2 BK366.out; have p367 : 0 ≤ (a1 : Int) := od; have q367 : a1 < (l0_0.length : Int) := od; obtain ⟨ad367, A367_3, c367_3, e367, hx367_0, hx367_1, hx367_2, hx367_3, hl367_3, hi367_3⟩ := at_T62 HR0_0.out a1 p367 q367; cases e367; replace hx367_0 := ce HB.out hx367_0; replace hx367_1 := ce HB.out hx367_1; replace hx367_2 := ce HB.out hx367_2; replace hx367_3 := ce HB.out hx367_3; have HR367_3 := As.mk hi367_3; have HC367_3 := As.mk hl367_3; clear hi367_3 hl367_3; replace p367 := eq_true p367; replace q367 := eq_true q367) | ((with_reducible refine gate_dst (N := 5) rfl ?_); refine box_event ?hg (N := 5) ?hd (cs := #[.int .i64 0, .int .i64 0, .string (⟨#[]⟩ : ByteArray), .slice none 0 0]) (t := 62) ?hr ?_; (case hd => rfl); (case hg => rfl); (case hr => first | (go_simp; done) | (go_simp; rfl)); intro gb368 hg w78 hbox hb; have BK368 := As.mk (hbox); have GW368 := As.mk (gs w hg); replace HB := As.mk (below_step (be w) hb); have NB366_368 := As.mk (nl hg (bx BK366.out)); have NB368_366 := As.mk (ng hg (bx BK366.out)); replace BK366 := As.mk (blk_below (bx BK366.out) hb); clear hb hbox hg; have hnb79 := NB368_366.out; have hnc79 := NB366_368.out; obtain ⟨hcz80_0, hcz80_1, hcz80_2, hcz80_3, hfz80_0, hfz80_1, hfz80_2, hfz80_3⟩ := cl4 BK368.out))
  have n0_ : As (((((w78.setCell ⟨gb368, 0, none⟩ (.int .i64 ((rd_T62 l0_0 a1).f0))).setCell ⟨gb368, 1, none⟩ (.int .i64 ((rd_T62 l0_0 a1).f1))).setCell ⟨gb368, 2, none⟩ (.string ((rd_T62 l0_0 a1).f2))).setCell ⟨gb368, 3, none⟩ (.slice A367_3 ((rd_T62 l0_0 a1).f3).length c367_3)).heap[gb366]? = some (.cells #[.slice (some ad367) l0_0.length c0_0, .slice A0_1 l0_1.length c0_1] 32 (0, 0))) := ⟨by refine pl ?_; refine blk_far ?_ NB366_368.out _; refine pl ?_; refine blk_far ?_ NB366_368.out _; refine pl ?_; refine blk_far ?_ NB366_368.out _; refine pl ?_; refine blk_far ?_ NB366_368.out _; exact bx BK366.out⟩
  have n1_ : As (((((w78.setCell ⟨gb368, 0, none⟩ (.int .i64 ((rd_T62 l0_0 a1).f0))).setCell ⟨gb368, 1, none⟩ (.int .i64 ((rd_T62 l0_0 a1).f1))).setCell ⟨gb368, 2, none⟩ (.string ((rd_T62 l0_0 a1).f2))).setCell ⟨gb368, 3, none⟩ (.slice A367_3 ((rd_T62 l0_0 a1).f3).length c367_3)).heap[gb368]? = some (.cells #[.int .i64 ((rd_T62 l0_0 a1).f0), .int .i64 ((rd_T62 l0_0 a1).f1), .string ((rd_T62 l0_0 a1).f2), .slice A367_3 ((rd_T62 l0_0 a1).f3).length c367_3] 62 (0, 0))) := ⟨by refine pl ?_; refine blk_put (cs := #[.int .i64 ((rd_T62 l0_0 a1).f0), .int .i64 ((rd_T62 l0_0 a1).f1), .string ((rd_T62 l0_0 a1).f2), .slice none 0 0]) ?_ 3 _ rfl; refine pl ?_; refine blk_put (cs := #[.int .i64 ((rd_T62 l0_0 a1).f0), .int .i64 ((rd_T62 l0_0 a1).f1), .string (⟨#[]⟩ : ByteArray), .slice none 0 0]) ?_ 2 _ rfl; refine pl ?_; refine blk_put (cs := #[.int .i64 ((rd_T62 l0_0 a1).f0), .int .i64 0, .string (⟨#[]⟩ : ByteArray), .slice none 0 0]) ?_ 1 _ rfl; refine pl ?_; refine blk_put (cs := #[.int .i64 0, .int .i64 0, .string (⟨#[]⟩ : ByteArray), .slice none 0 0]) ?_ 0 _ rfl; exact bx BK368.out⟩
  have n2_ : As (Below w.heap.size w ((((w78.setCell ⟨gb368, 0, none⟩ (.int .i64 ((rd_T62 l0_0 a1).f0))).setCell ⟨gb368, 1, none⟩ (.int .i64 ((rd_T62 l0_0 a1).f1))).setCell ⟨gb368, 2, none⟩ (.string ((rd_T62 l0_0 a1).f2))).setCell ⟨gb368, 3, none⟩ (.slice A367_3 ((rd_T62 l0_0 a1).f3).length c367_3))) := ⟨be w⟩
  (try clear BK366)
  (try clear BK368)
  (try clear HB)
  generalize ((((w78.setCell ⟨gb368, 0, none⟩ (.int .i64 ((rd_T62 l0_0 a1).f0))).setCell ⟨gb368, 1, none⟩ (.int .i64 ((rd_T62 l0_0 a1).f1))).setCell ⟨gb368, 2, none⟩ (.string ((rd_T62 l0_0 a1).f2))).setCell ⟨gb368, 3, none⟩ (.slice A367_3 ((rd_T62 l0_0 a1).f3).length c367_3)) = w81 at n0_ n1_ n2_ ⊢
  have BK366 := n0_
  have BK368 := n1_
  have HB := n2_
  clear n0_ n1_ n2_
  replace BK366 := As.mk (blk_drew BK366.out)
  replace BK368 := As.mk (blk_drew BK368.out)
  replace HB := As.mk (below_drew1 HB.out)
  have p376 : 0 ≤ (0 : Int) := (by omega)
  have q376 : 0 < (((rd_T62 l0_0 a1).f3).length : Int) := od
  obtain ⟨ad376, e376, hx376_0⟩ := Kd.at_int HR367_3.out 0 p376 q376
  have hw376_0 := hx376_0
  (try rw [show ((0 : Int)).toNat = 0 from rfl] at hw376_0)
  (try rw [show 0 * 1 = 0 from rfl] at hw376_0)
  (try rw [Addr.add_zero'] at hw376_0)
  cases e376
  have qi376 : (0 < ((rd_T62 l0_0 a1).f3).length) = True := eq_true (by omega)
  (try rw [show ((0 : Int)).toNat = 0 from rfl] at hx376_0)
  (try rw [Addr.add_zero'] at hx376_0)
  replace hx376_0 := ce HB.out hx376_0
  replace p376 := eq_true p376
  replace q376 := eq_true q376
  have p378 : 0 ≤ (1 : Int) := (by omega)
  have q378 : 1 < (((rd_T62 l0_0 a1).f3).length : Int) := od
  obtain ⟨ad378, e378, hx378_0⟩ := Kd.at_int HR367_3.out 1 p378 q378
  have hw378_0 := hx378_0
  (try rw [show ((1 : Int)).toNat = 1 from rfl] at hw378_0)
  (try rw [show 1 * 1 = 1 from rfl] at hw378_0)
  (try simp only [Nat.reduceMul, Nat.reduceEqDiff, Go.Addr.add, ↓reduceIte] at hw378_0)
  obtain rfl : ad376 = ad378 := (by injection e378)
  (try simp only [show (1 : Int).toNat = 1 from rfl, Nat.reduceMul, Nat.reduceEqDiff, Go.Addr.add, ↓reduceIte] at hx378_0)
  have qi378 : (1 < ((rd_T62 l0_0 a1).f3).length) = True := eq_true (by omega)
  (try rw [show ((1 : Int)).toNat = 1 from rfl] at hx378_0)
  replace hx378_0 := ce HB.out hx378_0
  replace p378 := eq_true p378
  replace q378 := eq_true q378
  refine start_ (n := 15) (S := fun w' => w'.cell? ⟨gb366, 0, none⟩ = some (.slice (some ad367) l0_0.length c0_0) ∧ w'.cell? ⟨gb366, 1, none⟩ = some (.slice A0_1 l0_1.length c0_1) ∧ w'.cell? ⟨gb368, 0, none⟩ = some (.int .i64 ((rd_T62 l0_0 a1).f0)) ∧ w'.cell? ⟨gb368, 1, none⟩ = some (.int .i64 ((rd_T62 l0_0 a1).f1)) ∧ w'.cell? ⟨gb368, 2, none⟩ = some (.string ((rd_T62 l0_0 a1).f2)) ∧ w'.cell? ⟨gb368, 3, none⟩ = some (.slice (some ad376) ((rd_T62 l0_0 a1).f3).length c367_3) ∧ w'.cell? ad376 = some (.int .i64 (rd ((rd_T62 l0_0 a1).f3) 0)) ∧ w'.cell? ⟨ad376.block, ad376.off + 1, none⟩ = some (.int .i64 (rd ((rd_T62 l0_0 a1).f3) 1))) (ds := []) #[O,O,O,O,O,O,O,O,O,O,O,O,O,O,O] (by kernel_rfl) rfl rfl ⟨(blk_cell BK366.out 0).trans rfl, (blk_cell BK366.out 1).trans rfl, (blk_cell BK368.out 0).trans rfl, (blk_cell BK368.out 1).trans rfl, (blk_cell BK368.out 2).trans rfl, (blk_cell BK368.out 3).trans rfl, (ce HB.out hw376_0 :), (ce HB.out hw378_0 :)⟩ (fun hHeld => ?_); refine with_tabW impl_showValue.tab20 impl_showValue.bits20 (fun HT_ HW_ => ?_)
  generalize w81.drew = w82 at BK366 BK368 HB hx376_0 hx378_0 hHeld ⊢
  refine pq 1 71 #[O,I,O,O,O,O,O,O,O,O,O,O,O,O,O] HT_.out rfl rfl ?_ (fun _ _ _ h => h) ?_ ?_ ?_ ?_
  rotate_left; · intro w'; go_simp; with_reducible rfl
  rotate_left; · simp only [pk, i64_w, i32_w]; rfl
  refine pq 8 78 #[O,I,O,O,O,O,O,O,I,O,O,O,O,O,O] HT_.out rfl rfl ?_ (fun _ _ _ h => h) ?_ ?_ ?_ ?_
  rotate_left; · intro w'; go_simp; with_reducible rfl
  rotate_left; · simp only [pk, i64_w, i32_w]; rfl
  refine tq 0 70 #[I,I,O,O,O,O,O,O,I,O,O,O,O,O,O] HT_.out HW_.out rfl rfl ?_ (fun _ _ _ h => h) ?_ hHeld ?_ ?_ ?_
  rotate_left; · rintro w' ⟨s0, s1, s2, s3, s4, s5, s6, s7⟩; go_simp; with_reducible rfl
  rotate_left; · simp only [pk, i64_w, i32_w]; rfl
  refine tq 2 72 #[I,I,I,O,O,O,O,O,I,O,O,O,O,O,O] HT_.out HW_.out rfl rfl ?_ (fun _ _ _ h => h) ?_ hHeld ?_ ?_ ?_
  rotate_left; · rintro w' ⟨s0, s1, s2, s3, s4, s5, s6, s7⟩; go_simp; with_reducible rfl
  rotate_left; · simp only [pk, i64_w, i32_w]; rfl
  refine pq 3 73 #[I,I,I,I,O,O,O,O,I,O,O,O,O,O,O] HT_.out rfl rfl ?_ (fun _ _ _ h => h) ?_ ?_ ?_ ?_
  rotate_left; · intro w'; go_simp; with_reducible rfl
  rotate_left; · simp only [pk, i64_w, i32_w]; rfl
  refine tq 4 74 #[I,I,I,I,I,O,O,O,I,O,O,O,O,O,O] HT_.out HW_.out rfl rfl ?_ (fun _ _ _ h => h) ?_ hHeld ?_ ?_ ?_
  rotate_left; · rintro w' ⟨s0, s1, s2, s3, s4, s5, s6, s7⟩; go_simp; with_reducible rfl
  rotate_left; · simp only [pk, i64_w, i32_w]; rfl
  refine tq 7 77 #[I,I,I,I,I,O,O,I,I,O,O,O,O,O,O] HT_.out HW_.out rfl rfl ?_ (fun _ _ _ h => h) ?_ hHeld ?_ ?_ ?_
  rotate_left; · rintro w' ⟨s0, s1, s2, s3, s4, s5, s6, s7⟩; go_simp; with_reducible rfl
  rotate_left; · simp only [pk, i64_w, i32_w]; rfl
  refine tq 9 79 #[I,I,I,I,I,O,O,I,I,I,O,O,O,O,O] HT_.out HW_.out rfl rfl ?_ (fun _ _ _ h => h) ?_ hHeld ?_ ?_ ?_
  rotate_left; · rintro w' ⟨s0, s1, s2, s3, s4, s5, s6, s7⟩; go_simp; with_reducible rfl
  rotate_left; · simp only [pk, i64_w, i32_w]; rfl
  refine pq 10 80 #[I,I,I,I,I,O,O,I,I,I,I,O,O,O,O] HT_.out rfl rfl ?_ (fun _ _ _ h => h) ?_ ?_ ?_ ?_
  rotate_left; · intro w'; go_simp; with_reducible rfl
  rotate_left; · simp only [pk, i64_w, i32_w]; rfl
  refine tq 11 81 #[I,I,I,I,I,O,O,I,I,I,I,I,O,O,O] HT_.out HW_.out rfl rfl ?_ (fun _ _ _ h => h) ?_ hHeld ?_ ?_ ?_
  rotate_left; · rintro w' ⟨s0, s1, s2, s3, s4, s5, s6, s7⟩; go_simp; with_reducible rfl
  rotate_left; · simp only [pk, i64_w, i32_w]; rfl
  refine one_ (i := 5) (N := some 75) #[I,I,I,I,I,I,O,I,I,I,I,I,O,O,O] rfl rfl (one_of HT_.out (by kernel_rfl)) (by decide) (fun K hK => ?_)
  refine goes_ Tryz.func86 (by kernel_rfl) rfl #[.agg #[.slice (some ad367) l0_0.length c0_0, .slice A0_1 l0_1.length c0_1], .int .i64 (rd ((rd_T62 l0_0 a1).f3) 0)] (by rfl) rfl rfl gl ?_
  with_reducible refine (ih_impl_showIn k (by omega) _ _ l0_0 _ _ l0_1 (rd ((rd_T62 l0_0 a1).f3) 0) t377 _ ?side1 ?side2 ?side3 ?side4 (by first | (with_reducible exact HTAB.out) | exact tabW_below HTAB.out (be w)) A71.out).mono ?_
  (case side1 => exact Kd.C_below HR0_0.out (be w))
  (case side2 => exact HC0_0.out)
  (case side3 => exact Kd.C_below HR0_1.out (be w))
  (case side4 => exact HC0_1.out)
  rintro e w83 ⟨rfl, hb⟩
  refine ⟨_, rfl, ?_⟩
  replace BK366 := As.mk (blk_below (bx BK366.out) hb)
  replace BK368 := As.mk (blk_below (bx BK368.out) hb)
  replace HB := As.mk (below_step (be w) hb)
  (try clear hb)
  (try clear hb2)
  (try clear hk)
  (try clear hi)
  refine hK.out _ _ ⟨(blk_cell BK366.out 0).trans rfl, (blk_cell BK366.out 1).trans rfl, (blk_cell BK368.out 0).trans rfl, (blk_cell BK368.out 1).trans rfl, (blk_cell BK368.out 2).trans rfl, (blk_cell BK368.out 3).trans rfl, (ce HB.out hw376_0 :), (ce HB.out hw378_0 :)⟩ (fun hHeld => ?_)
  clear hK K
  refine norm_ (a' := ?_) ?_ ?_
  rotate_left
  ·
   show Act.put _ (some 75) _ = _
   simp only [pk, i64_w, i32_w]
   rfl
  refine pq 6 76 #[I,I,I,I,I,I,I,I,I,I,I,I,O,O,O] HT_.out rfl rfl ?_ (fun _ _ _ h => h) ?_ ?_ ?_ ?_
  rotate_left; · intro w'; go_simp; with_reducible rfl
  rotate_left; · simp only [pk, i64_w, i32_w]; rfl
  refine one_ (i := 12) (N := some 82) #[I,I,I,I,I,I,I,I,I,I,I,I,I,O,O] rfl rfl (one_of HT_.out (by kernel_rfl)) (by decide) (fun K hK => ?_)
  refine goes_ Tryz.func86 (by kernel_rfl) rfl #[.agg #[.slice (some ad367) l0_0.length c0_0, .slice A0_1 l0_1.length c0_1], .int .i64 (rd ((rd_T62 l0_0 a1).f3) 1)] (by rfl) rfl rfl gl ?_
  with_reducible refine (ih_impl_showIn k (by omega) _ _ l0_0 _ _ l0_1 (rd ((rd_T62 l0_0 a1).f3) 1) t379 _ ?side1 ?side2 ?side3 ?side4 (by first | (with_reducible exact HTAB.out) | exact tabW_below HTAB.out (be w)) A74.out).mono ?_
  (case side1 => exact Kd.C_below HR0_0.out (be w))
  (case side2 => exact HC0_0.out)
  (case side3 => exact Kd.C_below HR0_1.out (be w))
  (case side4 => exact HC0_1.out)
  rintro e w84 ⟨rfl, hb⟩
  refine ⟨_, rfl, ?_⟩
  replace BK366 := As.mk (blk_below (bx BK366.out) hb)
  replace BK368 := As.mk (blk_below (bx BK368.out) hb)
  replace HB := As.mk (below_step (be w) hb)
  (try clear hb)
  (try clear hb2)
  (try clear hk)
  (try clear hi)
  refine hK.out _ _ ⟨(blk_cell BK366.out 0).trans rfl, (blk_cell BK366.out 1).trans rfl, (blk_cell BK368.out 0).trans rfl, (blk_cell BK368.out 1).trans rfl, (blk_cell BK368.out 2).trans rfl, (blk_cell BK368.out 3).trans rfl, (ce HB.out hw376_0 :), (ce HB.out hw378_0 :)⟩ (fun hHeld => ?_)
  clear hK K
  refine norm_ (a' := ?_) ?_ ?_
  rotate_left
  ·
   show Act.put _ (some 82) _ = _
   simp only [pk, i64_w, i32_w]
   rfl
  refine pq 13 83 #[I,I,I,I,I,I,I,I,I,I,I,I,I,I,O] HT_.out rfl rfl ?_ (fun _ _ _ h => h) ?_ ?_ ?_ ?_
  rotate_left; · intro w'; go_simp; with_reducible rfl
  rotate_left; · simp only [pk, i64_w, i32_w]; rfl
  refine pq 14 4 #[I,I,I,I,I,I,I,I,I,I,I,I,I,I,I] HT_.out rfl rfl ?_ (fun _ _ _ h => h) ?_ ?_ ?_ ?_
  rotate_left; · intro w'; go_simp; with_reducible rfl
  rotate_left; · simp only [pk, i64_w, i32_w]; rfl
  refine done_ (done_of HT_.out (by kernel_rfl)) ?_
  try go_wp2
  go_ret
  exact ⟨ez, be w⟩
 rw [if_neg c69] at H
 have c69b0 : (((rd_T62 l0_0 a1).f0) == 10) = false := beq_eq_false_iff_ne.mpr c69
 have c69b1 : (((rd_T62 l0_0 a1).f0) != 10) = true := bne_iff_ne.mpr c69
 by_cases c85 : ((rd_T62 l0_0 a1).f0) = 11
 ·
  rw [if_pos c85] at H
  have c85b0 : (((rd_T62 l0_0 a1).f0) == 11) = true := beq_iff_eq.mpr c85
  have c85b1 : (((rd_T62 l0_0 a1).f0) != 11) = false := bne_eq_false_iff_eq.mpr c85
  clear c85
  have c86 := i1 H; replace H := i2 H
  have c86b0 := decide_eq_true c86
  have c86b1 : decide (0 < ((rd_T62 l0_0 a1).f3).length) = true := decide_eq_true (by omega)
  clear c86
  obtain ⟨t381, A870, H⟩ := Option.bind_eq_some_iff.mp H
  try dsimp only at H
  have A87 := As.mk A870
  clear A870
  have c88 := i1 H; replace H := i2 H
  have c88b0 := eq_true c88
  have c88b1 := decide_eq_true c88
  try have c88b2 := eq_false (Nat.not_lt.2 c88)
  have c89 := i1 H; replace H := i2 H
  have c89b0 := decide_eq_true c89
  have c89b1 : decide (1 < ((rd_T62 l0_0 a1).f3).length) = true := decide_eq_true (by omega)
  clear c89
  obtain ⟨t383, A900, H⟩ := Option.bind_eq_some_iff.mp H
  try dsimp only at H
  have A90 := As.mk A900
  clear A900
  have c91 := i1 H; replace H := i2 H
  have c91b0 := eq_true c91
  have c91b1 := decide_eq_true c91
  try have c91b2 := eq_false (Nat.not_lt.2 c91)
  try have c91b4 : (9223372036854775807 < t381.size + 4 + t383.size) = False := eq_false (Nat.not_lt.2 (by have h_ := c91; simp only [ByteArray.size_append] at h_; exact h_))
  obtain rfl := Option.some.inj H
  go_enter Tryz.func57, Tryz.ntmps57
  try go_wp2_with (first | ((with_reducible refine gate_dst (N := 2) rfl ?_); refine box_event ?hg (N := 2) ?hd (cs := #[.slice A0_0 l0_0.length c0_0, .slice A0_1 l0_1.length c0_1]) (t := 32) ?hr ?_; (case hd => rfl); (case hg => rfl); (case hr => first | (go_simp; done) | (go_simp; rfl)); intro gb366 hg w92 hbox hb; have BK366 := As.mk (hbox); have GW366 := As.mk (gs w hg); replace HB := As.mk (below_step (be w) hb); clear hb hbox hg; obtain ⟨hcz93_0, hcz93_1, hfz93_0, hfz93_1⟩ := cl2 BK366.out; have p367 : 0 ≤ (a1 : Int) := od; have q367 : a1 < (l0_0.length : Int) := od; obtain ⟨ad367, A367_3, c367_3, e367, hx367_0, hx367_1, hx367_2, hx367_3, hl367_3, hi367_3⟩ := at_T62 HR0_0.out a1 p367 q367; cases e367; replace hx367_0 := ce HB.out hx367_0; replace hx367_1 := ce HB.out hx367_1; replace hx367_2 := ce HB.out hx367_2; replace hx367_3 := ce HB.out hx367_3; have HR367_3 := As.mk hi367_3; have HC367_3 := As.mk hl367_3; clear hi367_3 hl367_3; replace p367 := eq_true p367; replace q367 := eq_true q367) | ((with_reducible refine gate_dst (N := 5) rfl ?_); refine box_event ?hg (N := 5) ?hd (cs := #[.int .i64 0, .int .i64 0, .string (⟨#[]⟩ : ByteArray), .slice none 0 0]) (t := 62) ?hr ?_; (case hd => rfl); (case hg => rfl); (case hr => first | (go_simp; done) | (go_simp; rfl)); intro gb368 hg w94 hbox hb; have BK368 := As.mk (hbox); have GW368 := As.mk (gs w hg); replace HB := As.mk (below_step (be w) hb); have NB366_368 := As.mk (nl hg (bx BK366.out)); have NB368_366 := As.mk (ng hg (bx BK366.out)); replace BK366 := As.mk (blk_below (bx BK366.out) hb); clear hb hbox hg; have hnb95 := NB368_366.out; have hnc95 := NB366_368.out; obtain ⟨hcz96_0, hcz96_1, hcz96_2, hcz96_3, hfz96_0, hfz96_1, hfz96_2, hfz96_3⟩ := cl4 BK368.out))
  have n0_ : As (((((w94.setCell ⟨gb368, 0, none⟩ (.int .i64 ((rd_T62 l0_0 a1).f0))).setCell ⟨gb368, 1, none⟩ (.int .i64 ((rd_T62 l0_0 a1).f1))).setCell ⟨gb368, 2, none⟩ (.string ((rd_T62 l0_0 a1).f2))).setCell ⟨gb368, 3, none⟩ (.slice A367_3 ((rd_T62 l0_0 a1).f3).length c367_3)).heap[gb366]? = some (.cells #[.slice (some ad367) l0_0.length c0_0, .slice A0_1 l0_1.length c0_1] 32 (0, 0))) := ⟨by refine pl ?_; refine blk_far ?_ NB366_368.out _; refine pl ?_; refine blk_far ?_ NB366_368.out _; refine pl ?_; refine blk_far ?_ NB366_368.out _; refine pl ?_; refine blk_far ?_ NB366_368.out _; exact bx BK366.out⟩
  have n1_ : As (((((w94.setCell ⟨gb368, 0, none⟩ (.int .i64 ((rd_T62 l0_0 a1).f0))).setCell ⟨gb368, 1, none⟩ (.int .i64 ((rd_T62 l0_0 a1).f1))).setCell ⟨gb368, 2, none⟩ (.string ((rd_T62 l0_0 a1).f2))).setCell ⟨gb368, 3, none⟩ (.slice A367_3 ((rd_T62 l0_0 a1).f3).length c367_3)).heap[gb368]? = some (.cells #[.int .i64 ((rd_T62 l0_0 a1).f0), .int .i64 ((rd_T62 l0_0 a1).f1), .string ((rd_T62 l0_0 a1).f2), .slice A367_3 ((rd_T62 l0_0 a1).f3).length c367_3] 62 (0, 0))) := ⟨by refine pl ?_; refine blk_put (cs := #[.int .i64 ((rd_T62 l0_0 a1).f0), .int .i64 ((rd_T62 l0_0 a1).f1), .string ((rd_T62 l0_0 a1).f2), .slice none 0 0]) ?_ 3 _ rfl; refine pl ?_; refine blk_put (cs := #[.int .i64 ((rd_T62 l0_0 a1).f0), .int .i64 ((rd_T62 l0_0 a1).f1), .string (⟨#[]⟩ : ByteArray), .slice none 0 0]) ?_ 2 _ rfl; refine pl ?_; refine blk_put (cs := #[.int .i64 ((rd_T62 l0_0 a1).f0), .int .i64 0, .string (⟨#[]⟩ : ByteArray), .slice none 0 0]) ?_ 1 _ rfl; refine pl ?_; refine blk_put (cs := #[.int .i64 0, .int .i64 0, .string (⟨#[]⟩ : ByteArray), .slice none 0 0]) ?_ 0 _ rfl; exact bx BK368.out⟩
  have n2_ : As (Below w.heap.size w ((((w94.setCell ⟨gb368, 0, none⟩ (.int .i64 ((rd_T62 l0_0 a1).f0))).setCell ⟨gb368, 1, none⟩ (.int .i64 ((rd_T62 l0_0 a1).f1))).setCell ⟨gb368, 2, none⟩ (.string ((rd_T62 l0_0 a1).f2))).setCell ⟨gb368, 3, none⟩ (.slice A367_3 ((rd_T62 l0_0 a1).f3).length c367_3))) := ⟨be w⟩
  (try clear BK366)
  (try clear BK368)
  (try clear HB)
  generalize ((((w94.setCell ⟨gb368, 0, none⟩ (.int .i64 ((rd_T62 l0_0 a1).f0))).setCell ⟨gb368, 1, none⟩ (.int .i64 ((rd_T62 l0_0 a1).f1))).setCell ⟨gb368, 2, none⟩ (.string ((rd_T62 l0_0 a1).f2))).setCell ⟨gb368, 3, none⟩ (.slice A367_3 ((rd_T62 l0_0 a1).f3).length c367_3)) = w97 at n0_ n1_ n2_ ⊢
  have BK366 := n0_
  have BK368 := n1_
  have HB := n2_
  clear n0_ n1_ n2_
  replace BK366 := As.mk (blk_drew BK366.out)
  replace BK368 := As.mk (blk_drew BK368.out)
  replace HB := As.mk (below_drew1 HB.out)
  have p380 : 0 ≤ (0 : Int) := (by omega)
  have q380 : 0 < (((rd_T62 l0_0 a1).f3).length : Int) := od
  obtain ⟨ad380, e380, hx380_0⟩ := Kd.at_int HR367_3.out 0 p380 q380
  have hw380_0 := hx380_0
  (try rw [show ((0 : Int)).toNat = 0 from rfl] at hw380_0)
  (try rw [show 0 * 1 = 0 from rfl] at hw380_0)
  (try rw [Addr.add_zero'] at hw380_0)
  cases e380
  have qi380 : (0 < ((rd_T62 l0_0 a1).f3).length) = True := eq_true (by omega)
  (try rw [show ((0 : Int)).toNat = 0 from rfl] at hx380_0)
  (try rw [Addr.add_zero'] at hx380_0)
  replace hx380_0 := ce HB.out hx380_0
  replace p380 := eq_true p380
  replace q380 := eq_true q380
  have p382 : 0 ≤ (1 : Int) := (by omega)
  have q382 : 1 < (((rd_T62 l0_0 a1).f3).length : Int) := od
  obtain ⟨ad382, e382, hx382_0⟩ := Kd.at_int HR367_3.out 1 p382 q382
  have hw382_0 := hx382_0
  (try rw [show ((1 : Int)).toNat = 1 from rfl] at hw382_0)
  (try rw [show 1 * 1 = 1 from rfl] at hw382_0)
  (try simp only [Nat.reduceMul, Nat.reduceEqDiff, Go.Addr.add, ↓reduceIte] at hw382_0)
  obtain rfl : ad380 = ad382 := (by injection e382)
  (try simp only [show (1 : Int).toNat = 1 from rfl, Nat.reduceMul, Nat.reduceEqDiff, Go.Addr.add, ↓reduceIte] at hx382_0)
  have qi382 : (1 < ((rd_T62 l0_0 a1).f3).length) = True := eq_true (by omega)
  (try rw [show ((1 : Int)).toNat = 1 from rfl] at hx382_0)
  replace hx382_0 := ce HB.out hx382_0
  replace p382 := eq_true p382
  replace q382 := eq_true q382
  refine start_ (n := 15) (S := fun w' => w'.cell? ⟨gb366, 0, none⟩ = some (.slice (some ad367) l0_0.length c0_0) ∧ w'.cell? ⟨gb366, 1, none⟩ = some (.slice A0_1 l0_1.length c0_1) ∧ w'.cell? ⟨gb368, 0, none⟩ = some (.int .i64 ((rd_T62 l0_0 a1).f0)) ∧ w'.cell? ⟨gb368, 1, none⟩ = some (.int .i64 ((rd_T62 l0_0 a1).f1)) ∧ w'.cell? ⟨gb368, 2, none⟩ = some (.string ((rd_T62 l0_0 a1).f2)) ∧ w'.cell? ⟨gb368, 3, none⟩ = some (.slice (some ad380) ((rd_T62 l0_0 a1).f3).length c367_3) ∧ w'.cell? ad380 = some (.int .i64 (rd ((rd_T62 l0_0 a1).f3) 0)) ∧ w'.cell? ⟨ad380.block, ad380.off + 1, none⟩ = some (.int .i64 (rd ((rd_T62 l0_0 a1).f3) 1))) (ds := []) #[O,O,O,O,O,O,O,O,O,O,O,O,O,O,O] (by kernel_rfl) rfl rfl ⟨(blk_cell BK366.out 0).trans rfl, (blk_cell BK366.out 1).trans rfl, (blk_cell BK368.out 0).trans rfl, (blk_cell BK368.out 1).trans rfl, (blk_cell BK368.out 2).trans rfl, (blk_cell BK368.out 3).trans rfl, (ce HB.out hw380_0 :), (ce HB.out hw382_0 :)⟩ (fun hHeld => ?_); refine with_tabW impl_showValue.tab22 impl_showValue.bits22 (fun HT_ HW_ => ?_)
  generalize w97.drew = w98 at BK366 BK368 HB hx380_0 hx382_0 hHeld ⊢
  refine pq 1 87 #[O,I,O,O,O,O,O,O,O,O,O,O,O,O,O] HT_.out rfl rfl ?_ (fun _ _ _ h => h) ?_ ?_ ?_ ?_
  rotate_left; · intro w'; go_simp; with_reducible rfl
  rotate_left; · simp only [pk, i64_w, i32_w]; rfl
  refine pq 8 94 #[O,I,O,O,O,O,O,O,I,O,O,O,O,O,O] HT_.out rfl rfl ?_ (fun _ _ _ h => h) ?_ ?_ ?_ ?_
  rotate_left; · intro w'; go_simp; with_reducible rfl
  rotate_left; · simp only [pk, i64_w, i32_w]; rfl
  refine tq 0 86 #[I,I,O,O,O,O,O,O,I,O,O,O,O,O,O] HT_.out HW_.out rfl rfl ?_ (fun _ _ _ h => h) ?_ hHeld ?_ ?_ ?_
  rotate_left; · rintro w' ⟨s0, s1, s2, s3, s4, s5, s6, s7⟩; go_simp; with_reducible rfl
  rotate_left; · simp only [pk, i64_w, i32_w]; rfl
  refine tq 2 88 #[I,I,I,O,O,O,O,O,I,O,O,O,O,O,O] HT_.out HW_.out rfl rfl ?_ (fun _ _ _ h => h) ?_ hHeld ?_ ?_ ?_
  rotate_left; · rintro w' ⟨s0, s1, s2, s3, s4, s5, s6, s7⟩; go_simp; with_reducible rfl
  rotate_left; · simp only [pk, i64_w, i32_w]; rfl
  refine pq 3 89 #[I,I,I,I,O,O,O,O,I,O,O,O,O,O,O] HT_.out rfl rfl ?_ (fun _ _ _ h => h) ?_ ?_ ?_ ?_
  rotate_left; · intro w'; go_simp; with_reducible rfl
  rotate_left; · simp only [pk, i64_w, i32_w]; rfl
  refine tq 4 90 #[I,I,I,I,I,O,O,O,I,O,O,O,O,O,O] HT_.out HW_.out rfl rfl ?_ (fun _ _ _ h => h) ?_ hHeld ?_ ?_ ?_
  rotate_left; · rintro w' ⟨s0, s1, s2, s3, s4, s5, s6, s7⟩; go_simp; with_reducible rfl
  rotate_left; · simp only [pk, i64_w, i32_w]; rfl
  refine tq 7 93 #[I,I,I,I,I,O,O,I,I,O,O,O,O,O,O] HT_.out HW_.out rfl rfl ?_ (fun _ _ _ h => h) ?_ hHeld ?_ ?_ ?_
  rotate_left; · rintro w' ⟨s0, s1, s2, s3, s4, s5, s6, s7⟩; go_simp; with_reducible rfl
  rotate_left; · simp only [pk, i64_w, i32_w]; rfl
  refine tq 9 95 #[I,I,I,I,I,O,O,I,I,I,O,O,O,O,O] HT_.out HW_.out rfl rfl ?_ (fun _ _ _ h => h) ?_ hHeld ?_ ?_ ?_
  rotate_left; · rintro w' ⟨s0, s1, s2, s3, s4, s5, s6, s7⟩; go_simp; with_reducible rfl
  rotate_left; · simp only [pk, i64_w, i32_w]; rfl
  refine pq 10 96 #[I,I,I,I,I,O,O,I,I,I,I,O,O,O,O] HT_.out rfl rfl ?_ (fun _ _ _ h => h) ?_ ?_ ?_ ?_
  rotate_left; · intro w'; go_simp; with_reducible rfl
  rotate_left; · simp only [pk, i64_w, i32_w]; rfl
  refine tq 11 97 #[I,I,I,I,I,O,O,I,I,I,I,I,O,O,O] HT_.out HW_.out rfl rfl ?_ (fun _ _ _ h => h) ?_ hHeld ?_ ?_ ?_
  rotate_left; · rintro w' ⟨s0, s1, s2, s3, s4, s5, s6, s7⟩; go_simp; with_reducible rfl
  rotate_left; · simp only [pk, i64_w, i32_w]; rfl
  refine one_ (i := 5) (N := some 91) #[I,I,I,I,I,I,O,I,I,I,I,I,O,O,O] rfl rfl (one_of HT_.out (by kernel_rfl)) (by decide) (fun K hK => ?_)
  refine goes_ Tryz.func86 (by kernel_rfl) rfl #[.agg #[.slice (some ad367) l0_0.length c0_0, .slice A0_1 l0_1.length c0_1], .int .i64 (rd ((rd_T62 l0_0 a1).f3) 0)] (by rfl) rfl rfl gl ?_
  with_reducible refine (ih_impl_showIn k (by omega) _ _ l0_0 _ _ l0_1 (rd ((rd_T62 l0_0 a1).f3) 0) t381 _ ?side1 ?side2 ?side3 ?side4 (by first | (with_reducible exact HTAB.out) | exact tabW_below HTAB.out (be w)) A87.out).mono ?_
  (case side1 => exact Kd.C_below HR0_0.out (be w))
  (case side2 => exact HC0_0.out)
  (case side3 => exact Kd.C_below HR0_1.out (be w))
  (case side4 => exact HC0_1.out)
  rintro e w99 ⟨rfl, hb⟩
  refine ⟨_, rfl, ?_⟩
  replace BK366 := As.mk (blk_below (bx BK366.out) hb)
  replace BK368 := As.mk (blk_below (bx BK368.out) hb)
  replace HB := As.mk (below_step (be w) hb)
  (try clear hb)
  (try clear hb2)
  (try clear hk)
  (try clear hi)
  refine hK.out _ _ ⟨(blk_cell BK366.out 0).trans rfl, (blk_cell BK366.out 1).trans rfl, (blk_cell BK368.out 0).trans rfl, (blk_cell BK368.out 1).trans rfl, (blk_cell BK368.out 2).trans rfl, (blk_cell BK368.out 3).trans rfl, (ce HB.out hw380_0 :), (ce HB.out hw382_0 :)⟩ (fun hHeld => ?_)
  clear hK K
  refine norm_ (a' := ?_) ?_ ?_
  rotate_left
  ·
   show Act.put _ (some 91) _ = _
   simp only [pk, i64_w, i32_w]
   rfl
  refine pq 6 92 #[I,I,I,I,I,I,I,I,I,I,I,I,O,O,O] HT_.out rfl rfl ?_ (fun _ _ _ h => h) ?_ ?_ ?_ ?_
  rotate_left; · intro w'; go_simp; with_reducible rfl
  rotate_left; · simp only [pk, i64_w, i32_w]; rfl
  refine one_ (i := 12) (N := some 98) #[I,I,I,I,I,I,I,I,I,I,I,I,I,O,O] rfl rfl (one_of HT_.out (by kernel_rfl)) (by decide) (fun K hK => ?_)
  refine goes_ Tryz.func86 (by kernel_rfl) rfl #[.agg #[.slice (some ad367) l0_0.length c0_0, .slice A0_1 l0_1.length c0_1], .int .i64 (rd ((rd_T62 l0_0 a1).f3) 1)] (by rfl) rfl rfl gl ?_
  with_reducible refine (ih_impl_showIn k (by omega) _ _ l0_0 _ _ l0_1 (rd ((rd_T62 l0_0 a1).f3) 1) t383 _ ?side1 ?side2 ?side3 ?side4 (by first | (with_reducible exact HTAB.out) | exact tabW_below HTAB.out (be w)) A90.out).mono ?_
  (case side1 => exact Kd.C_below HR0_0.out (be w))
  (case side2 => exact HC0_0.out)
  (case side3 => exact Kd.C_below HR0_1.out (be w))
  (case side4 => exact HC0_1.out)
  rintro e w100 ⟨rfl, hb⟩
  refine ⟨_, rfl, ?_⟩
  replace BK366 := As.mk (blk_below (bx BK366.out) hb)
  replace BK368 := As.mk (blk_below (bx BK368.out) hb)
  replace HB := As.mk (below_step (be w) hb)
  (try clear hb)
  (try clear hb2)
  (try clear hk)
  (try clear hi)
  refine hK.out _ _ ⟨(blk_cell BK366.out 0).trans rfl, (blk_cell BK366.out 1).trans rfl, (blk_cell BK368.out 0).trans rfl, (blk_cell BK368.out 1).trans rfl, (blk_cell BK368.out 2).trans rfl, (blk_cell BK368.out 3).trans rfl, (ce HB.out hw380_0 :), (ce HB.out hw382_0 :)⟩ (fun hHeld => ?_)
  clear hK K
  refine norm_ (a' := ?_) ?_ ?_
  rotate_left
  ·
   show Act.put _ (some 98) _ = _
   simp only [pk, i64_w, i32_w]
   rfl
  refine pq 13 99 #[I,I,I,I,I,I,I,I,I,I,I,I,I,I,O] HT_.out rfl rfl ?_ (fun _ _ _ h => h) ?_ ?_ ?_ ?_
  rotate_left; · intro w'; go_simp; with_reducible rfl
  rotate_left; · simp only [pk, i64_w, i32_w]; rfl
  refine pq 14 4 #[I,I,I,I,I,I,I,I,I,I,I,I,I,I,I] HT_.out rfl rfl ?_ (fun _ _ _ h => h) ?_ ?_ ?_ ?_
  rotate_left; · intro w'; go_simp; with_reducible rfl
  rotate_left; · simp only [pk, i64_w, i32_w]; rfl
  refine done_ (done_of HT_.out (by kernel_rfl)) ?_
  try go_wp2
  go_ret
  exact ⟨ez, be w⟩
 rw [if_neg c85] at H
 have c85b0 : (((rd_T62 l0_0 a1).f0) == 11) = false := beq_eq_false_iff_ne.mpr c85
 have c85b1 : (((rd_T62 l0_0 a1).f0) != 11) = true := bne_iff_ne.mpr c85
 by_cases c101 : ((rd_T62 l0_0 a1).f0) = 12
 rotate_left
 ·
  rw [if_neg c101] at H
  have c101b0 : (((rd_T62 l0_0 a1).f0) == 12) = false := beq_eq_false_iff_ne.mpr c101
  have c101b1 : (((rd_T62 l0_0 a1).f0) != 12) = true := bne_iff_ne.mpr c101
  obtain rfl := Option.some.inj H
  go_enter Tryz.func57, Tryz.ntmps57
  go_wp2_with (first | ((with_reducible refine gate_dst (N := 2) rfl ?_); refine box_event ?hg (N := 2) ?hd (cs := #[.slice A0_0 l0_0.length c0_0, .slice A0_1 l0_1.length c0_1]) (t := 32) ?hr ?_; (case hd => rfl); (case hg => rfl); (case hr => first | (go_simp; done) | (go_simp; rfl)); intro gb366 hg w123 hbox hb; have BK366 := As.mk (hbox); have GW366 := As.mk (gs w hg); replace HB := As.mk (below_step (be w) hb); clear hb hbox hg; obtain ⟨hcz124_0, hcz124_1, hfz124_0, hfz124_1⟩ := cl2 BK366.out; have p367 : 0 ≤ (a1 : Int) := od; have q367 : a1 < (l0_0.length : Int) := od; obtain ⟨ad367, A367_3, c367_3, e367, hx367_0, hx367_1, hx367_2, hx367_3, hl367_3, hi367_3⟩ := at_T62 HR0_0.out a1 p367 q367; cases e367; replace hx367_0 := ce HB.out hx367_0; replace hx367_1 := ce HB.out hx367_1; replace hx367_2 := ce HB.out hx367_2; replace hx367_3 := ce HB.out hx367_3; have HR367_3 := As.mk hi367_3; have HC367_3 := As.mk hl367_3; clear hi367_3 hl367_3; replace p367 := eq_true p367; replace q367 := eq_true q367) | ((with_reducible refine gate_dst (N := 5) rfl ?_); refine box_event ?hg (N := 5) ?hd (cs := #[.int .i64 0, .int .i64 0, .string (⟨#[]⟩ : ByteArray), .slice none 0 0]) (t := 62) ?hr ?_; (case hd => rfl); (case hg => rfl); (case hr => first | (go_simp; done) | (go_simp; rfl)); intro gb368 hg w125 hbox hb; have BK368 := As.mk (hbox); have GW368 := As.mk (gs w hg); replace HB := As.mk (below_step (be w) hb); clear hb hbox hg; obtain ⟨hcz126_0, hcz126_1, hcz126_2, hcz126_3, hfz126_0, hfz126_1, hfz126_2, hfz126_3⟩ := cl4 BK368.out))
  go_ret
  exact ⟨ez, be w⟩
 rw [if_pos c101] at H
 have c101b0 : (((rd_T62 l0_0 a1).f0) == 12) = true := beq_iff_eq.mpr c101
 have c101b1 : (((rd_T62 l0_0 a1).f0) != 12) = false := bne_eq_false_iff_eq.mpr c101
 clear c101
 have H' := As.mk H
 clear H
 go_enter Tryz.func57, Tryz.ntmps57
 go_wp2_with (first | ((with_reducible refine gate_dst (N := 2) rfl ?_); refine box_event ?hg (N := 2) ?hd (cs := #[.slice A0_0 l0_0.length c0_0, .slice A0_1 l0_1.length c0_1]) (t := 32) ?hr ?_; (case hd => rfl); (case hg => rfl); (case hr => first | (go_simp; done) | (go_simp; rfl)); intro gb366 hg w102 hbox hb; have BK366 := As.mk (hbox); have GW366 := As.mk (gs w hg); replace HB := As.mk (below_step (be w) hb); clear hb hbox hg; obtain ⟨hcz103_0, hcz103_1, hfz103_0, hfz103_1⟩ := cl2 BK366.out; have p367 : 0 ≤ (a1 : Int) := od; have q367 : a1 < (l0_0.length : Int) := od; obtain ⟨ad367, A367_3, c367_3, e367, hx367_0, hx367_1, hx367_2, hx367_3, hl367_3, hi367_3⟩ := at_T62 HR0_0.out a1 p367 q367; cases e367; replace hx367_0 := ce HB.out hx367_0; replace hx367_1 := ce HB.out hx367_1; replace hx367_2 := ce HB.out hx367_2; replace hx367_3 := ce HB.out hx367_3; have HR367_3 := As.mk hi367_3; have HC367_3 := As.mk hl367_3; clear hi367_3 hl367_3; replace p367 := eq_true p367; replace q367 := eq_true q367) | ((with_reducible refine gate_dst (N := 5) rfl ?_); refine box_event ?hg (N := 5) ?hd (cs := #[.int .i64 0, .int .i64 0, .string (⟨#[]⟩ : ByteArray), .slice none 0 0]) (t := 62) ?hr ?_; (case hd => rfl); (case hg => rfl); (case hr => first | (go_simp; done) | (go_simp; rfl)); intro gb368 hg w104 hbox hb; have BK368 := As.mk (hbox); have GW368 := As.mk (gs w hg); replace HB := As.mk (below_step (be w) hb); have NB366_368 := As.mk (nl hg (bx BK366.out)); have NB368_366 := As.mk (ng hg (bx BK366.out)); replace BK366 := As.mk (blk_below (bx BK366.out) hb); clear hb hbox hg; have hnb105 := NB368_366.out; have hnc105 := NB366_368.out; obtain ⟨hcz106_0, hcz106_1, hcz106_2, hcz106_3, hfz106_0, hfz106_1, hfz106_2, hfz106_3⟩ := cl4 BK368.out))
 go_loopg [6, 105] k (fun kq v6 v105 w' => ∃ (x6_1 : List ByteArray) (x105_1 : Int), v105 = .int .i64 x105_1 ∧ As (impl_showValue.l0 kq x6_1 ((rd_T62 l0_0 a1).f3) (((rd_T62 l0_0 a1).f3).length : Int) x105_1 l0_0 l0_1 ((rd_T62 l0_0 a1).f0) ((rd_T62 l0_0 a1).f1) ((rd_T62 l0_0 a1).f2) ((rd_T62 l0_0 a1).f3) = some r) ∧ As (kq ≤ k) ∧ As (Kd.R Kd.string 9 w' w.heap.size (fun _ => True) v6 x6_1) ∧ As (w'.heap[gb366]? = some (.cells #[(.slice (some ad367) l0_0.length c0_0), (.slice A0_1 l0_1.length c0_1)] 32 (0, 0))) ∧ As (w'.heap[gb368]? = some (.cells #[.int .i64 ((rd_T62 l0_0 a1).f0), .int .i64 ((rd_T62 l0_0 a1).f1), .string ((rd_T62 l0_0 a1).f2), (.slice A367_3 ((rd_T62 l0_0 a1).f3).length c367_3)] 62 (0, 0))) ∧ As (Below w.heap.size w w'))
 case atStart => exact ⟨(([] : List ByteArray)), (0), (by first | rfl | (simp; done) | (simp [*]; done)), H', ⟨Nat.le_refl _⟩, ⟨by first | exact Kd.R_nil _ _ _ _ _ | exact Kd.N_nil _ _ _ _ _ | exact Kd.V_nil _ _ _ _ _ | exact Kd.Q_nil _ _ _ _ _ | exact Kd.S_nil _ _ _ _ _⟩, ⟨by refine pl ?_; refine blk_far ?_ NB366_368.out _; refine pl ?_; refine blk_far ?_ NB366_368.out _; refine pl ?_; refine blk_far ?_ NB366_368.out _; refine pl ?_; refine blk_far ?_ NB366_368.out _; exact bx BK366.out⟩, ⟨by refine pl ?_; refine blk_put (cs := #[.int .i64 ((rd_T62 l0_0 a1).f0), .int .i64 ((rd_T62 l0_0 a1).f1), .string ((rd_T62 l0_0 a1).f2), .slice none 0 0]) ?_ 3 _ rfl; refine pl ?_; refine blk_put (cs := #[.int .i64 ((rd_T62 l0_0 a1).f0), .int .i64 ((rd_T62 l0_0 a1).f1), .string (⟨#[]⟩ : ByteArray), .slice none 0 0]) ?_ 2 _ rfl; refine pl ?_; refine blk_put (cs := #[.int .i64 ((rd_T62 l0_0 a1).f0), .int .i64 0, .string (⟨#[]⟩ : ByteArray), .slice none 0 0]) ?_ 1 _ rfl; refine pl ?_; refine blk_put (cs := #[.int .i64 0, .int .i64 0, .string (⟨#[]⟩ : ByteArray), .slice none 0 0]) ?_ 0 _ rfl; exact bx BK368.out⟩, ⟨be w⟩⟩
 case round =>
  clear H'
  (try clear c3); (try clear c5); (try clear c36); (try clear c53); (try clear c53b0); (try clear c53b1); (try clear c69); (try clear c69b0); (try clear c69b1); (try clear c85); (try clear c85b0); (try clear c85b1); (try clear c101); (try clear c101b0); (try clear c101b1); (try clear hcz103_0); (try clear hcz103_1); (try clear hcz106_0); (try clear hcz106_1); (try clear hcz106_2); (try clear hcz106_3); (try clear hfz103_0); (try clear hfz103_1); (try clear hfz106_0); (try clear hfz106_1); (try clear hfz106_2); (try clear hfz106_3); (try clear hx367_0); (try clear hx367_1); (try clear hx367_2); (try clear hx367_3); (try clear p367); (try clear q367)
  obtain ⟨x6_1, x105_1, rfl, HA, HK1, HO_6, BK366, BK368, HB⟩ := hrel
  cases gk with
  | zero => exact absurd HA.out (by simp [impl_showValue.l0])
  | succ k1 =>
   have H := HA.out
   clear HA
   simp only [impl_showValue.l0] at H
   by_cases c107 : x105_1 < (((rd_T62 l0_0 a1).f3).length : Int)
   ·
    rw [if_pos c107] at H
    have c107b0 := decide_eq_true c107
    clear c107
    have c108 := i1 H; replace H := i2 H
    have c108b0 := decide_eq_true c108
    clear c108
    have c109 := i1 H; replace H := i2 H
    have c109b0 := decide_eq_true c109
    clear c109
    obtain ⟨t385, A1100, H⟩ := Option.bind_eq_some_iff.mp H
    try dsimp only at H
    have A110 := As.mk A1100
    clear A1100
    have c111 := i1 H; replace H := i2 H
    have LMc111 := As.mk c111
    clear c111
    obtain ⟨y386, hy386⟩ : ∃ y_ : List ByteArray, y_ = (x6_1 ++ [t385]) := ⟨_, rfl⟩
    replace H : (impl_showValue.l0 k1 y386 ((rd_T62 l0_0 a1).f3) (((rd_T62 l0_0 a1).f3).length : Int) (wrap64 (x105_1 + 1)) l0_0 l0_1 ((rd_T62 l0_0 a1).f0) ((rd_T62 l0_0 a1).f1) ((rd_T62 l0_0 a1).f2) ((rd_T62 l0_0 a1).f3)) = some r := by first | (rw [hy386]; with_reducible exact H) | (have H2_ := (Option.bind_some _ _).symm.trans H; rw [hy386]; with_reducible exact H2_) | (have H2_ := (Option.bind_some _ _).symm.trans H; with_reducible exact H2_) | with_reducible exact H | (rw [hy386]; exact H) | exact H
    have Ny386 := As.mk hy386
    clear hy386
    have H' := As.mk H
    clear H
    have p384 : 0 ≤ (x105_1 : Int) := od
    have q384 : x105_1 < (((rd_T62 l0_0 a1).f3).length : Int) := od
    obtain ⟨ad384, e384, hx384_0⟩ := Kd.at_int HR367_3.out x105_1 p384 q384
    cases e384
    replace hx384_0 := ce HB.out hx384_0
    replace p384 := eq_true p384
    replace q384 := eq_true q384
    have hnb112 := NB366_368.out
    have hnc112 := NB368_366.out
    obtain ⟨hcz113_0, hcz113_1, hfz113_0, hfz113_1⟩ := cl2 BK366.out
    go_wp2_with (first | ((with_reducible refine gate_callee (f := 57) rfl ?_); refine goesL_ (some 112) rfl rfl Tryz.func57 (by kernel_rfl) rfl #[.agg #[.slice (some ad367) l0_0.length c0_0, .slice A0_1 l0_1.length c0_1], .int .i64 (rd ((rd_T62 l0_0 a1).f3) x105_1)] rfl gl ?_; (with_reducible refine (ih k1 (by have := HK1.out; omega) _ _ l0_0 _ _ l0_1 (rd ((rd_T62 l0_0 a1).f3) x105_1) t385 _ ?side1 ?side2 ?side3 ?side4 (by first | (with_reducible exact HTAB.out) | exact tabW_below HTAB.out (be w)) A110.out).mono ?_); (case side1 => exact Kd.C_below HR0_0.out (be w)); (case side2 => exact HC0_0.out); (case side3 => exact Kd.C_below HR0_1.out (be w)); (case side4 => exact HC0_1.out); rintro e w114 ⟨rfl, hb⟩; refine ⟨_, rfl, ?_⟩; replace HO_6 := As.mk (Kd.R_below (by (with_reducible repeat (first | apply Kd.R_alloc | apply Kd.R_drewN | apply Kd.R_drew)); exact HO_6.out) hb); replace BK366 := As.mk (blk_below (bx BK366.out) hb); replace BK368 := As.mk (blk_below (bx BK368.out) hb); replace HB := As.mk (below_step (be w) hb); (try clear hb); (try clear hk)) | ((with_reducible refine gate_builtin (b := .append) (xs := #[.tmp 109, .tmp 113]) rfl ?_); at_builtin; refine Kd.R_append Kd.string (w0 := w) w.heap.size rfl (.tmp 109) (.tmp 113) 98 9 (.string ⟨#[]⟩) 16 rfl Tryz.underlying98 info9 rfl (by decide) (by omega) u6 x6_1 t385 [.string t385] (fun _ => True) (fun _ => False) rfl rfl ?aP (fun _ hk => hk.elim) ?aF ?aO ?aB ?aS ?aL ?_; (case aP => exact rfl); (case aB => exact (be w)); (case aF => exact (fun _ _ => trivial)); (case aO => exact (by (with_reducible repeat (first | apply Kd.R_alloc | apply Kd.R_drewN | apply Kd.R_drew)); exact HO_6.out)); (case aS => exact (below_size (be w))); (case aL => have := LMc111.out; omega); intro v387 w115 ho hb hg hat; rw [← Ny386.out] at ho; replace BK366 := As.mk (blk_grown (g := gb366) (o := .cells #[.slice (some ad367) l0_0.length c0_0, .slice A0_1 l0_1.length c0_1] 32 (0, 0)) (bx BK366.out) hg (Kd.R_ne HO_6.out BK366.out (by decide))); replace BK368 := As.mk (blk_grown (g := gb368) (o := .cells #[.int .i64 ((rd_T62 l0_0 a1).f0), .int .i64 ((rd_T62 l0_0 a1).f1), .string ((rd_T62 l0_0 a1).f2), .slice (some ad384) ((rd_T62 l0_0 a1).f3).length c367_3] 62 (0, 0)) (bx BK368.out) hg (Kd.R_ne HO_6.out BK368.out (by decide))); replace HB := As.mk (hb); have HO388 := As.mk (ho); clear HO_6; clear ho hb hg hat))
    go_roundg k1
    case measure => have := HK1.out; omega
    case rel => exact ⟨(y386), (wrap64 (x105_1 + 1)), (by first | rfl | (simp; done) | (simp [*]; done)), H', ⟨by have := HK1.out; omega⟩, ⟨by (with_reducible repeat (first | apply Kd.R_alloc | apply Kd.R_drewN | apply Kd.R_drew)); exact HO388.out⟩, ⟨bx BK366.out⟩, ⟨bx BK368.out⟩, ⟨be w⟩⟩
   rw [if_neg c107] at H
   have c107b0 : decide (x105_1 < (((rd_T62 l0_0 a1).f3).length : Int)) = false := decide_eq_false c107
   clear c107
   have c116 := i1 H; replace H := i2 H
   have c116b0 := eq_true c116
   have c116b1 := decide_eq_true c116
   try have c116b2 := eq_false (Nat.not_lt.2 c116)
   obtain ⟨t389, A1170, H⟩ := Option.bind_eq_some_iff.mp H
   try dsimp only at H
   have A117 := As.mk A1170
   clear A1170
   have c118 := i1 H; replace H := i2 H
   have c118b0 := eq_true c118
   have c118b1 := decide_eq_true c118
   try have c118b2 := eq_false (Nat.not_lt.2 c118)
   try have c118b4 : (9223372036854775807 < ((rd_T62 l0_0 a1).f2).size + 1 + t389.size) = False := eq_false (Nat.not_lt.2 (by have h_ := c118; simp only [ByteArray.size_append] at h_; exact h_))
   have c119 := i1 H; replace H := i2 H
   have c119b0 := eq_true c119
   have c119b1 := decide_eq_true c119
   try have c119b2 := eq_false (Nat.not_lt.2 c119)
   try have c119b4 : (9223372036854775807 < ((rd_T62 l0_0 a1).f2).size + 1 + t389.size + 1) = False := eq_false (Nat.not_lt.2 (by have h_ := c119; simp only [ByteArray.size_append] at h_; exact h_))
   obtain rfl := Option.some.inj H
   try go_wp2
   replace HO_6 := As.mk (Kd.R_drew HO_6.out)
   replace BK366 := As.mk (blk_drew BK366.out)
   replace BK368 := As.mk (blk_drew BK368.out)
   replace HB := As.mk (below_drew1 HB.out)
   obtain ⟨Ao121, co121, eo121⟩ := Kd.R_slice HO_6.out
   (first | subst eo121 | (injection eo121 with f1_ f2_ f3_; have f4_ := f1_.symm; have f5_ := f3_.symm; clear f1_ f2_ f3_; subst f4_; subst f5_))
   refine start_ (n := 8) (S := fun w' => w'.cell? ⟨gb368, 0, none⟩ = some (.int .i64 ((rd_T62 l0_0 a1).f0)) ∧ w'.cell? ⟨gb368, 1, none⟩ = some (.int .i64 ((rd_T62 l0_0 a1).f1)) ∧ w'.cell? ⟨gb368, 2, none⟩ = some (.string ((rd_T62 l0_0 a1).f2)) ∧ w'.cell? ⟨gb368, 3, none⟩ = some (.slice A367_3 ((rd_T62 l0_0 a1).f3).length c367_3)) (ds := []) #[O,O,O,O,O,O,O,O] (by kernel_rfl) rfl rfl ⟨(blk_cell BK368.out 0).trans rfl, (blk_cell BK368.out 1).trans rfl, (blk_cell BK368.out 2).trans rfl, (blk_cell BK368.out 3).trans rfl⟩ (fun hHeld => ?_); refine with_tabW impl_showValue.tab30 impl_showValue.bits30 (fun HT_ HW_ => ?_)
   generalize wr.drew = w120 at HO_6 BK366 BK368 HB hHeld ⊢
   refine pq 0 116 #[I,O,O,O,O,O,O,O] HT_.out rfl rfl ?_ (fun _ _ _ h => h) ?_ ?_ ?_ ?_
   rotate_left; · intro w'; go_simp; with_reducible rfl
   rotate_left; · simp only [pk, i64_w, i32_w]; rfl
   refine pq 3 119 #[I,O,O,I,O,O,O,O] HT_.out rfl rfl ?_ (fun _ _ _ h => h) ?_ ?_ ?_ ?_
   rotate_left; · intro w'; go_simp; with_reducible rfl
   rotate_left; · simp only [pk, i64_w, i32_w]; rfl
   refine tq 1 117 #[I,I,O,I,O,O,O,O] HT_.out HW_.out rfl rfl ?_ (fun _ _ _ h => h) ?_ hHeld ?_ ?_ ?_
   rotate_left; · rintro w' ⟨s0, s1, s2, s3⟩; go_simp; with_reducible rfl
   rotate_left; · simp only [pk, i64_w, i32_w]; rfl
   refine pq 2 118 #[I,I,I,I,O,O,O,O] HT_.out rfl rfl ?_ (fun _ _ _ h => h) ?_ ?_ ?_ ?_
   rotate_left; · intro w'; go_simp; with_reducible rfl
   rotate_left; · simp only [pk, i64_w, i32_w]; rfl
   refine one_ (i := 4) (N := some 120) #[I,I,I,I,I,O,O,O] rfl rfl (one_of HT_.out (by kernel_rfl)) (by decide) (fun K hK => ?_)
   refine goes_ Tryz.func84 (by kernel_rfl) rfl #[.slice Ao121 x6_1.length co121, .string (⟨#[44, 32]⟩ : ByteArray)] (by rfl) rfl rfl gl ?_
   with_reducible refine (strings_Join.calls _ _ x6_1 (⟨#[44, 32]⟩ : ByteArray) t389 _ ?side1 ?side2 A117.out).mono ?_
   (case side1 => repeat (first | exact (Kd.R_reads' HO_6.out).2.2 | (with_reducible refine Kd.C_alloc ?_ _) | (with_reducible refine Kd.C_drewN ?_ _) | (with_reducible refine Kd.C_drew ?_)))
   (case side2 => exact (Kd.R_reads' HO_6.out).2.1)
   rintro e w122 ⟨rfl, hb⟩
   refine ⟨_, rfl, ?_⟩
   replace HO_6 := As.mk (Kd.R_below (by (with_reducible repeat (first | apply Kd.R_alloc | apply Kd.R_drewN | apply Kd.R_drew)); exact HO_6.out) hb)
   replace BK366 := As.mk (blk_below (bx BK366.out) hb)
   replace BK368 := As.mk (blk_below (bx BK368.out) hb)
   replace HB := As.mk (below_step (be w) hb)
   (try clear hb)
   (try clear hb2)
   (try clear hk)
   (try clear hi)
   refine hK.out _ _ ⟨(blk_cell BK368.out 0).trans rfl, (blk_cell BK368.out 1).trans rfl, (blk_cell BK368.out 2).trans rfl, (blk_cell BK368.out 3).trans rfl⟩ (fun hHeld => ?_)
   clear hK K
   refine norm_ (a' := ?_) ?_ ?_
   rotate_left
   ·
    show Act.put _ (some 120) _ = _
    simp only [pk, i64_w, i32_w]
    rfl
   refine pq 5 121 #[I,I,I,I,I,I,O,O] HT_.out rfl rfl ?_ (fun _ _ _ h => h) ?_ ?_ ?_ ?_
   rotate_left; · intro w'; go_simp; with_reducible rfl
   rotate_left; · simp only [pk, i64_w, i32_w]; rfl
   refine pq 6 122 #[I,I,I,I,I,I,I,O] HT_.out rfl rfl ?_ (fun _ _ _ h => h) ?_ ?_ ?_ ?_
   rotate_left; · intro w'; go_simp; with_reducible rfl
   rotate_left; · simp only [pk, i64_w, i32_w]; rfl
   refine pq 7 4 #[I,I,I,I,I,I,I,I] HT_.out rfl rfl ?_ (fun _ _ _ h => h) ?_ ?_ ?_ ?_
   rotate_left; · intro w'; go_simp; with_reducible rfl
   rotate_left; · simp only [pk, i64_w, i32_w]; rfl
   refine done_ (done_of HT_.out (by kernel_rfl)) ?_
   try go_wp2
   go_ret
   exact ⟨ez, be w⟩
theorem impl_showValue.allO (k : Nat) : impl_showIn.C k ∧ impl_showValue.C k := by
  induction k using Nat.strongRecOn with
  | _ k ih => exact ⟨impl_showIn.callsO k (fun m_ h_ => (ih m_ h_).1) (fun m_ h_ => (ih m_ h_).2), impl_showValue.callsO k (fun m_ h_ => (ih m_ h_).1) (fun m_ h_ => (ih m_ h_).2)⟩
theorem impl_showIn.calls (k : Nat) : ∀ (A0_0 : Option Addr) (c0_0 : Nat) (l0_0 : List (S62)) (A0_1 : Option Addr) (c0_1 : Nat) (l0_1 : List (S56)) (a1 : Int) (r : ByteArray) (w : World) (hr0_0 : Kd.C k62 w A0_0 l0_0.length l0_0) (hc0_0 : l0_0.length ≤ c0_0) (hr0_1 : Kd.C k56 w A0_1 l0_1.length l0_1) (hc0_1 : l0_1.length ≤ c0_1) (hTab : TabW w) (h : impl_showIn.f k l0_0 l0_1 a1 = some r),
  Calls Tryz.prog 86 #[.agg #[.slice A0_0 l0_0.length c0_0, .slice A0_1 l0_1.length c0_1], .int .i64 a1] w fun e w' => e = .returned (.string r) ∧ Below w.heap.size w w' := (impl_showValue.allO k).1
theorem impl_showValue.calls (k : Nat) : ∀ (A0_0 : Option Addr) (c0_0 : Nat) (l0_0 : List (S62)) (A0_1 : Option Addr) (c0_1 : Nat) (l0_1 : List (S56)) (a1 : Int) (r : ByteArray) (w : World) (hr0_0 : Kd.C k62 w A0_0 l0_0.length l0_0) (hc0_0 : l0_0.length ≤ c0_0) (hr0_1 : Kd.C k56 w A0_1 l0_1.length l0_1) (hc0_1 : l0_1.length ≤ c0_1) (hTab : TabW w) (h : impl_showValue.f k l0_0 l0_1 a1 = some r),
  Calls Tryz.prog 57 #[.agg #[.slice A0_0 l0_0.length c0_0, .slice A0_1 l0_1.length c0_1], .int .i64 a1] w fun e w' => e = .returned (.string r) ∧ Below w.heap.size w w' := (impl_showValue.allO k).2

end Go.Proofs.YtcoapbnbakmkoaaGreatDoor.PFnExactShowStep
