/- Written by a program of this session (a turned copy of the kit's print): a contract for each Go function. No condition beside those in each statement. -/
import Derived.Test.YtcoapbnbakmkoaaGreatDoorPFnExactVarsOfx0
import Derived.Test.YtcoapbnbakmkoaaGreatDoorPFnExactVarsOfx6
import Derived.Test.YtcoapbnbakmkoaaGreatDoorPFnExactVarsOfx8
namespace Go.Proofs.YtcoapbnbakmkoaaGreatDoor.PFnExactVarsOf
open Go.RowKit Go.Proofs.YtcoapbnbakmkoaaGreatDoor.Given Go.Proofs.YtcoapbnbakmkoaaGreatDoorW.PrintWords Go.Proofs.YtcoapbnbakmkoaaGreatDoorW.PrintLast Go.Proofs.YtcoapbnbakmkoaaGreatDoorW.PrintMore
attribute [local go_sem] max2_int min2_int max_two min_two max_three min_three max_four min_four   -- for this text's walks alone
set_option linter.unusedVariables false
set_option linter.unusedSimpArgs false

/-! ### impl_depths: function 73 -/
mutual
def impl_depths.l0 : Nat → List (S62) → Int → List Int → Int → Option (List Int × Bool)
 | 0, _, _, _, _ => none
 | k + 1, x0, x1, x6, x7 => if x7 ≤ x1 then ((impl_NodeOk.f k x0 x7).bind fun t308 => (if t308 = true then (if 0 ≤ x7 then (if x7 < (x0.length : Int) then (impl_depths.l1 k x0 x1 x6 x7 1 ((rd_T62 x0 x7).f3) (((rd_T62 x0 x7).f3).length : Int) 0) else (none)) else (none)) else (some (([] : List Int), false)))) else (some (x6, true))
def impl_depths.l1 : Nat → List (S62) → Int → List Int → Int → Int → List Int → Int → Int → Option (List Int × Bool)
 | 0, _, _, _, _, _, _, _, _ => none
 | k + 1, x0, x1, x6, x7, x8, x30, x31, x32 => if x32 < x31 then (if 0 ≤ x32 then (if x32 < (x30.length : Int) then (if 0 ≤ (rd x30 x32) then (if (rd x30 x32) < (x6.length : Int) then (impl_depths.l1 k x0 x1 x6 x7 (mx x8 (wrap64 ((rd x6 (rd x30 x32)) + 1))) x30 x31 (wrap64 (x32 + 1))) else (none)) else (none)) else (none)) else (none)) else (if x8 > 10 then (some (([] : List Int), false)) else (if x6.length < 17592186044416 then (impl_depths.l0 k x0 x1 (x6 ++ [x8]) (wrap64 (x7 + 1))) else (none)))
end
def impl_depths.f (k : Nat) (l0 : List (S62)) (a1 : Int) : Option (List Int × Bool) := (impl_in.f a1 0 (wrap64 ((l0.length : Int) - 1))).bind fun t307 => (if t307 = true then (impl_depths.l0 k l0 a1 ([] : List Int) 0) else (some (([] : List Int), false)))
theorem impl_depths.mono_l : ∀ k, (∀ y0 y1 y2 y3, LeO (impl_depths.l0 k y0 y1 y2 y3) (impl_depths.l0 (k + 1) y0 y1 y2 y3)) ∧ (∀ y0 y1 y2 y3 y4 y5 y6 y7, LeO (impl_depths.l1 k y0 y1 y2 y3 y4 y5 y6 y7) (impl_depths.l1 (k + 1) y0 y1 y2 y3 y4 y5 y6 y7))
 | 0 => ⟨fun _ _ _ _ r h => by simp [impl_depths.l0] at h, fun _ _ _ _ _ _ _ _ r h => by simp [impl_depths.l1] at h⟩
 | k + 1 => by
  obtain ⟨ih0, ih1⟩ := impl_depths.mono_l k
  refine ⟨?_, ?_⟩
  ·
   intro y0 y1 y2 y3
   unfold impl_depths.l0
   with_reducible repeat' first | exact ih0 _ _ _ _ | exact ih1 _ _ _ _ _ _ _ _ | exact impl_NodeOk.mono _ _ _ | exact LeO.refl _ | exact LeO.none _ | refine LeO.ite ?_ ?_ | refine LeO.bind ?_ (fun _ => ?_)
  ·
   intro y0 y1 y2 y3 y4 y5 y6 y7
   unfold impl_depths.l1
   with_reducible repeat' first | exact ih0 _ _ _ _ | exact ih1 _ _ _ _ _ _ _ _ | exact impl_NodeOk.mono _ _ _ | exact LeO.refl _ | exact LeO.none _ | refine LeO.ite ?_ ?_ | refine LeO.bind ?_ (fun _ => ?_)
theorem impl_depths.mono : ∀ a0 a1 k, LeO (impl_depths.f k a0 a1) (impl_depths.f (k + 1) a0 a1) := by
 intro a0 a1 k
 obtain ⟨ih0, ih1⟩ := impl_depths.mono_l k
 unfold impl_depths.f
 with_reducible repeat' first | exact ih0 _ _ _ _ | exact ih1 _ _ _ _ _ _ _ _ | exact impl_NodeOk.mono _ _ _ | exact LeO.refl _ | exact LeO.none _ | refine LeO.ite ?_ ?_ | refine LeO.bind ?_ (fun _ => ?_)
set_option maxHeartbeats 8000000 in
set_option maxRecDepth 100000 in
theorem impl_depths.calls (k : Nat) (A0 : Option Addr) (c0 : Nat) (l0 : List (S62)) (a1 : Int) (r1 : List Int) (r2 : Bool) (w : World) (hr0 : Kd.C k62 w A0 l0.length l0) (hc0 : l0.length ≤ c0) (h : impl_depths.f k l0 a1 = some (r1, r2)) :
  Calls Tryz.prog 73 #[.slice A0 l0.length c0, .int .i64 a1] w fun e w' => ∃ v0_ : Value, e = .returned (.tuple #[v0_, .bool r2]) ∧ Kd.R (Kd.int .i64) 3 w' w.heap.size (fun _ => True) v0_ r1 ∧ Below w.heap.size w w' := by
 have HR0 := As.mk hr0
 have HC0 := As.mk hc0
 clear hr0 hc0
 have HB := As.mk (Below.refl w.heap.size w)
 have H : ((impl_in.f a1 0 (wrap64 ((l0.length : Int) - 1))).bind fun t307 => (if t307 = true then (impl_depths.l0 k l0 a1 ([] : List Int) 0) else (some (([] : List Int), false)))) = some (r1, r2) := h
 clear h
 obtain ⟨t307, A30, H⟩ := Option.bind_eq_some_iff.mp H
 try dsimp only at H
 have A3 := As.mk A30
 clear A30
 by_cases c4 : t307 = true
 rotate_left
 ·
  replace c4 := Bool.eq_false_iff.mpr c4
  subst c4
  rw [if_neg (show ¬ (false = true) by decide)] at H
  simp only [Option.some.injEq, Prod.mk.injEq] at H
  obtain ⟨rfl, rfl⟩ := H
  go_enter Tryz.func73, Tryz.ntmps73
  go_wp2_with (first | ((with_reducible refine gate_callee (f := 36) rfl ?_); refine goesL_ (some 15) rfl rfl Tryz.func36 (by kernel_rfl) rfl #[.int .i64 a1, .int .i64 0, .int .i64 (wrap64 ((l0.length : Int) - 1))] rfl (by (try simp only [lm]); first | done | rfl | (simp only [List.length_drop, List.length_take]; rfl)) ?_; (with_reducible refine (impl_in.calls a1 0 (wrap64 ((l0.length : Int) - 1)) false _ A3.out).mono ?_); rintro e w' ⟨rfl, ⟨nd, rfl⟩⟩; refine ⟨_, rfl, ?_⟩))
  go_ret2
  exact ⟨_, ez, by first | exact Kd.R_nil _ _ _ _ _ | exact Kd.N_nil _ _ _ _ _ | exact Kd.V_nil _ _ _ _ _ | exact Kd.Q_nil _ _ _ _ _ | exact Kd.S_nil _ _ _ _ _, be w⟩

 subst c4
 rw [if_pos rfl] at H
 have H' := As.mk H
 clear H
 go_enter Tryz.func73, Tryz.ntmps73
 go_wp2_with (first | ((with_reducible refine gate_callee (f := 36) rfl ?_); refine goesL_ (some 15) rfl rfl Tryz.func36 (by kernel_rfl) rfl #[.int .i64 a1, .int .i64 0, .int .i64 (wrap64 ((l0.length : Int) - 1))] rfl (by (try simp only [lm]); first | done | rfl | (simp only [List.length_drop, List.length_take]; rfl)) ?_; (with_reducible refine (impl_in.calls a1 0 (wrap64 ((l0.length : Int) - 1)) true _ A3.out).mono ?_); rintro e w' ⟨rfl, ⟨nd, rfl⟩⟩; refine ⟨_, rfl, ?_⟩))
 (try simp only [pk])
 go_loopg [6, 7] k (fun kq v6 v7 w' => ∃ (x6_1 : List Int) (x7_1 : Int), v7 = .int .i64 x7_1 ∧ As (impl_depths.l0 kq l0 a1 x6_1 x7_1 = some (r1, r2)) ∧ As (kq ≤ k) ∧ As (Kd.R (Kd.int .i64) 3 w' w.heap.size (fun _ => True) v6 x6_1) ∧ As (Below w.heap.size w w'))
 case atStart => exact ⟨(([] : List Int)), (0), (by first | rfl | (simp; done) | (simp [*]; done)), H', ⟨Nat.le_refl _⟩, ⟨by first | exact Kd.R_nil _ _ _ _ _ | exact Kd.N_nil _ _ _ _ _ | exact Kd.V_nil _ _ _ _ _ | exact Kd.Q_nil _ _ _ _ _ | exact Kd.S_nil _ _ _ _ _⟩, ⟨be w⟩⟩
 case round =>
  clear H'
  (try clear c4)
  obtain ⟨x6_1, x7_1, rfl, HA, HK1, HO_6, HB⟩ := hrel
  cases gk with
  | zero => exact absurd HA.out (by simp [impl_depths.l0])
  | succ k1 =>
   have H := HA.out
   clear HA
   simp only [impl_depths.l0] at H
   by_cases c5 : x7_1 ≤ a1
   rotate_left
   ·
    rw [if_neg c5] at H
    have c5b0 : decide (x7_1 ≤ a1) = false := decide_eq_false c5
    clear c5
    simp only [Option.some.injEq, Prod.mk.injEq] at H
    obtain ⟨rfl, rfl⟩ := H
    go_wp2
    go_ret2
    exact ⟨_, ez, by (with_reducible repeat (first | apply Kd.R_alloc | apply Kd.R_drewN | apply Kd.R_drew)); exact HO_6.out, be w⟩
   rw [if_pos c5] at H
   have c5b0 : decide (x7_1 ≤ a1) = true := decide_eq_true c5
   clear c5
   obtain ⟨t308, A60, H⟩ := Option.bind_eq_some_iff.mp H
   try dsimp only at H
   have A6 := As.mk A60
   clear A60
   by_cases c7 : t308 = true
   rotate_left
   ·
    replace c7 := Bool.eq_false_iff.mpr c7
    subst c7
    rw [if_neg (show ¬ (false = true) by decide)] at H
    simp only [Option.some.injEq, Prod.mk.injEq] at H
    obtain ⟨rfl, rfl⟩ := H
    go_wp2_with (first | ((with_reducible refine gate_callee (f := 96) rfl ?_); refine goesL_ (some 24) rfl rfl Tryz.func96 (by kernel_rfl) rfl #[.slice A0 l0.length c0, .int .i64 x7_1] rfl (by (try simp only [lm]); first | done | rfl | (simp only [List.length_drop, List.length_take]; rfl)) ?_; (with_reducible refine (impl_NodeOk.calls k1 _ _ l0 x7_1 false _ ?side1 ?side2 A6.out).mono ?_); (case side1 => exact Kd.C_below HR0.out (be w)); (case side2 => exact HC0.out); rintro e w21 ⟨rfl, hb⟩; refine ⟨_, rfl, ?_⟩; replace HB := As.mk (below_step (be w) hb); (try clear hb); (try clear hb2); (try clear hk); (try clear hi)))
    go_ret2
    exact ⟨_, ez, by first | exact Kd.R_nil _ _ _ _ _ | exact Kd.N_nil _ _ _ _ _ | exact Kd.V_nil _ _ _ _ _ | exact Kd.Q_nil _ _ _ _ _ | exact Kd.S_nil _ _ _ _ _, be w⟩
   subst c7
   rw [if_pos rfl] at H
   by_cases c8 : 0 ≤ x7_1
   rotate_left; · rw [if_neg c8] at H; exact absurd H (by simp)
   rw [if_pos c8] at H
   have c8b0 : decide (0 ≤ x7_1) = true := decide_eq_true c8
   clear c8
   by_cases c9 : x7_1 < (l0.length : Int)
   rotate_left; · rw [if_neg c9] at H; exact absurd H (by simp)
   rw [if_pos c9] at H
   have c9b0 : decide (x7_1 < (l0.length : Int)) = true := decide_eq_true c9
   clear c9
   have H' := As.mk H
   clear H
   go_wp2_with (first | ((with_reducible refine gate_callee (f := 96) rfl ?_); refine goesL_ (some 24) rfl rfl Tryz.func96 (by kernel_rfl) rfl #[.slice A0 l0.length c0, .int .i64 x7_1] rfl (by (try simp only [lm]); first | done | rfl | (simp only [List.length_drop, List.length_take]; rfl)) ?_; (with_reducible refine (impl_NodeOk.calls k1 _ _ l0 x7_1 true _ ?side1 ?side2 A6.out).mono ?_); (case side1 => exact Kd.C_below HR0.out (be w)); (case side2 => exact HC0.out); rintro e w10 ⟨rfl, hb⟩; refine ⟨_, rfl, ?_⟩; replace HO_6 := As.mk (Kd.R_below (by (with_reducible repeat (first | apply Kd.R_alloc | apply Kd.R_drewN | apply Kd.R_drew)); exact HO_6.out) hb); replace HB := As.mk (below_step (be w) hb); (try clear hb); (try clear hb2); (try clear hk); (try clear hi); have p309 : 0 ≤ (x7_1 : Int) := od; have q309 : x7_1 < (l0.length : Int) := od; obtain ⟨ad309, A309_3, c309_3, e309, hx309_0, hx309_1, hx309_2, hx309_3, hl309_3, hi309_3⟩ := at_T62 HR0.out x7_1 p309 q309; cases e309; replace hx309_0 := ce HB.out hx309_0; replace hx309_1 := ce HB.out hx309_1; replace hx309_2 := ce HB.out hx309_2; replace hx309_3 := ce HB.out hx309_3; have HR309_3 := As.mk hi309_3; have HC309_3 := As.mk hl309_3; clear hi309_3 hl309_3; replace p309 := eq_true p309; replace q309 := eq_true q309))
   (try simp only [pk])
   go_loopg [8, 32] k1 (fun kq v8 v32 w' => ∃ (x8_2 : Int) (x32_2 : Int), v8 = .int .i64 x8_2 ∧ v32 = .int .i64 x32_2 ∧ As (impl_depths.l1 kq l0 a1 x6_1 x7_1 x8_2 ((rd_T62 l0 x7_1).f3) (((rd_T62 l0 x7_1).f3).length : Int) x32_2 = some (r1, r2)) ∧ As (kq ≤ k1) ∧ As (Kd.R (Kd.int .i64) 3 w' w.heap.size (fun _ => True) u6 x6_1) ∧ As (Below w.heap.size w w'))
   case atStart => exact ⟨(1), (0), (by first | rfl | (simp; done) | (simp [*]; done)), (by first | rfl | (simp; done) | (simp [*]; done)), H', ⟨Nat.le_refl _⟩, ⟨by (with_reducible repeat (first | apply Kd.R_alloc | apply Kd.R_drewN | apply Kd.R_drew)); exact HO_6.out⟩, ⟨be w⟩⟩
   case round =>
    clear H'
    (try clear c4); (try clear c5); (try clear c5b0); (try clear c7); (try clear c8); (try clear c8b0); (try clear c9); (try clear c9b0); (try clear hx309_0); (try clear hx309_1); (try clear hx309_2); (try clear hx309_3); (try clear p309); (try clear q309)
    obtain ⟨x8_2, x32_2, rfl, rfl, HA, HK2, HO_6, HB⟩ := hrel
    cases gk with
    | zero => exact absurd HA.out (by simp [impl_depths.l1])
    | succ k2 =>
     have H := HA.out
     clear HA
     simp only [impl_depths.l1] at H
     by_cases c11 : x32_2 < (((rd_T62 l0 x7_1).f3).length : Int)
     rotate_left
     ·
      rw [if_neg c11] at H
      have c11b0 : decide (x32_2 < (((rd_T62 l0 x7_1).f3).length : Int)) = false := decide_eq_false c11
      clear c11
      by_cases c18 : x8_2 > 10
      ·
       rw [if_pos c18] at H
       have c18b0 : decide (10 < x8_2) = true := decide_eq_true c18
       clear c18
       simp only [Option.some.injEq, Prod.mk.injEq] at H
       obtain ⟨rfl, rfl⟩ := H
       go_wp2
       go_ret2
       exact ⟨_, ez, by first | exact Kd.R_nil _ _ _ _ _ | exact Kd.N_nil _ _ _ _ _ | exact Kd.V_nil _ _ _ _ _ | exact Kd.Q_nil _ _ _ _ _ | exact Kd.S_nil _ _ _ _ _, be w⟩
      rw [if_neg c18] at H
      have c18b0 : decide (10 < x8_2) = false := decide_eq_false c18
      clear c18
      by_cases c19 : x6_1.length < 17592186044416
      rotate_left; · rw [if_neg c19] at H; exact absurd H (by simp)
      rw [if_pos c19] at H
      have LMc19 := As.mk c19
      clear c19
      obtain ⟨y312, hy312⟩ : ∃ y_ : List Int, y_ = (x6_1 ++ [x8_2]) := ⟨_, rfl⟩
      replace H : (impl_depths.l0 k2 l0 a1 y312 (wrap64 (x7_1 + 1))) = some (r1, r2) := by first | (rw [hy312]; with_reducible exact H) | (have H2_ := (Option.bind_some _ _).symm.trans H; rw [hy312]; with_reducible exact H2_) | (have H2_ := (Option.bind_some _ _).symm.trans H; with_reducible exact H2_) | with_reducible exact H | (rw [hy312]; exact H) | exact H
      have Ny312 := As.mk hy312
      clear hy312
      have H' := As.mk H
      clear H
      go_wp2_with (first | ((with_reducible refine gate_builtin (b := .append) (xs := #[.tmp 46, .tmp 48]) rfl ?_); at_builtin; refine Kd.R_append (Kd.int .i64) (w0 := w) w.heap.size rfl (.tmp 46) (.tmp 48) 45 3 (.int .i64 0) 8 rfl Tryz.underlying45 info3 rfl (by decide) (by omega) u6 x6_1 x8_2 [.int .i64 x8_2] (fun _ => True) (fun _ => False) rfl rfl ?aP (fun _ hk => hk.elim) ?aF ?aO ?aB ?aS ?aL ?_; (case aP => exact rfl); (case aB => exact (be w)); (case aF => exact (fun _ _ => trivial)); (case aO => exact (by (with_reducible repeat (first | apply Kd.R_alloc | apply Kd.R_drewN | apply Kd.R_drew)); exact HO_6.out)); (case aS => exact (below_size (be w))); (case aL => have := LMc19.out; omega); intro v313 w20 ho hb hg hat; rw [← Ny312.out] at ho; replace HB := As.mk (hb); have HO314 := As.mk (ho); clear HO_6; clear ho hb hg hat))
      go_roundg k2
      case measure => have := HK1.out; have := HK2.out; omega
      case rel => exact ⟨(y312), (wrap64 (x7_1 + 1)), (by first | rfl | (simp; done) | (simp [*]; done)), H', ⟨by have := HK1.out; have := HK2.out; omega⟩, ⟨by (with_reducible repeat (first | apply Kd.R_alloc | apply Kd.R_drewN | apply Kd.R_drew)); exact HO314.out⟩, ⟨be w⟩⟩
     rw [if_pos c11] at H
     have c11b0 : decide (x32_2 < (((rd_T62 l0 x7_1).f3).length : Int)) = true := decide_eq_true c11
     clear c11
     by_cases c12 : 0 ≤ x32_2
     rotate_left; · rw [if_neg c12] at H; exact absurd H (by simp)
     rw [if_pos c12] at H
     have c12b0 : decide (0 ≤ x32_2) = true := decide_eq_true c12
     clear c12
     by_cases c13 : x32_2 < (((rd_T62 l0 x7_1).f3).length : Int)
     rotate_left; · rw [if_neg c13] at H; exact absurd H (by simp)
     rw [if_pos c13] at H
     have c13b0 : decide (x32_2 < (((rd_T62 l0 x7_1).f3).length : Int)) = true := decide_eq_true c13
     clear c13
     by_cases c14 : 0 ≤ (rd ((rd_T62 l0 x7_1).f3) x32_2)
     rotate_left; · rw [if_neg c14] at H; exact absurd H (by simp)
     rw [if_pos c14] at H
     have c14b0 : decide (0 ≤ (rd ((rd_T62 l0 x7_1).f3) x32_2)) = true := decide_eq_true c14
     clear c14
     by_cases c15 : (rd ((rd_T62 l0 x7_1).f3) x32_2) < (x6_1.length : Int)
     rotate_left; · rw [if_neg c15] at H; exact absurd H (by simp)
     rw [if_pos c15] at H
     have c15b0 : decide ((rd ((rd_T62 l0 x7_1).f3) x32_2) < (x6_1.length : Int)) = true := decide_eq_true c15
     clear c15
     obtain ⟨ji16, hji16⟩ : ∃ j_ : Int, (mx x8_2 (wrap64 ((rd x6_1 (rd ((rd_T62 l0 x7_1).f3) x32_2)) + 1))) = j_ := ⟨_, rfl⟩
     replace H : (impl_depths.l1 k2 l0 a1 x6_1 x7_1 ji16 ((rd_T62 l0 x7_1).f3) (((rd_T62 l0 x7_1).f3).length : Int) (wrap64 (x32_2 + 1))) = some (r1, r2) := by first | (rw [hji16] at H; exact H) | (simp only [hji16] at H ⊢; exact H)
     have hji16_ : (if x8_2 < (wrap64 ((rd x6_1 (rd ((rd_T62 l0 x7_1).f3) x32_2)) + 1)) then (wrap64 ((rd x6_1 (rd ((rd_T62 l0 x7_1).f3) x32_2)) + 1)) else x8_2) = ji16 := hji16
     have H' := As.mk H
     clear H
     have p310 : 0 ≤ (x32_2 : Int) := od
     have q310 : x32_2 < (((rd_T62 l0 x7_1).f3).length : Int) := od
     obtain ⟨ad310, e310, hx310_0⟩ := Kd.at_int HR309_3.out x32_2 p310 q310
     cases e310
     replace hx310_0 := ce HB.out hx310_0
     replace p310 := eq_true p310
     replace q310 := eq_true q310
     obtain ⟨Ao17, co17, eo17⟩ := Kd.R_slice HO_6.out
     subst eo17
     have p311 : 0 ≤ ((rd ((rd_T62 l0 x7_1).f3) x32_2) : Int) := od
     have q311 : (rd ((rd_T62 l0 x7_1).f3) x32_2) < (x6_1.length : Int) := od
     obtain ⟨ad311, e311, hx311_0⟩ := Kd.at_int (Kd.R_reads' HO_6.out).2.2 (rd ((rd_T62 l0 x7_1).f3) x32_2) p311 q311
     cases e311
     replace p311 := eq_true p311
     replace q311 := eq_true q311
     go_wp2
     go_roundg k2
     case measure => have := HK1.out; have := HK2.out; omega
     case rel => exact ⟨(ji16), (wrap64 (x32_2 + 1)), (by first | rfl | (simp; done) | (simp only [← hji16] <;> (first | rfl | simp)) | (simp [*]; done)), (by first | rfl | (simp; done) | (simp [*]; done)), H', ⟨by have := HK1.out; have := HK2.out; omega⟩, ⟨by (with_reducible repeat (first | apply Kd.R_alloc | apply Kd.R_drewN | apply Kd.R_drew)); exact HO_6.out⟩, ⟨be w⟩⟩
/-! ### impl_DeepOf: function 46 -/
def impl_DeepOf.f (k : Nat) (l0 : List (S62)) (a1 : Int) : Option (Int) := (impl_depths.f k l0 a1).bind fun bt315 => (if bt315.2 = true then (if 0 ≤ a1 then (if a1 < (bt315.1.length : Int) then (some (rd bt315.1 a1)) else (none)) else (none)) else (some 0))
theorem impl_DeepOf.mono : ∀ a0 a1 k, LeO (impl_DeepOf.f k a0 a1) (impl_DeepOf.f (k + 1) a0 a1) := by
 intro a0 a1 k
 unfold impl_DeepOf.f
 with_reducible repeat' first | exact impl_depths.mono _ _ _ | exact LeO.refl _ | exact LeO.none _ | refine LeO.ite ?_ ?_ | refine LeO.bind ?_ (fun _ => ?_)
set_option maxHeartbeats 8000000 in
set_option maxRecDepth 100000 in
theorem impl_DeepOf.calls (k : Nat) (A0 : Option Addr) (c0 : Nat) (l0 : List (S62)) (a1 : Int) (r : Int) (w : World) (hr0 : Kd.C k62 w A0 l0.length l0) (hc0 : l0.length ≤ c0) (h : impl_DeepOf.f k l0 a1 = some r) :
  Calls Tryz.prog 46 #[.slice A0 l0.length c0, .int .i64 a1] w fun e w' => e = .returned (.int .i64 r) ∧ Below w.heap.size w w' := by
 have HR0 := As.mk hr0
 have HC0 := As.mk hc0
 clear hr0 hc0
 have HB := As.mk (Below.refl w.heap.size w)
 have H : ((impl_depths.f k l0 a1).bind fun bt315 => (if bt315.2 = true then (if 0 ≤ a1 then (if a1 < (bt315.1.length : Int) then (some (rd bt315.1 a1)) else (none)) else (none)) else (some 0))) = some r := h
 clear h
 obtain ⟨⟨t315, t316⟩, A30, H⟩ := Option.bind_eq_some_iff.mp H
 try dsimp only at H
 have A3 := As.mk A30
 clear A30
 by_cases c4 : t316 = true
 rotate_left
 ·
  replace c4 := Bool.eq_false_iff.mpr c4
  subst c4
  rw [if_neg (show ¬ (false = true) by decide)] at H
  obtain rfl := Option.some.inj H
  go_enter Tryz.func46, Tryz.ntmps46
  go_wp2_with (first | ((with_reducible refine gate_callee (f := 73) rfl ?_); refine goesL_ (some 10) rfl rfl Tryz.func73 (by kernel_rfl) rfl #[.slice A0 l0.length c0, .int .i64 a1] rfl (by (try simp only [lm]); first | done | rfl | (simp only [List.length_drop, List.length_take]; rfl)) ?_; (with_reducible refine (impl_depths.calls k _ _ l0 a1 t315 false _ ?side1 ?side2 A3.out).mono ?_); (case side1 => repeat (first | exact HR0.out | (with_reducible refine Kd.C_alloc ?_ _) | (with_reducible refine Kd.C_drewN ?_ _) | (with_reducible refine Kd.C_drew ?_))); (case side2 => exact HC0.out); rintro e w9 ⟨v317, rfl, ho0, hb⟩; refine ⟨_, rfl, ?_⟩; have HO318 := As.mk (Kd.R_lower ho0 (below_size (be w))); replace HB := As.mk (below_step (be w) hb); (try clear hb); (try clear hb2); (try clear hk); (try clear hi); (try clear ho0)))
  go_ret
  exact ⟨ez, be w⟩

 subst c4
 rw [if_pos rfl] at H
 by_cases c5 : 0 ≤ a1
 rotate_left; · rw [if_neg c5] at H; exact absurd H (by simp)
 rw [if_pos c5] at H
 have c5b0 : decide (0 ≤ a1) = true := decide_eq_true c5
 clear c5
 by_cases c6 : a1 < (t315.length : Int)
 rotate_left; · rw [if_neg c6] at H; exact absurd H (by simp)
 rw [if_pos c6] at H
 have c6b0 : decide (a1 < (t315.length : Int)) = true := decide_eq_true c6
 clear c6
 obtain rfl := Option.some.inj H
 go_enter Tryz.func46, Tryz.ntmps46
 go_wp2_with (first | ((with_reducible refine gate_callee (f := 73) rfl ?_); refine goesL_ (some 10) rfl rfl Tryz.func73 (by kernel_rfl) rfl #[.slice A0 l0.length c0, .int .i64 a1] rfl (by (try simp only [lm]); first | done | rfl | (simp only [List.length_drop, List.length_take]; rfl)) ?_; (with_reducible refine (impl_depths.calls k _ _ l0 a1 t315 true _ ?side1 ?side2 A3.out).mono ?_); (case side1 => repeat (first | exact HR0.out | (with_reducible refine Kd.C_alloc ?_ _) | (with_reducible refine Kd.C_drewN ?_ _) | (with_reducible refine Kd.C_drew ?_))); (case side2 => exact HC0.out); rintro e w7 ⟨v317, rfl, ho0, hb⟩; refine ⟨_, rfl, ?_⟩; have HO318 := As.mk (Kd.R_lower ho0 (below_size (be w))); replace HB := As.mk (below_step (be w) hb); (try clear hb); (try clear hb2); (try clear hk); (try clear hi); (try clear ho0); obtain ⟨Ao8, co8, eo8⟩ := Kd.R_slice HO318.out; subst eo8; have p319 : 0 ≤ (a1 : Int) := od; have q319 : a1 < (t315.length : Int) := od; obtain ⟨ad319, e319, hx319_0⟩ := Kd.at_int (Kd.R_reads' HO318.out).2.2 a1 p319 q319; cases e319; replace p319 := eq_true p319; replace q319 := eq_true q319))
 go_ret
 exact ⟨ez, be w⟩
/-! ### impl_under: function 59 -/
mutual
def impl_under.l0 : Nat → List (S62) → List Int → Int → Option (List Int)
 | 0, _, _, _ => none
 | k + 1, x0, x5, x6 => if x6 < (x5.length : Int) then (if 0 ≤ x6 then (if 0 ≤ (rd x5 x6) then (if (rd x5 x6) < (x0.length : Int) then (impl_under.l1 k x0 x5 x6 ((rd_T62 x0 (rd x5 x6)).f3) (((rd_T62 x0 (rd x5 x6)).f3).length : Int) 0) else (none)) else (none)) else (none)) else ((sort_Ints.f x5).bind fun t323 => (some t323))
def impl_under.l1 : Nat → List (S62) → List Int → Int → List Int → Int → Int → Option (List Int)
 | 0, _, _, _, _, _, _ => none
 | k + 1, x0, x5, x6, x24, x25, x26 => if x26 < x25 then (if 0 ≤ x26 then (if x26 < (x24.length : Int) then ((impl_hasInt.f k x5 (rd x24 x26)).bind fun t327 => (if t327 = true then (impl_under.l1 k x0 x5 x6 x24 x25 (wrap64 (x26 + 1))) else (if x5.length < 17592186044416 then (impl_under.l1 k x0 (x5 ++ [rd x24 x26]) x6 x24 x25 (wrap64 (x26 + 1))) else (none)))) else (none)) else (none)) else (impl_under.l0 k x0 x5 (wrap64 (x6 + 1)))
end
def impl_under.f (k : Nat) (l0 : List (S62)) (a1 : Int) : Option (List Int) := impl_under.l0 k l0 (([a1] : List Int)) 0
theorem impl_under.mono_l : ∀ k, (∀ y0 y1 y2, LeO (impl_under.l0 k y0 y1 y2) (impl_under.l0 (k + 1) y0 y1 y2)) ∧ (∀ y0 y1 y2 y3 y4 y5, LeO (impl_under.l1 k y0 y1 y2 y3 y4 y5) (impl_under.l1 (k + 1) y0 y1 y2 y3 y4 y5))
 | 0 => ⟨fun _ _ _ r h => by simp [impl_under.l0] at h, fun _ _ _ _ _ _ r h => by simp [impl_under.l1] at h⟩
 | k + 1 => by
  obtain ⟨ih0, ih1⟩ := impl_under.mono_l k
  refine ⟨?_, ?_⟩
  ·
   intro y0 y1 y2
   unfold impl_under.l0
   with_reducible repeat' first | exact ih0 _ _ _ | exact ih1 _ _ _ _ _ _ | exact impl_hasInt.mono _ _ _ | exact LeO.refl _ | exact LeO.none _ | refine LeO.ite ?_ ?_ | refine LeO.bind ?_ (fun _ => ?_)
  ·
   intro y0 y1 y2 y3 y4 y5
   unfold impl_under.l1
   with_reducible repeat' first | exact ih0 _ _ _ | exact ih1 _ _ _ _ _ _ | exact impl_hasInt.mono _ _ _ | exact LeO.refl _ | exact LeO.none _ | refine LeO.ite ?_ ?_ | refine LeO.bind ?_ (fun _ => ?_)
theorem impl_under.mono : ∀ a0 a1 k, LeO (impl_under.f k a0 a1) (impl_under.f (k + 1) a0 a1) := by
 intro a0 a1 k
 obtain ⟨ih0, ih1⟩ := impl_under.mono_l k
 unfold impl_under.f
 with_reducible repeat' first | exact ih0 _ _ _ | exact ih1 _ _ _ _ _ _ | exact impl_hasInt.mono _ _ _ | exact LeO.refl _ | exact LeO.none _ | refine LeO.ite ?_ ?_ | refine LeO.bind ?_ (fun _ => ?_)
set_option maxHeartbeats 8000000 in
set_option maxRecDepth 100000 in
theorem impl_under.calls (k : Nat) (A0 : Option Addr) (c0 : Nat) (l0 : List (S62)) (a1 : Int) (r : List Int) (w : World) (hr0 : Kd.C k62 w A0 l0.length l0) (hc0 : l0.length ≤ c0) (h : impl_under.f k l0 a1 = some r) :
  Calls Tryz.prog 59 #[.slice A0 l0.length c0, .int .i64 a1] w fun e w' => ∃ v0_ : Value, e = .returned (v0_) ∧ Kd.R (Kd.int .i64) 3 w' w.heap.size (fun _ => True) v0_ r ∧ Below w.heap.size w w' := by
 have HR0 := As.mk hr0
 have HC0 := As.mk hc0
 clear hr0 hc0
 have HB := As.mk (Below.refl w.heap.size w)
 have H : (impl_under.l0 k l0 (([a1] : List Int)) 0) = some r := h
 clear h
 obtain ⟨y320, hy320⟩ : ∃ y_ : List Int, y_ = (([a1] : List Int)) := ⟨_, rfl⟩
 replace H : (impl_under.l0 k l0 y320 0) = some r := by first | (rw [hy320]; with_reducible exact H) | (have H2_ := (Option.bind_some _ _).symm.trans H; rw [hy320]; with_reducible exact H2_) | (have H2_ := (Option.bind_some _ _).symm.trans H; with_reducible exact H2_) | with_reducible exact H | (rw [hy320]; exact H) | exact H
 have Ny320 := As.mk hy320
 clear hy320
 have H' := As.mk H
 clear H
 go_enter Tryz.func59, Tryz.ntmps59
 go_wp2_with (first | ((with_reducible refine gate_dst (N := 10) rfl ?_); refine Kd.R_lit (Kd.int .i64) _ 3 ?hg (N := 10) ?hd (xs := ([a1] : List Int)) (inner := [.int .i64 a1]) (ok := fun _ => True) (okp := fun _ => True) ?hr ?hp (fun _ hk => hk) trivial (Below.refl _ _) (Nat.le_refl _) (by simp) ?_; (case hd => rfl); (case hg => rfl); (case hr => first | (go_simp; done) | (go_simp; rfl)); (case hp => exact (Reps.one (show Kd.M (Kd.int .i64) _ _ _ a1 [.int .i64 a1] from rfl) (Reps.none _ _))); intro v321 w3 ho4 hb hg_ hnew_; clear hg_ hnew_; (first | rw [← Ny320.out] at ho4 | (simp only [Int.reduceToNat] at ho4; rw [← Ny320.out] at ho4)); have HO322 := As.mk (Kd.R_lower ho4 (below_size (be w))); replace HB := As.mk (below_step (be w) hb); clear hb ho4))
 go_loopg [5, 6] k (fun kq v5 v6 w' => ∃ (x5_1 : List Int) (x6_1 : Int), v6 = .int .i64 x6_1 ∧ As (impl_under.l0 kq l0 x5_1 x6_1 = some r) ∧ As (kq ≤ k) ∧ As (Kd.R (Kd.int .i64) 3 w' w.heap.size (fun _ => True) v5 x5_1) ∧ As (Below w.heap.size w w'))
 case atStart => exact ⟨(y320), (0), (by first | rfl | (simp; done) | (simp [*]; done)), H', ⟨Nat.le_refl _⟩, ⟨by (with_reducible repeat (first | apply Kd.R_alloc | apply Kd.R_drewN | apply Kd.R_drew)); exact HO322.out⟩, ⟨be w⟩⟩
 case round =>
  clear H'
  obtain ⟨x5_1, x6_1, rfl, HA, HK1, HO_5, HB⟩ := hrel
  cases gk with
  | zero => exact absurd HA.out (by simp [impl_under.l0])
  | succ k1 =>
   have H := HA.out
   clear HA
   simp only [impl_under.l0] at H
   by_cases c5 : x6_1 < (x5_1.length : Int)
   rotate_left
   ·
    rw [if_neg c5] at H
    have c5b0 : decide (x6_1 < (x5_1.length : Int)) = false := decide_eq_false c5
    clear c5
    obtain ⟨t323, A190, H⟩ := Option.bind_eq_some_iff.mp H
    try dsimp only at H
    have A19 := As.mk A190
    clear A190
    obtain rfl := Option.some.inj H
    obtain ⟨Ao20, co20, eo20⟩ := Kd.R_slice HO_5.out
    subst eo20
    go_wp2_with (first | ((with_reducible refine gate_callee (f := 88) rfl ?_); refine goesL_ (some 40) rfl rfl Tryz.func88 (by kernel_rfl) rfl #[.slice Ao20 x5_1.length co20] rfl (by (try simp only [lm]); first | done | rfl | (simp only [List.length_drop, List.length_take]; rfl)) ?_; (with_reducible refine (sort_Ints.calls (fun k_ => some k_ = (.slice Ao20 x5_1.length co20 : Value).ownBlock) (.slice Ao20 x5_1.length co20) x5_1 t323 w _ ?side1 ?side2 A19.out).mono ?_); (case side1 => repeat (first | (with_reducible first | exact HB.out | apply below_alloc | apply pw_below_drewN | apply below_drew1) | exact HB.out)); (case side2 => exact Kd.R_tight rfl HO_5.out); rintro e w21 ⟨rfl, hy0, hb, hkp⟩; refine ⟨_, rfl, ?_⟩; replace HO_5 := As.mk (Kd.R_reok rfl hy0 (fun k_ e_ => HO_5.out.1 k_ e_)); replace HB := As.mk (hb); (try clear hb); (try clear hkp); (try clear hy0)))
    go_ret
    exact ⟨_, ez, by (with_reducible repeat (first | apply Kd.R_alloc | apply Kd.R_drewN | apply Kd.R_drew)); exact HO_5.out, be w⟩

   rw [if_pos c5] at H
   have c5b0 : decide (x6_1 < (x5_1.length : Int)) = true := decide_eq_true c5
   clear c5
   by_cases c6 : 0 ≤ x6_1
   rotate_left; · rw [if_neg c6] at H; exact absurd H (by simp)
   rw [if_pos c6] at H
   have c6b0 : decide (0 ≤ x6_1) = true := decide_eq_true c6
   clear c6
   by_cases c7 : 0 ≤ (rd x5_1 x6_1)
   rotate_left; · rw [if_neg c7] at H; exact absurd H (by simp)
   rw [if_pos c7] at H
   have c7b0 : decide (0 ≤ (rd x5_1 x6_1)) = true := decide_eq_true c7
   clear c7
   by_cases c8 : (rd x5_1 x6_1) < (l0.length : Int)
   rotate_left; · rw [if_neg c8] at H; exact absurd H (by simp)
   rw [if_pos c8] at H
   have c8b0 : decide ((rd x5_1 x6_1) < (l0.length : Int)) = true := decide_eq_true c8
   clear c8
   have H' := As.mk H
   clear H
   obtain ⟨Ao9, co9, eo9⟩ := Kd.R_slice HO_5.out
   subst eo9
   have p324 : 0 ≤ (x6_1 : Int) := od
   have q324 : x6_1 < (x5_1.length : Int) := od
   obtain ⟨ad324, e324, hx324_0⟩ := Kd.at_int (Kd.R_reads' HO_5.out).2.2 x6_1 p324 q324
   cases e324
   replace p324 := eq_true p324
   replace q324 := eq_true q324
   have p325 : 0 ≤ ((rd x5_1 x6_1) : Int) := od
   have q325 : (rd x5_1 x6_1) < (l0.length : Int) := od
   obtain ⟨ad325, A325_3, c325_3, e325, hx325_0, hx325_1, hx325_2, hx325_3, hl325_3, hi325_3⟩ := at_T62 HR0.out (rd x5_1 x6_1) p325 q325
   cases e325
   replace hx325_0 := ce HB.out hx325_0
   replace hx325_1 := ce HB.out hx325_1
   replace hx325_2 := ce HB.out hx325_2
   replace hx325_3 := ce HB.out hx325_3
   have HR325_3 := As.mk hi325_3
   have HC325_3 := As.mk hl325_3
   clear hi325_3 hl325_3
   replace p325 := eq_true p325
   replace q325 := eq_true q325
   go_wp2
   go_loopg [5, 26] k1 (fun kq v5 v26 w' => ∃ (x5_2 : List Int) (x26_2 : Int), v26 = .int .i64 x26_2 ∧ As (impl_under.l1 kq l0 x5_2 x6_1 ((rd_T62 l0 (rd x5_1 x6_1)).f3) (((rd_T62 l0 (rd x5_1 x6_1)).f3).length : Int) x26_2 = some r) ∧ As (kq ≤ k1) ∧ As (Kd.R (Kd.int .i64) 3 w' w.heap.size (fun _ => True) v5 x5_2) ∧ As (Below w.heap.size w w'))
   case atStart => exact ⟨(x5_1), (0), (by first | rfl | (simp; done) | (simp [*]; done)), H', ⟨Nat.le_refl _⟩, ⟨by (with_reducible repeat (first | apply Kd.R_alloc | apply Kd.R_drewN | apply Kd.R_drew)); exact HO_5.out⟩, ⟨be w⟩⟩
   case round =>
    clear H'
    (try clear c5); (try clear c5b0); (try clear c6); (try clear c6b0); (try clear c7); (try clear c7b0); (try clear c8); (try clear c8b0); (try clear hx324_0); (try clear hx325_0); (try clear hx325_1); (try clear hx325_2); (try clear hx325_3); (try clear p324); (try clear p325); (try clear q324); (try clear q325)
    obtain ⟨x5_2, x26_2, rfl, HA, HK2, HO_5, HB⟩ := hrel
    cases gk with
    | zero => exact absurd HA.out (by simp [impl_under.l1])
    | succ k2 =>
     have H := HA.out
     clear HA
     simp only [impl_under.l1] at H
     by_cases c10 : x26_2 < (((rd_T62 l0 (rd x5_1 x6_1)).f3).length : Int)
     rotate_left
     ·
      rw [if_neg c10] at H
      have c10b0 : decide (x26_2 < (((rd_T62 l0 (rd x5_1 x6_1)).f3).length : Int)) = false := decide_eq_false c10
      clear c10
      have H' := As.mk H
      clear H
      go_wp2
      go_roundg k2
      case measure => have := HK1.out; have := HK2.out; omega
      case rel => exact ⟨(x5_2), (wrap64 (x6_1 + 1)), (by first | rfl | (simp; done) | (simp [*]; done)), H', ⟨by have := HK1.out; have := HK2.out; omega⟩, ⟨by (with_reducible repeat (first | apply Kd.R_alloc | apply Kd.R_drewN | apply Kd.R_drew)); exact HO_5.out⟩, ⟨be w⟩⟩
     rw [if_pos c10] at H
     have c10b0 : decide (x26_2 < (((rd_T62 l0 (rd x5_1 x6_1)).f3).length : Int)) = true := decide_eq_true c10
     clear c10
     by_cases c11 : 0 ≤ x26_2
     rotate_left; · rw [if_neg c11] at H; exact absurd H (by simp)
     rw [if_pos c11] at H
     have c11b0 : decide (0 ≤ x26_2) = true := decide_eq_true c11
     clear c11
     by_cases c12 : x26_2 < (((rd_T62 l0 (rd x5_1 x6_1)).f3).length : Int)
     rotate_left; · rw [if_neg c12] at H; exact absurd H (by simp)
     rw [if_pos c12] at H
     have c12b0 : decide (x26_2 < (((rd_T62 l0 (rd x5_1 x6_1)).f3).length : Int)) = true := decide_eq_true c12
     clear c12
     obtain ⟨t327, A130, H⟩ := Option.bind_eq_some_iff.mp H
     try dsimp only at H
     have A13 := As.mk A130
     clear A130
     by_cases c14 : t327 = true
     ·
      subst c14
      rw [if_pos rfl] at H
      have H' := As.mk H
      clear H
      have p326 : 0 ≤ (x26_2 : Int) := od
      have q326 : x26_2 < (((rd_T62 l0 (rd x5_1 x6_1)).f3).length : Int) := od
      obtain ⟨ad326, e326, hx326_0⟩ := Kd.at_int HR325_3.out x26_2 p326 q326
      cases e326
      replace hx326_0 := ce HB.out hx326_0
      replace p326 := eq_true p326
      replace q326 := eq_true q326
      obtain ⟨Ao15, co15, eo15⟩ := Kd.R_slice HO_5.out
      subst eo15
      go_wp2_with (first | ((with_reducible refine gate_callee (f := 87) rfl ?_); refine goesL_ (some 32) rfl rfl Tryz.func87 (by kernel_rfl) rfl #[.slice Ao15 x5_2.length co15, .int .i64 (rd ((rd_T62 l0 (rd x5_1 x6_1)).f3) x26_2)] rfl (by (try simp only [lm]); first | done | rfl | (simp only [List.length_drop, List.length_take]; rfl)) ?_; (with_reducible refine (impl_hasInt.calls k2 _ _ x5_2 (rd ((rd_T62 l0 (rd x5_1 x6_1)).f3) x26_2) true _ ?side1 ?side2 A13.out).mono ?_); (case side1 => repeat (first | exact (Kd.R_reads' HO_5.out).2.2 | (with_reducible refine Kd.C_alloc ?_ _) | (with_reducible refine Kd.C_drewN ?_ _) | (with_reducible refine Kd.C_drew ?_))); (case side2 => exact (Kd.R_reads' HO_5.out).2.1); rintro e w' ⟨rfl, ⟨nd, rfl⟩⟩; refine ⟨_, rfl, ?_⟩))
      go_roundg k2
      case measure => have := HK1.out; have := HK2.out; omega
      case rel => exact ⟨(x5_2), (wrap64 (x26_2 + 1)), (by first | rfl | (simp; done) | (simp [*]; done)), H', ⟨by have := HK1.out; have := HK2.out; omega⟩, ⟨by (with_reducible repeat (first | apply Kd.R_alloc | apply Kd.R_drewN | apply Kd.R_drew)); exact HO_5.out⟩, ⟨be w⟩⟩
     replace c14 := Bool.eq_false_iff.mpr c14
     subst c14
     rw [if_neg (show ¬ (false = true) by decide)] at H
     by_cases c16 : x5_2.length < 17592186044416
     rotate_left; · rw [if_neg c16] at H; exact absurd H (by simp)
     rw [if_pos c16] at H
     have LMc16 := As.mk c16
     clear c16
     obtain ⟨y328, hy328⟩ : ∃ y_ : List Int, y_ = (x5_2 ++ [rd ((rd_T62 l0 (rd x5_1 x6_1)).f3) x26_2]) := ⟨_, rfl⟩
     replace H : (impl_under.l1 k2 l0 y328 x6_1 ((rd_T62 l0 (rd x5_1 x6_1)).f3) (((rd_T62 l0 (rd x5_1 x6_1)).f3).length : Int) (wrap64 (x26_2 + 1))) = some r := by first | (rw [hy328]; with_reducible exact H) | (have H2_ := (Option.bind_some _ _).symm.trans H; rw [hy328]; with_reducible exact H2_) | (have H2_ := (Option.bind_some _ _).symm.trans H; with_reducible exact H2_) | with_reducible exact H | (rw [hy328]; exact H) | exact H
     have Ny328 := As.mk hy328
     clear hy328
     have H' := As.mk H
     clear H
     have p326 : 0 ≤ (x26_2 : Int) := od
     have q326 : x26_2 < (((rd_T62 l0 (rd x5_1 x6_1)).f3).length : Int) := od
     obtain ⟨ad326, e326, hx326_0⟩ := Kd.at_int HR325_3.out x26_2 p326 q326
     cases e326
     replace hx326_0 := ce HB.out hx326_0
     replace p326 := eq_true p326
     replace q326 := eq_true q326
     obtain ⟨Ao17, co17, eo17⟩ := Kd.R_slice HO_5.out
     subst eo17
     go_wp2_with (first | ((with_reducible refine gate_callee (f := 87) rfl ?_); refine goesL_ (some 32) rfl rfl Tryz.func87 (by kernel_rfl) rfl #[.slice Ao17 x5_2.length co17, .int .i64 (rd ((rd_T62 l0 (rd x5_1 x6_1)).f3) x26_2)] rfl (by (try simp only [lm]); first | done | rfl | (simp only [List.length_drop, List.length_take]; rfl)) ?_; (with_reducible refine (impl_hasInt.calls k2 _ _ x5_2 (rd ((rd_T62 l0 (rd x5_1 x6_1)).f3) x26_2) false _ ?side1 ?side2 A13.out).mono ?_); (case side1 => repeat (first | exact (Kd.R_reads' HO_5.out).2.2 | (with_reducible refine Kd.C_alloc ?_ _) | (with_reducible refine Kd.C_drewN ?_ _) | (with_reducible refine Kd.C_drew ?_))); (case side2 => exact (Kd.R_reads' HO_5.out).2.1); rintro e w' ⟨rfl, ⟨nd, rfl⟩⟩; refine ⟨_, rfl, ?_⟩) | ((with_reducible refine gate_builtin (b := .append) (xs := #[.tmp 34, .tmp 36]) rfl ?_); at_builtin; refine Kd.R_append (Kd.int .i64) (w0 := w) w.heap.size rfl (.tmp 34) (.tmp 36) 45 3 (.int .i64 0) 8 rfl Tryz.underlying45 info3 rfl (by decide) (by omega) (.slice Ao17 x5_2.length co17) x5_2 (rd ((rd_T62 l0 (rd x5_1 x6_1)).f3) x26_2) [.int .i64 (rd ((rd_T62 l0 (rd x5_1 x6_1)).f3) x26_2)] (fun _ => True) (fun _ => False) rfl rfl ?aP (fun _ hk => hk.elim) ?aF ?aO ?aB ?aS ?aL ?_; (case aP => exact rfl); (case aB => exact (be w)); (case aF => exact (fun _ _ => trivial)); (case aO => exact (by (with_reducible repeat (first | apply Kd.R_alloc | apply Kd.R_drewN | apply Kd.R_drew)); exact HO_5.out)); (case aS => exact (below_size (be w))); (case aL => have := LMc16.out; omega); intro v329 w18 ho hb hg hat; rw [← Ny328.out] at ho; replace HB := As.mk (hb); have HO330 := As.mk (ho); clear HO_5; clear ho hb hg hat))
     go_roundg k2
     case measure => have := HK1.out; have := HK2.out; omega
     case rel => exact ⟨(y328), (wrap64 (x26_2 + 1)), (by first | rfl | (simp; done) | (simp [*]; done)), H', ⟨by have := HK1.out; have := HK2.out; omega⟩, ⟨by (with_reducible repeat (first | apply Kd.R_alloc | apply Kd.R_drewN | apply Kd.R_drew)); exact HO330.out⟩, ⟨be w⟩⟩
/-! ### impl_Under: function 25 -/
def impl_Under.f (k : Nat) (l0_0 : List (S62)) (l0_1 : List (S56)) (a1 : Int) : Option (List Int) := (impl_DeepOf.f k l0_0 a1).bind fun t332 => (if t332 = 0 then (some ([] : List Int)) else ((impl_under.f k l0_0 a1).bind fun t333 => (some t333)))
theorem impl_Under.mono : ∀ a0 a1 a2 k, LeO (impl_Under.f k a0 a1 a2) (impl_Under.f (k + 1) a0 a1 a2) := by
 intro a0 a1 a2 k
 unfold impl_Under.f
 with_reducible repeat' first | exact impl_DeepOf.mono _ _ _ | exact impl_under.mono _ _ _ | exact LeO.refl _ | exact LeO.none _ | refine LeO.ite ?_ ?_ | refine LeO.bind ?_ (fun _ => ?_)
set_option maxHeartbeats 8000000 in
set_option maxRecDepth 100000 in
theorem impl_Under.calls (k : Nat) (A0_0 : Option Addr) (c0_0 : Nat) (l0_0 : List (S62)) (A0_1 : Option Addr) (c0_1 : Nat) (l0_1 : List (S56)) (a1 : Int) (r : List Int) (w : World) (hr0_0 : Kd.C k62 w A0_0 l0_0.length l0_0) (hc0_0 : l0_0.length ≤ c0_0) (hr0_1 : Kd.C k56 w A0_1 l0_1.length l0_1) (hc0_1 : l0_1.length ≤ c0_1) (h : impl_Under.f k l0_0 l0_1 a1 = some r) :
  Calls Tryz.prog 25 #[.agg #[.slice A0_0 l0_0.length c0_0, .slice A0_1 l0_1.length c0_1], .int .i64 a1] w fun e w' => ∃ v0_ : Value, e = .returned (v0_) ∧ Kd.R (Kd.int .i64) 3 w' w.heap.size (fun _ => True) v0_ r ∧ Below w.heap.size w w' := by
 have hu32 := Tryz.underlying32
 have HR0_0 := As.mk hr0_0
 have HC0_0 := As.mk hc0_0
 clear hr0_0 hc0_0
 have HR0_1 := As.mk hr0_1
 have HC0_1 := As.mk hc0_1
 clear hr0_1 hc0_1
 have HB := As.mk (Below.refl w.heap.size w)
 have H : ((impl_DeepOf.f k l0_0 a1).bind fun t332 => (if t332 = 0 then (some ([] : List Int)) else ((impl_under.f k l0_0 a1).bind fun t333 => (some t333)))) = some r := h
 clear h
 obtain ⟨t332, A30, H⟩ := Option.bind_eq_some_iff.mp H
 try dsimp only at H
 have A3 := As.mk A30
 clear A30
 by_cases c4 : t332 = 0
 ·
  rw [if_pos c4] at H
  have c4b0 : (t332 == 0) = true := beq_iff_eq.mpr c4
  have c4b1 : (t332 != 0) = false := bne_eq_false_iff_eq.mpr c4
  clear c4
  obtain rfl := Option.some.inj H
  go_enter Tryz.func25, Tryz.ntmps25
  go_wp2_with (first | ((with_reducible refine gate_dst (N := 2) rfl ?_); refine box_event ?hg (N := 2) ?hd (cs := #[.slice A0_0 l0_0.length c0_0, .slice A0_1 l0_1.length c0_1]) (t := 32) ?hr ?_; (case hd => rfl); (case hg => rfl); (case hr => first | (go_simp; done) | (go_simp; rfl)); intro gb331 hg w5 hbox hb; have BK331 := As.mk (hbox); have GW331 := As.mk (gs w hg); have GE331 := As.mk (gs w hg); replace HB := As.mk (below_step (be w) hb); clear hb hbox hg; obtain ⟨hcz6_0, hcz6_1, hfz6_0, hfz6_1⟩ := cl2 BK331.out) | ((with_reducible refine gate_callee (f := 46) rfl ?_); refine goesL_ (some 8) rfl rfl Tryz.func46 (by kernel_rfl) rfl #[.slice A0_0 l0_0.length c0_0, .int .i64 a1] rfl (by (try simp only [lm]); first | done | rfl | (simp only [List.length_drop, List.length_take]; rfl)) ?_; (with_reducible refine (impl_DeepOf.calls k _ _ l0_0 a1 t332 _ ?side1 ?side2 A3.out).mono ?_); (case side1 => exact Kd.C_below HR0_0.out (be w)); (case side2 => exact HC0_0.out); rintro e w7 ⟨rfl, hb⟩; refine ⟨_, rfl, ?_⟩; replace HB := As.mk (below_step (be w) hb); (try clear hb); (try clear hb2); (try clear hk); (try clear hi)))
  go_ret
  exact ⟨_, ez, by first | exact Kd.R_nil _ _ _ _ _ | exact Kd.N_nil _ _ _ _ _ | exact Kd.V_nil _ _ _ _ _ | exact Kd.Q_nil _ _ _ _ _ | exact Kd.S_nil _ _ _ _ _, be w⟩
 rw [if_neg c4] at H
 have c4b0 : (t332 == 0) = false := beq_eq_false_iff_ne.mpr c4
 have c4b1 : (t332 != 0) = true := bne_iff_ne.mpr c4
 obtain ⟨t333, A80, H⟩ := Option.bind_eq_some_iff.mp H
 try dsimp only at H
 have A8 := As.mk A80
 clear A80
 obtain rfl := Option.some.inj H
 go_enter Tryz.func25, Tryz.ntmps25
 go_wp2_with (first | ((with_reducible refine gate_dst (N := 2) rfl ?_); refine box_event ?hg (N := 2) ?hd (cs := #[.slice A0_0 l0_0.length c0_0, .slice A0_1 l0_1.length c0_1]) (t := 32) ?hr ?_; (case hd => rfl); (case hg => rfl); (case hr => first | (go_simp; done) | (go_simp; rfl)); intro gb331 hg w9 hbox hb; have BK331 := As.mk (hbox); have GW331 := As.mk (gs w hg); have GE331 := As.mk (gs w hg); replace HB := As.mk (below_step (be w) hb); clear hb hbox hg; obtain ⟨hcz10_0, hcz10_1, hfz10_0, hfz10_1⟩ := cl2 BK331.out) | ((with_reducible refine gate_callee (f := 46) rfl ?_); refine goesL_ (some 8) rfl rfl Tryz.func46 (by kernel_rfl) rfl #[.slice A0_0 l0_0.length c0_0, .int .i64 a1] rfl (by (try simp only [lm]); first | done | rfl | (simp only [List.length_drop, List.length_take]; rfl)) ?_; (with_reducible refine (impl_DeepOf.calls k _ _ l0_0 a1 t332 _ ?side1 ?side2 A3.out).mono ?_); (case side1 => exact Kd.C_below HR0_0.out (be w)); (case side2 => exact HC0_0.out); rintro e w11 ⟨rfl, hb⟩; refine ⟨_, rfl, ?_⟩; replace BK331 := As.mk (blk_below (bx BK331.out) hb); replace HB := As.mk (below_step (be w) hb); (try clear hb); (try clear hb2); (try clear hk); (try clear hi); obtain ⟨hcz12_0, hcz12_1, hfz12_0, hfz12_1⟩ := cl2 BK331.out) | ((with_reducible refine gate_callee (f := 59) rfl ?_); refine goesL_ (some 13) rfl rfl Tryz.func59 (by kernel_rfl) rfl #[.slice A0_0 l0_0.length c0_0, .int .i64 a1] rfl (by (try simp only [lm]); first | done | rfl | (simp only [List.length_drop, List.length_take]; rfl)) ?_; (with_reducible refine (impl_under.calls k _ _ l0_0 a1 t333 _ ?side1 ?side2 A8.out).mono ?_); (case side1 => exact Kd.C_below HR0_0.out (be w)); (case side2 => exact HC0_0.out); rintro e w13 ⟨v334, rfl, ho0, hb⟩; refine ⟨_, rfl, ?_⟩; have HO335 := As.mk (Kd.R_lower ho0 (below_size (be w))); replace HB := As.mk (below_step (be w) hb); (try clear hb); (try clear hb2); (try clear hk); (try clear hi); (try clear ho0)))
 go_ret
 exact ⟨_, ez, by (with_reducible repeat (first | apply Kd.R_alloc | apply Kd.R_drewN | apply Kd.R_drew)); exact HO335.out, be w⟩

/-! ### impl_VarsOf: function 12 -/
mutual
def impl_VarsOf.l0 : Nat → Int → List (S60) → List (S58) → Int → Int → List (S62) → List (S56) → Option ((List (S60)))
 | 0, _, _, _, _, _, _, _ => none
 | k + 1, x1, x5, x23, x24, x25, x337000, x337001 => if x25 < x24 then (if 0 ≤ x25 then (if x25 < (x23.length : Int) then (if x5.length < 4398046511104 then (impl_VarsOf.l0 k x1 (x5 ++ [(⟨(rd_T58 x23 x25).f0, (rd_T58 x23 x25).f1, (-1)⟩ : S60)]) x23 x24 (wrap64 (x25 + 1)) x337000 x337001) else (none)) else (none)) else (none)) else (if 0 ≤ x1 then (if x1 < (x337001.length : Int) then ((impl_Under.f k x337000 x337001 ((rd_T56 x337001 x1).f3)).bind fun t345 => (impl_VarsOf.l1 k x5 t345 (t345.length : Int) 0 x337000 x337001)) else (none)) else (none))
def impl_VarsOf.l1 : Nat → List (S60) → List Int → Int → Int → List (S62) → List (S56) → Option ((List (S60)))
 | 0, _, _, _, _, _, _ => none
 | k + 1, x5, x45, x46, x47, x337000, x337001 => if x47 < x46 then (if 0 ≤ x47 then (if x47 < (x45.length : Int) then (if 0 ≤ (rd x45 x47) then (if (rd x45 x47) < (x337000.length : Int) then (if ((rd_T62 x337000 (rd x45 x47)).f0) = 13 then (if x5.length < 4398046511104 then (impl_VarsOf.l1 k (x5 ++ [(⟨(rd_T62 x337000 (rd x45 x47)).f2, 0, rd x45 x47⟩ : S60)]) x45 x46 (wrap64 (x47 + 1)) x337000 x337001) else (none)) else (impl_VarsOf.l1 k x5 x45 x46 (wrap64 (x47 + 1)) x337000 x337001)) else (none)) else (none)) else (none)) else (none)) else (some x5)
end
def impl_VarsOf.f (k : Nat) (l0_0 : List (S62)) (l0_1 : List (S56)) (a1 : Int) : Option ((List (S60))) := (impl_in.f a1 0 (wrap64 ((l0_1.length : Int) - 1))).bind fun t337 => (if t337 = true then (if 0 ≤ a1 then (if a1 < (l0_1.length : Int) then (impl_VarsOf.l0 k a1 ([] : List (S60)) ((rd_T56 l0_1 a1).f1) (((rd_T56 l0_1 a1).f1).length : Int) 0 l0_0 l0_1) else (none)) else (none)) else (some ([] : List (S60))))
theorem impl_VarsOf.mono_l : ∀ k, (∀ y0 y1 y2 y3 y4 y5 y6, LeO (impl_VarsOf.l0 k y0 y1 y2 y3 y4 y5 y6) (impl_VarsOf.l0 (k + 1) y0 y1 y2 y3 y4 y5 y6)) ∧ (∀ y0 y1 y2 y3 y4 y5, LeO (impl_VarsOf.l1 k y0 y1 y2 y3 y4 y5) (impl_VarsOf.l1 (k + 1) y0 y1 y2 y3 y4 y5))
 | 0 => ⟨fun _ _ _ _ _ _ _ r h => by simp [impl_VarsOf.l0] at h, fun _ _ _ _ _ _ r h => by simp [impl_VarsOf.l1] at h⟩
 | k + 1 => by
  obtain ⟨ih0, ih1⟩ := impl_VarsOf.mono_l k
  refine ⟨?_, ?_⟩
  ·
   intro y0 y1 y2 y3 y4 y5 y6
   unfold impl_VarsOf.l0
   with_reducible repeat' first | exact ih0 _ _ _ _ _ _ _ | exact ih1 _ _ _ _ _ _ | exact impl_Under.mono _ _ _ _ | exact LeO.refl _ | exact LeO.none _ | refine LeO.ite ?_ ?_ | refine LeO.bind ?_ (fun _ => ?_)
  ·
   intro y0 y1 y2 y3 y4 y5
   unfold impl_VarsOf.l1
   with_reducible repeat' first | exact ih0 _ _ _ _ _ _ _ | exact ih1 _ _ _ _ _ _ | exact impl_Under.mono _ _ _ _ | exact LeO.refl _ | exact LeO.none _ | refine LeO.ite ?_ ?_ | refine LeO.bind ?_ (fun _ => ?_)
theorem impl_VarsOf.mono : ∀ a0 a1 a2 k, LeO (impl_VarsOf.f k a0 a1 a2) (impl_VarsOf.f (k + 1) a0 a1 a2) := by
 intro a0 a1 a2 k
 obtain ⟨ih0, ih1⟩ := impl_VarsOf.mono_l k
 unfold impl_VarsOf.f
 with_reducible repeat' first | exact ih0 _ _ _ _ _ _ _ | exact ih1 _ _ _ _ _ _ | exact impl_Under.mono _ _ _ _ | exact LeO.refl _ | exact LeO.none _ | refine LeO.ite ?_ ?_ | refine LeO.bind ?_ (fun _ => ?_)
def impl_VarsOf.T9 : Bool × List (List Nat × List Nat) := (true, [([], []), ([], []), ([1], [1]), ([], []), ([2, 3], [2, 3]), ([4], [4]), ([5], [5]), ([0, 6], [0, 6]), ([7], [7]), ([], [])])
def impl_VarsOf.B9 : List Nat := [0, 0, 2, 0, 14, 30, 62, 127, 255, 0]
theorem impl_VarsOf.tab9 : rtab .any (opsOf Tryz.f12 9) = impl_VarsOf.T9 := by kernel_rfl
theorem impl_VarsOf.bits9 : waitsOk impl_VarsOf.T9.2 impl_VarsOf.B9 = true := by kernel_rfl
set_option maxHeartbeats 8000000 in
set_option maxRecDepth 100000 in
theorem impl_VarsOf.calls (k : Nat) (A0_0 : Option Addr) (c0_0 : Nat) (l0_0 : List (S62)) (A0_1 : Option Addr) (c0_1 : Nat) (l0_1 : List (S56)) (a1 : Int) (r : List (S60)) (w : World) (hr0_0 : Kd.C k62 w A0_0 l0_0.length l0_0) (hc0_0 : l0_0.length ≤ c0_0) (hr0_1 : Kd.C k56 w A0_1 l0_1.length l0_1) (hc0_1 : l0_1.length ≤ c0_1) (h : impl_VarsOf.f k l0_0 l0_1 a1 = some r) :
  Calls Tryz.prog 12 #[.agg #[.slice A0_0 l0_0.length c0_0, .slice A0_1 l0_1.length c0_1], .int .i64 a1] w fun e w' => ∃ v0_ : Value, e = .returned (v0_) ∧ Kd.R k60 60 w' w.heap.size (fun _ => True) v0_ r ∧ Below w.heap.size w w' := by
 have hu32 := Tryz.underlying32
 have hu58 := Tryz.underlying58
 have hu60 := Tryz.underlying60
 have hu62 := Tryz.underlying62
 have HR0_0 := As.mk hr0_0
 have HC0_0 := As.mk hc0_0
 clear hr0_0 hc0_0
 have HR0_1 := As.mk hr0_1
 have HC0_1 := As.mk hc0_1
 clear hr0_1 hc0_1
 have HB := As.mk (Below.refl w.heap.size w)
 have H : ((impl_in.f a1 0 (wrap64 ((l0_1.length : Int) - 1))).bind fun t337 => (if t337 = true then (if 0 ≤ a1 then (if a1 < (l0_1.length : Int) then (impl_VarsOf.l0 k a1 ([] : List (S60)) ((rd_T56 l0_1 a1).f1) (((rd_T56 l0_1 a1).f1).length : Int) 0 l0_0 l0_1) else (none)) else (none)) else (some ([] : List (S60))))) = some r := h
 clear h
 obtain ⟨t337, A30, H⟩ := Option.bind_eq_some_iff.mp H
 try dsimp only at H
 have A3 := As.mk A30
 clear A30
 by_cases c4 : t337 = true
 rotate_left
 ·
  replace c4 := Bool.eq_false_iff.mpr c4
  subst c4
  rw [if_neg (show ¬ (false = true) by decide)] at H
  obtain rfl := Option.some.inj H
  go_enter Tryz.func12, Tryz.ntmps12
  go_wp2_with (first | ((with_reducible refine gate_dst (N := 2) rfl ?_); refine box_event ?hg (N := 2) ?hd (cs := #[.slice A0_0 l0_0.length c0_0, .slice A0_1 l0_1.length c0_1]) (t := 32) ?hr ?_; (case hd => rfl); (case hg => rfl); (case hr => first | (go_simp; done) | (go_simp; rfl)); intro gb336 hg w39 hbox hb; have BK336 := As.mk (hbox); have GW336 := As.mk (gs w hg); have GE336 := As.mk (gs w hg); replace HB := As.mk (below_step (be w) hb); clear hb hbox hg; obtain ⟨hcz40_0, hcz40_1, hfz40_0, hfz40_1⟩ := cl2 BK336.out) | ((with_reducible refine gate_callee (f := 36) rfl ?_); refine goesL_ (some 16) rfl rfl Tryz.func36 (by kernel_rfl) rfl #[.int .i64 a1, .int .i64 0, .int .i64 (wrap64 ((l0_1.length : Int) - 1))] rfl (by (try simp only [lm]); first | done | rfl | (simp only [List.length_drop, List.length_take]; rfl)) ?_; (with_reducible refine (impl_in.calls a1 0 (wrap64 ((l0_1.length : Int) - 1)) false _ A3.out).mono ?_); rintro e w' ⟨rfl, ⟨nd, rfl⟩⟩; refine ⟨_, rfl, ?_⟩))
  go_ret
  exact ⟨_, ez, by first | exact Kd.R_nil _ _ _ _ _ | exact Kd.N_nil _ _ _ _ _ | exact Kd.V_nil _ _ _ _ _ | exact Kd.Q_nil _ _ _ _ _ | exact Kd.S_nil _ _ _ _ _, be w⟩

 subst c4
 rw [if_pos rfl] at H
 by_cases c5 : 0 ≤ a1
 rotate_left; · rw [if_neg c5] at H; exact absurd H (by simp)
 rw [if_pos c5] at H
 have c5b0 : decide (0 ≤ a1) = true := decide_eq_true c5
 clear c5
 by_cases c6 : a1 < (l0_1.length : Int)
 rotate_left; · rw [if_neg c6] at H; exact absurd H (by simp)
 rw [if_pos c6] at H
 have c6b0 : decide (a1 < (l0_1.length : Int)) = true := decide_eq_true c6
 clear c6
 have H' := As.mk H
 clear H
 go_enter Tryz.func12, Tryz.ntmps12
 go_wp2_with (first | ((with_reducible refine gate_dst (N := 2) rfl ?_); refine box_event ?hg (N := 2) ?hd (cs := #[.slice A0_0 l0_0.length c0_0, .slice A0_1 l0_1.length c0_1]) (t := 32) ?hr ?_; (case hd => rfl); (case hg => rfl); (case hr => first | (go_simp; done) | (go_simp; rfl)); intro gb336 hg w7 hbox hb; have BK336 := As.mk (hbox); have GW336 := As.mk (gs w hg); have GE336 := As.mk (gs w hg); replace HB := As.mk (below_step (be w) hb); clear hb hbox hg; obtain ⟨hcz8_0, hcz8_1, hfz8_0, hfz8_1⟩ := cl2 BK336.out) | ((with_reducible refine gate_callee (f := 36) rfl ?_); refine goesL_ (some 16) rfl rfl Tryz.func36 (by kernel_rfl) rfl #[.int .i64 a1, .int .i64 0, .int .i64 (wrap64 ((l0_1.length : Int) - 1))] rfl (by (try simp only [lm]); first | done | rfl | (simp only [List.length_drop, List.length_take]; rfl)) ?_; (with_reducible refine (impl_in.calls a1 0 (wrap64 ((l0_1.length : Int) - 1)) true _ A3.out).mono ?_); rintro e w' ⟨rfl, ⟨nd, rfl⟩⟩; refine ⟨_, rfl, ?_⟩; have p338 : 0 ≤ (a1 : Int) := od; have q338 : a1 < (l0_1.length : Int) := od; obtain ⟨ad338, A338_1, c338_1, e338, hx338_0, hx338_1, hx338_2, hx338_3, hx338_4, hl338_1, hi338_1⟩ := at_T56 HR0_1.out a1 p338 q338; cases e338; replace hx338_0 := ce HB.out hx338_0; replace hx338_1 := ce HB.out hx338_1; replace hx338_2 := ce HB.out hx338_2; replace hx338_3 := ce HB.out hx338_3; replace hx338_4 := ce HB.out hx338_4; have HR338_1 := As.mk hi338_1; have HC338_1 := As.mk hl338_1; clear hi338_1 hl338_1; replace p338 := eq_true p338; replace q338 := eq_true q338))
 (try simp only [pk])
 go_loopg [5, 25] k (fun kq v5 v25 w' => ∃ (x5_1 : List (S60)) (x25_1 : Int), v25 = .int .i64 x25_1 ∧ As (impl_VarsOf.l0 kq a1 x5_1 ((rd_T56 l0_1 a1).f1) (((rd_T56 l0_1 a1).f1).length : Int) x25_1 l0_0 l0_1 = some r) ∧ As (kq ≤ k) ∧ As (Kd.R k60 60 w' w.heap.size (fun _ => True) v5 x5_1) ∧ As (w'.heap[gb336]? = some (.cells #[(.slice A0_0 l0_0.length c0_0), (.slice (some ad338) l0_1.length c0_1)] 32 (0, 0))) ∧ As (Below w.heap.size w w'))
 case atStart => exact ⟨(([] : List (S60))), (0), (by first | rfl | (simp; done) | (simp [*]; done)), H', ⟨Nat.le_refl _⟩, ⟨by first | exact Kd.R_nil _ _ _ _ _ | exact Kd.N_nil _ _ _ _ _ | exact Kd.V_nil _ _ _ _ _ | exact Kd.Q_nil _ _ _ _ _ | exact Kd.S_nil _ _ _ _ _⟩, ⟨bx BK336.out⟩, ⟨be w⟩⟩
 case round =>
  clear H'
  (try clear c4); (try clear c5); (try clear c5b0); (try clear c6); (try clear c6b0); (try clear hcz8_0); (try clear hcz8_1); (try clear hfz8_0); (try clear hfz8_1); (try clear hx338_0); (try clear hx338_1); (try clear hx338_2); (try clear hx338_3); (try clear hx338_4); (try clear p338); (try clear q338)
  obtain ⟨x5_1, x25_1, rfl, HA, HK1, HO_5, BK336, HB⟩ := hrel
  cases gk with
  | zero => exact absurd HA.out (by simp [impl_VarsOf.l0])
  | succ k1 =>
   have H := HA.out
   clear HA
   simp only [impl_VarsOf.l0] at H
   by_cases c9 : x25_1 < (((rd_T56 l0_1 a1).f1).length : Int)
   ·
    rw [if_pos c9] at H
    have c9b0 : decide (x25_1 < (((rd_T56 l0_1 a1).f1).length : Int)) = true := decide_eq_true c9
    clear c9
    by_cases c10 : 0 ≤ x25_1
    rotate_left; · rw [if_neg c10] at H; exact absurd H (by simp)
    rw [if_pos c10] at H
    have c10b0 : decide (0 ≤ x25_1) = true := decide_eq_true c10
    clear c10
    by_cases c11 : x25_1 < (((rd_T56 l0_1 a1).f1).length : Int)
    rotate_left; · rw [if_neg c11] at H; exact absurd H (by simp)
    rw [if_pos c11] at H
    have c11b0 : decide (x25_1 < (((rd_T56 l0_1 a1).f1).length : Int)) = true := decide_eq_true c11
    clear c11
    by_cases c12 : x5_1.length < 4398046511104
    rotate_left; · rw [if_neg c12] at H; exact absurd H (by simp)
    rw [if_pos c12] at H
    have LMc12 := As.mk c12
    clear c12
    obtain ⟨y341, hy341⟩ : ∃ y_ : List (S60), y_ = (x5_1 ++ [(⟨(rd_T58 ((rd_T56 l0_1 a1).f1) x25_1).f0, (rd_T58 ((rd_T56 l0_1 a1).f1) x25_1).f1, (-1)⟩ : S60)]) := ⟨_, rfl⟩
    replace H : (impl_VarsOf.l0 k1 a1 y341 ((rd_T56 l0_1 a1).f1) (((rd_T56 l0_1 a1).f1).length : Int) (wrap64 (x25_1 + 1)) l0_0 l0_1) = some r := by first | (rw [hy341]; with_reducible exact H) | (have H2_ := (Option.bind_some _ _).symm.trans H; rw [hy341]; with_reducible exact H2_) | (have H2_ := (Option.bind_some _ _).symm.trans H; with_reducible exact H2_) | with_reducible exact H | (rw [hy341]; exact H) | exact H
    have Ny341 := As.mk hy341
    clear hy341
    have H' := As.mk H
    clear H
    have p339 : 0 ≤ (x25_1 : Int) := od
    have q339 : x25_1 < (((rd_T56 l0_1 a1).f1).length : Int) := od
    obtain ⟨ad339, e339, hx339_0, hx339_1⟩ := at_T58 HR338_1.out x25_1 p339 q339
    cases e339
    replace hx339_0 := ce HB.out hx339_0
    replace hx339_1 := ce HB.out hx339_1
    replace p339 := eq_true p339
    replace q339 := eq_true q339
    go_wp2_with (first | ((with_reducible refine gate_dst (N := 7) rfl ?_); refine box_event ?hg (N := 7) ?hd (cs := #[.string (⟨#[]⟩ : ByteArray), .int .i64 0]) (t := 58) ?hr ?_; (case hd => rfl); (case hg => rfl); (case hr => first | (go_simp; done) | (go_simp; rfl)); intro gb340 hg w13 hbox hb; replace HO_5 := As.mk (Kd.R_below (by (with_reducible repeat (first | apply Kd.R_alloc | apply Kd.R_drewN | apply Kd.R_drew)); exact HO_5.out) hb); have BK340 := As.mk (hbox); have GW340 := As.mk (gs w hg); have GE340 := As.mk (gs w hg); replace HB := As.mk (below_step (be w) hb); have NB336_340 := As.mk (nl hg (bx BK336.out)); have NB340_336 := As.mk (ng hg (bx BK336.out)); replace BK336 := As.mk (blk_below (bx BK336.out) hb); clear hb hbox hg; have hnb14 := NB340_336.out; have hnc14 := NB336_340.out; obtain ⟨hcz15_0, hcz15_1, hfz15_0, hfz15_1⟩ := cl2 BK340.out) | ((with_reducible refine gate_builtin (b := .append) (xs := #[.tmp 29, .tmp 35]) rfl ?_); at_builtin; refine Kd.R_append k60 (w0 := w) w.heap.size rfl (.tmp 29) (.tmp 35) 27 60 (.agg #[(.string ⟨#[]⟩), (.int .i64 0), (.int .i64 0)]) 32 rfl Tryz.underlying27 info60 rfl (by decide) (by omega) u5 x5_1 (⟨(rd_T58 ((rd_T56 l0_1 a1).f1) x25_1).f0, (rd_T58 ((rd_T56 l0_1 a1).f1) x25_1).f1, (-1)⟩ : S60) [.string ((rd_T58 ((rd_T56 l0_1 a1).f1) x25_1).f0), .int .i64 ((rd_T58 ((rd_T56 l0_1 a1).f1) x25_1).f1), .int .i64 (-1)] (fun _ => True) (fun _ => False) rfl (by first | (go_simp; done) | (go_simp; rfl)) ?aP (fun _ hk => hk.elim) ?aF ?aO ?aB ?aS ?aL ?_; (case aP => exact k60_mkM _ _ _ (⟨(rd_T58 ((rd_T56 l0_1 a1).f1) x25_1).f0, (rd_T58 ((rd_T56 l0_1 a1).f1) x25_1).f1, (-1)⟩ : S60)); (case aB => exact (be w)); (case aF => exact (fun _ _ => trivial)); (case aO => exact (by (with_reducible repeat (first | apply Kd.R_alloc | apply Kd.R_drewN | apply Kd.R_drew)); exact Kd.R_mono (Kd.R_far (p := ⟨gb340, 1, none⟩) (Kd.R_far (p := ⟨gb340, 0, none⟩) (Kd.R_types HO_5.out BK340.out (by decide)) (fun _ hk => hk.2) (.string ((rd_T58 ((rd_T56 l0_1 a1).f1) x25_1).f0))) (fun _ hk => hk.2) (.int .i64 ((rd_T58 ((rd_T56 l0_1 a1).f1) x25_1).f1))) (fun _ hk => trivial))); (case aS => exact (below_size (be w))); (case aL => have := LMc12.out; omega); intro v342 w16 ho hb hg hat; rw [← Ny341.out] at ho; replace BK336 := As.mk (blk_grown (g := gb336) (o := .cells #[.slice A0_0 l0_0.length c0_0, .slice (some ad338) l0_1.length c0_1] 32 (0, 0)) (by refine pl ?_; refine blk_far ?_ NB336_340.out _; refine pl ?_; refine blk_far ?_ NB336_340.out _; exact bx BK336.out) hg (Kd.R_ne HO_5.out BK336.out (by decide))); replace BK340 := As.mk (blk_grown (g := gb340) (o := .cells #[.string ((rd_T58 ((rd_T56 l0_1 a1).f1) x25_1).f0), .int .i64 ((rd_T58 ((rd_T56 l0_1 a1).f1) x25_1).f1)] 58 (0, 0)) (by refine pl ?_; refine blk_put (cs := #[.string ((rd_T58 ((rd_T56 l0_1 a1).f1) x25_1).f0), .int .i64 0]) ?_ 1 _ rfl; refine pl ?_; refine blk_put (cs := #[.string (⟨#[]⟩ : ByteArray), .int .i64 0]) ?_ 0 _ rfl; exact bx BK340.out) hg (Kd.R_ne HO_5.out BK340.out (by decide))); replace HB := As.mk (hb); have HO343 := As.mk (ho); clear HO_5; clear ho hb hg hat))
    go_roundg k1
    case measure => have := HK1.out; omega
    case rel => exact ⟨(y341), (wrap64 (x25_1 + 1)), (by first | rfl | (simp; done) | (simp [*]; done)), H', ⟨by have := HK1.out; omega⟩, ⟨by (with_reducible repeat (first | apply Kd.R_alloc | apply Kd.R_drewN | apply Kd.R_drew)); exact HO343.out⟩, ⟨bx BK336.out⟩, ⟨be w⟩⟩
   rw [if_neg c9] at H
   have c9b0 : decide (x25_1 < (((rd_T56 l0_1 a1).f1).length : Int)) = false := decide_eq_false c9
   clear c9
   by_cases c17 : 0 ≤ a1
   rotate_left; · rw [if_neg c17] at H; exact absurd H (by simp)
   rw [if_pos c17] at H
   have c17b0 : decide (0 ≤ a1) = true := decide_eq_true c17
   clear c17
   by_cases c18 : a1 < (l0_1.length : Int)
   rotate_left; · rw [if_neg c18] at H; exact absurd H (by simp)
   rw [if_pos c18] at H
   have c18b0 : decide (a1 < (l0_1.length : Int)) = true := decide_eq_true c18
   clear c18
   obtain ⟨t345, A190, H⟩ := Option.bind_eq_some_iff.mp H
   try dsimp only at H
   have A19 := As.mk A190
   clear A190
   have H' := As.mk H
   clear H
   try go_wp2
   replace HO_5 := As.mk (Kd.R_drew HO_5.out)
   replace BK336 := As.mk (blk_drew BK336.out)
   replace HB := As.mk (below_drew1 HB.out)
   have p344 : 0 ≤ (a1 : Int) := od
   have q344 : a1 < (l0_1.length : Int) := od
   obtain ⟨ad344, A344_1, c344_1, e344, hx344_0, hx344_1, hx344_2, hx344_3, hx344_4, hl344_1, hi344_1⟩ := at_T56 HR0_1.out a1 p344 q344
   have hw344_4 := hx344_4
   have hw344_3 := hx344_3
   have hw344_2 := hx344_2
   have hw344_1 := hx344_1
   have hw344_0 := hx344_0
   obtain rfl : ad338 = ad344 := (by injection e344)
   replace hx344_0 := ce HB.out hx344_0
   replace hx344_1 := ce HB.out hx344_1
   replace hx344_2 := ce HB.out hx344_2
   replace hx344_3 := ce HB.out hx344_3
   replace hx344_4 := ce HB.out hx344_4
   have HR344_1 := As.mk hi344_1
   have HC344_1 := As.mk hl344_1
   clear hi344_1 hl344_1
   replace p344 := eq_true p344
   replace q344 := eq_true q344
   refine start_ (n := 10) (S := fun w' => w'.cell? ⟨gb336, 0, none⟩ = some (.slice A0_0 l0_0.length c0_0) ∧ w'.cell? ⟨gb336, 1, none⟩ = some (.slice (some ad338) l0_1.length c0_1) ∧ w'.cell? (ad338.add ((a1).toNat * 5)) = some (.string ((rd_T56 l0_1 a1).f0)) ∧ w'.cell? ⟨(ad338.add ((a1).toNat * 5)).block, (ad338.add ((a1).toNat * 5)).off + 1, none⟩ = some (.slice A344_1 ((rd_T56 l0_1 a1).f1).length c344_1) ∧ w'.cell? ⟨(ad338.add ((a1).toNat * 5)).block, (ad338.add ((a1).toNat * 5)).off + 2, none⟩ = some (.int .i64 ((rd_T56 l0_1 a1).f2)) ∧ w'.cell? ⟨(ad338.add ((a1).toNat * 5)).block, (ad338.add ((a1).toNat * 5)).off + 3, none⟩ = some (.int .i64 ((rd_T56 l0_1 a1).f3)) ∧ w'.cell? ⟨(ad338.add ((a1).toNat * 5)).block, (ad338.add ((a1).toNat * 5)).off + 4, none⟩ = some (.int .i64 ((rd_T56 l0_1 a1).f4))) (ds := []) #[O, O, O, O, O, O, O, O, O, O] (by kernel_rfl) rfl rfl ⟨(blk_cell BK336.out 0).trans rfl, (blk_cell BK336.out 1).trans rfl, (ce HB.out hw344_0 :), (ce HB.out hw344_1 :), (ce HB.out hw344_2 :), (ce HB.out hw344_3 :), (ce HB.out hw344_4 :)⟩ (fun hHeld => ?_); refine with_tabW impl_VarsOf.tab9 impl_VarsOf.bits9 (fun HT_ HW_ => ?_)
   generalize wr.drew = w20 at HO_5 BK336 HB HR344_1 hx344_0 hx344_1 hx344_2 hx344_3 hx344_4 hHeld ⊢
   refine pure_ (i := 1) (N := some 39) (v := ?_) (a' := ?_) #[O, I, O, O, O, O, O, O, O, O] rfl rfl (any_of HT_.out (by kernel_rfl)) (fun _ _ _ h => h) (Or.inl ⟨by rfl, ?_⟩) ?_ ?_
   rotate_left; · intro w'; go_simp; with_reducible rfl
   rotate_left; · simp only [pk, i64_w, i32_w]; rfl
   refine pure_ (i := 3) (N := some 41) (v := ?_) (a' := ?_) #[O, I, O, I, O, O, O, O, O, O] rfl rfl (any_of HT_.out (by kernel_rfl)) (fun _ _ _ h => h) (Or.inl ⟨by rfl, ?_⟩) ?_ ?_
   rotate_left; · intro w'; go_simp; with_reducible rfl
   rotate_left; · simp only [pk, i64_w, i32_w]; rfl
   refine pure_ (i := 9) (N := some 47) (v := ?_) (a' := ?_) #[O, I, O, I, O, O, O, O, O, I] rfl rfl (any_of HT_.out (by kernel_rfl)) (fun _ _ _ h => h) (Or.inl ⟨by rfl, ?_⟩) ?_ ?_
   rotate_left; · intro w'; go_simp; with_reducible rfl
   rotate_left; · simp only [pk, i64_w, i32_w]; rfl
   refine take_ (i := 0) (N := some 38) (v := ?_) (a' := ?_) #[I, I, O, I, O, O, O, O, O, I] rfl rfl (take_ofW HT_.out HW_.out (by kernel_rfl)) (fun _ _ _ h => h) (Or.inl ⟨by rfl, ?_⟩) hHeld ?_ ?_
   rotate_left; · rintro w' ⟨s0, s1, s2, s3, s4, s5, s6⟩; go_simp; with_reducible rfl
   rotate_left; · simp only [pk, i64_w, i32_w]; rfl
   refine take_ (i := 2) (N := some 40) (v := ?_) (a' := ?_) #[I, I, I, I, O, O, O, O, O, I] rfl rfl (take_ofW HT_.out HW_.out (by kernel_rfl)) (fun _ _ _ h => h) (Or.inl ⟨by rfl, ?_⟩) hHeld ?_ ?_
   rotate_left; · rintro w' ⟨s0, s1, s2, s3, s4, s5, s6⟩; go_simp; with_reducible rfl
   rotate_left; · simp only [pk, i64_w, i32_w]; rfl
   refine pure_ (i := 4) (N := some 42) (v := ?_) (a' := ?_) #[I, I, I, I, I, O, O, O, O, I] rfl rfl (any_of HT_.out (by kernel_rfl)) (fun _ _ _ h => h) (Or.inl ⟨by rfl, ?_⟩) ?_ ?_
   rotate_left; · intro w'; go_simp; with_reducible rfl
   rotate_left; · simp only [pk, i64_w, i32_w]; rfl
   refine pure_ (i := 5) (N := some 43) (v := ?_) (a' := ?_) #[I, I, I, I, I, I, O, O, O, I] rfl rfl (any_of HT_.out (by kernel_rfl)) (fun _ _ _ h => h) (Or.inl ⟨by rfl, ?_⟩) ?_ ?_
   rotate_left; · intro w'; go_simp; with_reducible rfl
   rotate_left; · simp only [pk, i64_w, i32_w]; rfl
   refine take_ (i := 6) (N := some 44) (v := ?_) (a' := ?_) #[I, I, I, I, I, I, I, O, O, I] rfl rfl (take_ofW HT_.out HW_.out (by kernel_rfl)) (fun _ _ _ h => h) (Or.inl ⟨by rfl, ?_⟩) hHeld ?_ ?_
   rotate_left; · rintro w' ⟨s0, s1, s2, s3, s4, s5, s6⟩; go_simp; with_reducible rfl
   rotate_left; · simp only [pk, i64_w, i32_w]; rfl
   refine one_ (i := 7) (N := some 45) #[I, I, I, I, I, I, I, I, O, I] rfl rfl (one_of HT_.out (by kernel_rfl)) (by decide) (fun K hK => ?_)
   refine goes_ Tryz.func25 (by kernel_rfl) rfl #[.agg #[.slice A0_0 l0_0.length c0_0, .slice (some ad338) l0_1.length c0_1], .int .i64 ((rd_T56 l0_1 a1).f3)] (by rfl) rfl rfl (by (try simp only [lm]); first | done | rfl | (simp only [List.length_drop, List.length_take]; rfl)) ?_
   with_reducible refine (impl_Under.calls k1 _ _ l0_0 _ _ l0_1 ((rd_T56 l0_1 a1).f3) t345 _ ?side1 ?side2 ?side3 ?side4 A19.out).mono ?_
   (case side1 => exact Kd.C_below HR0_0.out (be w))
   (case side2 => exact HC0_0.out)
   (case side3 => exact Kd.C_below HR0_1.out (be w))
   (case side4 => exact HC0_1.out)
   rintro e w21 ⟨v346, rfl, ho0, hb⟩
   refine ⟨_, rfl, ?_⟩
   replace HO_5 := As.mk (Kd.R_below (by (with_reducible repeat (first | apply Kd.R_alloc | apply Kd.R_drewN | apply Kd.R_drew)); exact HO_5.out) hb)
   have HO347 := As.mk (Kd.R_lower ho0 (below_size (be w)))
   replace BK336 := As.mk (blk_below (bx BK336.out) hb)
   replace HB := As.mk (below_step (be w) hb)
   (try clear hb)
   (try clear hb2)
   (try clear hk)
   (try clear hi)
   (try clear ho0)
   obtain ⟨Ao22, co22, eo22⟩ := Kd.R_slice HO347.out
   (first | subst eo22 | (injection eo22 with f1_ f2_ f3_; have f4_ := f1_.symm; have f5_ := f3_.symm; clear f1_ f2_ f3_; subst f4_; subst f5_))
   refine hK.out _ _ ⟨(blk_cell BK336.out 0).trans rfl, (blk_cell BK336.out 1).trans rfl, (ce HB.out hw344_0 :), (ce HB.out hw344_1 :), (ce HB.out hw344_2 :), (ce HB.out hw344_3 :), (ce HB.out hw344_4 :)⟩ (fun hHeld => ?_)
   clear hK K
   refine norm_ (a' := ?_) ?_ ?_
   rotate_left
   ·
    show Act.put _ (some 45) _ = _
    simp only [pk, i64_w, i32_w]
    rfl
   refine pure_ (i := 8) (N := some 46) (v := ?_) (a' := ?_) #[I, I, I, I, I, I, I, I, I, I] rfl rfl (any_of HT_.out (by kernel_rfl)) (fun _ _ _ h => h) (Or.inl ⟨by rfl, ?_⟩) ?_ ?_
   rotate_left; · intro w'; go_simp; with_reducible rfl
   rotate_left; · simp only [pk, i64_w, i32_w]; rfl
   refine done_ (done_of HT_.out (by kernel_rfl)) ?_
   try go_wp2
   go_loopg [5, 47] k1 (fun kq v5 v47 w' => ∃ (x5_2 : List (S60)) (x47_2 : Int), v47 = .int .i64 x47_2 ∧ As (impl_VarsOf.l1 kq x5_2 t345 (t345.length : Int) x47_2 l0_0 l0_1 = some r) ∧ As (kq ≤ k1) ∧ As (Kd.R k60 60 w' w.heap.size (fun _ => True) v5 x5_2) ∧ As (Kd.R (Kd.int .i64) 3 w' w.heap.size (fun _ => True) (.slice Ao22 t345.length co22) t345) ∧ As (w'.heap[gb336]? = some (.cells #[(.slice A0_0 l0_0.length c0_0), (.slice (some ad338) l0_1.length c0_1)] 32 (0, 0))) ∧ As (Below w.heap.size w w'))
   case atStart => exact ⟨(x5_1), (0), (by first | rfl | (simp; done) | (simp [*]; done)), H', ⟨Nat.le_refl _⟩, ⟨by (with_reducible repeat (first | apply Kd.R_alloc | apply Kd.R_drewN | apply Kd.R_drew)); exact HO_5.out⟩, ⟨by (with_reducible repeat (first | apply Kd.R_alloc | apply Kd.R_drewN | apply Kd.R_drew)); exact HO347.out⟩, ⟨bx BK336.out⟩, ⟨be w⟩⟩
   case round =>
    clear H'
    (try clear c4); (try clear c5); (try clear c5b0); (try clear c6); (try clear c6b0); (try clear c9); (try clear c9b0); (try clear c17); (try clear c17b0); (try clear c18); (try clear c18b0); (try clear hcz8_0); (try clear hcz8_1); (try clear hfz8_0); (try clear hfz8_1); (try clear hx338_0); (try clear hx338_1); (try clear hx338_2); (try clear hx338_3); (try clear hx338_4); (try clear hx344_0); (try clear hx344_1); (try clear hx344_2); (try clear hx344_3); (try clear hx344_4); (try clear p338); (try clear p344); (try clear q338); (try clear q344)
    obtain ⟨x5_2, x47_2, rfl, HA, HK2, HO_5, HO_45, BK336, HB⟩ := hrel
    cases gk with
    | zero => exact absurd HA.out (by simp [impl_VarsOf.l1])
    | succ k2 =>
     have H := HA.out
     clear HA
     simp only [impl_VarsOf.l1] at H
     by_cases c23 : x47_2 < (t345.length : Int)
     rotate_left
     ·
      rw [if_neg c23] at H
      have c23b0 : decide (x47_2 < (t345.length : Int)) = false := decide_eq_false c23
      clear c23
      obtain rfl := Option.some.inj H
      go_wp2
      go_ret
      exact ⟨_, ez, by (with_reducible repeat (first | apply Kd.R_alloc | apply Kd.R_drewN | apply Kd.R_drew)); exact HO_5.out, be w⟩
     rw [if_pos c23] at H
     have c23b0 : decide (x47_2 < (t345.length : Int)) = true := decide_eq_true c23
     clear c23
     by_cases c24 : 0 ≤ x47_2
     rotate_left; · rw [if_neg c24] at H; exact absurd H (by simp)
     rw [if_pos c24] at H
     have c24b0 : decide (0 ≤ x47_2) = true := decide_eq_true c24
     clear c24
     by_cases c25 : x47_2 < (t345.length : Int)
     rotate_left; · rw [if_neg c25] at H; exact absurd H (by simp)
     rw [if_pos c25] at H
     have c25b0 : decide (x47_2 < (t345.length : Int)) = true := decide_eq_true c25
     clear c25
     by_cases c26 : 0 ≤ (rd t345 x47_2)
     rotate_left; · rw [if_neg c26] at H; exact absurd H (by simp)
     rw [if_pos c26] at H
     have c26b0 : decide (0 ≤ (rd t345 x47_2)) = true := decide_eq_true c26
     clear c26
     by_cases c27 : (rd t345 x47_2) < (l0_0.length : Int)
     rotate_left; · rw [if_neg c27] at H; exact absurd H (by simp)
     rw [if_pos c27] at H
     have c27b0 : decide ((rd t345 x47_2) < (l0_0.length : Int)) = true := decide_eq_true c27
     clear c27
     by_cases c28 : ((rd_T62 l0_0 (rd t345 x47_2)).f0) = 13
     rotate_left
     ·
      rw [if_neg c28] at H
      have c28b0 : (((rd_T62 l0_0 (rd t345 x47_2)).f0) == 13) = false := beq_eq_false_iff_ne.mpr c28
      have c28b1 : (((rd_T62 l0_0 (rd t345 x47_2)).f0) != 13) = true := bne_iff_ne.mpr c28
      have H' := As.mk H
      clear H
      have p348 : 0 ≤ (x47_2 : Int) := od
      have q348 : x47_2 < (t345.length : Int) := od
      obtain ⟨ad348, e348, hx348_0⟩ := Kd.at_int (Kd.R_reads' HO_45.out).2.2 x47_2 p348 q348
      cases e348
      replace p348 := eq_true p348
      replace q348 := eq_true q348
      obtain ⟨hcz35_0, hcz35_1, hfz35_0, hfz35_1⟩ := cl2 BK336.out
      have p349 : 0 ≤ ((rd t345 x47_2) : Int) := od
      have q349 : (rd t345 x47_2) < (l0_0.length : Int) := od
      obtain ⟨ad349, A349_3, c349_3, e349, hx349_0, hx349_1, hx349_2, hx349_3, hl349_3, hi349_3⟩ := at_T62 HR0_0.out (rd t345 x47_2) p349 q349
      cases e349
      replace hx349_0 := ce HB.out hx349_0
      replace hx349_1 := ce HB.out hx349_1
      replace hx349_2 := ce HB.out hx349_2
      replace hx349_3 := ce HB.out hx349_3
      have HR349_3 := As.mk hi349_3
      have HC349_3 := As.mk hl349_3
      clear hi349_3 hl349_3
      replace p349 := eq_true p349
      replace q349 := eq_true q349
      go_wp2_with (first | ((with_reducible refine gate_dst (N := 10) rfl ?_); refine box_event ?hg (N := 10) ?hd (cs := #[.int .i64 0, .int .i64 0, .string (⟨#[]⟩ : ByteArray), .slice none 0 0]) (t := 62) ?hr ?_; (case hd => rfl); (case hg => rfl); (case hr => first | (go_simp; done) | (go_simp; rfl)); intro gb350 hg w36 hbox hb; replace HO_5 := As.mk (Kd.R_below (by (with_reducible repeat (first | apply Kd.R_alloc | apply Kd.R_drewN | apply Kd.R_drew)); exact HO_5.out) hb); replace HO_45 := As.mk (Kd.R_below (by (with_reducible repeat (first | apply Kd.R_alloc | apply Kd.R_drewN | apply Kd.R_drew)); exact HO_45.out) hb); have BK350 := As.mk (hbox); have GW350 := As.mk (gs w hg); have GE350 := As.mk (gs w hg); replace HB := As.mk (below_step (be w) hb); have NB336_350 := As.mk (nl hg (bx BK336.out)); have NB350_336 := As.mk (ng hg (bx BK336.out)); replace BK336 := As.mk (blk_below (bx BK336.out) hb); clear hb hbox hg; have hnb37 := NB350_336.out; have hnc37 := NB336_350.out; obtain ⟨hcz38_0, hcz38_1, hcz38_2, hcz38_3, hfz38_0, hfz38_1, hfz38_2, hfz38_3⟩ := cl4 BK350.out))
      go_roundg k2
      case measure => have := HK1.out; have := HK2.out; omega
      case rel => exact ⟨(x5_2), (wrap64 (x47_2 + 1)), (by first | rfl | (simp; done) | (simp [*]; done)), H', ⟨by have := HK1.out; have := HK2.out; omega⟩, ⟨by (with_reducible repeat (first | apply Kd.R_alloc | apply Kd.R_drewN | apply Kd.R_drew)); exact Kd.R_mono (Kd.R_far (p := ⟨gb350, 3, none⟩) (Kd.R_far (p := ⟨gb350, 2, none⟩) (Kd.R_far (p := ⟨gb350, 1, none⟩) (Kd.R_far (p := ⟨gb350, 0, none⟩) (Kd.R_types HO_5.out BK350.out (by decide)) (fun _ hk => hk.2) (.int .i64 ((rd_T62 l0_0 (rd t345 x47_2)).f0))) (fun _ hk => hk.2) (.int .i64 ((rd_T62 l0_0 (rd t345 x47_2)).f1))) (fun _ hk => hk.2) (.string ((rd_T62 l0_0 (rd t345 x47_2)).f2))) (fun _ hk => hk.2) (.slice A349_3 ((rd_T62 l0_0 (rd t345 x47_2)).f3).length c349_3)) (fun _ hk => trivial)⟩, ⟨by (with_reducible repeat (first | apply Kd.R_alloc | apply Kd.R_drewN | apply Kd.R_drew)); exact Kd.R_mono (Kd.R_far (p := ⟨gb350, 3, none⟩) (Kd.R_far (p := ⟨gb350, 2, none⟩) (Kd.R_far (p := ⟨gb350, 1, none⟩) (Kd.R_far (p := ⟨gb350, 0, none⟩) (Kd.R_types HO_45.out BK350.out (by decide)) (fun _ hk => hk.2) (.int .i64 ((rd_T62 l0_0 (rd t345 x47_2)).f0))) (fun _ hk => hk.2) (.int .i64 ((rd_T62 l0_0 (rd t345 x47_2)).f1))) (fun _ hk => hk.2) (.string ((rd_T62 l0_0 (rd t345 x47_2)).f2))) (fun _ hk => hk.2) (.slice A349_3 ((rd_T62 l0_0 (rd t345 x47_2)).f3).length c349_3)) (fun _ hk => trivial)⟩, ⟨by refine pl ?_; refine blk_far ?_ NB336_350.out _; refine pl ?_; refine blk_far ?_ NB336_350.out _; refine pl ?_; refine blk_far ?_ NB336_350.out _; refine pl ?_; refine blk_far ?_ NB336_350.out _; exact bx BK336.out⟩, ⟨be w⟩⟩
     rw [if_pos c28] at H
     have c28b0 : (((rd_T62 l0_0 (rd t345 x47_2)).f0) == 13) = true := beq_iff_eq.mpr c28
     have c28b1 : (((rd_T62 l0_0 (rd t345 x47_2)).f0) != 13) = false := bne_eq_false_iff_eq.mpr c28
     clear c28
     by_cases c29 : x5_2.length < 4398046511104
     rotate_left; · rw [if_neg c29] at H; exact absurd H (by simp)
     rw [if_pos c29] at H
     have LMc29 := As.mk c29
     clear c29
     obtain ⟨y351, hy351⟩ : ∃ y_ : List (S60), y_ = (x5_2 ++ [(⟨(rd_T62 l0_0 (rd t345 x47_2)).f2, 0, rd t345 x47_2⟩ : S60)]) := ⟨_, rfl⟩
     replace H : (impl_VarsOf.l1 k2 y351 t345 (t345.length : Int) (wrap64 (x47_2 + 1)) l0_0 l0_1) = some r := by first | (rw [hy351]; with_reducible exact H) | (have H2_ := (Option.bind_some _ _).symm.trans H; rw [hy351]; with_reducible exact H2_) | (have H2_ := (Option.bind_some _ _).symm.trans H; with_reducible exact H2_) | with_reducible exact H | (rw [hy351]; exact H) | exact H
     have Ny351 := As.mk hy351
     clear hy351
     have H' := As.mk H
     clear H
     have p348 : 0 ≤ (x47_2 : Int) := od
     have q348 : x47_2 < (t345.length : Int) := od
     obtain ⟨ad348, e348, hx348_0⟩ := Kd.at_int (Kd.R_reads' HO_45.out).2.2 x47_2 p348 q348
     cases e348
     replace p348 := eq_true p348
     replace q348 := eq_true q348
     obtain ⟨hcz30_0, hcz30_1, hfz30_0, hfz30_1⟩ := cl2 BK336.out
     have p349 : 0 ≤ ((rd t345 x47_2) : Int) := od
     have q349 : (rd t345 x47_2) < (l0_0.length : Int) := od
     obtain ⟨ad349, A349_3, c349_3, e349, hx349_0, hx349_1, hx349_2, hx349_3, hl349_3, hi349_3⟩ := at_T62 HR0_0.out (rd t345 x47_2) p349 q349
     cases e349
     replace hx349_0 := ce HB.out hx349_0
     replace hx349_1 := ce HB.out hx349_1
     replace hx349_2 := ce HB.out hx349_2
     replace hx349_3 := ce HB.out hx349_3
     have HR349_3 := As.mk hi349_3
     have HC349_3 := As.mk hl349_3
     clear hi349_3 hl349_3
     replace p349 := eq_true p349
     replace q349 := eq_true q349
     go_wp2_with (first | ((with_reducible refine gate_dst (N := 10) rfl ?_); refine box_event ?hg (N := 10) ?hd (cs := #[.int .i64 0, .int .i64 0, .string (⟨#[]⟩ : ByteArray), .slice none 0 0]) (t := 62) ?hr ?_; (case hd => rfl); (case hg => rfl); (case hr => first | (go_simp; done) | (go_simp; rfl)); intro gb350 hg w31 hbox hb; replace HO_5 := As.mk (Kd.R_below (by (with_reducible repeat (first | apply Kd.R_alloc | apply Kd.R_drewN | apply Kd.R_drew)); exact HO_5.out) hb); replace HO_45 := As.mk (Kd.R_below (by (with_reducible repeat (first | apply Kd.R_alloc | apply Kd.R_drewN | apply Kd.R_drew)); exact HO_45.out) hb); have BK350 := As.mk (hbox); have GW350 := As.mk (gs w hg); have GE350 := As.mk (gs w hg); replace HB := As.mk (below_step (be w) hb); have NB336_350 := As.mk (nl hg (bx BK336.out)); have NB350_336 := As.mk (ng hg (bx BK336.out)); replace BK336 := As.mk (blk_below (bx BK336.out) hb); clear hb hbox hg; have hnb32 := NB350_336.out; have hnc32 := NB336_350.out; obtain ⟨hcz33_0, hcz33_1, hcz33_2, hcz33_3, hfz33_0, hfz33_1, hfz33_2, hfz33_3⟩ := cl4 BK350.out) | ((with_reducible refine gate_builtin (b := .append) (xs := #[.tmp 59, .tmp 64]) rfl ?_); at_builtin; refine Kd.R_append k60 (w0 := w) w.heap.size rfl (.tmp 59) (.tmp 64) 27 60 (.agg #[(.string ⟨#[]⟩), (.int .i64 0), (.int .i64 0)]) 32 rfl Tryz.underlying27 info60 rfl (by decide) (by omega) u5 x5_2 (⟨(rd_T62 l0_0 (rd t345 x47_2)).f2, 0, rd t345 x47_2⟩ : S60) [.string ((rd_T62 l0_0 (rd t345 x47_2)).f2), .int .i64 0, .int .i64 (rd t345 x47_2)] (fun _ => True) (fun _ => False) rfl (by first | (go_simp; done) | (go_simp; rfl)) ?aP (fun _ hk => hk.elim) ?aF ?aO ?aB ?aS ?aL ?_; (case aP => exact k60_mkM _ _ _ (⟨(rd_T62 l0_0 (rd t345 x47_2)).f2, 0, rd t345 x47_2⟩ : S60)); (case aB => exact (be w)); (case aF => exact (fun _ _ => trivial)); (case aO => exact (by (with_reducible repeat (first | apply Kd.R_alloc | apply Kd.R_drewN | apply Kd.R_drew)); exact Kd.R_mono (Kd.R_far (p := ⟨gb350, 3, none⟩) (Kd.R_far (p := ⟨gb350, 2, none⟩) (Kd.R_far (p := ⟨gb350, 1, none⟩) (Kd.R_far (p := ⟨gb350, 0, none⟩) (Kd.R_types HO_5.out BK350.out (by decide)) (fun _ hk => hk.2) (.int .i64 ((rd_T62 l0_0 (rd t345 x47_2)).f0))) (fun _ hk => hk.2) (.int .i64 ((rd_T62 l0_0 (rd t345 x47_2)).f1))) (fun _ hk => hk.2) (.string ((rd_T62 l0_0 (rd t345 x47_2)).f2))) (fun _ hk => hk.2) (.slice A349_3 ((rd_T62 l0_0 (rd t345 x47_2)).f3).length c349_3)) (fun _ hk => trivial))); (case aS => exact (below_size (be w))); (case aL => have := LMc29.out; omega); intro v352 w34 ho hb hg hat; rw [← Ny351.out] at ho; replace HO_45 := As.mk (Kd.R_over' (by (with_reducible repeat (first | apply Kd.R_alloc | apply Kd.R_drewN | apply Kd.R_drew)); (have z_ := R_far4 HO_45.out BK350.out (by decide)); with_reducible exact z_ _ _ _ _) (Kd.R_typed (by (with_reducible repeat (first | apply Kd.R_alloc | apply Kd.R_drewN | apply Kd.R_drew)); (have z_ := R_far4 HO_5.out BK350.out (by decide)); with_reducible exact z_ _ _ _ _)) (by decide) hg); replace BK336 := As.mk (blk_grown (g := gb336) (o := .cells #[.slice (some ad349) l0_0.length c0_0, .slice (some ad338) l0_1.length c0_1] 32 (0, 0)) (by refine pl ?_; refine blk_far ?_ NB336_350.out _; refine pl ?_; refine blk_far ?_ NB336_350.out _; refine pl ?_; refine blk_far ?_ NB336_350.out _; refine pl ?_; refine blk_far ?_ NB336_350.out _; exact bx BK336.out) hg (Kd.R_ne HO_5.out BK336.out (by decide))); replace BK350 := As.mk (blk_grown (g := gb350) (o := .cells #[.int .i64 ((rd_T62 l0_0 (rd t345 x47_2)).f0), .int .i64 ((rd_T62 l0_0 (rd t345 x47_2)).f1), .string ((rd_T62 l0_0 (rd t345 x47_2)).f2), .slice A349_3 ((rd_T62 l0_0 (rd t345 x47_2)).f3).length c349_3] 62 (0, 0)) (by refine pl ?_; refine blk_put (cs := #[.int .i64 ((rd_T62 l0_0 (rd t345 x47_2)).f0), .int .i64 ((rd_T62 l0_0 (rd t345 x47_2)).f1), .string ((rd_T62 l0_0 (rd t345 x47_2)).f2), .slice none 0 0]) ?_ 3 _ rfl; refine pl ?_; refine blk_put (cs := #[.int .i64 ((rd_T62 l0_0 (rd t345 x47_2)).f0), .int .i64 ((rd_T62 l0_0 (rd t345 x47_2)).f1), .string (⟨#[]⟩ : ByteArray), .slice none 0 0]) ?_ 2 _ rfl; refine pl ?_; refine blk_put (cs := #[.int .i64 ((rd_T62 l0_0 (rd t345 x47_2)).f0), .int .i64 0, .string (⟨#[]⟩ : ByteArray), .slice none 0 0]) ?_ 1 _ rfl; refine pl ?_; refine blk_put (cs := #[.int .i64 0, .int .i64 0, .string (⟨#[]⟩ : ByteArray), .slice none 0 0]) ?_ 0 _ rfl; exact bx BK350.out) hg (Kd.R_ne HO_5.out BK350.out (by decide))); replace HB := As.mk (hb); have HO353 := As.mk (ho); clear HO_5; clear ho hb hg hat))
     go_roundg k2
     case measure => have := HK1.out; have := HK2.out; omega
     case rel => exact ⟨(y351), (wrap64 (x47_2 + 1)), (by first | rfl | (simp; done) | (simp [*]; done)), H', ⟨by have := HK1.out; have := HK2.out; omega⟩, ⟨by (with_reducible repeat (first | apply Kd.R_alloc | apply Kd.R_drewN | apply Kd.R_drew)); exact HO353.out⟩, ⟨by (with_reducible repeat (first | apply Kd.R_alloc | apply Kd.R_drewN | apply Kd.R_drew)); exact HO_45.out⟩, ⟨bx BK336.out⟩, ⟨be w⟩⟩
end Go.Proofs.YtcoapbnbakmkoaaGreatDoor.PFnExactVarsOf
