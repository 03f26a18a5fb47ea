/- Written by a program of this session (a turned copy of the kit's print): a contract for each Go function. No condition beside those in each statement. -/
import Derived.Test.YtcoapbnbakmkoaaGreatDoorPFnExactUsesOfx0
import Derived.Test.YtcoapbnbakmkoaaGreatDoorPFnExactUsesOfx10
import Derived.Test.YtcoapbnbakmkoaaGreatDoorPFnExactUsesOfx12
namespace Go.Proofs.YtcoapbnbakmkoaaGreatDoor.PFnExactUsesOf
open Go.RowKit Go.Proofs.YtcoapbnbakmkoaaGreatDoor.Given Go.Proofs.YtcoapbnbakmkoaaGreatDoorW.PrintWords Go.Proofs.YtcoapbnbakmkoaaGreatDoorW.PrintLast Go.Proofs.YtcoapbnbakmkoaaGreatDoorW.PrintMore
attribute [local go_sem] max2_int min2_int max_two min_two max_three min_three max_four min_four   -- for this text's walks alone
set_option linter.unusedVariables false
set_option linter.unusedSimpArgs false

/-! ### impl_depths: function 73 -/
mutual
def impl_depths.l0 : Nat → List (S62) → Int → List Int → Int → Option (List Int × Bool)
 | 0, _, _, _, _ => none
 | k + 1, x0, x1, x6, x7 => if x7 ≤ x1 then ((impl_NodeOk.f k x0 x7).bind fun t359 => (if t359 = true then (if 0 ≤ x7 then (if x7 < (x0.length : Int) then (impl_depths.l1 k x0 x1 x6 x7 1 ((rd_T62 x0 x7).f3) (((rd_T62 x0 x7).f3).length : Int) 0) else (none)) else (none)) else (some (([] : List Int), false)))) else (some (x6, true))
def impl_depths.l1 : Nat → List (S62) → Int → List Int → Int → Int → List Int → Int → Int → Option (List Int × Bool)
 | 0, _, _, _, _, _, _, _, _ => none
 | k + 1, x0, x1, x6, x7, x8, x30, x31, x32 => if x32 < x31 then (if 0 ≤ x32 then (if x32 < (x30.length : Int) then (if 0 ≤ (rd x30 x32) then (if (rd x30 x32) < (x6.length : Int) then (impl_depths.l1 k x0 x1 x6 x7 (mx x8 (wrap64 ((rd x6 (rd x30 x32)) + 1))) x30 x31 (wrap64 (x32 + 1))) else (none)) else (none)) else (none)) else (none)) else (if x8 > 10 then (some (([] : List Int), false)) else (if x6.length < 17592186044416 then (impl_depths.l0 k x0 x1 (x6 ++ [x8]) (wrap64 (x7 + 1))) else (none)))
end
def impl_depths.f (k : Nat) (l0 : List (S62)) (a1 : Int) : Option (List Int × Bool) := (impl_in.f a1 0 (wrap64 ((l0.length : Int) - 1))).bind fun t358 => (if t358 = true then (impl_depths.l0 k l0 a1 ([] : List Int) 0) else (some (([] : List Int), false)))
theorem impl_depths.mono_l : ∀ k, (∀ y0 y1 y2 y3, LeO (impl_depths.l0 k y0 y1 y2 y3) (impl_depths.l0 (k + 1) y0 y1 y2 y3)) ∧ (∀ y0 y1 y2 y3 y4 y5 y6 y7, LeO (impl_depths.l1 k y0 y1 y2 y3 y4 y5 y6 y7) (impl_depths.l1 (k + 1) y0 y1 y2 y3 y4 y5 y6 y7))
 | 0 => ⟨fun _ _ _ _ r h => by simp [impl_depths.l0] at h, fun _ _ _ _ _ _ _ _ r h => by simp [impl_depths.l1] at h⟩
 | k + 1 => by
  obtain ⟨ih0, ih1⟩ := impl_depths.mono_l k
  refine ⟨?_, ?_⟩
  ·
   intro y0 y1 y2 y3
   unfold impl_depths.l0
   with_reducible repeat' first | exact ih0 _ _ _ _ | exact ih1 _ _ _ _ _ _ _ _ | exact impl_NodeOk.mono _ _ _ | exact LeO.refl _ | exact LeO.none _ | refine LeO.ite ?_ ?_ | refine LeO.bind ?_ (fun _ => ?_)
  ·
   intro y0 y1 y2 y3 y4 y5 y6 y7
   unfold impl_depths.l1
   with_reducible repeat' first | exact ih0 _ _ _ _ | exact ih1 _ _ _ _ _ _ _ _ | exact impl_NodeOk.mono _ _ _ | exact LeO.refl _ | exact LeO.none _ | refine LeO.ite ?_ ?_ | refine LeO.bind ?_ (fun _ => ?_)
theorem impl_depths.mono : ∀ a0 a1 k, LeO (impl_depths.f k a0 a1) (impl_depths.f (k + 1) a0 a1) := by
 intro a0 a1 k
 obtain ⟨ih0, ih1⟩ := impl_depths.mono_l k
 unfold impl_depths.f
 with_reducible repeat' first | exact ih0 _ _ _ _ | exact ih1 _ _ _ _ _ _ _ _ | exact impl_NodeOk.mono _ _ _ | exact LeO.refl _ | exact LeO.none _ | refine LeO.ite ?_ ?_ | refine LeO.bind ?_ (fun _ => ?_)
set_option maxHeartbeats 8000000 in
set_option maxRecDepth 100000 in
theorem impl_depths.calls (k : Nat) (A0 : Option Addr) (c0 : Nat) (l0 : List (S62)) (a1 : Int) (r1 : List Int) (r2 : Bool) (w : World) (hr0 : Kd.C k62 w A0 l0.length l0) (hc0 : l0.length ≤ c0) (h : impl_depths.f k l0 a1 = some (r1, r2)) :
  Calls Tryz.prog 73 #[.slice A0 l0.length c0, .int .i64 a1] w fun e w' => ∃ v0_ : Value, e = .returned (.tuple #[v0_, .bool r2]) ∧ Kd.R (Kd.int .i64) 3 w' w.heap.size (fun _ => True) v0_ r1 ∧ Below w.heap.size w w' := by
 have HR0 := As.mk hr0
 have HC0 := As.mk hc0
 clear hr0 hc0
 have HB := As.mk (Below.refl w.heap.size w)
 have H : ((impl_in.f a1 0 (wrap64 ((l0.length : Int) - 1))).bind fun t358 => (if t358 = true then (impl_depths.l0 k l0 a1 ([] : List Int) 0) else (some (([] : List Int), false)))) = some (r1, r2) := h
 clear h
 obtain ⟨t358, A30, H⟩ := Option.bind_eq_some_iff.mp H
 try dsimp only at H
 have A3 := As.mk A30
 clear A30
 by_cases c4 : t358 = true
 rotate_left
 ·
  replace c4 := Bool.eq_false_iff.mpr c4
  subst c4
  rw [if_neg (show ¬ (false = true) by decide)] at H
  simp only [Option.some.injEq, Prod.mk.injEq] at H
  obtain ⟨rfl, rfl⟩ := H
  go_enter Tryz.func73, Tryz.ntmps73
  go_wp2_with (first | ((with_reducible refine gate_callee (f := 36) rfl ?_); refine goesL_ (some 15) rfl rfl Tryz.func36 (by kernel_rfl) rfl #[.int .i64 a1, .int .i64 0, .int .i64 (wrap64 ((l0.length : Int) - 1))] rfl (by (try simp only [lm]); first | done | rfl | (simp only [List.length_drop, List.length_take]; rfl)) ?_; (with_reducible refine (impl_in.calls a1 0 (wrap64 ((l0.length : Int) - 1)) false _ A3.out).mono ?_); rintro e w' ⟨rfl, ⟨nd, rfl⟩⟩; refine ⟨_, rfl, ?_⟩))
  go_ret2
  exact ⟨_, ez, by first | exact Kd.R_nil _ _ _ _ _ | exact Kd.N_nil _ _ _ _ _ | exact Kd.V_nil _ _ _ _ _ | exact Kd.Q_nil _ _ _ _ _ | exact Kd.S_nil _ _ _ _ _, be w⟩

 subst c4
 rw [if_pos rfl] at H
 have H' := As.mk H
 clear H
 go_enter Tryz.func73, Tryz.ntmps73
 go_wp2_with (first | ((with_reducible refine gate_callee (f := 36) rfl ?_); refine goesL_ (some 15) rfl rfl Tryz.func36 (by kernel_rfl) rfl #[.int .i64 a1, .int .i64 0, .int .i64 (wrap64 ((l0.length : Int) - 1))] rfl (by (try simp only [lm]); first | done | rfl | (simp only [List.length_drop, List.length_take]; rfl)) ?_; (with_reducible refine (impl_in.calls a1 0 (wrap64 ((l0.length : Int) - 1)) true _ A3.out).mono ?_); rintro e w' ⟨rfl, ⟨nd, rfl⟩⟩; refine ⟨_, rfl, ?_⟩))
 (try simp only [pk])
 go_loopg [6, 7] k (fun kq v6 v7 w' => ∃ (x6_1 : List Int) (x7_1 : Int), v7 = .int .i64 x7_1 ∧ As (impl_depths.l0 kq l0 a1 x6_1 x7_1 = some (r1, r2)) ∧ As (kq ≤ k) ∧ As (Kd.R (Kd.int .i64) 3 w' w.heap.size (fun _ => True) v6 x6_1) ∧ As (Below w.heap.size w w'))
 case atStart => exact ⟨(([] : List Int)), (0), (by first | rfl | (simp; done) | (simp [*]; done)), H', ⟨Nat.le_refl _⟩, ⟨by first | exact Kd.R_nil _ _ _ _ _ | exact Kd.N_nil _ _ _ _ _ | exact Kd.V_nil _ _ _ _ _ | exact Kd.Q_nil _ _ _ _ _ | exact Kd.S_nil _ _ _ _ _⟩, ⟨be w⟩⟩
 case round =>
  clear H'
  (try clear c4)
  obtain ⟨x6_1, x7_1, rfl, HA, HK1, HO_6, HB⟩ := hrel
  cases gk with
  | zero => exact absurd HA.out (by simp [impl_depths.l0])
  | succ k1 =>
   have H := HA.out
   clear HA
   simp only [impl_depths.l0] at H
   by_cases c5 : x7_1 ≤ a1
   rotate_left
   ·
    rw [if_neg c5] at H
    have c5b0 : decide (x7_1 ≤ a1) = false := decide_eq_false c5
    clear c5
    simp only [Option.some.injEq, Prod.mk.injEq] at H
    obtain ⟨rfl, rfl⟩ := H
    go_wp2
    go_ret2
    exact ⟨_, ez, by (with_reducible repeat (first | apply Kd.R_alloc | apply Kd.R_drewN | apply Kd.R_drew)); exact HO_6.out, be w⟩
   rw [if_pos c5] at H
   have c5b0 : decide (x7_1 ≤ a1) = true := decide_eq_true c5
   clear c5
   obtain ⟨t359, A60, H⟩ := Option.bind_eq_some_iff.mp H
   try dsimp only at H
   have A6 := As.mk A60
   clear A60
   by_cases c7 : t359 = true
   rotate_left
   ·
    replace c7 := Bool.eq_false_iff.mpr c7
    subst c7
    rw [if_neg (show ¬ (false = true) by decide)] at H
    simp only [Option.some.injEq, Prod.mk.injEq] at H
    obtain ⟨rfl, rfl⟩ := H
    go_wp2_with (first | ((with_reducible refine gate_callee (f := 96) rfl ?_); refine goesL_ (some 24) rfl rfl Tryz.func96 (by kernel_rfl) rfl #[.slice A0 l0.length c0, .int .i64 x7_1] rfl (by (try simp only [lm]); first | done | rfl | (simp only [List.length_drop, List.length_take]; rfl)) ?_; (with_reducible refine (impl_NodeOk.calls k1 _ _ l0 x7_1 false _ ?side1 ?side2 A6.out).mono ?_); (case side1 => exact Kd.C_below HR0.out (be w)); (case side2 => exact HC0.out); rintro e w21 ⟨rfl, hb⟩; refine ⟨_, rfl, ?_⟩; replace HB := As.mk (below_step (be w) hb); (try clear hb); (try clear hb2); (try clear hk); (try clear hi)))
    go_ret2
    exact ⟨_, ez, by first | exact Kd.R_nil _ _ _ _ _ | exact Kd.N_nil _ _ _ _ _ | exact Kd.V_nil _ _ _ _ _ | exact Kd.Q_nil _ _ _ _ _ | exact Kd.S_nil _ _ _ _ _, be w⟩
   subst c7
   rw [if_pos rfl] at H
   by_cases c8 : 0 ≤ x7_1
   rotate_left; · rw [if_neg c8] at H; exact absurd H (by simp)
   rw [if_pos c8] at H
   have c8b0 : decide (0 ≤ x7_1) = true := decide_eq_true c8
   clear c8
   by_cases c9 : x7_1 < (l0.length : Int)
   rotate_left; · rw [if_neg c9] at H; exact absurd H (by simp)
   rw [if_pos c9] at H
   have c9b0 : decide (x7_1 < (l0.length : Int)) = true := decide_eq_true c9
   clear c9
   have H' := As.mk H
   clear H
   go_wp2_with (first | ((with_reducible refine gate_callee (f := 96) rfl ?_); refine goesL_ (some 24) rfl rfl Tryz.func96 (by kernel_rfl) rfl #[.slice A0 l0.length c0, .int .i64 x7_1] rfl (by (try simp only [lm]); first | done | rfl | (simp only [List.length_drop, List.length_take]; rfl)) ?_; (with_reducible refine (impl_NodeOk.calls k1 _ _ l0 x7_1 true _ ?side1 ?side2 A6.out).mono ?_); (case side1 => exact Kd.C_below HR0.out (be w)); (case side2 => exact HC0.out); rintro e w10 ⟨rfl, hb⟩; refine ⟨_, rfl, ?_⟩; replace HO_6 := As.mk (Kd.R_below (by (with_reducible repeat (first | apply Kd.R_alloc | apply Kd.R_drewN | apply Kd.R_drew)); exact HO_6.out) hb); replace HB := As.mk (below_step (be w) hb); (try clear hb); (try clear hb2); (try clear hk); (try clear hi); have p360 : 0 ≤ (x7_1 : Int) := od; have q360 : x7_1 < (l0.length : Int) := od; obtain ⟨ad360, A360_3, c360_3, e360, hx360_0, hx360_1, hx360_2, hx360_3, hl360_3, hi360_3⟩ := at_T62 HR0.out x7_1 p360 q360; cases e360; replace hx360_0 := ce HB.out hx360_0; replace hx360_1 := ce HB.out hx360_1; replace hx360_2 := ce HB.out hx360_2; replace hx360_3 := ce HB.out hx360_3; have HR360_3 := As.mk hi360_3; have HC360_3 := As.mk hl360_3; clear hi360_3 hl360_3; replace p360 := eq_true p360; replace q360 := eq_true q360))
   (try simp only [pk])
   go_loopg [8, 32] k1 (fun kq v8 v32 w' => ∃ (x8_2 : Int) (x32_2 : Int), v8 = .int .i64 x8_2 ∧ v32 = .int .i64 x32_2 ∧ As (impl_depths.l1 kq l0 a1 x6_1 x7_1 x8_2 ((rd_T62 l0 x7_1).f3) (((rd_T62 l0 x7_1).f3).length : Int) x32_2 = some (r1, r2)) ∧ As (kq ≤ k1) ∧ As (Kd.R (Kd.int .i64) 3 w' w.heap.size (fun _ => True) u6 x6_1) ∧ As (Below w.heap.size w w'))
   case atStart => exact ⟨(1), (0), (by first | rfl | (simp; done) | (simp [*]; done)), (by first | rfl | (simp; done) | (simp [*]; done)), H', ⟨Nat.le_refl _⟩, ⟨by (with_reducible repeat (first | apply Kd.R_alloc | apply Kd.R_drewN | apply Kd.R_drew)); exact HO_6.out⟩, ⟨be w⟩⟩
   case round =>
    clear H'
    (try clear c4); (try clear c5); (try clear c5b0); (try clear c7); (try clear c8); (try clear c8b0); (try clear c9); (try clear c9b0); (try clear hx360_0); (try clear hx360_1); (try clear hx360_2); (try clear hx360_3); (try clear p360); (try clear q360)
    obtain ⟨x8_2, x32_2, rfl, rfl, HA, HK2, HO_6, HB⟩ := hrel
    cases gk with
    | zero => exact absurd HA.out (by simp [impl_depths.l1])
    | succ k2 =>
     have H := HA.out
     clear HA
     simp only [impl_depths.l1] at H
     by_cases c11 : x32_2 < (((rd_T62 l0 x7_1).f3).length : Int)
     rotate_left
     ·
      rw [if_neg c11] at H
      have c11b0 : decide (x32_2 < (((rd_T62 l0 x7_1).f3).length : Int)) = false := decide_eq_false c11
      clear c11
      by_cases c18 : x8_2 > 10
      ·
       rw [if_pos c18] at H
       have c18b0 : decide (10 < x8_2) = true := decide_eq_true c18
       clear c18
       simp only [Option.some.injEq, Prod.mk.injEq] at H
       obtain ⟨rfl, rfl⟩ := H
       go_wp2
       go_ret2
       exact ⟨_, ez, by first | exact Kd.R_nil _ _ _ _ _ | exact Kd.N_nil _ _ _ _ _ | exact Kd.V_nil _ _ _ _ _ | exact Kd.Q_nil _ _ _ _ _ | exact Kd.S_nil _ _ _ _ _, be w⟩
      rw [if_neg c18] at H
      have c18b0 : decide (10 < x8_2) = false := decide_eq_false c18
      clear c18
      by_cases c19 : x6_1.length < 17592186044416
      rotate_left; · rw [if_neg c19] at H; exact absurd H (by simp)
      rw [if_pos c19] at H
      have LMc19 := As.mk c19
      clear c19
      obtain ⟨y363, hy363⟩ : ∃ y_ : List Int, y_ = (x6_1 ++ [x8_2]) := ⟨_, rfl⟩
      replace H : (impl_depths.l0 k2 l0 a1 y363 (wrap64 (x7_1 + 1))) = some (r1, r2) := by first | (rw [hy363]; with_reducible exact H) | (have H2_ := (Option.bind_some _ _).symm.trans H; rw [hy363]; with_reducible exact H2_) | (have H2_ := (Option.bind_some _ _).symm.trans H; with_reducible exact H2_) | with_reducible exact H | (rw [hy363]; exact H) | exact H
      have Ny363 := As.mk hy363
      clear hy363
      have H' := As.mk H
      clear H
      go_wp2_with (first | ((with_reducible refine gate_builtin (b := .append) (xs := #[.tmp 46, .tmp 48]) rfl ?_); at_builtin; refine Kd.R_append (Kd.int .i64) (w0 := w) w.heap.size rfl (.tmp 46) (.tmp 48) 45 3 (.int .i64 0) 8 rfl Tryz.underlying45 info3 rfl (by decide) (by omega) u6 x6_1 x8_2 [.int .i64 x8_2] (fun _ => True) (fun _ => False) rfl rfl ?aP (fun _ hk => hk.elim) ?aF ?aO ?aB ?aS ?aL ?_; (case aP => exact rfl); (case aB => exact (be w)); (case aF => exact (fun _ _ => trivial)); (case aO => exact (by (with_reducible repeat (first | apply Kd.R_alloc | apply Kd.R_drewN | apply Kd.R_drew)); exact HO_6.out)); (case aS => exact (below_size (be w))); (case aL => have := LMc19.out; omega); intro v364 w20 ho hb hg hat; rw [← Ny363.out] at ho; replace HB := As.mk (hb); have HO365 := As.mk (ho); clear HO_6; clear ho hb hg hat))
      go_roundg k2
      case measure => have := HK1.out; have := HK2.out; omega
      case rel => exact ⟨(y363), (wrap64 (x7_1 + 1)), (by first | rfl | (simp; done) | (simp [*]; done)), H', ⟨by have := HK1.out; have := HK2.out; omega⟩, ⟨by (with_reducible repeat (first | apply Kd.R_alloc | apply Kd.R_drewN | apply Kd.R_drew)); exact HO365.out⟩, ⟨be w⟩⟩
     rw [if_pos c11] at H
     have c11b0 : decide (x32_2 < (((rd_T62 l0 x7_1).f3).length : Int)) = true := decide_eq_true c11
     clear c11
     by_cases c12 : 0 ≤ x32_2
     rotate_left; · rw [if_neg c12] at H; exact absurd H (by simp)
     rw [if_pos c12] at H
     have c12b0 : decide (0 ≤ x32_2) = true := decide_eq_true c12
     clear c12
     by_cases c13 : x32_2 < (((rd_T62 l0 x7_1).f3).length : Int)
     rotate_left; · rw [if_neg c13] at H; exact absurd H (by simp)
     rw [if_pos c13] at H
     have c13b0 : decide (x32_2 < (((rd_T62 l0 x7_1).f3).length : Int)) = true := decide_eq_true c13
     clear c13
     by_cases c14 : 0 ≤ (rd ((rd_T62 l0 x7_1).f3) x32_2)
     rotate_left; · rw [if_neg c14] at H; exact absurd H (by simp)
     rw [if_pos c14] at H
     have c14b0 : decide (0 ≤ (rd ((rd_T62 l0 x7_1).f3) x32_2)) = true := decide_eq_true c14
     clear c14
     by_cases c15 : (rd ((rd_T62 l0 x7_1).f3) x32_2) < (x6_1.length : Int)
     rotate_left; · rw [if_neg c15] at H; exact absurd H (by simp)
     rw [if_pos c15] at H
     have c15b0 : decide ((rd ((rd_T62 l0 x7_1).f3) x32_2) < (x6_1.length : Int)) = true := decide_eq_true c15
     clear c15
     obtain ⟨ji16, hji16⟩ : ∃ j_ : Int, (mx x8_2 (wrap64 ((rd x6_1 (rd ((rd_T62 l0 x7_1).f3) x32_2)) + 1))) = j_ := ⟨_, rfl⟩
     replace H : (impl_depths.l1 k2 l0 a1 x6_1 x7_1 ji16 ((rd_T62 l0 x7_1).f3) (((rd_T62 l0 x7_1).f3).length : Int) (wrap64 (x32_2 + 1))) = some (r1, r2) := by first | (rw [hji16] at H; exact H) | (simp only [hji16] at H ⊢; exact H)
     have hji16_ : (if x8_2 < (wrap64 ((rd x6_1 (rd ((rd_T62 l0 x7_1).f3) x32_2)) + 1)) then (wrap64 ((rd x6_1 (rd ((rd_T62 l0 x7_1).f3) x32_2)) + 1)) else x8_2) = ji16 := hji16
     have H' := As.mk H
     clear H
     have p361 : 0 ≤ (x32_2 : Int) := od
     have q361 : x32_2 < (((rd_T62 l0 x7_1).f3).length : Int) := od
     obtain ⟨ad361, e361, hx361_0⟩ := Kd.at_int HR360_3.out x32_2 p361 q361
     cases e361
     replace hx361_0 := ce HB.out hx361_0
     replace p361 := eq_true p361
     replace q361 := eq_true q361
     obtain ⟨Ao17, co17, eo17⟩ := Kd.R_slice HO_6.out
     subst eo17
     have p362 : 0 ≤ ((rd ((rd_T62 l0 x7_1).f3) x32_2) : Int) := od
     have q362 : (rd ((rd_T62 l0 x7_1).f3) x32_2) < (x6_1.length : Int) := od
     obtain ⟨ad362, e362, hx362_0⟩ := Kd.at_int (Kd.R_reads' HO_6.out).2.2 (rd ((rd_T62 l0 x7_1).f3) x32_2) p362 q362
     cases e362
     replace p362 := eq_true p362
     replace q362 := eq_true q362
     go_wp2
     go_roundg k2
     case measure => have := HK1.out; have := HK2.out; omega
     case rel => exact ⟨(ji16), (wrap64 (x32_2 + 1)), (by first | rfl | (simp; done) | (simp only [← hji16] <;> (first | rfl | simp)) | (simp [*]; done)), (by first | rfl | (simp; done) | (simp [*]; done)), H', ⟨by have := HK1.out; have := HK2.out; omega⟩, ⟨by (with_reducible repeat (first | apply Kd.R_alloc | apply Kd.R_drewN | apply Kd.R_drew)); exact HO_6.out⟩, ⟨be w⟩⟩
/-! ### impl_DeepOf: function 46 -/
def impl_DeepOf.f (k : Nat) (l0 : List (S62)) (a1 : Int) : Option (Int) := (impl_depths.f k l0 a1).bind fun bt366 => (if bt366.2 = true then (if 0 ≤ a1 then (if a1 < (bt366.1.length : Int) then (some (rd bt366.1 a1)) else (none)) else (none)) else (some 0))
theorem impl_DeepOf.mono : ∀ a0 a1 k, LeO (impl_DeepOf.f k a0 a1) (impl_DeepOf.f (k + 1) a0 a1) := by
 intro a0 a1 k
 unfold impl_DeepOf.f
 with_reducible repeat' first | exact impl_depths.mono _ _ _ | exact LeO.refl _ | exact LeO.none _ | refine LeO.ite ?_ ?_ | refine LeO.bind ?_ (fun _ => ?_)
set_option maxHeartbeats 8000000 in
set_option maxRecDepth 100000 in
theorem impl_DeepOf.calls (k : Nat) (A0 : Option Addr) (c0 : Nat) (l0 : List (S62)) (a1 : Int) (r : Int) (w : World) (hr0 : Kd.C k62 w A0 l0.length l0) (hc0 : l0.length ≤ c0) (h : impl_DeepOf.f k l0 a1 = some r) :
  Calls Tryz.prog 46 #[.slice A0 l0.length c0, .int .i64 a1] w fun e w' => e = .returned (.int .i64 r) ∧ Below w.heap.size w w' := by
 have HR0 := As.mk hr0
 have HC0 := As.mk hc0
 clear hr0 hc0
 have HB := As.mk (Below.refl w.heap.size w)
 have H : ((impl_depths.f k l0 a1).bind fun bt366 => (if bt366.2 = true then (if 0 ≤ a1 then (if a1 < (bt366.1.length : Int) then (some (rd bt366.1 a1)) else (none)) else (none)) else (some 0))) = some r := h
 clear h
 obtain ⟨⟨t366, t367⟩, A30, H⟩ := Option.bind_eq_some_iff.mp H
 try dsimp only at H
 have A3 := As.mk A30
 clear A30
 by_cases c4 : t367 = true
 rotate_left
 ·
  replace c4 := Bool.eq_false_iff.mpr c4
  subst c4
  rw [if_neg (show ¬ (false = true) by decide)] at H
  obtain rfl := Option.some.inj H
  go_enter Tryz.func46, Tryz.ntmps46
  go_wp2_with (first | ((with_reducible refine gate_callee (f := 73) rfl ?_); refine goesL_ (some 10) rfl rfl Tryz.func73 (by kernel_rfl) rfl #[.slice A0 l0.length c0, .int .i64 a1] rfl (by (try simp only [lm]); first | done | rfl | (simp only [List.length_drop, List.length_take]; rfl)) ?_; (with_reducible refine (impl_depths.calls k _ _ l0 a1 t366 false _ ?side1 ?side2 A3.out).mono ?_); (case side1 => repeat (first | exact HR0.out | (with_reducible refine Kd.C_alloc ?_ _) | (with_reducible refine Kd.C_drewN ?_ _) | (with_reducible refine Kd.C_drew ?_))); (case side2 => exact HC0.out); rintro e w9 ⟨v368, rfl, ho0, hb⟩; refine ⟨_, rfl, ?_⟩; have HO369 := As.mk (Kd.R_lower ho0 (below_size (be w))); replace HB := As.mk (below_step (be w) hb); (try clear hb); (try clear hb2); (try clear hk); (try clear hi); (try clear ho0)))
  go_ret
  exact ⟨ez, be w⟩

 subst c4
 rw [if_pos rfl] at H
 by_cases c5 : 0 ≤ a1
 rotate_left; · rw [if_neg c5] at H; exact absurd H (by simp)
 rw [if_pos c5] at H
 have c5b0 : decide (0 ≤ a1) = true := decide_eq_true c5
 clear c5
 by_cases c6 : a1 < (t366.length : Int)
 rotate_left; · rw [if_neg c6] at H; exact absurd H (by simp)
 rw [if_pos c6] at H
 have c6b0 : decide (a1 < (t366.length : Int)) = true := decide_eq_true c6
 clear c6
 obtain rfl := Option.some.inj H
 go_enter Tryz.func46, Tryz.ntmps46
 go_wp2_with (first | ((with_reducible refine gate_callee (f := 73) rfl ?_); refine goesL_ (some 10) rfl rfl Tryz.func73 (by kernel_rfl) rfl #[.slice A0 l0.length c0, .int .i64 a1] rfl (by (try simp only [lm]); first | done | rfl | (simp only [List.length_drop, List.length_take]; rfl)) ?_; (with_reducible refine (impl_depths.calls k _ _ l0 a1 t366 true _ ?side1 ?side2 A3.out).mono ?_); (case side1 => repeat (first | exact HR0.out | (with_reducible refine Kd.C_alloc ?_ _) | (with_reducible refine Kd.C_drewN ?_ _) | (with_reducible refine Kd.C_drew ?_))); (case side2 => exact HC0.out); rintro e w7 ⟨v368, rfl, ho0, hb⟩; refine ⟨_, rfl, ?_⟩; have HO369 := As.mk (Kd.R_lower ho0 (below_size (be w))); replace HB := As.mk (below_step (be w) hb); (try clear hb); (try clear hb2); (try clear hk); (try clear hi); (try clear ho0); obtain ⟨Ao8, co8, eo8⟩ := Kd.R_slice HO369.out; subst eo8; have p370 : 0 ≤ (a1 : Int) := od; have q370 : a1 < (t366.length : Int) := od; obtain ⟨ad370, e370, hx370_0⟩ := Kd.at_int (Kd.R_reads' HO369.out).2.2 a1 p370 q370; cases e370; replace p370 := eq_true p370; replace q370 := eq_true q370))
 go_ret
 exact ⟨ez, be w⟩
/-! ### impl_under: function 59 -/
mutual
def impl_under.l0 : Nat → List (S62) → List Int → Int → Option (List Int)
 | 0, _, _, _ => none
 | k + 1, x0, x5, x6 => if x6 < (x5.length : Int) then (if 0 ≤ x6 then (if 0 ≤ (rd x5 x6) then (if (rd x5 x6) < (x0.length : Int) then (impl_under.l1 k x0 x5 x6 ((rd_T62 x0 (rd x5 x6)).f3) (((rd_T62 x0 (rd x5 x6)).f3).length : Int) 0) else (none)) else (none)) else (none)) else ((sort_Ints.f x5).bind fun t374 => (some t374))
def impl_under.l1 : Nat → List (S62) → List Int → Int → List Int → Int → Int → Option (List Int)
 | 0, _, _, _, _, _, _ => none
 | k + 1, x0, x5, x6, x24, x25, x26 => if x26 < x25 then (if 0 ≤ x26 then (if x26 < (x24.length : Int) then ((impl_hasInt.f k x5 (rd x24 x26)).bind fun t378 => (if t378 = true then (impl_under.l1 k x0 x5 x6 x24 x25 (wrap64 (x26 + 1))) else (if x5.length < 17592186044416 then (impl_under.l1 k x0 (x5 ++ [rd x24 x26]) x6 x24 x25 (wrap64 (x26 + 1))) else (none)))) else (none)) else (none)) else (impl_under.l0 k x0 x5 (wrap64 (x6 + 1)))
end
def impl_under.f (k : Nat) (l0 : List (S62)) (a1 : Int) : Option (List Int) := impl_under.l0 k l0 (([a1] : List Int)) 0
theorem impl_under.mono_l : ∀ k, (∀ y0 y1 y2, LeO (impl_under.l0 k y0 y1 y2) (impl_under.l0 (k + 1) y0 y1 y2)) ∧ (∀ y0 y1 y2 y3 y4 y5, LeO (impl_under.l1 k y0 y1 y2 y3 y4 y5) (impl_under.l1 (k + 1) y0 y1 y2 y3 y4 y5))
 | 0 => ⟨fun _ _ _ r h => by simp [impl_under.l0] at h, fun _ _ _ _ _ _ r h => by simp [impl_under.l1] at h⟩
 | k + 1 => by
  obtain ⟨ih0, ih1⟩ := impl_under.mono_l k
  refine ⟨?_, ?_⟩
  ·
   intro y0 y1 y2
   unfold impl_under.l0
   with_reducible repeat' first | exact ih0 _ _ _ | exact ih1 _ _ _ _ _ _ | exact impl_hasInt.mono _ _ _ | exact LeO.refl _ | exact LeO.none _ | refine LeO.ite ?_ ?_ | refine LeO.bind ?_ (fun _ => ?_)
  ·
   intro y0 y1 y2 y3 y4 y5
   unfold impl_under.l1
   with_reducible repeat' first | exact ih0 _ _ _ | exact ih1 _ _ _ _ _ _ | exact impl_hasInt.mono _ _ _ | exact LeO.refl _ | exact LeO.none _ | refine LeO.ite ?_ ?_ | refine LeO.bind ?_ (fun _ => ?_)
theorem impl_under.mono : ∀ a0 a1 k, LeO (impl_under.f k a0 a1) (impl_under.f (k + 1) a0 a1) := by
 intro a0 a1 k
 obtain ⟨ih0, ih1⟩ := impl_under.mono_l k
 unfold impl_under.f
 with_reducible repeat' first | exact ih0 _ _ _ | exact ih1 _ _ _ _ _ _ | exact impl_hasInt.mono _ _ _ | exact LeO.refl _ | exact LeO.none _ | refine LeO.ite ?_ ?_ | refine LeO.bind ?_ (fun _ => ?_)
set_option maxHeartbeats 8000000 in
set_option maxRecDepth 100000 in
theorem impl_under.calls (k : Nat) (A0 : Option Addr) (c0 : Nat) (l0 : List (S62)) (a1 : Int) (r : List Int) (w : World) (hr0 : Kd.C k62 w A0 l0.length l0) (hc0 : l0.length ≤ c0) (h : impl_under.f k l0 a1 = some r) :
  Calls Tryz.prog 59 #[.slice A0 l0.length c0, .int .i64 a1] w fun e w' => ∃ v0_ : Value, e = .returned (v0_) ∧ Kd.R (Kd.int .i64) 3 w' w.heap.size (fun _ => True) v0_ r ∧ Below w.heap.size w w' := by
 have HR0 := As.mk hr0
 have HC0 := As.mk hc0
 clear hr0 hc0
 have HB := As.mk (Below.refl w.heap.size w)
 have H : (impl_under.l0 k l0 (([a1] : List Int)) 0) = some r := h
 clear h
 obtain ⟨y371, hy371⟩ : ∃ y_ : List Int, y_ = (([a1] : List Int)) := ⟨_, rfl⟩
 replace H : (impl_under.l0 k l0 y371 0) = some r := by first | (rw [hy371]; with_reducible exact H) | (have H2_ := (Option.bind_some _ _).symm.trans H; rw [hy371]; with_reducible exact H2_) | (have H2_ := (Option.bind_some _ _).symm.trans H; with_reducible exact H2_) | with_reducible exact H | (rw [hy371]; exact H) | exact H
 have Ny371 := As.mk hy371
 clear hy371
 have H' := As.mk H
 clear H
 go_enter Tryz.func59, Tryz.ntmps59
 go_wp2_with (first | ((with_reducible refine gate_dst (N := 10) rfl ?_); refine Kd.R_lit (Kd.int .i64) _ 3 ?hg (N := 10) ?hd (xs := ([a1] : List Int)) (inner := [.int .i64 a1]) (ok := fun _ => True) (okp := fun _ => True) ?hr ?hp (fun _ hk => hk) trivial (Below.refl _ _) (Nat.le_refl _) (by simp) ?_; (case hd => rfl); (case hg => rfl); (case hr => first | (go_simp; done) | (go_simp; rfl)); (case hp => exact (Reps.one (show Kd.M (Kd.int .i64) _ _ _ a1 [.int .i64 a1] from rfl) (Reps.none _ _))); intro v372 w3 ho4 hb hg_ hnew_; clear hg_ hnew_; (first | rw [← Ny371.out] at ho4 | (simp only [Int.reduceToNat] at ho4; rw [← Ny371.out] at ho4)); have HO373 := As.mk (Kd.R_lower ho4 (below_size (be w))); replace HB := As.mk (below_step (be w) hb); clear hb ho4))
 go_loopg [5, 6] k (fun kq v5 v6 w' => ∃ (x5_1 : List Int) (x6_1 : Int), v6 = .int .i64 x6_1 ∧ As (impl_under.l0 kq l0 x5_1 x6_1 = some r) ∧ As (kq ≤ k) ∧ As (Kd.R (Kd.int .i64) 3 w' w.heap.size (fun _ => True) v5 x5_1) ∧ As (Below w.heap.size w w'))
 case atStart => exact ⟨(y371), (0), (by first | rfl | (simp; done) | (simp [*]; done)), H', ⟨Nat.le_refl _⟩, ⟨by (with_reducible repeat (first | apply Kd.R_alloc | apply Kd.R_drewN | apply Kd.R_drew)); exact HO373.out⟩, ⟨be w⟩⟩
 case round =>
  clear H'
  obtain ⟨x5_1, x6_1, rfl, HA, HK1, HO_5, HB⟩ := hrel
  cases gk with
  | zero => exact absurd HA.out (by simp [impl_under.l0])
  | succ k1 =>
   have H := HA.out
   clear HA
   simp only [impl_under.l0] at H
   by_cases c5 : x6_1 < (x5_1.length : Int)
   rotate_left
   ·
    rw [if_neg c5] at H
    have c5b0 : decide (x6_1 < (x5_1.length : Int)) = false := decide_eq_false c5
    clear c5
    obtain ⟨t374, A190, H⟩ := Option.bind_eq_some_iff.mp H
    try dsimp only at H
    have A19 := As.mk A190
    clear A190
    obtain rfl := Option.some.inj H
    obtain ⟨Ao20, co20, eo20⟩ := Kd.R_slice HO_5.out
    subst eo20
    go_wp2_with (first | ((with_reducible refine gate_callee (f := 88) rfl ?_); refine goesL_ (some 40) rfl rfl Tryz.func88 (by kernel_rfl) rfl #[.slice Ao20 x5_1.length co20] rfl (by (try simp only [lm]); first | done | rfl | (simp only [List.length_drop, List.length_take]; rfl)) ?_; (with_reducible refine (sort_Ints.calls (fun k_ => some k_ = (.slice Ao20 x5_1.length co20 : Value).ownBlock) (.slice Ao20 x5_1.length co20) x5_1 t374 w _ ?side1 ?side2 A19.out).mono ?_); (case side1 => repeat (first | (with_reducible first | exact HB.out | apply below_alloc | apply pw_below_drewN | apply below_drew1) | exact HB.out)); (case side2 => exact Kd.R_tight rfl HO_5.out); rintro e w21 ⟨rfl, hy0, hb, hkp⟩; refine ⟨_, rfl, ?_⟩; replace HO_5 := As.mk (Kd.R_reok rfl hy0 (fun k_ e_ => HO_5.out.1 k_ e_)); replace HB := As.mk (hb); (try clear hb); (try clear hkp); (try clear hy0)))
    go_ret
    exact ⟨_, ez, by (with_reducible repeat (first | apply Kd.R_alloc | apply Kd.R_drewN | apply Kd.R_drew)); exact HO_5.out, be w⟩

   rw [if_pos c5] at H
   have c5b0 : decide (x6_1 < (x5_1.length : Int)) = true := decide_eq_true c5
   clear c5
   by_cases c6 : 0 ≤ x6_1
   rotate_left; · rw [if_neg c6] at H; exact absurd H (by simp)
   rw [if_pos c6] at H
   have c6b0 : decide (0 ≤ x6_1) = true := decide_eq_true c6
   clear c6
   by_cases c7 : 0 ≤ (rd x5_1 x6_1)
   rotate_left; · rw [if_neg c7] at H; exact absurd H (by simp)
   rw [if_pos c7] at H
   have c7b0 : decide (0 ≤ (rd x5_1 x6_1)) = true := decide_eq_true c7
   clear c7
   by_cases c8 : (rd x5_1 x6_1) < (l0.length : Int)
   rotate_left; · rw [if_neg c8] at H; exact absurd H (by simp)
   rw [if_pos c8] at H
   have c8b0 : decide ((rd x5_1 x6_1) < (l0.length : Int)) = true := decide_eq_true c8
   clear c8
   have H' := As.mk H
   clear H
   obtain ⟨Ao9, co9, eo9⟩ := Kd.R_slice HO_5.out
   subst eo9
   have p375 : 0 ≤ (x6_1 : Int) := od
   have q375 : x6_1 < (x5_1.length : Int) := od
   obtain ⟨ad375, e375, hx375_0⟩ := Kd.at_int (Kd.R_reads' HO_5.out).2.2 x6_1 p375 q375
   cases e375
   replace p375 := eq_true p375
   replace q375 := eq_true q375
   have p376 : 0 ≤ ((rd x5_1 x6_1) : Int) := od
   have q376 : (rd x5_1 x6_1) < (l0.length : Int) := od
   obtain ⟨ad376, A376_3, c376_3, e376, hx376_0, hx376_1, hx376_2, hx376_3, hl376_3, hi376_3⟩ := at_T62 HR0.out (rd x5_1 x6_1) p376 q376
   cases e376
   replace hx376_0 := ce HB.out hx376_0
   replace hx376_1 := ce HB.out hx376_1
   replace hx376_2 := ce HB.out hx376_2
   replace hx376_3 := ce HB.out hx376_3
   have HR376_3 := As.mk hi376_3
   have HC376_3 := As.mk hl376_3
   clear hi376_3 hl376_3
   replace p376 := eq_true p376
   replace q376 := eq_true q376
   go_wp2
   go_loopg [5, 26] k1 (fun kq v5 v26 w' => ∃ (x5_2 : List Int) (x26_2 : Int), v26 = .int .i64 x26_2 ∧ As (impl_under.l1 kq l0 x5_2 x6_1 ((rd_T62 l0 (rd x5_1 x6_1)).f3) (((rd_T62 l0 (rd x5_1 x6_1)).f3).length : Int) x26_2 = some r) ∧ As (kq ≤ k1) ∧ As (Kd.R (Kd.int .i64) 3 w' w.heap.size (fun _ => True) v5 x5_2) ∧ As (Below w.heap.size w w'))
   case atStart => exact ⟨(x5_1), (0), (by first | rfl | (simp; done) | (simp [*]; done)), H', ⟨Nat.le_refl _⟩, ⟨by (with_reducible repeat (first | apply Kd.R_alloc | apply Kd.R_drewN | apply Kd.R_drew)); exact HO_5.out⟩, ⟨be w⟩⟩
   case round =>
    clear H'
    (try clear c5); (try clear c5b0); (try clear c6); (try clear c6b0); (try clear c7); (try clear c7b0); (try clear c8); (try clear c8b0); (try clear hx375_0); (try clear hx376_0); (try clear hx376_1); (try clear hx376_2); (try clear hx376_3); (try clear p375); (try clear p376); (try clear q375); (try clear q376)
    obtain ⟨x5_2, x26_2, rfl, HA, HK2, HO_5, HB⟩ := hrel
    cases gk with
    | zero => exact absurd HA.out (by simp [impl_under.l1])
    | succ k2 =>
     have H := HA.out
     clear HA
     simp only [impl_under.l1] at H
     by_cases c10 : x26_2 < (((rd_T62 l0 (rd x5_1 x6_1)).f3).length : Int)
     rotate_left
     ·
      rw [if_neg c10] at H
      have c10b0 : decide (x26_2 < (((rd_T62 l0 (rd x5_1 x6_1)).f3).length : Int)) = false := decide_eq_false c10
      clear c10
      have H' := As.mk H
      clear H
      go_wp2
      go_roundg k2
      case measure => have := HK1.out; have := HK2.out; omega
      case rel => exact ⟨(x5_2), (wrap64 (x6_1 + 1)), (by first | rfl | (simp; done) | (simp [*]; done)), H', ⟨by have := HK1.out; have := HK2.out; omega⟩, ⟨by (with_reducible repeat (first | apply Kd.R_alloc | apply Kd.R_drewN | apply Kd.R_drew)); exact HO_5.out⟩, ⟨be w⟩⟩
     rw [if_pos c10] at H
     have c10b0 : decide (x26_2 < (((rd_T62 l0 (rd x5_1 x6_1)).f3).length : Int)) = true := decide_eq_true c10
     clear c10
     by_cases c11 : 0 ≤ x26_2
     rotate_left; · rw [if_neg c11] at H; exact absurd H (by simp)
     rw [if_pos c11] at H
     have c11b0 : decide (0 ≤ x26_2) = true := decide_eq_true c11
     clear c11
     by_cases c12 : x26_2 < (((rd_T62 l0 (rd x5_1 x6_1)).f3).length : Int)
     rotate_left; · rw [if_neg c12] at H; exact absurd H (by simp)
     rw [if_pos c12] at H
     have c12b0 : decide (x26_2 < (((rd_T62 l0 (rd x5_1 x6_1)).f3).length : Int)) = true := decide_eq_true c12
     clear c12
     obtain ⟨t378, A130, H⟩ := Option.bind_eq_some_iff.mp H
     try dsimp only at H
     have A13 := As.mk A130
     clear A130
     by_cases c14 : t378 = true
     ·
      subst c14
      rw [if_pos rfl] at H
      have H' := As.mk H
      clear H
      have p377 : 0 ≤ (x26_2 : Int) := od
      have q377 : x26_2 < (((rd_T62 l0 (rd x5_1 x6_1)).f3).length : Int) := od
      obtain ⟨ad377, e377, hx377_0⟩ := Kd.at_int HR376_3.out x26_2 p377 q377
      cases e377
      replace hx377_0 := ce HB.out hx377_0
      replace p377 := eq_true p377
      replace q377 := eq_true q377
      obtain ⟨Ao15, co15, eo15⟩ := Kd.R_slice HO_5.out
      subst eo15
      go_wp2_with (first | ((with_reducible refine gate_callee (f := 87) rfl ?_); refine goesL_ (some 32) rfl rfl Tryz.func87 (by kernel_rfl) rfl #[.slice Ao15 x5_2.length co15, .int .i64 (rd ((rd_T62 l0 (rd x5_1 x6_1)).f3) x26_2)] rfl (by (try simp only [lm]); first | done | rfl | (simp only [List.length_drop, List.length_take]; rfl)) ?_; (with_reducible refine (impl_hasInt.calls k2 _ _ x5_2 (rd ((rd_T62 l0 (rd x5_1 x6_1)).f3) x26_2) true _ ?side1 ?side2 A13.out).mono ?_); (case side1 => repeat (first | exact (Kd.R_reads' HO_5.out).2.2 | (with_reducible refine Kd.C_alloc ?_ _) | (with_reducible refine Kd.C_drewN ?_ _) | (with_reducible refine Kd.C_drew ?_))); (case side2 => exact (Kd.R_reads' HO_5.out).2.1); rintro e w' ⟨rfl, ⟨nd, rfl⟩⟩; refine ⟨_, rfl, ?_⟩))
      go_roundg k2
      case measure => have := HK1.out; have := HK2.out; omega
      case rel => exact ⟨(x5_2), (wrap64 (x26_2 + 1)), (by first | rfl | (simp; done) | (simp [*]; done)), H', ⟨by have := HK1.out; have := HK2.out; omega⟩, ⟨by (with_reducible repeat (first | apply Kd.R_alloc | apply Kd.R_drewN | apply Kd.R_drew)); exact HO_5.out⟩, ⟨be w⟩⟩
     replace c14 := Bool.eq_false_iff.mpr c14
     subst c14
     rw [if_neg (show ¬ (false = true) by decide)] at H
     by_cases c16 : x5_2.length < 17592186044416
     rotate_left; · rw [if_neg c16] at H; exact absurd H (by simp)
     rw [if_pos c16] at H
     have LMc16 := As.mk c16
     clear c16
     obtain ⟨y379, hy379⟩ : ∃ y_ : List Int, y_ = (x5_2 ++ [rd ((rd_T62 l0 (rd x5_1 x6_1)).f3) x26_2]) := ⟨_, rfl⟩
     replace H : (impl_under.l1 k2 l0 y379 x6_1 ((rd_T62 l0 (rd x5_1 x6_1)).f3) (((rd_T62 l0 (rd x5_1 x6_1)).f3).length : Int) (wrap64 (x26_2 + 1))) = some r := by first | (rw [hy379]; with_reducible exact H) | (have H2_ := (Option.bind_some _ _).symm.trans H; rw [hy379]; with_reducible exact H2_) | (have H2_ := (Option.bind_some _ _).symm.trans H; with_reducible exact H2_) | with_reducible exact H | (rw [hy379]; exact H) | exact H
     have Ny379 := As.mk hy379
     clear hy379
     have H' := As.mk H
     clear H
     have p377 : 0 ≤ (x26_2 : Int) := od
     have q377 : x26_2 < (((rd_T62 l0 (rd x5_1 x6_1)).f3).length : Int) := od
     obtain ⟨ad377, e377, hx377_0⟩ := Kd.at_int HR376_3.out x26_2 p377 q377
     cases e377
     replace hx377_0 := ce HB.out hx377_0
     replace p377 := eq_true p377
     replace q377 := eq_true q377
     obtain ⟨Ao17, co17, eo17⟩ := Kd.R_slice HO_5.out
     subst eo17
     go_wp2_with (first | ((with_reducible refine gate_callee (f := 87) rfl ?_); refine goesL_ (some 32) rfl rfl Tryz.func87 (by kernel_rfl) rfl #[.slice Ao17 x5_2.length co17, .int .i64 (rd ((rd_T62 l0 (rd x5_1 x6_1)).f3) x26_2)] rfl (by (try simp only [lm]); first | done | rfl | (simp only [List.length_drop, List.length_take]; rfl)) ?_; (with_reducible refine (impl_hasInt.calls k2 _ _ x5_2 (rd ((rd_T62 l0 (rd x5_1 x6_1)).f3) x26_2) false _ ?side1 ?side2 A13.out).mono ?_); (case side1 => repeat (first | exact (Kd.R_reads' HO_5.out).2.2 | (with_reducible refine Kd.C_alloc ?_ _) | (with_reducible refine Kd.C_drewN ?_ _) | (with_reducible refine Kd.C_drew ?_))); (case side2 => exact (Kd.R_reads' HO_5.out).2.1); rintro e w' ⟨rfl, ⟨nd, rfl⟩⟩; refine ⟨_, rfl, ?_⟩) | ((with_reducible refine gate_builtin (b := .append) (xs := #[.tmp 34, .tmp 36]) rfl ?_); at_builtin; refine Kd.R_append (Kd.int .i64) (w0 := w) w.heap.size rfl (.tmp 34) (.tmp 36) 45 3 (.int .i64 0) 8 rfl Tryz.underlying45 info3 rfl (by decide) (by omega) (.slice Ao17 x5_2.length co17) x5_2 (rd ((rd_T62 l0 (rd x5_1 x6_1)).f3) x26_2) [.int .i64 (rd ((rd_T62 l0 (rd x5_1 x6_1)).f3) x26_2)] (fun _ => True) (fun _ => False) rfl rfl ?aP (fun _ hk => hk.elim) ?aF ?aO ?aB ?aS ?aL ?_; (case aP => exact rfl); (case aB => exact (be w)); (case aF => exact (fun _ _ => trivial)); (case aO => exact (by (with_reducible repeat (first | apply Kd.R_alloc | apply Kd.R_drewN | apply Kd.R_drew)); exact HO_5.out)); (case aS => exact (below_size (be w))); (case aL => have := LMc16.out; omega); intro v380 w18 ho hb hg hat; rw [← Ny379.out] at ho; replace HB := As.mk (hb); have HO381 := As.mk (ho); clear HO_5; clear ho hb hg hat))
     go_roundg k2
     case measure => have := HK1.out; have := HK2.out; omega
     case rel => exact ⟨(y379), (wrap64 (x26_2 + 1)), (by first | rfl | (simp; done) | (simp [*]; done)), H', ⟨by have := HK1.out; have := HK2.out; omega⟩, ⟨by (with_reducible repeat (first | apply Kd.R_alloc | apply Kd.R_drewN | apply Kd.R_drew)); exact HO381.out⟩, ⟨be w⟩⟩
/-! ### impl_Under: function 25 -/
def impl_Under.f (k : Nat) (l0_0 : List (S62)) (l0_1 : List (S56)) (a1 : Int) : Option (List Int) := (impl_DeepOf.f k l0_0 a1).bind fun t383 => (if t383 = 0 then (some ([] : List Int)) else ((impl_under.f k l0_0 a1).bind fun t384 => (some t384)))
theorem impl_Under.mono : ∀ a0 a1 a2 k, LeO (impl_Under.f k a0 a1 a2) (impl_Under.f (k + 1) a0 a1 a2) := by
 intro a0 a1 a2 k
 unfold impl_Under.f
 with_reducible repeat' first | exact impl_DeepOf.mono _ _ _ | exact impl_under.mono _ _ _ | exact LeO.refl _ | exact LeO.none _ | refine LeO.ite ?_ ?_ | refine LeO.bind ?_ (fun _ => ?_)
set_option maxHeartbeats 8000000 in
set_option maxRecDepth 100000 in
theorem impl_Under.calls (k : Nat) (A0_0 : Option Addr) (c0_0 : Nat) (l0_0 : List (S62)) (A0_1 : Option Addr) (c0_1 : Nat) (l0_1 : List (S56)) (a1 : Int) (r : List Int) (w : World) (hr0_0 : Kd.C k62 w A0_0 l0_0.length l0_0) (hc0_0 : l0_0.length ≤ c0_0) (hr0_1 : Kd.C k56 w A0_1 l0_1.length l0_1) (hc0_1 : l0_1.length ≤ c0_1) (h : impl_Under.f k l0_0 l0_1 a1 = some r) :
  Calls Tryz.prog 25 #[.agg #[.slice A0_0 l0_0.length c0_0, .slice A0_1 l0_1.length c0_1], .int .i64 a1] w fun e w' => ∃ v0_ : Value, e = .returned (v0_) ∧ Kd.R (Kd.int .i64) 3 w' w.heap.size (fun _ => True) v0_ r ∧ Below w.heap.size w w' := by
 have hu32 := Tryz.underlying32
 have HR0_0 := As.mk hr0_0
 have HC0_0 := As.mk hc0_0
 clear hr0_0 hc0_0
 have HR0_1 := As.mk hr0_1
 have HC0_1 := As.mk hc0_1
 clear hr0_1 hc0_1
 have HB := As.mk (Below.refl w.heap.size w)
 have H : ((impl_DeepOf.f k l0_0 a1).bind fun t383 => (if t383 = 0 then (some ([] : List Int)) else ((impl_under.f k l0_0 a1).bind fun t384 => (some t384)))) = some r := h
 clear h
 obtain ⟨t383, A30, H⟩ := Option.bind_eq_some_iff.mp H
 try dsimp only at H
 have A3 := As.mk A30
 clear A30
 by_cases c4 : t383 = 0
 ·
  rw [if_pos c4] at H
  have c4b0 : (t383 == 0) = true := beq_iff_eq.mpr c4
  have c4b1 : (t383 != 0) = false := bne_eq_false_iff_eq.mpr c4
  clear c4
  obtain rfl := Option.some.inj H
  go_enter Tryz.func25, Tryz.ntmps25
  go_wp2_with (first | ((with_reducible refine gate_dst (N := 2) rfl ?_); refine box_event ?hg (N := 2) ?hd (cs := #[.slice A0_0 l0_0.length c0_0, .slice A0_1 l0_1.length c0_1]) (t := 32) ?hr ?_; (case hd => rfl); (case hg => rfl); (case hr => first | (go_simp; done) | (go_simp; rfl)); intro gb382 hg w5 hbox hb; have BK382 := As.mk (hbox); have GW382 := As.mk (gs w hg); have GE382 := As.mk (gs w hg); replace HB := As.mk (below_step (be w) hb); clear hb hbox hg; obtain ⟨hcz6_0, hcz6_1, hfz6_0, hfz6_1⟩ := cl2 BK382.out) | ((with_reducible refine gate_callee (f := 46) rfl ?_); refine goesL_ (some 8) rfl rfl Tryz.func46 (by kernel_rfl) rfl #[.slice A0_0 l0_0.length c0_0, .int .i64 a1] rfl (by (try simp only [lm]); first | done | rfl | (simp only [List.length_drop, List.length_take]; rfl)) ?_; (with_reducible refine (impl_DeepOf.calls k _ _ l0_0 a1 t383 _ ?side1 ?side2 A3.out).mono ?_); (case side1 => exact Kd.C_below HR0_0.out (be w)); (case side2 => exact HC0_0.out); rintro e w7 ⟨rfl, hb⟩; refine ⟨_, rfl, ?_⟩; replace HB := As.mk (below_step (be w) hb); (try clear hb); (try clear hb2); (try clear hk); (try clear hi)))
  go_ret
  exact ⟨_, ez, by first | exact Kd.R_nil _ _ _ _ _ | exact Kd.N_nil _ _ _ _ _ | exact Kd.V_nil _ _ _ _ _ | exact Kd.Q_nil _ _ _ _ _ | exact Kd.S_nil _ _ _ _ _, be w⟩
 rw [if_neg c4] at H
 have c4b0 : (t383 == 0) = false := beq_eq_false_iff_ne.mpr c4
 have c4b1 : (t383 != 0) = true := bne_iff_ne.mpr c4
 obtain ⟨t384, A80, H⟩ := Option.bind_eq_some_iff.mp H
 try dsimp only at H
 have A8 := As.mk A80
 clear A80
 obtain rfl := Option.some.inj H
 go_enter Tryz.func25, Tryz.ntmps25
 go_wp2_with (first | ((with_reducible refine gate_dst (N := 2) rfl ?_); refine box_event ?hg (N := 2) ?hd (cs := #[.slice A0_0 l0_0.length c0_0, .slice A0_1 l0_1.length c0_1]) (t := 32) ?hr ?_; (case hd => rfl); (case hg => rfl); (case hr => first | (go_simp; done) | (go_simp; rfl)); intro gb382 hg w9 hbox hb; have BK382 := As.mk (hbox); have GW382 := As.mk (gs w hg); have GE382 := As.mk (gs w hg); replace HB := As.mk (below_step (be w) hb); clear hb hbox hg; obtain ⟨hcz10_0, hcz10_1, hfz10_0, hfz10_1⟩ := cl2 BK382.out) | ((with_reducible refine gate_callee (f := 46) rfl ?_); refine goesL_ (some 8) rfl rfl Tryz.func46 (by kernel_rfl) rfl #[.slice A0_0 l0_0.length c0_0, .int .i64 a1] rfl (by (try simp only [lm]); first | done | rfl | (simp only [List.length_drop, List.length_take]; rfl)) ?_; (with_reducible refine (impl_DeepOf.calls k _ _ l0_0 a1 t383 _ ?side1 ?side2 A3.out).mono ?_); (case side1 => exact Kd.C_below HR0_0.out (be w)); (case side2 => exact HC0_0.out); rintro e w11 ⟨rfl, hb⟩; refine ⟨_, rfl, ?_⟩; replace BK382 := As.mk (blk_below (bx BK382.out) hb); replace HB := As.mk (below_step (be w) hb); (try clear hb); (try clear hb2); (try clear hk); (try clear hi); obtain ⟨hcz12_0, hcz12_1, hfz12_0, hfz12_1⟩ := cl2 BK382.out) | ((with_reducible refine gate_callee (f := 59) rfl ?_); refine goesL_ (some 13) rfl rfl Tryz.func59 (by kernel_rfl) rfl #[.slice A0_0 l0_0.length c0_0, .int .i64 a1] rfl (by (try simp only [lm]); first | done | rfl | (simp only [List.length_drop, List.length_take]; rfl)) ?_; (with_reducible refine (impl_under.calls k _ _ l0_0 a1 t384 _ ?side1 ?side2 A8.out).mono ?_); (case side1 => exact Kd.C_below HR0_0.out (be w)); (case side2 => exact HC0_0.out); rintro e w13 ⟨v385, rfl, ho0, hb⟩; refine ⟨_, rfl, ?_⟩; have HO386 := As.mk (Kd.R_lower ho0 (below_size (be w))); replace HB := As.mk (below_step (be w) hb); (try clear hb); (try clear hb2); (try clear hk); (try clear hi); (try clear ho0)))
 go_ret
 exact ⟨_, ez, by (with_reducible repeat (first | apply Kd.R_alloc | apply Kd.R_drewN | apply Kd.R_drew)); exact HO386.out, be w⟩

/-! ### impl_roots: function 89 -/
def impl_roots.f (l0_0 : List (S62)) (l0_1 : List (S56)) (a1 : Int) : Option (List Int) := (impl_in.f a1 0 (wrap64 ((l0_1.length : Int) - 1))).bind fun t388 => (if t388 = true then (if 0 ≤ a1 then (if a1 < (l0_1.length : Int) then ((some (([(rd_T56 l0_1 a1).f3] : List Int) : List Int)).bind fun y390 => (if ((rd_T56 l0_1 a1).f4) = (-1) then (some y390) else (if y390.length < 17592186044416 then (some (y390 ++ [(rd_T56 l0_1 a1).f4])) else (none)))) else (none)) else (none)) else (some ([] : List Int)))
set_option maxHeartbeats 8000000 in
set_option maxRecDepth 100000 in
theorem impl_roots.calls (A0_0 : Option Addr) (c0_0 : Nat) (l0_0 : List (S62)) (A0_1 : Option Addr) (c0_1 : Nat) (l0_1 : List (S56)) (a1 : Int) (r : List Int) (w : World) (hr0_0 : Kd.C k62 w A0_0 l0_0.length l0_0) (hc0_0 : l0_0.length ≤ c0_0) (hr0_1 : Kd.C k56 w A0_1 l0_1.length l0_1) (hc0_1 : l0_1.length ≤ c0_1) (h : impl_roots.f l0_0 l0_1 a1 = some r) :
  Calls Tryz.prog 89 #[.agg #[.slice A0_0 l0_0.length c0_0, .slice A0_1 l0_1.length c0_1], .int .i64 a1] w fun e w' => ∃ v0_ : Value, e = .returned (v0_) ∧ Kd.R (Kd.int .i64) 3 w' w.heap.size (fun _ => True) v0_ r ∧ Below w.heap.size w w' := by
 have hu32 := Tryz.underlying32
 have HR0_0 := As.mk hr0_0
 have HC0_0 := As.mk hc0_0
 clear hr0_0 hc0_0
 have HR0_1 := As.mk hr0_1
 have HC0_1 := As.mk hc0_1
 clear hr0_1 hc0_1
 have HB := As.mk (Below.refl w.heap.size w)
 have H : ((impl_in.f a1 0 (wrap64 ((l0_1.length : Int) - 1))).bind fun t388 => (if t388 = true then (if 0 ≤ a1 then (if a1 < (l0_1.length : Int) then ((some (([(rd_T56 l0_1 a1).f3] : List Int) : List Int)).bind fun y390 => (if ((rd_T56 l0_1 a1).f4) = (-1) then (some y390) else (if y390.length < 17592186044416 then (some (y390 ++ [(rd_T56 l0_1 a1).f4])) else (none)))) else (none)) else (none)) else (some ([] : List Int)))) = some r := h
 clear h
 obtain ⟨t388, A30, H⟩ := Option.bind_eq_some_iff.mp H
 try dsimp only at H
 have A3 := As.mk A30
 clear A30
 by_cases c4 : t388 = true
 rotate_left
 ·
  replace c4 := Bool.eq_false_iff.mpr c4
  subst c4
  rw [if_neg (show ¬ (false = true) by decide)] at H
  obtain rfl := Option.some.inj H
  go_enter Tryz.func89, Tryz.ntmps89
  go_wp2_with (first | ((with_reducible refine gate_dst (N := 2) rfl ?_); refine box_event ?hg (N := 2) ?hd (cs := #[.slice A0_0 l0_0.length c0_0, .slice A0_1 l0_1.length c0_1]) (t := 32) ?hr ?_; (case hd => rfl); (case hg => rfl); (case hr => first | (go_simp; done) | (go_simp; rfl)); intro gb387 hg w20 hbox hb; have BK387 := As.mk (hbox); have GW387 := As.mk (gs w hg); have GE387 := As.mk (gs w hg); replace HB := As.mk (below_step (be w) hb); clear hb hbox hg; obtain ⟨hcz21_0, hcz21_1, hfz21_0, hfz21_1⟩ := cl2 BK387.out) | ((with_reducible refine gate_callee (f := 36) rfl ?_); refine goesL_ (some 11) rfl rfl Tryz.func36 (by kernel_rfl) rfl #[.int .i64 a1, .int .i64 0, .int .i64 (wrap64 ((l0_1.length : Int) - 1))] rfl (by (try simp only [lm]); first | done | rfl | (simp only [List.length_drop, List.length_take]; rfl)) ?_; (with_reducible refine (impl_in.calls a1 0 (wrap64 ((l0_1.length : Int) - 1)) false _ A3.out).mono ?_); rintro e w' ⟨rfl, ⟨nd, rfl⟩⟩; refine ⟨_, rfl, ?_⟩))
  go_ret
  exact ⟨_, ez, by first | exact Kd.R_nil _ _ _ _ _ | exact Kd.N_nil _ _ _ _ _ | exact Kd.V_nil _ _ _ _ _ | exact Kd.Q_nil _ _ _ _ _ | exact Kd.S_nil _ _ _ _ _, be w⟩

 subst c4
 rw [if_pos rfl] at H
 by_cases c5 : 0 ≤ a1
 rotate_left; · rw [if_neg c5] at H; exact absurd H (by simp)
 rw [if_pos c5] at H
 have c5b0 : decide (0 ≤ a1) = true := decide_eq_true c5
 clear c5
 by_cases c6 : a1 < (l0_1.length : Int)
 rotate_left; · rw [if_neg c6] at H; exact absurd H (by simp)
 rw [if_pos c6] at H
 have c6b0 : decide (a1 < (l0_1.length : Int)) = true := decide_eq_true c6
 clear c6
 obtain ⟨y390, hy390⟩ : ∃ y_ : List Int, y_ = (([(rd_T56 l0_1 a1).f3] : List Int)) := ⟨_, rfl⟩
 replace H : (if ((rd_T56 l0_1 a1).f4) = (-1) then (some y390) else (if y390.length < 17592186044416 then (some (y390 ++ [(rd_T56 l0_1 a1).f4])) else (none))) = some r := by first | (rw [hy390]; with_reducible exact H) | (have H2_ := (Option.bind_some _ _).symm.trans H; rw [hy390]; with_reducible exact H2_) | (have H2_ := (Option.bind_some _ _).symm.trans H; with_reducible exact H2_) | with_reducible exact H | (rw [hy390]; exact H) | exact H
 have Ny390 := As.mk hy390
 clear hy390
 by_cases c7 : ((rd_T56 l0_1 a1).f4) = (-1)
 ·
  rw [if_pos c7] at H
  have c7b0 : (((rd_T56 l0_1 a1).f4) == (-1)) = true := beq_iff_eq.mpr c7
  have c7b1 : (((rd_T56 l0_1 a1).f4) != (-1)) = false := bne_eq_false_iff_eq.mpr c7
  clear c7
  obtain rfl := Option.some.inj H
  go_enter Tryz.func89, Tryz.ntmps89
  go_wp2_with (first | ((with_reducible refine gate_dst (N := 2) rfl ?_); refine box_event ?hg (N := 2) ?hd (cs := #[.slice A0_0 l0_0.length c0_0, .slice A0_1 l0_1.length c0_1]) (t := 32) ?hr ?_; (case hd => rfl); (case hg => rfl); (case hr => first | (go_simp; done) | (go_simp; rfl)); intro gb387 hg w8 hbox hb; have BK387 := As.mk (hbox); have GW387 := As.mk (gs w hg); have GE387 := As.mk (gs w hg); replace HB := As.mk (below_step (be w) hb); clear hb hbox hg; obtain ⟨hcz9_0, hcz9_1, hfz9_0, hfz9_1⟩ := cl2 BK387.out) | ((with_reducible refine gate_callee (f := 36) rfl ?_); refine goesL_ (some 11) rfl rfl Tryz.func36 (by kernel_rfl) rfl #[.int .i64 a1, .int .i64 0, .int .i64 (wrap64 ((l0_1.length : Int) - 1))] rfl (by (try simp only [lm]); first | done | rfl | (simp only [List.length_drop, List.length_take]; rfl)) ?_; (with_reducible refine (impl_in.calls a1 0 (wrap64 ((l0_1.length : Int) - 1)) true _ A3.out).mono ?_); rintro e w' ⟨rfl, ⟨nd, rfl⟩⟩; refine ⟨_, rfl, ?_⟩; have p389 : 0 ≤ (a1 : Int) := od; have q389 : a1 < (l0_1.length : Int) := od; obtain ⟨ad389, A389_1, c389_1, e389, hx389_0, hx389_1, hx389_2, hx389_3, hx389_4, hl389_1, hi389_1⟩ := at_T56 HR0_1.out a1 p389 q389; cases e389; replace hx389_0 := ce HB.out hx389_0; replace hx389_1 := ce HB.out hx389_1; replace hx389_2 := ce HB.out hx389_2; replace hx389_3 := ce HB.out hx389_3; replace hx389_4 := ce HB.out hx389_4; have HR389_1 := As.mk hi389_1; have HC389_1 := As.mk hl389_1; clear hi389_1 hl389_1; replace p389 := eq_true p389; replace q389 := eq_true q389) | ((with_reducible refine gate_dst (N := 19) rfl ?_); refine Kd.R_lit (Kd.int .i64) _ 3 ?hg (N := 19) ?hd (xs := ([(rd_T56 l0_1 a1).f3] : List Int)) (inner := [.int .i64 ((rd_T56 l0_1 a1).f3)]) (ok := fun _ => True) (okp := fun _ => True) ?hr ?hp (fun _ hk => hk) trivial (Below.refl _ _) (Nat.le_refl _) (by simp) ?_; (case hd => rfl); (case hg => rfl); (case hr => first | (go_simp; done) | (go_simp; rfl)); (case hp => exact (Reps.one (show Kd.M (Kd.int .i64) _ _ _ ((rd_T56 l0_1 a1).f3) [.int .i64 ((rd_T56 l0_1 a1).f3)] from rfl) (Reps.none _ _))); intro v391 w10 ho11 hb hg_ hnew_; clear hg_ hnew_; (first | rw [← Ny390.out] at ho11 | (simp only [Int.reduceToNat] at ho11; rw [← Ny390.out] at ho11)); have HO392 := As.mk (Kd.R_lower ho11 (below_size (be w))); replace BK387 := As.mk (blk_below (bx BK387.out) hb); replace HB := As.mk (below_step (be w) hb); clear hb ho11; obtain ⟨hcz12_0, hcz12_1, hfz12_0, hfz12_1⟩ := cl2 BK387.out; have p393 : 0 ≤ (a1 : Int) := od; have q393 : a1 < (l0_1.length : Int) := od; obtain ⟨ad393, A393_1, c393_1, e393, hx393_0, hx393_1, hx393_2, hx393_3, hx393_4, hl393_1, hi393_1⟩ := at_T56 HR0_1.out a1 p393 q393; obtain rfl : ad389 = ad393 := (by injection e393); replace hx393_0 := ce HB.out hx393_0; replace hx393_1 := ce HB.out hx393_1; replace hx393_2 := ce HB.out hx393_2; replace hx393_3 := ce HB.out hx393_3; replace hx393_4 := ce HB.out hx393_4; have HR393_1 := As.mk hi393_1; have HC393_1 := As.mk hl393_1; clear hi393_1 hl393_1; replace p393 := eq_true p393; replace q393 := eq_true q393))
  go_ret
  exact ⟨_, ez, by (with_reducible repeat (first | apply Kd.R_alloc | apply Kd.R_drewN | apply Kd.R_drew)); exact HO392.out, be w⟩
 rw [if_neg c7] at H
 have c7b0 : (((rd_T56 l0_1 a1).f4) == (-1)) = false := beq_eq_false_iff_ne.mpr c7
 have c7b1 : (((rd_T56 l0_1 a1).f4) != (-1)) = true := bne_iff_ne.mpr c7
 by_cases c13 : y390.length < 17592186044416
 rotate_left; · rw [if_neg c13] at H; exact absurd H (by simp)
 rw [if_pos c13] at H
 have LMc13 := As.mk c13
 clear c13
 obtain ⟨y395, hy395⟩ : ∃ y_ : List Int, y_ = (y390 ++ [(rd_T56 l0_1 a1).f4]) := ⟨_, rfl⟩
 replace H : (some y395) = some r := by first | (rw [hy395]; with_reducible exact H) | (have H2_ := (Option.bind_some _ _).symm.trans H; rw [hy395]; with_reducible exact H2_) | (have H2_ := (Option.bind_some _ _).symm.trans H; with_reducible exact H2_) | with_reducible exact H | (rw [hy395]; exact H) | exact H
 have Ny395 := As.mk hy395
 clear hy395
 obtain rfl := Option.some.inj H
 go_enter Tryz.func89, Tryz.ntmps89
 go_wp2_with (first | ((with_reducible refine gate_dst (N := 2) rfl ?_); refine box_event ?hg (N := 2) ?hd (cs := #[.slice A0_0 l0_0.length c0_0, .slice A0_1 l0_1.length c0_1]) (t := 32) ?hr ?_; (case hd => rfl); (case hg => rfl); (case hr => first | (go_simp; done) | (go_simp; rfl)); intro gb387 hg w14 hbox hb; have BK387 := As.mk (hbox); have GW387 := As.mk (gs w hg); have GE387 := As.mk (gs w hg); replace HB := As.mk (below_step (be w) hb); clear hb hbox hg; obtain ⟨hcz15_0, hcz15_1, hfz15_0, hfz15_1⟩ := cl2 BK387.out) | ((with_reducible refine gate_callee (f := 36) rfl ?_); refine goesL_ (some 11) rfl rfl Tryz.func36 (by kernel_rfl) rfl #[.int .i64 a1, .int .i64 0, .int .i64 (wrap64 ((l0_1.length : Int) - 1))] rfl (by (try simp only [lm]); first | done | rfl | (simp only [List.length_drop, List.length_take]; rfl)) ?_; (with_reducible refine (impl_in.calls a1 0 (wrap64 ((l0_1.length : Int) - 1)) true _ A3.out).mono ?_); rintro e w' ⟨rfl, ⟨nd, rfl⟩⟩; refine ⟨_, rfl, ?_⟩; have p389 : 0 ≤ (a1 : Int) := od; have q389 : a1 < (l0_1.length : Int) := od; obtain ⟨ad389, A389_1, c389_1, e389, hx389_0, hx389_1, hx389_2, hx389_3, hx389_4, hl389_1, hi389_1⟩ := at_T56 HR0_1.out a1 p389 q389; cases e389; replace hx389_0 := ce HB.out hx389_0; replace hx389_1 := ce HB.out hx389_1; replace hx389_2 := ce HB.out hx389_2; replace hx389_3 := ce HB.out hx389_3; replace hx389_4 := ce HB.out hx389_4; have HR389_1 := As.mk hi389_1; have HC389_1 := As.mk hl389_1; clear hi389_1 hl389_1; replace p389 := eq_true p389; replace q389 := eq_true q389) | ((with_reducible refine gate_dst (N := 19) rfl ?_); refine Kd.R_lit (Kd.int .i64) _ 3 ?hg (N := 19) ?hd (xs := ([(rd_T56 l0_1 a1).f3] : List Int)) (inner := [.int .i64 ((rd_T56 l0_1 a1).f3)]) (ok := fun _ => True) (okp := fun _ => True) ?hr ?hp (fun _ hk => hk) trivial (Below.refl _ _) (Nat.le_refl _) (by simp) ?_; (case hd => rfl); (case hg => rfl); (case hr => first | (go_simp; done) | (go_simp; rfl)); (case hp => exact (Reps.one (show Kd.M (Kd.int .i64) _ _ _ ((rd_T56 l0_1 a1).f3) [.int .i64 ((rd_T56 l0_1 a1).f3)] from rfl) (Reps.none _ _))); intro v391 w16 ho17 hb hg_ hnew_; clear hg_ hnew_; (first | rw [← Ny390.out] at ho17 | (simp only [Int.reduceToNat] at ho17; rw [← Ny390.out] at ho17)); have HO392 := As.mk (Kd.R_lower ho17 (below_size (be w))); replace BK387 := As.mk (blk_below (bx BK387.out) hb); replace HB := As.mk (below_step (be w) hb); clear hb ho17; obtain ⟨hcz18_0, hcz18_1, hfz18_0, hfz18_1⟩ := cl2 BK387.out; have p393 : 0 ≤ (a1 : Int) := od; have q393 : a1 < (l0_1.length : Int) := od; obtain ⟨ad393, A393_1, c393_1, e393, hx393_0, hx393_1, hx393_2, hx393_3, hx393_4, hl393_1, hi393_1⟩ := at_T56 HR0_1.out a1 p393 q393; obtain rfl : ad389 = ad393 := (by injection e393); replace hx393_0 := ce HB.out hx393_0; replace hx393_1 := ce HB.out hx393_1; replace hx393_2 := ce HB.out hx393_2; replace hx393_3 := ce HB.out hx393_3; replace hx393_4 := ce HB.out hx393_4; have HR393_1 := As.mk hi393_1; have HC393_1 := As.mk hl393_1; clear hi393_1 hl393_1; replace p393 := eq_true p393; replace q393 := eq_true q393; have p394 : 0 ≤ (a1 : Int) := od; have q394 : a1 < (l0_1.length : Int) := od; obtain ⟨ad394, A394_1, c394_1, e394, hx394_0, hx394_1, hx394_2, hx394_3, hx394_4, hl394_1, hi394_1⟩ := at_T56 HR0_1.out a1 p394 q394; obtain rfl : ad389 = ad394 := (by injection e394); replace hx394_0 := ce HB.out hx394_0; replace hx394_1 := ce HB.out hx394_1; replace hx394_2 := ce HB.out hx394_2; replace hx394_3 := ce HB.out hx394_3; replace hx394_4 := ce HB.out hx394_4; have HR394_1 := As.mk hi394_1; have HC394_1 := As.mk hl394_1; clear hi394_1 hl394_1; replace p394 := eq_true p394; replace q394 := eq_true q394; have ea_ := Option.some.inj (hx393_1.symm.trans hx394_1); injection ea_ with ea_ en_ ec_; subst ea_; subst ec_; clear en_) | ((with_reducible refine gate_builtin (b := .append) (xs := #[.tmp 27, .tmp 34]) rfl ?_); at_builtin; refine Kd.R_append (Kd.int .i64) (w0 := w) w.heap.size rfl (.tmp 27) (.tmp 34) 45 3 (.int .i64 0) 8 rfl Tryz.underlying45 info3 rfl (by decide) (by omega) v391 y390 ((rd_T56 l0_1 a1).f4) [.int .i64 ((rd_T56 l0_1 a1).f4)] (fun _ => True) (fun _ => False) rfl rfl ?aP (fun _ hk => hk.elim) ?aF ?aO ?aB ?aS ?aL ?_; (case aP => exact rfl); (case aB => exact (be w)); (case aF => exact (fun _ _ => trivial)); (case aO => exact (by (with_reducible repeat (first | apply Kd.R_alloc | apply Kd.R_drewN | apply Kd.R_drew)); exact HO392.out)); (case aS => exact (below_size (be w))); (case aL => have := LMc13.out; omega); intro v396 w19 ho hb hg hat; rw [← Ny395.out] at ho; replace HB := As.mk (hb); have HO397 := As.mk (ho); clear HO392; clear ho hb hg hat))
 go_ret
 exact ⟨_, ez, by (with_reducible repeat (first | apply Kd.R_alloc | apply Kd.R_drewN | apply Kd.R_drew)); exact HO397.out, be w⟩
/-! ### impl_fnNodes: function 62 -/
mutual
def impl_fnNodes.l0 : Nat → List Int → List Int → Int → Int → List (S62) → List (S56) → Option (List Int)
 | 0, _, _, _, _, _, _ => none
 | k + 1, x5, x12, x13, x14, x399000, x399001 => if x14 < x13 then (if 0 ≤ x14 then (if x14 < (x12.length : Int) then ((impl_Under.f k x399000 x399001 (rd x12 x14)).bind fun t404 => (impl_fnNodes.l1 k x5 x12 x13 x14 t404 (t404.length : Int) 0 x399000 x399001)) else (none)) else (none)) else ((sort_Ints.f x5).bind fun t402 => (some t402))
def impl_fnNodes.l1 : Nat → List Int → List Int → Int → Int → List Int → Int → Int → List (S62) → List (S56) → Option (List Int)
 | 0, _, _, _, _, _, _, _, _, _ => none
 | k + 1, x5, x12, x13, x14, x20, x21, x22, x399000, x399001 => if x22 < x21 then (if 0 ≤ x22 then (if x22 < (x20.length : Int) then ((impl_hasInt.f k x5 (rd x20 x22)).bind fun t408 => (if t408 = true then (impl_fnNodes.l1 k x5 x12 x13 x14 x20 x21 (wrap64 (x22 + 1)) x399000 x399001) else (if x5.length < 17592186044416 then (impl_fnNodes.l1 k (x5 ++ [rd x20 x22]) x12 x13 x14 x20 x21 (wrap64 (x22 + 1)) x399000 x399001) else (none)))) else (none)) else (none)) else (impl_fnNodes.l0 k x5 x12 x13 (wrap64 (x14 + 1)) x399000 x399001)
end
def impl_fnNodes.f (k : Nat) (l0_0 : List (S62)) (l0_1 : List (S56)) (a1 : Int) : Option (List Int) := (impl_roots.f l0_0 l0_1 a1).bind fun t399 => (impl_fnNodes.l0 k ([] : List Int) t399 (t399.length : Int) 0 l0_0 l0_1)
theorem impl_fnNodes.mono_l : ∀ k, (∀ y0 y1 y2 y3 y4 y5, LeO (impl_fnNodes.l0 k y0 y1 y2 y3 y4 y5) (impl_fnNodes.l0 (k + 1) y0 y1 y2 y3 y4 y5)) ∧ (∀ y0 y1 y2 y3 y4 y5 y6 y7 y8, LeO (impl_fnNodes.l1 k y0 y1 y2 y3 y4 y5 y6 y7 y8) (impl_fnNodes.l1 (k + 1) y0 y1 y2 y3 y4 y5 y6 y7 y8))
 | 0 => ⟨fun _ _ _ _ _ _ r h => by simp [impl_fnNodes.l0] at h, fun _ _ _ _ _ _ _ _ _ r h => by simp [impl_fnNodes.l1] at h⟩
 | k + 1 => by
  obtain ⟨ih0, ih1⟩ := impl_fnNodes.mono_l k
  refine ⟨?_, ?_⟩
  ·
   intro y0 y1 y2 y3 y4 y5
   unfold impl_fnNodes.l0
   with_reducible repeat' first | exact ih0 _ _ _ _ _ _ | exact ih1 _ _ _ _ _ _ _ _ _ | exact impl_Under.mono _ _ _ _ | exact impl_hasInt.mono _ _ _ | exact LeO.refl _ | exact LeO.none _ | refine LeO.ite ?_ ?_ | refine LeO.bind ?_ (fun _ => ?_)
  ·
   intro y0 y1 y2 y3 y4 y5 y6 y7 y8
   unfold impl_fnNodes.l1
   with_reducible repeat' first | exact ih0 _ _ _ _ _ _ | exact ih1 _ _ _ _ _ _ _ _ _ | exact impl_Under.mono _ _ _ _ | exact impl_hasInt.mono _ _ _ | exact LeO.refl _ | exact LeO.none _ | refine LeO.ite ?_ ?_ | refine LeO.bind ?_ (fun _ => ?_)
theorem impl_fnNodes.mono : ∀ a0 a1 a2 k, LeO (impl_fnNodes.f k a0 a1 a2) (impl_fnNodes.f (k + 1) a0 a1 a2) := by
 intro a0 a1 a2 k
 obtain ⟨ih0, ih1⟩ := impl_fnNodes.mono_l k
 unfold impl_fnNodes.f
 with_reducible repeat' first | exact ih0 _ _ _ _ _ _ | exact ih1 _ _ _ _ _ _ _ _ _ | exact impl_Under.mono _ _ _ _ | exact impl_hasInt.mono _ _ _ | exact LeO.refl _ | exact LeO.none _ | refine LeO.ite ?_ ?_ | refine LeO.bind ?_ (fun _ => ?_)
set_option maxHeartbeats 8000000 in
set_option maxRecDepth 100000 in
theorem impl_fnNodes.calls (k : Nat) (A0_0 : Option Addr) (c0_0 : Nat) (l0_0 : List (S62)) (A0_1 : Option Addr) (c0_1 : Nat) (l0_1 : List (S56)) (a1 : Int) (r : List Int) (w : World) (hr0_0 : Kd.C k62 w A0_0 l0_0.length l0_0) (hc0_0 : l0_0.length ≤ c0_0) (hr0_1 : Kd.C k56 w A0_1 l0_1.length l0_1) (hc0_1 : l0_1.length ≤ c0_1) (h : impl_fnNodes.f k l0_0 l0_1 a1 = some r) :
  Calls Tryz.prog 62 #[.agg #[.slice A0_0 l0_0.length c0_0, .slice A0_1 l0_1.length c0_1], .int .i64 a1] w fun e w' => ∃ v0_ : Value, e = .returned (v0_) ∧ Kd.R (Kd.int .i64) 3 w' w.heap.size (fun _ => True) v0_ r ∧ Below w.heap.size w w' := by
 have hu32 := Tryz.underlying32
 have HR0_0 := As.mk hr0_0
 have HC0_0 := As.mk hc0_0
 clear hr0_0 hc0_0
 have HR0_1 := As.mk hr0_1
 have HC0_1 := As.mk hc0_1
 clear hr0_1 hc0_1
 have HB := As.mk (Below.refl w.heap.size w)
 have H : ((impl_roots.f l0_0 l0_1 a1).bind fun t399 => (impl_fnNodes.l0 k ([] : List Int) t399 (t399.length : Int) 0 l0_0 l0_1)) = some r := h
 clear h
 obtain ⟨t399, A30, H⟩ := Option.bind_eq_some_iff.mp H
 try dsimp only at H
 have A3 := As.mk A30
 clear A30
 have H' := As.mk H
 clear H
 go_enter Tryz.func62, Tryz.ntmps62
 go_wp2_with (first | ((with_reducible refine gate_dst (N := 2) rfl ?_); refine box_event ?hg (N := 2) ?hd (cs := #[.slice A0_0 l0_0.length c0_0, .slice A0_1 l0_1.length c0_1]) (t := 32) ?hr ?_; (case hd => rfl); (case hg => rfl); (case hr => first | (go_simp; done) | (go_simp; rfl)); intro gb398 hg w4 hbox hb; have BK398 := As.mk (hbox); have GW398 := As.mk (gs w hg); have GE398 := As.mk (gs w hg); replace HB := As.mk (below_step (be w) hb); clear hb hbox hg; obtain ⟨hcz5_0, hcz5_1, hfz5_0, hfz5_1⟩ := cl2 BK398.out) | ((with_reducible refine gate_callee (f := 89) rfl ?_); refine goesL_ (some 12) rfl rfl Tryz.func89 (by kernel_rfl) rfl #[.agg #[.slice A0_0 l0_0.length c0_0, .slice A0_1 l0_1.length c0_1], .int .i64 a1] rfl (by (try simp only [lm]); first | done | rfl | (simp only [List.length_drop, List.length_take]; rfl)) ?_; (with_reducible refine (impl_roots.calls _ _ l0_0 _ _ l0_1 a1 t399 _ ?side1 ?side2 ?side3 ?side4 A3.out).mono ?_); (case side1 => exact Kd.C_below HR0_0.out (be w)); (case side2 => exact HC0_0.out); (case side3 => exact Kd.C_below HR0_1.out (be w)); (case side4 => exact HC0_1.out); rintro e w6 ⟨v400, rfl, ho0, hb⟩; refine ⟨_, rfl, ?_⟩; have HO401 := As.mk (Kd.R_lower ho0 (below_size (be w))); replace BK398 := As.mk (blk_below (bx BK398.out) hb); replace HB := As.mk (below_step (be w) hb); (try clear hb); (try clear hb2); (try clear hk); (try clear hi); (try clear ho0); obtain ⟨Ao7, co7, eo7⟩ := Kd.R_slice HO401.out; subst eo7))
 (try simp only [pk])
 go_loopg [5, 14] k (fun kq v5 v14 w' => ∃ (x5_1 : List Int) (x14_1 : Int), v14 = .int .i64 x14_1 ∧ As (impl_fnNodes.l0 kq x5_1 t399 (t399.length : Int) x14_1 l0_0 l0_1 = some r) ∧ As (kq ≤ k) ∧ As (Kd.R (Kd.int .i64) 3 w' w.heap.size (fun k_ => some k_ ≠ ((.slice Ao7 t399.length co7) : Value).ownBlock) v5 x5_1) ∧ As (Kd.R (Kd.int .i64) 3 w' w.heap.size (fun k_ => some k_ ≠ (v5 : Value).ownBlock) (.slice Ao7 t399.length co7) t399) ∧ As (w'.heap[gb398]? = some (.cells #[(.slice A0_0 l0_0.length c0_0), (.slice A0_1 l0_1.length c0_1)] 32 (0, 0))) ∧ As (Below w.heap.size w w'))
 case atStart => exact ⟨(([] : List Int)), (0), (by first | rfl | (simp; done) | (simp [*]; done)), H', ⟨Nat.le_refl _⟩, ⟨by first | exact Kd.R_nil _ _ _ _ _ | exact Kd.N_nil _ _ _ _ _ | exact Kd.V_nil _ _ _ _ _ | exact Kd.Q_nil _ _ _ _ _ | exact Kd.S_nil _ _ _ _ _⟩, ⟨by (with_reducible repeat (first | apply Kd.R_alloc | apply Kd.R_drewN | apply Kd.R_drew)); exact Kd.R_mono HO401.out (fun _ hk => (by simp [Value.ownBlock]))⟩, ⟨bx BK398.out⟩, ⟨be w⟩⟩
 case round =>
  clear H'
  (try clear hcz5_0); (try clear hcz5_1); (try clear hfz5_0); (try clear hfz5_1)
  obtain ⟨x5_1, x14_1, rfl, HA, HK1, HO_5, HO_12, BK398, HB⟩ := hrel
  cases gk with
  | zero => exact absurd HA.out (by simp [impl_fnNodes.l0])
  | succ k1 =>
   have H := HA.out
   clear HA
   simp only [impl_fnNodes.l0] at H
   by_cases c8 : x14_1 < (t399.length : Int)
   rotate_left
   ·
    rw [if_neg c8] at H
    have c8b0 : decide (x14_1 < (t399.length : Int)) = false := decide_eq_false c8
    clear c8
    obtain ⟨t402, A240, H⟩ := Option.bind_eq_some_iff.mp H
    try dsimp only at H
    have A24 := As.mk A240
    clear A240
    obtain rfl := Option.some.inj H
    obtain ⟨Ao25, co25, eo25⟩ := Kd.R_slice HO_5.out
    subst eo25
    go_wp2_with (first | ((with_reducible refine gate_callee (f := 88) rfl ?_); refine goesL_ (some 37) rfl rfl Tryz.func88 (by kernel_rfl) rfl #[.slice Ao25 x5_1.length co25] rfl (by (try simp only [lm]); first | done | rfl | (simp only [List.length_drop, List.length_take]; rfl)) ?_; (with_reducible refine (sort_Ints.calls (fun k_ => some k_ = (.slice Ao25 x5_1.length co25 : Value).ownBlock) (.slice Ao25 x5_1.length co25) x5_1 t402 w _ ?side1 ?side2 A24.out).mono ?_); (case side1 => repeat (first | (with_reducible first | exact HB.out | apply below_alloc | apply pw_below_drewN | apply below_drew1) | exact HB.out)); (case side2 => exact Kd.R_tight rfl HO_5.out); rintro e w26 ⟨rfl, hy0, hb, hkp⟩; refine ⟨_, rfl, ?_⟩; replace HO_5 := As.mk (Kd.R_reok rfl hy0 (fun k_ e_ => HO_5.out.1 k_ e_)); replace HB := As.mk (hb); (try clear hb); (try clear hkp); (try clear hy0)))
    go_ret
    exact ⟨_, ez, by (with_reducible repeat (first | apply Kd.R_alloc | apply Kd.R_drewN | apply Kd.R_drew)); exact Kd.R_mono HO_5.out (fun _ hk => trivial), be w⟩

   rw [if_pos c8] at H
   have c8b0 : decide (x14_1 < (t399.length : Int)) = true := decide_eq_true c8
   clear c8
   by_cases c9 : 0 ≤ x14_1
   rotate_left; · rw [if_neg c9] at H; exact absurd H (by simp)
   rw [if_pos c9] at H
   have c9b0 : decide (0 ≤ x14_1) = true := decide_eq_true c9
   clear c9
   by_cases c10 : x14_1 < (t399.length : Int)
   rotate_left; · rw [if_neg c10] at H; exact absurd H (by simp)
   rw [if_pos c10] at H
   have c10b0 : decide (x14_1 < (t399.length : Int)) = true := decide_eq_true c10
   clear c10
   obtain ⟨t404, A110, H⟩ := Option.bind_eq_some_iff.mp H
   try dsimp only at H
   have A11 := As.mk A110
   clear A110
   have H' := As.mk H
   clear H
   have p403 : 0 ≤ (x14_1 : Int) := od
   have q403 : x14_1 < (t399.length : Int) := od
   obtain ⟨ad403, e403, hx403_0⟩ := Kd.at_int (Kd.R_reads' HO_12.out).2.2 x14_1 p403 q403
   cases e403
   replace p403 := eq_true p403
   replace q403 := eq_true q403
   obtain ⟨hcz12_0, hcz12_1, hfz12_0, hfz12_1⟩ := cl2 BK398.out
   go_wp2_with (first | ((with_reducible refine gate_callee (f := 25) rfl ?_); refine goesL_ (some 20) rfl rfl Tryz.func25 (by kernel_rfl) rfl #[.agg #[.slice A0_0 l0_0.length c0_0, .slice A0_1 l0_1.length c0_1], .int .i64 (rd t399 x14_1)] rfl (by (try simp only [lm]); first | done | rfl | (simp only [List.length_drop, List.length_take]; rfl)) ?_; (with_reducible refine (impl_Under.calls k1 _ _ l0_0 _ _ l0_1 (rd t399 x14_1) t404 _ ?side1 ?side2 ?side3 ?side4 A11.out).mono ?_); (case side1 => exact Kd.C_below HR0_0.out (be w)); (case side2 => exact HC0_0.out); (case side3 => exact Kd.C_below HR0_1.out (be w)); (case side4 => exact HC0_1.out); rintro e w13 ⟨v405, rfl, ho0, hb⟩; refine ⟨_, rfl, ?_⟩; have HO406 := As.mk (Kd.R_lower (Kd.R_new' (Kd.R_new' ho0 (Kd.R_lt (by (with_reducible repeat (first | apply Kd.R_alloc | apply Kd.R_drewN | apply Kd.R_drew)); exact HO_5.out))) (Kd.R_lt (by (with_reducible repeat (first | apply Kd.R_alloc | apply Kd.R_drewN | apply Kd.R_drew)); exact HO_12.out))) (below_size (be w))); replace HO_5 := As.mk (Kd.R_elder' (by (with_reducible repeat (first | apply Kd.R_alloc | apply Kd.R_drewN | apply Kd.R_drew)); exact HO_5.out) (Kd.R_base ho0) hb); replace HO_12 := As.mk (Kd.R_elder' (by (with_reducible repeat (first | apply Kd.R_alloc | apply Kd.R_drewN | apply Kd.R_drew)); exact HO_12.out) (Kd.R_base ho0) hb); replace BK398 := As.mk (blk_below (bx BK398.out) hb); replace HB := As.mk (below_step (be w) hb); (try clear hb); (try clear hb2); (try clear hk); (try clear hi); (try clear ho0); obtain ⟨Ao14, co14, eo14⟩ := Kd.R_slice HO406.out; subst eo14))
   (try simp only [pk])
   go_loopg [5, 22] k1 (fun kq v5 v22 w' => ∃ (x5_2 : List Int) (x22_2 : Int), v22 = .int .i64 x22_2 ∧ As (impl_fnNodes.l1 kq x5_2 t399 (t399.length : Int) x14_1 t404 (t404.length : Int) x22_2 l0_0 l0_1 = some r) ∧ As (kq ≤ k1) ∧ As (Kd.R (Kd.int .i64) 3 w' w.heap.size (fun k_ => some k_ ≠ ((.slice (some ad403) t399.length co7) : Value).ownBlock ∧ some k_ ≠ ((.slice Ao14 t404.length co14) : Value).ownBlock) v5 x5_2) ∧ As (Kd.R (Kd.int .i64) 3 w' w.heap.size (fun k_ => some k_ ≠ (v5 : Value).ownBlock ∧ some k_ ≠ ((.slice Ao14 t404.length co14) : Value).ownBlock) (.slice (some ad403) t399.length co7) t399) ∧ As (Kd.R (Kd.int .i64) 3 w' w.heap.size (fun k_ => some k_ ≠ (v5 : Value).ownBlock ∧ some k_ ≠ ((.slice (some ad403) t399.length co7) : Value).ownBlock) (.slice Ao14 t404.length co14) t404) ∧ As (w'.heap[gb398]? = some (.cells #[(.slice A0_0 l0_0.length c0_0), (.slice A0_1 l0_1.length c0_1)] 32 (0, 0))) ∧ As (Below w.heap.size w w'))
   case atStart => exact ⟨(x5_1), (0), (by first | rfl | (simp; done) | (simp [*]; done)), H', ⟨Nat.le_refl _⟩, ⟨by (with_reducible repeat (first | apply Kd.R_alloc | apply Kd.R_drewN | apply Kd.R_drew)); exact HO_5.out⟩, ⟨by (with_reducible repeat (first | apply Kd.R_alloc | apply Kd.R_drewN | apply Kd.R_drew)); exact HO_12.out⟩, ⟨by (with_reducible repeat (first | apply Kd.R_alloc | apply Kd.R_drewN | apply Kd.R_drew)); exact Kd.R_mono HO406.out (fun _ hk => ⟨hk.1.2, hk.2⟩)⟩, ⟨bx BK398.out⟩, ⟨be w⟩⟩
   case round =>
    clear H'
    (try clear c8); (try clear c8b0); (try clear c9); (try clear c9b0); (try clear c10); (try clear c10b0); (try clear hcz12_0); (try clear hcz12_1); (try clear hcz5_0); (try clear hcz5_1); (try clear hfz12_0); (try clear hfz12_1); (try clear hfz5_0); (try clear hfz5_1); (try clear hx403_0); (try clear p403); (try clear q403)
    obtain ⟨x5_2, x22_2, rfl, HA, HK2, HO_5, HO_12, HO_20, BK398, HB⟩ := hrel
    cases gk with
    | zero => exact absurd HA.out (by simp [impl_fnNodes.l1])
    | succ k2 =>
     have H := HA.out
     clear HA
     simp only [impl_fnNodes.l1] at H
     by_cases c15 : x22_2 < (t404.length : Int)
     rotate_left
     ·
      rw [if_neg c15] at H
      have c15b0 : decide (x22_2 < (t404.length : Int)) = false := decide_eq_false c15
      clear c15
      have H' := As.mk H
      clear H
      go_wp2
      go_roundg k2
      case measure => have := HK1.out; have := HK2.out; omega
      case rel => exact ⟨(x5_2), (wrap64 (x14_1 + 1)), (by first | rfl | (simp; done) | (simp [*]; done)), H', ⟨by have := HK1.out; have := HK2.out; omega⟩, ⟨by (with_reducible repeat (first | apply Kd.R_alloc | apply Kd.R_drewN | apply Kd.R_drew)); exact Kd.R_mono HO_5.out (fun _ hk => hk.1)⟩, ⟨by (with_reducible repeat (first | apply Kd.R_alloc | apply Kd.R_drewN | apply Kd.R_drew)); exact Kd.R_mono HO_12.out (fun _ hk => hk.1)⟩, ⟨bx BK398.out⟩, ⟨be w⟩⟩
     rw [if_pos c15] at H
     have c15b0 : decide (x22_2 < (t404.length : Int)) = true := decide_eq_true c15
     clear c15
     by_cases c16 : 0 ≤ x22_2
     rotate_left; · rw [if_neg c16] at H; exact absurd H (by simp)
     rw [if_pos c16] at H
     have c16b0 : decide (0 ≤ x22_2) = true := decide_eq_true c16
     clear c16
     by_cases c17 : x22_2 < (t404.length : Int)
     rotate_left; · rw [if_neg c17] at H; exact absurd H (by simp)
     rw [if_pos c17] at H
     have c17b0 : decide (x22_2 < (t404.length : Int)) = true := decide_eq_true c17
     clear c17
     obtain ⟨t408, A180, H⟩ := Option.bind_eq_some_iff.mp H
     try dsimp only at H
     have A18 := As.mk A180
     clear A180
     by_cases c19 : t408 = true
     ·
      subst c19
      rw [if_pos rfl] at H
      have H' := As.mk H
      clear H
      have p407 : 0 ≤ (x22_2 : Int) := od
      have q407 : x22_2 < (t404.length : Int) := od
      obtain ⟨ad407, e407, hx407_0⟩ := Kd.at_int (Kd.R_reads' HO_20.out).2.2 x22_2 p407 q407
      cases e407
      replace p407 := eq_true p407
      replace q407 := eq_true q407
      obtain ⟨Ao20, co20, eo20⟩ := Kd.R_slice HO_5.out
      subst eo20
      go_wp2_with (first | ((with_reducible refine gate_callee (f := 87) rfl ?_); refine goesL_ (some 28) rfl rfl Tryz.func87 (by kernel_rfl) rfl #[.slice Ao20 x5_2.length co20, .int .i64 (rd t404 x22_2)] rfl (by (try simp only [lm]); first | done | rfl | (simp only [List.length_drop, List.length_take]; rfl)) ?_; (with_reducible refine (impl_hasInt.calls k2 _ _ x5_2 (rd t404 x22_2) true _ ?side1 ?side2 A18.out).mono ?_); (case side1 => repeat (first | exact (Kd.R_reads' HO_5.out).2.2 | (with_reducible refine Kd.C_alloc ?_ _) | (with_reducible refine Kd.C_drewN ?_ _) | (with_reducible refine Kd.C_drew ?_))); (case side2 => exact (Kd.R_reads' HO_5.out).2.1); rintro e w' ⟨rfl, ⟨nd, rfl⟩⟩; refine ⟨_, rfl, ?_⟩))
      go_roundg k2
      case measure => have := HK1.out; have := HK2.out; omega
      case rel => exact ⟨(x5_2), (wrap64 (x22_2 + 1)), (by first | rfl | (simp; done) | (simp [*]; done)), H', ⟨by have := HK1.out; have := HK2.out; omega⟩, ⟨by (with_reducible repeat (first | apply Kd.R_alloc | apply Kd.R_drewN | apply Kd.R_drew)); exact HO_5.out⟩, ⟨by (with_reducible repeat (first | apply Kd.R_alloc | apply Kd.R_drewN | apply Kd.R_drew)); exact HO_12.out⟩, ⟨by (with_reducible repeat (first | apply Kd.R_alloc | apply Kd.R_drewN | apply Kd.R_drew)); exact HO_20.out⟩, ⟨bx BK398.out⟩, ⟨be w⟩⟩
     replace c19 := Bool.eq_false_iff.mpr c19
     subst c19
     rw [if_neg (show ¬ (false = true) by decide)] at H
     by_cases c21 : x5_2.length < 17592186044416
     rotate_left; · rw [if_neg c21] at H; exact absurd H (by simp)
     rw [if_pos c21] at H
     have LMc21 := As.mk c21
     clear c21
     obtain ⟨y409, hy409⟩ : ∃ y_ : List Int, y_ = (x5_2 ++ [rd t404 x22_2]) := ⟨_, rfl⟩
     replace H : (impl_fnNodes.l1 k2 y409 t399 (t399.length : Int) x14_1 t404 (t404.length : Int) (wrap64 (x22_2 + 1)) l0_0 l0_1) = some r := by first | (rw [hy409]; with_reducible exact H) | (have H2_ := (Option.bind_some _ _).symm.trans H; rw [hy409]; with_reducible exact H2_) | (have H2_ := (Option.bind_some _ _).symm.trans H; with_reducible exact H2_) | with_reducible exact H | (rw [hy409]; exact H) | exact H
     have Ny409 := As.mk hy409
     clear hy409
     have H' := As.mk H
     clear H
     have p407 : 0 ≤ (x22_2 : Int) := od
     have q407 : x22_2 < (t404.length : Int) := od
     obtain ⟨ad407, e407, hx407_0⟩ := Kd.at_int (Kd.R_reads' HO_20.out).2.2 x22_2 p407 q407
     cases e407
     replace p407 := eq_true p407
     replace q407 := eq_true q407
     obtain ⟨Ao22, co22, eo22⟩ := Kd.R_slice HO_5.out
     subst eo22
     go_wp2_with (first | ((with_reducible refine gate_callee (f := 87) rfl ?_); refine goesL_ (some 28) rfl rfl Tryz.func87 (by kernel_rfl) rfl #[.slice Ao22 x5_2.length co22, .int .i64 (rd t404 x22_2)] rfl (by (try simp only [lm]); first | done | rfl | (simp only [List.length_drop, List.length_take]; rfl)) ?_; (with_reducible refine (impl_hasInt.calls k2 _ _ x5_2 (rd t404 x22_2) false _ ?side1 ?side2 A18.out).mono ?_); (case side1 => repeat (first | exact (Kd.R_reads' HO_5.out).2.2 | (with_reducible refine Kd.C_alloc ?_ _) | (with_reducible refine Kd.C_drewN ?_ _) | (with_reducible refine Kd.C_drew ?_))); (case side2 => exact (Kd.R_reads' HO_5.out).2.1); rintro e w' ⟨rfl, ⟨nd, rfl⟩⟩; refine ⟨_, rfl, ?_⟩) | ((with_reducible refine gate_builtin (b := .append) (xs := #[.tmp 30, .tmp 32]) rfl ?_); at_builtin; refine Kd.R_append (Kd.int .i64) (w0 := w) w.heap.size rfl (.tmp 30) (.tmp 32) 45 3 (.int .i64 0) 8 rfl Tryz.underlying45 info3 rfl (by decide) (by omega) (.slice Ao22 x5_2.length co22) x5_2 (rd t404 x22_2) [.int .i64 (rd t404 x22_2)] (fun k_ => some k_ ≠ (.slice (some ad403) t399.length co7 : Value).ownBlock ∧ some k_ ≠ (.slice (some ad407) t404.length co14 : Value).ownBlock) (fun _ => False) rfl rfl ?aP (fun _ hk => hk.elim) ?aF ?aO ?aB ?aS ?aL ?_; (case aP => exact rfl); (case aB => exact (be w)); (case aF => exact (fun k_ hk => ⟨Kd.fresh' (Kd.R_lt (by (with_reducible repeat (first | apply Kd.R_alloc | apply Kd.R_drewN | apply Kd.R_drew)); exact HO_12.out)) k_ hk, Kd.fresh' (Kd.R_lt (by (with_reducible repeat (first | apply Kd.R_alloc | apply Kd.R_drewN | apply Kd.R_drew)); exact HO_20.out)) k_ hk⟩)); (case aO => exact (by (with_reducible repeat (first | apply Kd.R_alloc | apply Kd.R_drewN | apply Kd.R_drew)); exact HO_5.out)); (case aS => exact (below_size (be w))); (case aL => have := LMc21.out; omega); intro v410 w23 ho hb hg hat; rw [← Ny409.out] at ho; replace HO_12 := As.mk (Kd.R_after (ok := (fun k_ => some k_ ≠ (.slice (some ad407) t404.length co14 : Value).ownBlock)) (by (with_reducible repeat (first | apply Kd.R_alloc | apply Kd.R_drewN | apply Kd.R_drew)); exact Kd.R_mono HO_12.out (fun _ hk => ⟨hk.2, hk.1⟩)) hg hat); replace HO_20 := As.mk (Kd.R_after (ok := (fun k_ => some k_ ≠ (.slice (some ad403) t399.length co7 : Value).ownBlock)) (by (with_reducible repeat (first | apply Kd.R_alloc | apply Kd.R_drewN | apply Kd.R_drew)); exact Kd.R_mono HO_20.out (fun _ hk => ⟨hk.2, hk.1⟩)) hg hat); replace BK398 := As.mk (blk_grown (g := gb398) (o := .cells #[.slice A0_0 l0_0.length c0_0, .slice A0_1 l0_1.length c0_1] 32 (0, 0)) (bx BK398.out) hg (Kd.R_ne HO_5.out BK398.out (by decide))); replace HB := As.mk (hb); have HO411 := As.mk (ho); clear HO_5; clear ho hb hg hat))
     go_roundg k2
     case measure => have := HK1.out; have := HK2.out; omega
     case rel => exact ⟨(y409), (wrap64 (x22_2 + 1)), (by first | rfl | (simp; done) | (simp [*]; done)), H', ⟨by have := HK1.out; have := HK2.out; omega⟩, ⟨by (with_reducible repeat (first | apply Kd.R_alloc | apply Kd.R_drewN | apply Kd.R_drew)); exact HO411.out⟩, ⟨by (with_reducible repeat (first | apply Kd.R_alloc | apply Kd.R_drewN | apply Kd.R_drew)); exact Kd.R_mono HO_12.out (fun _ hk => ⟨hk.2, hk.1⟩)⟩, ⟨by (with_reducible repeat (first | apply Kd.R_alloc | apply Kd.R_drewN | apply Kd.R_drew)); exact Kd.R_mono HO_20.out (fun _ hk => ⟨hk.2, hk.1⟩)⟩, ⟨bx BK398.out⟩, ⟨be w⟩⟩
/-! ### impl_uses: function 63 -/
def impl_uses.f (a0 : Int) : Option (Bool) := (impl_in.f a0 2 6).bind fun t412 => (if t412 = true then (some true) else (if a0 = 14 then (some true) else (some (a0 == 15))))
set_option maxHeartbeats 8000000 in
set_option maxRecDepth 100000 in
theorem impl_uses.calls (a0 : Int) (r : Bool) (w : World) (h : impl_uses.f a0 = some r) :
  Calls Tryz.prog 63 #[.int .i64 a0] w fun e w' => e = .returned (.bool r) ∧ Drawn0 w w' := by
 have H : ((impl_in.f a0 2 6).bind fun t412 => (if t412 = true then (some true) else (if a0 = 14 then (some true) else (some (a0 == 15))))) = some r := h
 clear h
 obtain ⟨t412, A20, H⟩ := Option.bind_eq_some_iff.mp H
 try dsimp only at H
 have A2 := As.mk A20
 clear A20
 by_cases c3 : t412 = true
 ·
  subst c3
  rw [if_pos rfl] at H
  obtain rfl := Option.some.inj H
  go_enter Tryz.func63, Tryz.ntmps63
  go_wp2_with (first | ((with_reducible refine gate_callee (f := 36) rfl ?_); refine goesL_ (some 4) rfl rfl Tryz.func36 (by kernel_rfl) rfl #[.int .i64 a0, .int .i64 2, .int .i64 6] rfl (by (try simp only [lm]); first | done | rfl | (simp only [List.length_drop, List.length_take]; rfl)) ?_; (with_reducible refine (impl_in.calls a0 2 6 true _ A2.out).mono ?_); rintro e w' ⟨rfl, ⟨nd, rfl⟩⟩; refine ⟨_, rfl, ?_⟩))
  go_ret
  exact dw
 replace c3 := Bool.eq_false_iff.mpr c3
 subst c3
 rw [if_neg (show ¬ (false = true) by decide)] at H
 by_cases c4 : a0 = 14
 rotate_left
 ·
  rw [if_neg c4] at H
  have c4b0 : (a0 == 14) = false := beq_eq_false_iff_ne.mpr c4
  have c4b1 : (a0 != 14) = true := bne_iff_ne.mpr c4
  obtain rfl := Option.some.inj H
  go_enter Tryz.func63, Tryz.ntmps63
  go_wp2_with (first | ((with_reducible refine gate_callee (f := 36) rfl ?_); refine goesL_ (some 4) rfl rfl Tryz.func36 (by kernel_rfl) rfl #[.int .i64 a0, .int .i64 2, .int .i64 6] rfl (by (try simp only [lm]); first | done | rfl | (simp only [List.length_drop, List.length_take]; rfl)) ?_; (with_reducible refine (impl_in.calls a0 2 6 false _ A2.out).mono ?_); rintro e w' ⟨rfl, ⟨nd, rfl⟩⟩; refine ⟨_, rfl, ?_⟩))
  go_ret
  exact dw

 rw [if_pos c4] at H
 have c4b0 : (a0 == 14) = true := beq_iff_eq.mpr c4
 have c4b1 : (a0 != 14) = false := bne_eq_false_iff_eq.mpr c4
 clear c4
 obtain rfl := Option.some.inj H
 go_enter Tryz.func63, Tryz.ntmps63
 go_wp2_with (first | ((with_reducible refine gate_callee (f := 36) rfl ?_); refine goesL_ (some 4) rfl rfl Tryz.func36 (by kernel_rfl) rfl #[.int .i64 a0, .int .i64 2, .int .i64 6] rfl (by (try simp only [lm]); first | done | rfl | (simp only [List.length_drop, List.length_take]; rfl)) ?_; (with_reducible refine (impl_in.calls a0 2 6 false _ A2.out).mono ?_); rintro e w' ⟨rfl, ⟨nd, rfl⟩⟩; refine ⟨_, rfl, ?_⟩))
 go_ret
 exact dw
end Go.Proofs.YtcoapbnbakmkoaaGreatDoor.PFnExactUsesOf
