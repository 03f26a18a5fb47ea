/- Written by a program of this session (a turned copy of the kit's print): a contract for each Go function. No condition beside those in each statement. -/
import Derived.Test.YtmdpggibcjkfoaaDoorPFnExactProgramOkx0
import Derived.Test.YtmdpggibcjkfoaaDoorPFnExactProgramOkx10
import Derived.Test.YtmdpggibcjkfoaaDoorPFnExactProgramOkx11
import Derived.Test.YtmdpggibcjkfoaaDoorPFnExactProgramOkx12
namespace Go.Proofs.YtmdpggibcjkfoaaDoor.PFnExactProgramOk
open Go.RowKit Go.Proofs.YtmdpggibcjkfoaaDoor.Given Go.Proofs.YtmdpggibcjkfoaaDoorW.PrintWords Go.Proofs.YtmdpggibcjkfoaaDoorW.PrintLast Go.Proofs.YtmdpggibcjkfoaaDoorW.PrintMore
attribute [local go_sem] max2_int min2_int max_two min_two max_three min_three max_four min_four   -- for this text's walks alone
set_option linter.unusedVariables false
set_option linter.unusedSimpArgs false

/-! ### impl_depths: function 55 -/
mutual
def impl_depths.l0 : Nat → List (S64) → Int → List Int → Int → Option (List Int × Bool)
 | 0, _, _, _, _ => none
 | k + 1, x0, x1, x6, x7 => if x7 ≤ x1 then ((impl_NodeOk.f k x0 x7).bind fun t331 => (if t331 = true then (if 0 ≤ x7 then (if x7 < (x0.length : Int) then (impl_depths.l1 k x0 x1 x6 x7 1 ((rd_T64 x0 x7).f3) (((rd_T64 x0 x7).f3).length : Int) 0) else (none)) else (none)) else (some (([] : List Int), false)))) else (some (x6, true))
def impl_depths.l1 : Nat → List (S64) → Int → List Int → Int → Int → List Int → Int → Int → Option (List Int × Bool)
 | 0, _, _, _, _, _, _, _, _ => none
 | k + 1, x0, x1, x6, x7, x8, x30, x31, x32 => if x32 < x31 then (if 0 ≤ x32 then (if x32 < (x30.length : Int) then (if 0 ≤ (rd x30 x32) then (if (rd x30 x32) < (x6.length : Int) then (impl_depths.l1 k x0 x1 x6 x7 (mx x8 (wrap64 ((rd x6 (rd x30 x32)) + 1))) x30 x31 (wrap64 (x32 + 1))) else (none)) else (none)) else (none)) else (none)) else (if x8 > 10 then (some (([] : List Int), false)) else (if x6.length < 17592186044416 then (impl_depths.l0 k x0 x1 (x6 ++ [x8]) (wrap64 (x7 + 1))) else (none)))
end
def impl_depths.f (k : Nat) (l0 : List (S64)) (a1 : Int) : Option (List Int × Bool) := (impl_in.f a1 0 (wrap64 ((l0.length : Int) - 1))).bind fun t330 => (if t330 = true then (impl_depths.l0 k l0 a1 ([] : List Int) 0) else (some (([] : List Int), false)))
theorem impl_depths.mono_l : ∀ k, (∀ y0 y1 y2 y3, LeO (impl_depths.l0 k y0 y1 y2 y3) (impl_depths.l0 (k + 1) y0 y1 y2 y3)) ∧ (∀ y0 y1 y2 y3 y4 y5 y6 y7, LeO (impl_depths.l1 k y0 y1 y2 y3 y4 y5 y6 y7) (impl_depths.l1 (k + 1) y0 y1 y2 y3 y4 y5 y6 y7))
 | 0 => ⟨fun _ _ _ _ r h => by simp [impl_depths.l0] at h, fun _ _ _ _ _ _ _ _ r h => by simp [impl_depths.l1] at h⟩
 | k + 1 => by
  obtain ⟨ih0, ih1⟩ := impl_depths.mono_l k
  refine ⟨?_, ?_⟩
  ·
   intro y0 y1 y2 y3
   unfold impl_depths.l0
   with_reducible repeat' first | exact ih0 _ _ _ _ | exact ih1 _ _ _ _ _ _ _ _ | exact impl_NodeOk.mono _ _ _ | exact LeO.refl _ | exact LeO.none _ | refine LeO.ite ?_ ?_ | refine LeO.bind ?_ (fun _ => ?_)
  ·
   intro y0 y1 y2 y3 y4 y5 y6 y7
   unfold impl_depths.l1
   with_reducible repeat' first | exact ih0 _ _ _ _ | exact ih1 _ _ _ _ _ _ _ _ | exact impl_NodeOk.mono _ _ _ | exact LeO.refl _ | exact LeO.none _ | refine LeO.ite ?_ ?_ | refine LeO.bind ?_ (fun _ => ?_)
theorem impl_depths.mono : ∀ a0 a1 k, LeO (impl_depths.f k a0 a1) (impl_depths.f (k + 1) a0 a1) := by
 intro a0 a1 k
 obtain ⟨ih0, ih1⟩ := impl_depths.mono_l k
 unfold impl_depths.f
 with_reducible repeat' first | exact ih0 _ _ _ _ | exact ih1 _ _ _ _ _ _ _ _ | exact impl_NodeOk.mono _ _ _ | exact LeO.refl _ | exact LeO.none _ | refine LeO.ite ?_ ?_ | refine LeO.bind ?_ (fun _ => ?_)
set_option maxHeartbeats 8000000 in
set_option maxRecDepth 100000 in
theorem impl_depths.calls (k : Nat) (A0 : Option Addr) (c0 : Nat) (l0 : List (S64)) (a1 : Int) (r1 : List Int) (r2 : Bool) (w : World) (hr0 : Kd.C k64 w A0 l0.length l0) (hc0 : l0.length ≤ c0) (h : impl_depths.f k l0 a1 = some (r1, r2)) :
  Calls Tryd.prog 55 #[.slice A0 l0.length c0, .int .i64 a1] w fun e w' => ∃ v0_ : Value, e = .returned (.tuple #[v0_, .bool r2]) ∧ Kd.R (Kd.int .i64) 3 w' w.heap.size (fun _ => True) v0_ r1 ∧ Below w.heap.size w w' := by
 have HR0 := As.mk hr0
 have HC0 := As.mk hc0
 clear hr0 hc0
 have HB := As.mk (Below.refl w.heap.size w)
 have H : ((impl_in.f a1 0 (wrap64 ((l0.length : Int) - 1))).bind fun t330 => (if t330 = true then (impl_depths.l0 k l0 a1 ([] : List Int) 0) else (some (([] : List Int), false)))) = some (r1, r2) := h
 clear h
 obtain ⟨t330, A30, H⟩ := Option.bind_eq_some_iff.mp H
 try dsimp only at H
 have A3 := As.mk A30
 clear A30
 by_cases c4 : t330 = true
 rotate_left
 ·
  replace c4 := Bool.eq_false_iff.mpr c4
  subst c4
  rw [if_neg (show ¬ (false = true) by decide)] at H
  simp only [Option.some.injEq, Prod.mk.injEq] at H
  obtain ⟨rfl, rfl⟩ := H
  go_enter Tryd.func55, Tryd.ntmps55
  go_wp2_with (first | ((with_reducible refine gate_callee (f := 45) rfl ?_); refine goesL_ (some 15) rfl rfl Tryd.func45 (by kernel_rfl) rfl #[.int .i64 a1, .int .i64 0, .int .i64 (wrap64 ((l0.length : Int) - 1))] rfl (by (try simp only [lm]); first | done | rfl | (simp only [List.length_drop, List.length_take]; rfl)) ?_; (with_reducible refine (impl_in.calls a1 0 (wrap64 ((l0.length : Int) - 1)) false _ A3.out).mono ?_); rintro e w' ⟨rfl, ⟨nd, rfl⟩⟩; refine ⟨_, rfl, ?_⟩))
  go_ret2
  exact ⟨_, by first | rfl | (simp [errW_none, errW_some] <;> rfl) | (simp [*, errW_none, errW_some] <;> rfl), by first | exact Kd.R_nil _ _ _ _ _ | exact Kd.N_nil _ _ _ _ _ | exact Kd.V_nil _ _ _ _ _ | exact Kd.Q_nil _ _ _ _ _ | exact Kd.S_nil _ _ _ _ _, be w⟩

 subst c4
 rw [if_pos rfl] at H
 have H' := As.mk H
 clear H
 go_enter Tryd.func55, Tryd.ntmps55
 go_wp2_with (first | ((with_reducible refine gate_callee (f := 45) rfl ?_); refine goesL_ (some 15) rfl rfl Tryd.func45 (by kernel_rfl) rfl #[.int .i64 a1, .int .i64 0, .int .i64 (wrap64 ((l0.length : Int) - 1))] rfl (by (try simp only [lm]); first | done | rfl | (simp only [List.length_drop, List.length_take]; rfl)) ?_; (with_reducible refine (impl_in.calls a1 0 (wrap64 ((l0.length : Int) - 1)) true _ A3.out).mono ?_); rintro e w' ⟨rfl, ⟨nd, rfl⟩⟩; refine ⟨_, rfl, ?_⟩))
 (try simp only [pk])
 go_loopg [6, 7] k (fun kq v6 v7 w' => ∃ (x6_1 : List Int) (x7_1 : Int), v7 = .int .i64 x7_1 ∧ As (impl_depths.l0 kq l0 a1 x6_1 x7_1 = some (r1, r2)) ∧ As (kq ≤ k) ∧ As (Kd.R (Kd.int .i64) 3 w' w.heap.size (fun _ => True) v6 x6_1) ∧ As (Below w.heap.size w w'))
 case atStart => exact ⟨(([] : List Int)), (0), (by first | rfl | (simp; done) | (simp [*]; done)), H', ⟨Nat.le_refl _⟩, ⟨by first | exact Kd.R_nil _ _ _ _ _ | exact Kd.N_nil _ _ _ _ _ | exact Kd.V_nil _ _ _ _ _ | exact Kd.Q_nil _ _ _ _ _ | exact Kd.S_nil _ _ _ _ _⟩, ⟨be w⟩⟩
 case round =>
  clear H'
  (try clear c4)
  obtain ⟨x6_1, x7_1, rfl, HA, HK1, HO_6, HB⟩ := hrel
  cases gk with
  | zero => exact absurd HA.out (by simp [impl_depths.l0])
  | succ k1 =>
   have H := HA.out
   clear HA
   simp only [impl_depths.l0] at H
   by_cases c5 : x7_1 ≤ a1
   rotate_left
   ·
    rw [if_neg c5] at H
    have c5b0 : decide (x7_1 ≤ a1) = false := decide_eq_false c5
    clear c5
    simp only [Option.some.injEq, Prod.mk.injEq] at H
    obtain ⟨rfl, rfl⟩ := H
    go_wp2
    go_ret2
    exact ⟨_, by first | rfl | (simp [errW_none, errW_some] <;> rfl) | (simp [*, errW_none, errW_some] <;> rfl), by (with_reducible repeat (first | apply Kd.R_alloc | apply Kd.R_drewN | apply Kd.R_drew)); exact HO_6.out, be w⟩
   rw [if_pos c5] at H
   have c5b0 : decide (x7_1 ≤ a1) = true := decide_eq_true c5
   clear c5
   obtain ⟨t331, A60, H⟩ := Option.bind_eq_some_iff.mp H
   try dsimp only at H
   have A6 := As.mk A60
   clear A60
   by_cases c7 : t331 = true
   rotate_left
   ·
    replace c7 := Bool.eq_false_iff.mpr c7
    subst c7
    rw [if_neg (show ¬ (false = true) by decide)] at H
    simp only [Option.some.injEq, Prod.mk.injEq] at H
    obtain ⟨rfl, rfl⟩ := H
    go_wp2_with (first | ((with_reducible refine gate_callee (f := 13) rfl ?_); refine goesL_ (some 24) rfl rfl Tryd.func13 (by kernel_rfl) rfl #[.slice A0 l0.length c0, .int .i64 x7_1] rfl (by (try simp only [lm]); first | done | rfl | (simp only [List.length_drop, List.length_take]; rfl)) ?_; (with_reducible refine (impl_NodeOk.calls k1 _ _ l0 x7_1 false _ ?side1 ?side2 A6.out).mono ?_); (case side1 => exact Kd.C_below HR0.out (be w)); (case side2 => exact HC0.out); rintro e w21 ⟨rfl, hb⟩; refine ⟨_, rfl, ?_⟩; replace HB := As.mk (below_step (be w) hb); (try clear hb); (try clear hb2); (try clear hk); (try clear hi)))
    go_ret2
    exact ⟨_, by first | rfl | (simp [errW_none, errW_some] <;> rfl) | (simp [*, errW_none, errW_some] <;> rfl), by first | exact Kd.R_nil _ _ _ _ _ | exact Kd.N_nil _ _ _ _ _ | exact Kd.V_nil _ _ _ _ _ | exact Kd.Q_nil _ _ _ _ _ | exact Kd.S_nil _ _ _ _ _, be w⟩
   subst c7
   rw [if_pos rfl] at H
   by_cases c8 : 0 ≤ x7_1
   rotate_left
   ·
    rw [if_neg c8] at H
    exact absurd H (by simp)
   rw [if_pos c8] at H
   have c8b0 : decide (0 ≤ x7_1) = true := decide_eq_true c8
   clear c8
   by_cases c9 : x7_1 < (l0.length : Int)
   rotate_left
   ·
    rw [if_neg c9] at H
    exact absurd H (by simp)
   rw [if_pos c9] at H
   have c9b0 : decide (x7_1 < (l0.length : Int)) = true := decide_eq_true c9
   clear c9
   have H' := As.mk H
   clear H
   go_wp2_with (first | ((with_reducible refine gate_callee (f := 13) rfl ?_); refine goesL_ (some 24) rfl rfl Tryd.func13 (by kernel_rfl) rfl #[.slice A0 l0.length c0, .int .i64 x7_1] rfl (by (try simp only [lm]); first | done | rfl | (simp only [List.length_drop, List.length_take]; rfl)) ?_; (with_reducible refine (impl_NodeOk.calls k1 _ _ l0 x7_1 true _ ?side1 ?side2 A6.out).mono ?_); (case side1 => exact Kd.C_below HR0.out (be w)); (case side2 => exact HC0.out); rintro e w10 ⟨rfl, hb⟩; refine ⟨_, rfl, ?_⟩; replace HO_6 := As.mk (Kd.R_below (by (with_reducible repeat (first | apply Kd.R_alloc | apply Kd.R_drewN | apply Kd.R_drew)); exact HO_6.out) hb); replace HB := As.mk (below_step (be w) hb); (try clear hb); (try clear hb2); (try clear hk); (try clear hi); have p332 : 0 ≤ (x7_1 : Int) := of_decide_eq_true (by first | (with_reducible assumption) | assumption); have q332 : x7_1 < (l0.length : Int) := of_decide_eq_true (by first | (with_reducible assumption) | assumption); obtain ⟨ad332, A332_3, c332_3, e332, hx332_0, hx332_1, hx332_2, hx332_3, hl332_3, hi332_3⟩ := at_T64 HR0.out x7_1 p332 q332; cases e332; replace hx332_0 := ce HB.out hx332_0; replace hx332_1 := ce HB.out hx332_1; replace hx332_2 := ce HB.out hx332_2; replace hx332_3 := ce HB.out hx332_3; have HR332_3 := As.mk hi332_3; have HC332_3 := As.mk hl332_3; clear hi332_3 hl332_3; replace p332 := eq_true p332; replace q332 := eq_true q332))
   (try simp only [pk])
   go_loopg [8, 32] k1 (fun kq v8 v32 w' => ∃ (x8_2 : Int) (x32_2 : Int), v8 = .int .i64 x8_2 ∧ v32 = .int .i64 x32_2 ∧ As (impl_depths.l1 kq l0 a1 x6_1 x7_1 x8_2 ((rd_T64 l0 x7_1).f3) (((rd_T64 l0 x7_1).f3).length : Int) x32_2 = some (r1, r2)) ∧ As (kq ≤ k1) ∧ As (Kd.R (Kd.int .i64) 3 w' w.heap.size (fun _ => True) u6 x6_1) ∧ As (Below w.heap.size w w'))
   case atStart => exact ⟨(1), (0), (by first | rfl | (simp; done) | (simp [*]; done)), (by first | rfl | (simp; done) | (simp [*]; done)), H', ⟨Nat.le_refl _⟩, ⟨by (with_reducible repeat (first | apply Kd.R_alloc | apply Kd.R_drewN | apply Kd.R_drew)); exact HO_6.out⟩, ⟨be w⟩⟩
   case round =>
    clear H'
    (try clear c4); (try clear c5); (try clear c5b0); (try clear c7); (try clear c8); (try clear c8b0); (try clear c9); (try clear c9b0); (try clear hx332_0); (try clear hx332_1); (try clear hx332_2); (try clear hx332_3); (try clear p332); (try clear q332)
    obtain ⟨x8_2, x32_2, rfl, rfl, HA, HK2, HO_6, HB⟩ := hrel
    cases gk with
    | zero => exact absurd HA.out (by simp [impl_depths.l1])
    | succ k2 =>
     have H := HA.out
     clear HA
     simp only [impl_depths.l1] at H
     by_cases c11 : x32_2 < (((rd_T64 l0 x7_1).f3).length : Int)
     rotate_left
     ·
      rw [if_neg c11] at H
      have c11b0 : decide (x32_2 < (((rd_T64 l0 x7_1).f3).length : Int)) = false := decide_eq_false c11
      clear c11
      by_cases c18 : x8_2 > 10
      ·
       rw [if_pos c18] at H
       have c18b0 : decide (10 < x8_2) = true := decide_eq_true c18
       clear c18
       simp only [Option.some.injEq, Prod.mk.injEq] at H
       obtain ⟨rfl, rfl⟩ := H
       go_wp2
       go_ret2
       exact ⟨_, by first | rfl | (simp [errW_none, errW_some] <;> rfl) | (simp [*, errW_none, errW_some] <;> rfl), by first | exact Kd.R_nil _ _ _ _ _ | exact Kd.N_nil _ _ _ _ _ | exact Kd.V_nil _ _ _ _ _ | exact Kd.Q_nil _ _ _ _ _ | exact Kd.S_nil _ _ _ _ _, be w⟩
      rw [if_neg c18] at H
      have c18b0 : decide (10 < x8_2) = false := decide_eq_false c18
      clear c18
      by_cases c19 : x6_1.length < 17592186044416
      rotate_left
      ·
       rw [if_neg c19] at H
       exact absurd H (by simp)
      rw [if_pos c19] at H
      have LMc19 := As.mk c19
      clear c19
      obtain ⟨y335, hy335⟩ : ∃ y_ : List Int, y_ = (x6_1 ++ [x8_2]) := ⟨_, rfl⟩
      replace H : (impl_depths.l0 k2 l0 a1 y335 (wrap64 (x7_1 + 1))) = some (r1, r2) := by first | (rw [hy335]; with_reducible exact H) | (have H2_ := (Option.bind_some _ _).symm.trans H; rw [hy335]; with_reducible exact H2_) | (have H2_ := (Option.bind_some _ _).symm.trans H; with_reducible exact H2_) | with_reducible exact H | (rw [hy335]; exact H) | exact H
      have Ny335 := As.mk hy335
      clear hy335
      have H' := As.mk H
      clear H
      go_wp2_with (first | ((with_reducible refine gate_builtin (b := .append) (xs := #[.tmp 46, .tmp 48]) rfl ?_); at_builtin; refine Kd.R_append (Kd.int .i64) (w0 := w) w.heap.size rfl (.tmp 46) (.tmp 48) 60 3 (.int .i64 0) 8 rfl Tryd.underlying60 info3 rfl (by decide) (by omega) u6 x6_1 x8_2 [.int .i64 x8_2] (fun _ => True) (fun _ => False) rfl rfl ?aP (fun _ hk => hk.elim) ?aF ?aO ?aB ?aS ?aL ?_; (case aP => exact rfl); (case aB => exact (be w)); (case aF => exact (fun _ _ => trivial)); (case aO => exact (by (with_reducible repeat (first | apply Kd.R_alloc | apply Kd.R_drewN | apply Kd.R_drew)); exact HO_6.out)); (case aS => exact (below_size (be w))); (case aL => have := LMc19.out; omega); intro v336 w20 ho hb hg hat; rw [← Ny335.out] at ho; replace HB := As.mk (hb); have HO337 := As.mk (ho); clear HO_6; clear ho hb hg hat))
      go_roundg k2
      case measure => have := HK1.out; have := HK2.out; omega
      case rel => exact ⟨(y335), (wrap64 (x7_1 + 1)), (by first | rfl | (simp; done) | (simp [*]; done)), H', ⟨by have := HK1.out; have := HK2.out; omega⟩, ⟨by (with_reducible repeat (first | apply Kd.R_alloc | apply Kd.R_drewN | apply Kd.R_drew)); exact HO337.out⟩, ⟨be w⟩⟩
     rw [if_pos c11] at H
     have c11b0 : decide (x32_2 < (((rd_T64 l0 x7_1).f3).length : Int)) = true := decide_eq_true c11
     clear c11
     by_cases c12 : 0 ≤ x32_2
     rotate_left
     ·
      rw [if_neg c12] at H
      exact absurd H (by simp)
     rw [if_pos c12] at H
     have c12b0 : decide (0 ≤ x32_2) = true := decide_eq_true c12
     clear c12
     by_cases c13 : x32_2 < (((rd_T64 l0 x7_1).f3).length : Int)
     rotate_left
     ·
      rw [if_neg c13] at H
      exact absurd H (by simp)
     rw [if_pos c13] at H
     have c13b0 : decide (x32_2 < (((rd_T64 l0 x7_1).f3).length : Int)) = true := decide_eq_true c13
     clear c13
     by_cases c14 : 0 ≤ (rd ((rd_T64 l0 x7_1).f3) x32_2)
     rotate_left
     ·
      rw [if_neg c14] at H
      exact absurd H (by simp)
     rw [if_pos c14] at H
     have c14b0 : decide (0 ≤ (rd ((rd_T64 l0 x7_1).f3) x32_2)) = true := decide_eq_true c14
     clear c14
     by_cases c15 : (rd ((rd_T64 l0 x7_1).f3) x32_2) < (x6_1.length : Int)
     rotate_left
     ·
      rw [if_neg c15] at H
      exact absurd H (by simp)
     rw [if_pos c15] at H
     have c15b0 : decide ((rd ((rd_T64 l0 x7_1).f3) x32_2) < (x6_1.length : Int)) = true := decide_eq_true c15
     clear c15
     obtain ⟨ji16, hji16⟩ : ∃ j_ : Int, (mx x8_2 (wrap64 ((rd x6_1 (rd ((rd_T64 l0 x7_1).f3) x32_2)) + 1))) = j_ := ⟨_, rfl⟩
     replace H : (impl_depths.l1 k2 l0 a1 x6_1 x7_1 ji16 ((rd_T64 l0 x7_1).f3) (((rd_T64 l0 x7_1).f3).length : Int) (wrap64 (x32_2 + 1))) = some (r1, r2) := by first | (rw [hji16] at H; exact H) | (simp only [hji16] at H ⊢; exact H)
     have hji16_ : (if x8_2 < (wrap64 ((rd x6_1 (rd ((rd_T64 l0 x7_1).f3) x32_2)) + 1)) then (wrap64 ((rd x6_1 (rd ((rd_T64 l0 x7_1).f3) x32_2)) + 1)) else x8_2) = ji16 := hji16
     have H' := As.mk H
     clear H
     have p333 : 0 ≤ (x32_2 : Int) := of_decide_eq_true (by first | (with_reducible assumption) | assumption)
     have q333 : x32_2 < (((rd_T64 l0 x7_1).f3).length : Int) := of_decide_eq_true (by first | (with_reducible assumption) | assumption)
     obtain ⟨ad333, e333, hx333_0⟩ := Kd.at_int HR332_3.out x32_2 p333 q333
     cases e333
     replace hx333_0 := ce HB.out hx333_0
     replace p333 := eq_true p333
     replace q333 := eq_true q333
     obtain ⟨Ao17, co17, eo17⟩ := Kd.R_slice HO_6.out
     subst eo17
     have p334 : 0 ≤ ((rd ((rd_T64 l0 x7_1).f3) x32_2) : Int) := of_decide_eq_true (by first | (with_reducible assumption) | assumption)
     have q334 : (rd ((rd_T64 l0 x7_1).f3) x32_2) < (x6_1.length : Int) := of_decide_eq_true (by first | (with_reducible assumption) | assumption)
     obtain ⟨ad334, e334, hx334_0⟩ := Kd.at_int (Kd.R_reads' HO_6.out).2.2 (rd ((rd_T64 l0 x7_1).f3) x32_2) p334 q334
     cases e334
     replace p334 := eq_true p334
     replace q334 := eq_true q334
     go_wp2
     go_roundg k2
     case measure => have := HK1.out; have := HK2.out; omega
     case rel => exact ⟨(ji16), (wrap64 (x32_2 + 1)), (by first | rfl | (simp; done) | (simp only [← hji16] <;> (first | rfl | simp)) | (simp [*]; done)), (by first | rfl | (simp; done) | (simp [*]; done)), H', ⟨by have := HK1.out; have := HK2.out; omega⟩, ⟨by (with_reducible repeat (first | apply Kd.R_alloc | apply Kd.R_drewN | apply Kd.R_drew)); exact HO_6.out⟩, ⟨be w⟩⟩
/-! ### impl_DeepOf: function 18 -/
def impl_DeepOf.f (k : Nat) (l0 : List (S64)) (a1 : Int) : Option (Int) := (impl_depths.f k l0 a1).bind fun bt338 => (if bt338.2 = true then (if 0 ≤ a1 then (if a1 < (bt338.1.length : Int) then (some (rd bt338.1 a1)) else (none)) else (none)) else (some 0))
theorem impl_DeepOf.mono : ∀ a0 a1 k, LeO (impl_DeepOf.f k a0 a1) (impl_DeepOf.f (k + 1) a0 a1) := by
 intro a0 a1 k
 unfold impl_DeepOf.f
 with_reducible repeat' first | exact impl_depths.mono _ _ _ | exact LeO.refl _ | exact LeO.none _ | refine LeO.ite ?_ ?_ | refine LeO.bind ?_ (fun _ => ?_)
set_option maxHeartbeats 8000000 in
set_option maxRecDepth 100000 in
theorem impl_DeepOf.calls (k : Nat) (A0 : Option Addr) (c0 : Nat) (l0 : List (S64)) (a1 : Int) (r : Int) (w : World) (hr0 : Kd.C k64 w A0 l0.length l0) (hc0 : l0.length ≤ c0) (h : impl_DeepOf.f k l0 a1 = some r) :
  Calls Tryd.prog 18 #[.slice A0 l0.length c0, .int .i64 a1] w fun e w' => e = .returned (.int .i64 r) ∧ Below w.heap.size w w' := by
 have HR0 := As.mk hr0
 have HC0 := As.mk hc0
 clear hr0 hc0
 have HB := As.mk (Below.refl w.heap.size w)
 have H : ((impl_depths.f k l0 a1).bind fun bt338 => (if bt338.2 = true then (if 0 ≤ a1 then (if a1 < (bt338.1.length : Int) then (some (rd bt338.1 a1)) else (none)) else (none)) else (some 0))) = some r := h
 clear h
 obtain ⟨⟨t338, t339⟩, A30, H⟩ := Option.bind_eq_some_iff.mp H
 try dsimp only at H
 have A3 := As.mk A30
 clear A30
 by_cases c4 : t339 = true
 rotate_left
 ·
  replace c4 := Bool.eq_false_iff.mpr c4
  subst c4
  rw [if_neg (show ¬ (false = true) by decide)] at H
  obtain rfl := Option.some.inj H
  go_enter Tryd.func18, Tryd.ntmps18
  go_wp2_with (first | ((with_reducible refine gate_callee (f := 55) rfl ?_); refine goesL_ (some 10) rfl rfl Tryd.func55 (by kernel_rfl) rfl #[.slice A0 l0.length c0, .int .i64 a1] rfl (by (try simp only [lm]); first | done | rfl | (simp only [List.length_drop, List.length_take]; rfl)) ?_; (with_reducible refine (impl_depths.calls k _ _ l0 a1 t338 false _ ?side1 ?side2 A3.out).mono ?_); (case side1 => repeat (first | exact HR0.out | (with_reducible refine Kd.C_alloc ?_ _) | (with_reducible refine Kd.C_drewN ?_ _) | (with_reducible refine Kd.C_drew ?_))); (case side2 => exact HC0.out); rintro e w9 ⟨v340, rfl, ho0, hb⟩; refine ⟨_, rfl, ?_⟩; have HO341 := As.mk (Kd.R_lower ho0 (below_size (be w))); replace HB := As.mk (below_step (be w) hb); (try clear hb); (try clear hb2); (try clear hk); (try clear hi); (try clear ho0)))
  go_ret
  exact ⟨by first | rfl | (simp [errW_none, errW_some] <;> rfl) | (simp [*, errW_none, errW_some] <;> rfl), be w⟩

 subst c4
 rw [if_pos rfl] at H
 by_cases c5 : 0 ≤ a1
 rotate_left
 ·
  rw [if_neg c5] at H
  exact absurd H (by simp)
 rw [if_pos c5] at H
 have c5b0 : decide (0 ≤ a1) = true := decide_eq_true c5
 clear c5
 by_cases c6 : a1 < (t338.length : Int)
 rotate_left
 ·
  rw [if_neg c6] at H
  exact absurd H (by simp)
 rw [if_pos c6] at H
 have c6b0 : decide (a1 < (t338.length : Int)) = true := decide_eq_true c6
 clear c6
 obtain rfl := Option.some.inj H
 go_enter Tryd.func18, Tryd.ntmps18
 go_wp2_with (first | ((with_reducible refine gate_callee (f := 55) rfl ?_); refine goesL_ (some 10) rfl rfl Tryd.func55 (by kernel_rfl) rfl #[.slice A0 l0.length c0, .int .i64 a1] rfl (by (try simp only [lm]); first | done | rfl | (simp only [List.length_drop, List.length_take]; rfl)) ?_; (with_reducible refine (impl_depths.calls k _ _ l0 a1 t338 true _ ?side1 ?side2 A3.out).mono ?_); (case side1 => repeat (first | exact HR0.out | (with_reducible refine Kd.C_alloc ?_ _) | (with_reducible refine Kd.C_drewN ?_ _) | (with_reducible refine Kd.C_drew ?_))); (case side2 => exact HC0.out); rintro e w7 ⟨v340, rfl, ho0, hb⟩; refine ⟨_, rfl, ?_⟩; have HO341 := As.mk (Kd.R_lower ho0 (below_size (be w))); replace HB := As.mk (below_step (be w) hb); (try clear hb); (try clear hb2); (try clear hk); (try clear hi); (try clear ho0); obtain ⟨Ao8, co8, eo8⟩ := Kd.R_slice HO341.out; subst eo8; have p342 : 0 ≤ (a1 : Int) := of_decide_eq_true (by first | (with_reducible assumption) | assumption); have q342 : a1 < (t338.length : Int) := of_decide_eq_true (by first | (with_reducible assumption) | assumption); obtain ⟨ad342, e342, hx342_0⟩ := Kd.at_int (Kd.R_reads' HO341.out).2.2 a1 p342 q342; cases e342; replace p342 := eq_true p342; replace q342 := eq_true q342))
 go_ret
 exact ⟨by first | rfl | (simp [errW_none, errW_some] <;> rfl) | (simp [*, errW_none, errW_some] <;> rfl), be w⟩
/-! ### impl_fnOk: function 75 -/
mutual
def impl_fnOk.j0 : Nat → Bool → List (S64) → List (S93) → ByteArray → List (S95) → Int → Int → Int → Option (Bool)
 | 0, _, _, _, _, _, _, _, _ => none
 | k + 1, x31, x344000, x344001, x345000, x345001, x345002, x345003, x345004 => if x31 = true then (some false) else (impl_fnOk.l0 k x345001 (x345001.length : Int) 0 x344000 x344001 x345000 x345001 x345002 x345003 x345004)
def impl_fnOk.l0 : Nat → List (S95) → Int → Int → List (S64) → List (S93) → ByteArray → List (S95) → Int → Int → Int → Option (Bool)
 | 0, _, _, _, _, _, _, _, _, _, _ => none
 | k + 1, x33, x34, x35, x344000, x344001, x345000, x345001, x345002, x345003, x345004 => if x35 < x34 then (if 0 ≤ x35 then (if x35 < (x33.length : Int) then ((impl_NameOk.f k ((rd_T95 x33 x35).f0)).bind fun t348 => (if t348 = true then ((impl_in.f ((rd_T95 x33 x35).f1) 1 4).bind fun t349 => (if t349 = true then (impl_fnOk.l0 k x33 x34 (wrap64 (x35 + 1)) x344000 x344001 x345000 x345001 x345002 x345003 x345004) else (some false))) else (some false))) else (none)) else (none)) else ((impl_in.f x345003 0 (wrap64 ((x344000.length : Int) - 1))).bind fun t350 => (if t350 = true then (if 0 ≤ x345003 then (if x345003 < (x344000.length : Int) then (impl_fnOk.j2 k (((rd_T64 x344000 x345003).f0) != 20) x344000 x344001 x345000 x345001 x345002 x345003 x345004) else (none)) else (none)) else (impl_fnOk.j2 k true x344000 x344001 x345000 x345001 x345002 x345003 x345004)))
def impl_fnOk.j2 : Nat → Bool → List (S64) → List (S93) → ByteArray → List (S95) → Int → Int → Int → Option (Bool)
 | 0, _, _, _, _, _, _, _, _ => none
 | k + 1, x67, x344000, x344001, x345000, x345001, x345002, x345003, x345004 => if x67 = true then (some false) else (if x345002 = 0 then (some (x345004 == (-1))) else ((impl_in.f x345004 0 (wrap64 ((x344000.length : Int) - 1))).bind fun t352 => (if t352 = true then (if 0 ≤ x345004 then (if x345004 < (x344000.length : Int) then ((impl_isValue.f ((rd_T64 x344000 x345004).f0)).bind fun t354 => (some t354)) else (none)) else (none)) else (some false))))
end
def impl_fnOk.f (k : Nat) (l0_0 : List (S64)) (l0_1 : List (S93)) (a1_0 : ByteArray) (l1_1 : List (S95)) (a1_2 : Int) (a1_3 : Int) (a1_4 : Int) : Option (Bool) := (impl_NameOk.f k a1_0).bind fun t345 => (if t345 = true then (if (l1_1.length : Int) > 3 then (impl_fnOk.j0 k true l0_0 l0_1 a1_0 l1_1 a1_2 a1_3 a1_4) else (if a1_2 = 0 then (impl_fnOk.j0 k false l0_0 l0_1 a1_0 l1_1 a1_2 a1_3 a1_4) else (if a1_2 = 1 then (impl_fnOk.j0 k false l0_0 l0_1 a1_0 l1_1 a1_2 a1_3 a1_4) else (impl_fnOk.j0 k (a1_2 != 2) l0_0 l0_1 a1_0 l1_1 a1_2 a1_3 a1_4)))) else (impl_fnOk.j0 k true l0_0 l0_1 a1_0 l1_1 a1_2 a1_3 a1_4))
theorem impl_fnOk.mono_l : ∀ k, (∀ y0 y1 y2 y3 y4 y5 y6 y7, LeO (impl_fnOk.j0 k y0 y1 y2 y3 y4 y5 y6 y7) (impl_fnOk.j0 (k + 1) y0 y1 y2 y3 y4 y5 y6 y7)) ∧ (∀ y0 y1 y2 y3 y4 y5 y6 y7 y8 y9, LeO (impl_fnOk.l0 k y0 y1 y2 y3 y4 y5 y6 y7 y8 y9) (impl_fnOk.l0 (k + 1) y0 y1 y2 y3 y4 y5 y6 y7 y8 y9)) ∧ (∀ y0 y1 y2 y3 y4 y5 y6 y7, LeO (impl_fnOk.j2 k y0 y1 y2 y3 y4 y5 y6 y7) (impl_fnOk.j2 (k + 1) y0 y1 y2 y3 y4 y5 y6 y7))
 | 0 => ⟨fun _ _ _ _ _ _ _ _ r h => by simp [impl_fnOk.j0] at h, fun _ _ _ _ _ _ _ _ _ _ r h => by simp [impl_fnOk.l0] at h, fun _ _ _ _ _ _ _ _ r h => by simp [impl_fnOk.j2] at h⟩
 | k + 1 => by
  obtain ⟨ih0, ih1, ih2⟩ := impl_fnOk.mono_l k
  refine ⟨?_, ?_, ?_⟩
  ·
   intro y0 y1 y2 y3 y4 y5 y6 y7
   unfold impl_fnOk.j0
   with_reducible repeat' first | exact ih0 _ _ _ _ _ _ _ _ | exact ih1 _ _ _ _ _ _ _ _ _ _ | exact ih2 _ _ _ _ _ _ _ _ | exact impl_NameOk.mono _ _ | exact LeO.refl _ | exact LeO.none _ | refine LeO.ite ?_ ?_ | refine LeO.bind ?_ (fun _ => ?_)
  ·
   intro y0 y1 y2 y3 y4 y5 y6 y7 y8 y9
   unfold impl_fnOk.l0
   with_reducible repeat' first | exact ih0 _ _ _ _ _ _ _ _ | exact ih1 _ _ _ _ _ _ _ _ _ _ | exact ih2 _ _ _ _ _ _ _ _ | exact impl_NameOk.mono _ _ | exact LeO.refl _ | exact LeO.none _ | refine LeO.ite ?_ ?_ | refine LeO.bind ?_ (fun _ => ?_)
  ·
   intro y0 y1 y2 y3 y4 y5 y6 y7
   unfold impl_fnOk.j2
   with_reducible repeat' first | exact ih0 _ _ _ _ _ _ _ _ | exact ih1 _ _ _ _ _ _ _ _ _ _ | exact ih2 _ _ _ _ _ _ _ _ | exact impl_NameOk.mono _ _ | exact LeO.refl _ | exact LeO.none _ | refine LeO.ite ?_ ?_ | refine LeO.bind ?_ (fun _ => ?_)
theorem impl_fnOk.mono : ∀ a0 a1 a2 a3 a4 a5 a6 k, LeO (impl_fnOk.f k a0 a1 a2 a3 a4 a5 a6) (impl_fnOk.f (k + 1) a0 a1 a2 a3 a4 a5 a6) := by
 intro a0 a1 a2 a3 a4 a5 a6 k
 obtain ⟨ih0, ih1, ih2⟩ := impl_fnOk.mono_l k
 unfold impl_fnOk.f
 with_reducible repeat' first | exact ih0 _ _ _ _ _ _ _ _ | exact ih1 _ _ _ _ _ _ _ _ _ _ | exact ih2 _ _ _ _ _ _ _ _ | exact impl_NameOk.mono _ _ | exact LeO.refl _ | exact LeO.none _ | refine LeO.ite ?_ ?_ | refine LeO.bind ?_ (fun _ => ?_)
set_option maxHeartbeats 8000000 in
set_option maxRecDepth 100000 in
theorem impl_fnOk.calls (k : Nat) (A0_0 : Option Addr) (c0_0 : Nat) (l0_0 : List (S64)) (A0_1 : Option Addr) (c0_1 : Nat) (l0_1 : List (S93)) (a1_0 : ByteArray) (A1_1 : Option Addr) (c1_1 : Nat) (l1_1 : List (S95)) (a1_2 : Int) (a1_3 : Int) (a1_4 : Int) (r : Bool) (w : World) (hr0_0 : Kd.C k64 w A0_0 l0_0.length l0_0) (hc0_0 : l0_0.length ≤ c0_0) (hr0_1 : Kd.C k93 w A0_1 l0_1.length l0_1) (hc0_1 : l0_1.length ≤ c0_1) (hr1_1 : Kd.C k95 w A1_1 l1_1.length l1_1) (hc1_1 : l1_1.length ≤ c1_1) (h : impl_fnOk.f k l0_0 l0_1 a1_0 l1_1 a1_2 a1_3 a1_4 = some r) :
  Calls Tryd.prog 75 #[.agg #[.slice A0_0 l0_0.length c0_0, .slice A0_1 l0_1.length c0_1], .agg #[.string a1_0, .slice A1_1 l1_1.length c1_1, .int .i64 a1_2, .int .i64 a1_3, .int .i64 a1_4]] w fun e w' => e = .returned (.bool r) ∧ Below w.heap.size w w' := by
 have hu52 := Tryd.underlying52
 have hu93 := Tryd.underlying93
 have hu95 := Tryd.underlying95
 have HR0_0 := As.mk hr0_0
 have HC0_0 := As.mk hc0_0
 clear hr0_0 hc0_0
 have HR0_1 := As.mk hr0_1
 have HC0_1 := As.mk hc0_1
 clear hr0_1 hc0_1
 have HR1_1 := As.mk hr1_1
 have HC1_1 := As.mk hc1_1
 clear hr1_1 hc1_1
 have HB := As.mk (Below.refl w.heap.size w)
 have H : ((impl_NameOk.f k a1_0).bind fun t345 => (if t345 = true then (if (l1_1.length : Int) > 3 then (impl_fnOk.j0 k true l0_0 l0_1 a1_0 l1_1 a1_2 a1_3 a1_4) else (if a1_2 = 0 then (impl_fnOk.j0 k false l0_0 l0_1 a1_0 l1_1 a1_2 a1_3 a1_4) else (if a1_2 = 1 then (impl_fnOk.j0 k false l0_0 l0_1 a1_0 l1_1 a1_2 a1_3 a1_4) else (impl_fnOk.j0 k (a1_2 != 2) l0_0 l0_1 a1_0 l1_1 a1_2 a1_3 a1_4)))) else (impl_fnOk.j0 k true l0_0 l0_1 a1_0 l1_1 a1_2 a1_3 a1_4))) = some r := h
 clear h
 have HC3 := As.mk H
 clear H
 go_enter Tryd.func75, Tryd.ntmps75
 go_upto_region 1 with (first | ((with_reducible refine gate_dst (N := 2) rfl ?_); (try (refine gate_guard (by rfl) ?_; dsimp only)); refine box_event ?hg (N := 2) ?hd (cs := #[.slice A0_0 l0_0.length c0_0, .slice A0_1 l0_1.length c0_1]) (t := 52) ?hr ?_; (case hd => rfl); (case hg => rfl); (case hr => first | (go_simp; done) | (go_simp; rfl)); intro gb343 hg w4 hbox hb; have BK343 := As.mk (hbox); have GW343 := As.mk (gs w hg); have GE343 := As.mk (gs w hg); replace HB := As.mk (below_step (be w) hb); clear hb hbox hg) | ((with_reducible refine gate_dst (N := 3) rfl ?_); (try (refine gate_guard (by rfl) ?_; dsimp only)); refine box_event ?hg (N := 3) ?hd (cs := #[.string a1_0, .slice A1_1 l1_1.length c1_1, .int .i64 a1_2, .int .i64 a1_3, .int .i64 a1_4]) (t := 93) ?hr ?_; (case hd => rfl); (case hg => rfl); (case hr => first | (go_simp; done) | (go_simp; rfl)); intro gb344 hg w5 hbox hb; have BK344 := As.mk (hbox); have GW344 := As.mk (gs w hg); have GE344 := As.mk (gs w hg); replace HB := As.mk (below_step (be w) hb); have NB343_344 := As.mk (nl hg (bx BK343.out)); have NB344_343 := As.mk (ng hg (bx BK343.out)); replace BK343 := As.mk (blk_below (bx BK343.out) hb); clear hb hbox hg))
 (try simp only [pk])
 go_cut [31] (fun v31 wc => ∃ (kq : Nat) (x31_2 : Bool), v31 = .bool x31_2 ∧ As (impl_fnOk.j0 kq x31_2 l0_0 l0_1 a1_0 l1_1 a1_2 a1_3 a1_4 = some r) ∧ As (kq ≤ k) ∧ As (wc.heap[gb343]? = some (.cells #[(.slice A0_0 l0_0.length c0_0), (.slice A0_1 l0_1.length c0_1)] 52 (0, 0))) ∧ As (wc.heap[gb344]? = some (.cells #[.string a1_0, (.slice A1_1 l1_1.length c1_1), .int .i64 a1_2, .int .i64 a1_3, .int .i64 a1_4] 93 (0, 0))) ∧ As (Below w.heap.size w wc))
 case first =>
  have H := HC3.out
  clear HC3
  obtain ⟨t345, A60, H⟩ := Option.bind_eq_some_iff.mp H
  try dsimp only at H
  have A6 := As.mk A60
  clear A60
  by_cases c7 : t345 = true
  rotate_left
  ·
   replace c7 := Bool.eq_false_iff.mpr c7
   subst c7
   rw [if_neg (show ¬ (false = true) by decide)] at H
   have H' := As.mk H
   clear H
   have hnb27 := NB344_343.out
   have hnc27 := NB343_344.out
   obtain ⟨hcz28_0, hcz28_1, hcz28_2, hcz28_3, hcz28_4, hfz28_0, hfz28_1, hfz28_2, hfz28_3, hfz28_4⟩ := cl5 BK344.out
   go_wp2_with (first | ((with_reducible refine gate_callee (f := 50) rfl ?_); refine goesL_ (some 9) rfl rfl Tryd.func50 (by kernel_rfl) rfl #[.string a1_0] rfl (by (try simp only [lm]); first | done | rfl | (simp only [List.length_drop, List.length_take]; rfl)) ?_; (with_reducible refine (impl_NameOk.calls k a1_0 false _ A6.out).mono ?_); rintro e w29 ⟨rfl, hb⟩; refine ⟨_, rfl, ?_⟩; replace BK343 := As.mk (blk_below (bx BK343.out) hb); replace BK344 := As.mk (blk_below (bx BK344.out) hb); replace HB := As.mk (below_step (be w) hb); (try clear hb); (try clear hb2); (try clear hk); (try clear hi)))
   go_meet
   case rel => exact ⟨_, (true), (by first | rfl | (simp; done) | (simp [*]; done)), H', ⟨by first | omega | exact Nat.le_refl _⟩, ⟨bx BK343.out⟩, ⟨bx BK344.out⟩, ⟨be w⟩⟩
  subst c7
  rw [if_pos rfl] at H
  by_cases c8 : (l1_1.length : Int) > 3
  ·
   rw [if_pos c8] at H
   have c8b0 : decide (3 < (l1_1.length : Int)) = true := decide_eq_true c8
   have c8b1 : decide (3 < l1_1.length) = true := decide_eq_true (by omega)
   clear c8
   (first | rw [c8b0] | (simp only [i64_w, i32_w]; rw [c8b0]) | skip)
   have H' := As.mk H
   clear H
   have hnb9 := NB344_343.out
   have hnc9 := NB343_344.out
   obtain ⟨hcz10_0, hcz10_1, hcz10_2, hcz10_3, hcz10_4, hfz10_0, hfz10_1, hfz10_2, hfz10_3, hfz10_4⟩ := cl5 BK344.out
   go_wp2_with (first | ((with_reducible refine gate_callee (f := 50) rfl ?_); refine goesL_ (some 9) rfl rfl Tryd.func50 (by kernel_rfl) rfl #[.string a1_0] rfl (by (try simp only [lm]); first | done | rfl | (simp only [List.length_drop, List.length_take]; rfl)) ?_; (with_reducible refine (impl_NameOk.calls k a1_0 true _ A6.out).mono ?_); rintro e w11 ⟨rfl, hb⟩; refine ⟨_, rfl, ?_⟩; replace BK343 := As.mk (blk_below (bx BK343.out) hb); replace BK344 := As.mk (blk_below (bx BK344.out) hb); replace HB := As.mk (below_step (be w) hb); (try clear hb); (try clear hb2); (try clear hk); (try clear hi); obtain ⟨hcz12_0, hcz12_1, hcz12_2, hcz12_3, hcz12_4, hfz12_0, hfz12_1, hfz12_2, hfz12_3, hfz12_4⟩ := cl5 BK344.out))
   go_meet
   case rel => exact ⟨_, (true), (by first | rfl | (simp; done) | (simp [*]; done)), H', ⟨by first | omega | exact Nat.le_refl _⟩, ⟨bx BK343.out⟩, ⟨bx BK344.out⟩, ⟨be w⟩⟩
  rw [if_neg c8] at H
  have c8b0 : decide (3 < (l1_1.length : Int)) = false := decide_eq_false c8
  have c8b1 : decide (3 < l1_1.length) = false := decide_eq_false (by omega)
  clear c8
  (first | rw [c8b0] | (simp only [i64_w, i32_w]; rw [c8b0]) | skip)
  by_cases c13 : a1_2 = 0
  ·
   rw [if_pos c13] at H
   have c13b0 : (a1_2 == 0) = true := beq_iff_eq.mpr c13
   have c13b1 : (a1_2 != 0) = false := bne_eq_false_iff_eq.mpr c13
   clear c13
   have H' := As.mk H
   clear H
   have hnb14 := NB344_343.out
   have hnc14 := NB343_344.out
   obtain ⟨hcz15_0, hcz15_1, hcz15_2, hcz15_3, hcz15_4, hfz15_0, hfz15_1, hfz15_2, hfz15_3, hfz15_4⟩ := cl5 BK344.out
   go_wp2_with (first | ((with_reducible refine gate_callee (f := 50) rfl ?_); refine goesL_ (some 9) rfl rfl Tryd.func50 (by kernel_rfl) rfl #[.string a1_0] rfl (by (try simp only [lm]); first | done | rfl | (simp only [List.length_drop, List.length_take]; rfl)) ?_; (with_reducible refine (impl_NameOk.calls k a1_0 true _ A6.out).mono ?_); rintro e w16 ⟨rfl, hb⟩; refine ⟨_, rfl, ?_⟩; replace BK343 := As.mk (blk_below (bx BK343.out) hb); replace BK344 := As.mk (blk_below (bx BK344.out) hb); replace HB := As.mk (below_step (be w) hb); (try clear hb); (try clear hb2); (try clear hk); (try clear hi); obtain ⟨hcz17_0, hcz17_1, hcz17_2, hcz17_3, hcz17_4, hfz17_0, hfz17_1, hfz17_2, hfz17_3, hfz17_4⟩ := cl5 BK344.out))
   go_meet
   case rel => exact ⟨_, (false), (by first | rfl | (simp; done) | (simp [*]; done)), H', ⟨by first | omega | exact Nat.le_refl _⟩, ⟨bx BK343.out⟩, ⟨bx BK344.out⟩, ⟨be w⟩⟩
  rw [if_neg c13] at H
  have c13b0 : (a1_2 == 0) = false := beq_eq_false_iff_ne.mpr c13
  have c13b1 : (a1_2 != 0) = true := bne_iff_ne.mpr c13
  by_cases c18 : a1_2 = 1
  rotate_left
  ·
   rw [if_neg c18] at H
   have c18b0 : (a1_2 == 1) = false := beq_eq_false_iff_ne.mpr c18
   have c18b1 : (a1_2 != 1) = true := bne_iff_ne.mpr c18
   have H' := As.mk H
   clear H
   have hnb23 := NB344_343.out
   have hnc23 := NB343_344.out
   obtain ⟨hcz24_0, hcz24_1, hcz24_2, hcz24_3, hcz24_4, hfz24_0, hfz24_1, hfz24_2, hfz24_3, hfz24_4⟩ := cl5 BK344.out
   go_wp2_with (first | ((with_reducible refine gate_callee (f := 50) rfl ?_); refine goesL_ (some 9) rfl rfl Tryd.func50 (by kernel_rfl) rfl #[.string a1_0] rfl (by (try simp only [lm]); first | done | rfl | (simp only [List.length_drop, List.length_take]; rfl)) ?_; (with_reducible refine (impl_NameOk.calls k a1_0 true _ A6.out).mono ?_); rintro e w25 ⟨rfl, hb⟩; refine ⟨_, rfl, ?_⟩; replace BK343 := As.mk (blk_below (bx BK343.out) hb); replace BK344 := As.mk (blk_below (bx BK344.out) hb); replace HB := As.mk (below_step (be w) hb); (try clear hb); (try clear hb2); (try clear hk); (try clear hi); obtain ⟨hcz26_0, hcz26_1, hcz26_2, hcz26_3, hcz26_4, hfz26_0, hfz26_1, hfz26_2, hfz26_3, hfz26_4⟩ := cl5 BK344.out))
   go_meet
   case rel => exact ⟨_, ((a1_2 != 2)), (by first | rfl | (simp; done) | (simp [*]; done)), H', ⟨by first | omega | exact Nat.le_refl _⟩, ⟨bx BK343.out⟩, ⟨bx BK344.out⟩, ⟨be w⟩⟩
  rw [if_pos c18] at H
  have c18b0 : (a1_2 == 1) = true := beq_iff_eq.mpr c18
  have c18b1 : (a1_2 != 1) = false := bne_eq_false_iff_eq.mpr c18
  clear c18
  have H' := As.mk H
  clear H
  have hnb19 := NB344_343.out
  have hnc19 := NB343_344.out
  obtain ⟨hcz20_0, hcz20_1, hcz20_2, hcz20_3, hcz20_4, hfz20_0, hfz20_1, hfz20_2, hfz20_3, hfz20_4⟩ := cl5 BK344.out
  go_wp2_with (first | ((with_reducible refine gate_callee (f := 50) rfl ?_); refine goesL_ (some 9) rfl rfl Tryd.func50 (by kernel_rfl) rfl #[.string a1_0] rfl (by (try simp only [lm]); first | done | rfl | (simp only [List.length_drop, List.length_take]; rfl)) ?_; (with_reducible refine (impl_NameOk.calls k a1_0 true _ A6.out).mono ?_); rintro e w21 ⟨rfl, hb⟩; refine ⟨_, rfl, ?_⟩; replace BK343 := As.mk (blk_below (bx BK343.out) hb); replace BK344 := As.mk (blk_below (bx BK344.out) hb); replace HB := As.mk (below_step (be w) hb); (try clear hb); (try clear hb2); (try clear hk); (try clear hi); obtain ⟨hcz22_0, hcz22_1, hcz22_2, hcz22_3, hcz22_4, hfz22_0, hfz22_1, hfz22_2, hfz22_3, hfz22_4⟩ := cl5 BK344.out))
  go_meet
  case rel => exact ⟨_, (false), (by first | rfl | (simp; done) | (simp [*]; done)), H', ⟨by first | omega | exact Nat.le_refl _⟩, ⟨bx BK343.out⟩, ⟨bx BK344.out⟩, ⟨be w⟩⟩
 case rest =>
  clear HC3
  obtain ⟨kq, x31_2, rfl, HA, HJ2, BK343, BK344, HB⟩ := hcut
  cases kq with
  | zero => exact absurd HA.out (by simp [impl_fnOk.j0])
  | succ kj2 =>
   have H := HA.out
   clear HA
   simp only [impl_fnOk.j0] at H
   by_cases c30 : x31_2 = true
   ·
    subst c30
    rw [if_pos rfl] at H
    obtain rfl := Option.some.inj H
    go_wp2
    go_ret
    exact ⟨by first | rfl | (simp [errW_none, errW_some] <;> rfl) | (simp [*, errW_none, errW_some] <;> rfl), be w⟩
   replace c30 := Bool.eq_false_iff.mpr c30
   subst c30
   rw [if_neg (show ¬ (false = true) by decide)] at H
   have H' := As.mk H
   clear H
   have hnb31 := NB344_343.out
   have hnc31 := NB343_344.out
   obtain ⟨hcz32_0, hcz32_1, hcz32_2, hcz32_3, hcz32_4, hfz32_0, hfz32_1, hfz32_2, hfz32_3, hfz32_4⟩ := cl5 BK344.out
   go_wp2
   go_loopg [35] kj2 (fun kq v35 w' => ∃ (x35_2 : Int), v35 = .int .i64 x35_2 ∧ As (impl_fnOk.l0 kq l1_1 (l1_1.length : Int) x35_2 l0_0 l0_1 a1_0 l1_1 a1_2 a1_3 a1_4 = some r) ∧ As (kq ≤ kj2) ∧ As (w'.heap[gb343]? = some (.cells #[(.slice A0_0 l0_0.length c0_0), (.slice A0_1 l0_1.length c0_1)] 52 (0, 0))) ∧ As (w'.heap[gb344]? = some (.cells #[.string a1_0, (.slice A1_1 l1_1.length c1_1), .int .i64 a1_2, .int .i64 a1_3, .int .i64 a1_4] 93 (0, 0))) ∧ As (Below w.heap.size w w'))
   case atStart => exact ⟨(0), (by first | rfl | (simp; done) | (simp [*]; done)), H', ⟨Nat.le_refl _⟩, ⟨bx BK343.out⟩, ⟨bx BK344.out⟩, ⟨be w⟩⟩
   case round =>
    clear H'
    (try clear c30); (try clear hcz32_0); (try clear hcz32_1); (try clear hcz32_2); (try clear hcz32_3); (try clear hcz32_4); (try clear hfz32_0); (try clear hfz32_1); (try clear hfz32_2); (try clear hfz32_3); (try clear hfz32_4)
    obtain ⟨x35_2, rfl, HA, HK2, BK343, BK344, HB⟩ := hrel
    cases gk with
    | zero => exact absurd HA.out (by simp [impl_fnOk.l0])
    | succ k2 =>
     have H := HA.out
     clear HA
     simp only [impl_fnOk.l0] at H
     by_cases c33 : x35_2 < (l1_1.length : Int)
     rotate_left
     ·
      rw [if_neg c33] at H
      have c33b0 : decide (x35_2 < (l1_1.length : Int)) = false := decide_eq_false c33
      clear c33
      have HC53 := As.mk H
      clear H
      go_upto_region 9 with (fail)
      go_cut [67] (fun v67 wc => ∃ (kq : Nat) (x67_52 : Bool), v67 = .bool x67_52 ∧ As (impl_fnOk.j2 kq x67_52 l0_0 l0_1 a1_0 l1_1 a1_2 a1_3 a1_4 = some r) ∧ As (kq ≤ k2) ∧ As (wc.heap[gb343]? = some (.cells #[(.slice A0_0 l0_0.length c0_0), (.slice A0_1 l0_1.length c0_1)] 52 (0, 0))) ∧ As (wc.heap[gb344]? = some (.cells #[.string a1_0, (.slice A1_1 l1_1.length c1_1), .int .i64 a1_2, .int .i64 a1_3, .int .i64 a1_4] 93 (0, 0))) ∧ As (Below w.heap.size w wc))
      case first =>
       have H := HC53.out
       clear HC53
       obtain ⟨t350, A540, H⟩ := Option.bind_eq_some_iff.mp H
       try dsimp only at H
       have A54 := As.mk A540
       clear A540
       by_cases c55 : t350 = true
       rotate_left
       ·
        replace c55 := Bool.eq_false_iff.mpr c55
        subst c55
        rw [if_neg (show ¬ (false = true) by decide)] at H
        have H' := As.mk H
        clear H
        have hnb61 := NB344_343.out
        have hnc61 := NB343_344.out
        obtain ⟨hcz62_0, hcz62_1, hcz62_2, hcz62_3, hcz62_4, hfz62_0, hfz62_1, hfz62_2, hfz62_3, hfz62_4⟩ := cl5 BK344.out
        obtain ⟨hcz63_0, hcz63_1, hfz63_0, hfz63_1⟩ := cl2 BK343.out
        go_wp2_with (first | ((with_reducible refine gate_callee (f := 45) rfl ?_); refine goesL_ (some 56) rfl rfl Tryd.func45 (by kernel_rfl) rfl #[.int .i64 a1_3, .int .i64 0, .int .i64 (wrap64 ((l0_0.length : Int) - 1))] rfl (by (try simp only [lm]); first | done | rfl | (simp only [List.length_drop, List.length_take]; rfl)) ?_; (with_reducible refine (impl_in.calls a1_3 0 (wrap64 ((l0_0.length : Int) - 1)) false _ A54.out).mono ?_); rintro e w' ⟨rfl, ⟨nd, rfl⟩⟩; refine ⟨_, rfl, ?_⟩))
        go_meet
        case rel => exact ⟨_, (true), (by first | rfl | (simp; done) | (simp [*]; done)), H', ⟨by have := HJ2.out; have := HK2.out; first | omega | exact Nat.le_refl _⟩, ⟨bx BK343.out⟩, ⟨bx BK344.out⟩, ⟨be w⟩⟩
       subst c55
       rw [if_pos rfl] at H
       by_cases c56 : 0 ≤ a1_3
       rotate_left
       ·
        rw [if_neg c56] at H
        exact absurd H (by simp)
       rw [if_pos c56] at H
       have c56b0 : decide (0 ≤ a1_3) = true := decide_eq_true c56
       clear c56
       (first | rw [c56b0] | (simp only [i64_w, i32_w]; rw [c56b0]) | skip)
       by_cases c57 : a1_3 < (l0_0.length : Int)
       rotate_left
       ·
        rw [if_neg c57] at H
        exact absurd H (by simp)
       rw [if_pos c57] at H
       have c57b0 : decide (a1_3 < (l0_0.length : Int)) = true := decide_eq_true c57
       clear c57
       have H' := As.mk H
       clear H
       have hnb58 := NB344_343.out
       have hnc58 := NB343_344.out
       obtain ⟨hcz59_0, hcz59_1, hcz59_2, hcz59_3, hcz59_4, hfz59_0, hfz59_1, hfz59_2, hfz59_3, hfz59_4⟩ := cl5 BK344.out
       obtain ⟨hcz60_0, hcz60_1, hfz60_0, hfz60_1⟩ := cl2 BK343.out
       go_wp2_with (first | ((with_reducible refine gate_callee (f := 45) rfl ?_); refine goesL_ (some 56) rfl rfl Tryd.func45 (by kernel_rfl) rfl #[.int .i64 a1_3, .int .i64 0, .int .i64 (wrap64 ((l0_0.length : Int) - 1))] rfl (by (try simp only [lm]); first | done | rfl | (simp only [List.length_drop, List.length_take]; rfl)) ?_; (with_reducible refine (impl_in.calls a1_3 0 (wrap64 ((l0_0.length : Int) - 1)) true _ A54.out).mono ?_); rintro e w' ⟨rfl, ⟨nd, rfl⟩⟩; refine ⟨_, rfl, ?_⟩; have p351 : 0 ≤ (a1_3 : Int) := of_decide_eq_true (by first | (with_reducible assumption) | assumption); have q351 : a1_3 < (l0_0.length : Int) := of_decide_eq_true (by first | (with_reducible assumption) | assumption); obtain ⟨ad351, A351_3, c351_3, e351, hx351_0, hx351_1, hx351_2, hx351_3, hl351_3, hi351_3⟩ := at_T64 HR0_0.out a1_3 p351 q351; cases e351; replace hx351_0 := ce HB.out hx351_0; replace hx351_1 := ce HB.out hx351_1; replace hx351_2 := ce HB.out hx351_2; replace hx351_3 := ce HB.out hx351_3; have HR351_3 := As.mk hi351_3; have HC351_3 := As.mk hl351_3; clear hi351_3 hl351_3; replace p351 := eq_true p351; replace q351 := eq_true q351))
       go_meet
       case rel => exact ⟨_, ((((rd_T64 l0_0 a1_3).f0) != 20)), (by first | rfl | (simp; done) | (simp [*]; done)), H', ⟨by have := HJ2.out; have := HK2.out; first | omega | exact Nat.le_refl _⟩, ⟨bx BK343.out⟩, ⟨bx BK344.out⟩, ⟨be w⟩⟩
      case rest =>
       clear HC53
       (try clear c30); (try clear c33); (try clear c33b0); (try clear hcz32_0); (try clear hcz32_1); (try clear hcz32_2); (try clear hcz32_3); (try clear hcz32_4); (try clear hfz32_0); (try clear hfz32_1); (try clear hfz32_2); (try clear hfz32_3); (try clear hfz32_4)
       obtain ⟨kq, x67_52, rfl, HA, HJ52, BK343, BK344, HB⟩ := hcut
       cases kq with
       | zero => exact absurd HA.out (by simp [impl_fnOk.j2])
       | succ kj52 =>
        have H := HA.out
        clear HA
        simp only [impl_fnOk.j2] at H
        by_cases c64 : x67_52 = true
        ·
         subst c64
         rw [if_pos rfl] at H
         obtain rfl := Option.some.inj H
         go_wp2
         go_ret
         exact ⟨by first | rfl | (simp [errW_none, errW_some] <;> rfl) | (simp [*, errW_none, errW_some] <;> rfl), be w⟩
        replace c64 := Bool.eq_false_iff.mpr c64
        subst c64
        rw [if_neg (show ¬ (false = true) by decide)] at H
        by_cases c65 : a1_2 = 0
        ·
         rw [if_pos c65] at H
         have c65b0 : (a1_2 == 0) = true := beq_iff_eq.mpr c65
         have c65b1 : (a1_2 != 0) = false := bne_eq_false_iff_eq.mpr c65
         clear c65
         obtain rfl := Option.some.inj H
         obtain ⟨hcz66_0, hcz66_1, hcz66_2, hcz66_3, hcz66_4, hfz66_0, hfz66_1, hfz66_2, hfz66_3, hfz66_4⟩ := cl5 BK344.out
         go_wp2
         go_ret
         exact ⟨by first | rfl | (simp [errW_none, errW_some] <;> rfl) | (simp [*, errW_none, errW_some] <;> rfl), be w⟩
        rw [if_neg c65] at H
        have c65b0 : (a1_2 == 0) = false := beq_eq_false_iff_ne.mpr c65
        have c65b1 : (a1_2 != 0) = true := bne_iff_ne.mpr c65
        obtain ⟨t352, A670, H⟩ := Option.bind_eq_some_iff.mp H
        try dsimp only at H
        have A67 := As.mk A670
        clear A670
        by_cases c68 : t352 = true
        rotate_left
        ·
         replace c68 := Bool.eq_false_iff.mpr c68
         subst c68
         rw [if_neg (show ¬ (false = true) by decide)] at H
         obtain rfl := Option.some.inj H
         have hnb75 := NB344_343.out
         have hnc75 := NB343_344.out
         obtain ⟨hcz76_0, hcz76_1, hcz76_2, hcz76_3, hcz76_4, hfz76_0, hfz76_1, hfz76_2, hfz76_3, hfz76_4⟩ := cl5 BK344.out
         obtain ⟨hcz77_0, hcz77_1, hfz77_0, hfz77_1⟩ := cl2 BK343.out
         go_wp2_with (first | ((with_reducible refine gate_callee (f := 45) rfl ?_); refine goesL_ (some 80) rfl rfl Tryd.func45 (by kernel_rfl) rfl #[.int .i64 a1_4, .int .i64 0, .int .i64 (wrap64 ((l0_0.length : Int) - 1))] rfl (by (try simp only [lm]); first | done | rfl | (simp only [List.length_drop, List.length_take]; rfl)) ?_; (with_reducible refine (impl_in.calls a1_4 0 (wrap64 ((l0_0.length : Int) - 1)) false _ A67.out).mono ?_); rintro e w' ⟨rfl, ⟨nd, rfl⟩⟩; refine ⟨_, rfl, ?_⟩))
         go_ret
         exact ⟨by first | rfl | (simp [errW_none, errW_some] <;> rfl) | (simp [*, errW_none, errW_some] <;> rfl), be w⟩

        subst c68
        rw [if_pos rfl] at H
        by_cases c69 : 0 ≤ a1_4
        rotate_left
        ·
         rw [if_neg c69] at H
         exact absurd H (by simp)
        rw [if_pos c69] at H
        have c69b0 : decide (0 ≤ a1_4) = true := decide_eq_true c69
        clear c69
        by_cases c70 : a1_4 < (l0_0.length : Int)
        rotate_left
        ·
         rw [if_neg c70] at H
         exact absurd H (by simp)
        rw [if_pos c70] at H
        have c70b0 : decide (a1_4 < (l0_0.length : Int)) = true := decide_eq_true c70
        clear c70
        obtain ⟨t354, A710, H⟩ := Option.bind_eq_some_iff.mp H
        try dsimp only at H
        have A71 := As.mk A710
        clear A710
        obtain rfl := Option.some.inj H
        have hnb72 := NB344_343.out
        have hnc72 := NB343_344.out
        obtain ⟨hcz73_0, hcz73_1, hcz73_2, hcz73_3, hcz73_4, hfz73_0, hfz73_1, hfz73_2, hfz73_3, hfz73_4⟩ := cl5 BK344.out
        obtain ⟨hcz74_0, hcz74_1, hfz74_0, hfz74_1⟩ := cl2 BK343.out
        go_wp2_with (first | ((with_reducible refine gate_callee (f := 45) rfl ?_); refine goesL_ (some 80) rfl rfl Tryd.func45 (by kernel_rfl) rfl #[.int .i64 a1_4, .int .i64 0, .int .i64 (wrap64 ((l0_0.length : Int) - 1))] rfl (by (try simp only [lm]); first | done | rfl | (simp only [List.length_drop, List.length_take]; rfl)) ?_; (with_reducible refine (impl_in.calls a1_4 0 (wrap64 ((l0_0.length : Int) - 1)) true _ A67.out).mono ?_); rintro e w' ⟨rfl, ⟨nd, rfl⟩⟩; refine ⟨_, rfl, ?_⟩; have p353 : 0 ≤ (a1_4 : Int) := of_decide_eq_true (by first | (with_reducible assumption) | assumption); have q353 : a1_4 < (l0_0.length : Int) := of_decide_eq_true (by first | (with_reducible assumption) | assumption); obtain ⟨ad353, A353_3, c353_3, e353, hx353_0, hx353_1, hx353_2, hx353_3, hl353_3, hi353_3⟩ := at_T64 HR0_0.out a1_4 p353 q353; cases e353; replace hx353_0 := ce HB.out hx353_0; replace hx353_1 := ce HB.out hx353_1; replace hx353_2 := ce HB.out hx353_2; replace hx353_3 := ce HB.out hx353_3; have HR353_3 := As.mk hi353_3; have HC353_3 := As.mk hl353_3; clear hi353_3 hl353_3; replace p353 := eq_true p353; replace q353 := eq_true q353) | (go_at_call 85; (with_reducible refine (impl_isValue.calls ((rd_T64 l0_0 a1_4).f0) t354 _ A71.out).mono ?_); rintro e w' ⟨rfl, ⟨nd, rfl⟩⟩))
        go_ret
        exact ⟨by first | rfl | (simp [errW_none, errW_some] <;> rfl) | (simp [*, errW_none, errW_some] <;> rfl), be w⟩
     rw [if_pos c33] at H
     have c33b0 : decide (x35_2 < (l1_1.length : Int)) = true := decide_eq_true c33
     clear c33
     by_cases c34 : 0 ≤ x35_2
     rotate_left
     ·
      rw [if_neg c34] at H
      exact absurd H (by simp)
     rw [if_pos c34] at H
     have c34b0 : decide (0 ≤ x35_2) = true := decide_eq_true c34
     clear c34
     by_cases c35 : x35_2 < (l1_1.length : Int)
     rotate_left
     ·
      rw [if_neg c35] at H
      exact absurd H (by simp)
     rw [if_pos c35] at H
     have c35b0 : decide (x35_2 < (l1_1.length : Int)) = true := decide_eq_true c35
     clear c35
     obtain ⟨t348, A360, H⟩ := Option.bind_eq_some_iff.mp H
     try dsimp only at H
     have A36 := As.mk A360
     clear A360
     by_cases c37 : t348 = true
     rotate_left
     ·
      replace c37 := Bool.eq_false_iff.mpr c37
      subst c37
      rw [if_neg (show ¬ (false = true) by decide)] at H
      obtain rfl := Option.some.inj H
      have p346 : 0 ≤ (x35_2 : Int) := of_decide_eq_true (by first | (with_reducible assumption) | assumption)
      have q346 : x35_2 < (l1_1.length : Int) := of_decide_eq_true (by first | (with_reducible assumption) | assumption)
      obtain ⟨ad346, e346, hx346_0, hx346_1⟩ := at_T95 HR1_1.out x35_2 p346 q346
      cases e346
      replace hx346_0 := ce HB.out hx346_0
      replace hx346_1 := ce HB.out hx346_1
      replace p346 := eq_true p346
      replace q346 := eq_true q346
      go_wp2_with (first | ((with_reducible refine gate_dst (N := 6) rfl ?_); (try (refine gate_guard (by rfl) ?_; dsimp only)); refine box_event ?hg (N := 6) ?hd (cs := #[.string (⟨#[]⟩ : ByteArray), .int .i64 0]) (t := 95) ?hr ?_; (case hd => rfl); (case hg => rfl); (case hr => first | (go_simp; done) | (go_simp; rfl)); intro gb347 hg w50 hbox hb; have BK347 := As.mk (hbox); have GW347 := As.mk (gs w hg); have GE347 := As.mk (gs w hg); replace HB := As.mk (below_step (be w) hb); clear hb hbox hg; obtain ⟨hcz51_0, hcz51_1, hfz51_0, hfz51_1⟩ := cl2 BK347.out) | ((with_reducible refine gate_callee (f := 50) rfl ?_); refine goesL_ (some 41) rfl rfl Tryd.func50 (by kernel_rfl) rfl #[.string ((rd_T95 l1_1 x35_2).f0)] rfl (by (try simp only [lm]); first | done | rfl | (simp only [List.length_drop, List.length_take]; rfl)) ?_; (with_reducible refine (impl_NameOk.calls k2 ((rd_T95 l1_1 x35_2).f0) false _ A36.out).mono ?_); rintro e w52 ⟨rfl, hb⟩; refine ⟨_, rfl, ?_⟩; replace BK347 := As.mk (blk_below (g := gb347) (o := .cells #[.string ((rd_T95 l1_1 x35_2).f0), .int .i64 ((rd_T95 l1_1 x35_2).f1)] 95 (0, 0)) (by refine pl ?_; refine blk_put (cs := #[.string ((rd_T95 l1_1 x35_2).f0), .int .i64 0]) ?_ 1 _ rfl; refine pl ?_; refine blk_put (cs := #[.string (⟨#[]⟩ : ByteArray), .int .i64 0]) ?_ 0 _ rfl; exact bx BK347.out) hb); replace HB := As.mk (below_step (be w) hb); (try clear hb); (try clear hb2); (try clear hk); (try clear hi)))
      go_ret
      exact ⟨by first | rfl | (simp [errW_none, errW_some] <;> rfl) | (simp [*, errW_none, errW_some] <;> rfl), be w⟩
     subst c37
     rw [if_pos rfl] at H
     obtain ⟨t349, A380, H⟩ := Option.bind_eq_some_iff.mp H
     try dsimp only at H
     have A38 := As.mk A380
     clear A380
     by_cases c39 : t349 = true
     rotate_left
     ·
      replace c39 := Bool.eq_false_iff.mpr c39
      subst c39
      rw [if_neg (show ¬ (false = true) by decide)] at H
      obtain rfl := Option.some.inj H
      have p346 : 0 ≤ (x35_2 : Int) := of_decide_eq_true (by first | (with_reducible assumption) | assumption)
      have q346 : x35_2 < (l1_1.length : Int) := of_decide_eq_true (by first | (with_reducible assumption) | assumption)
      obtain ⟨ad346, e346, hx346_0, hx346_1⟩ := at_T95 HR1_1.out x35_2 p346 q346
      cases e346
      replace hx346_0 := ce HB.out hx346_0
      replace hx346_1 := ce HB.out hx346_1
      replace p346 := eq_true p346
      replace q346 := eq_true q346
      go_wp2_with (first | ((with_reducible refine gate_dst (N := 6) rfl ?_); (try (refine gate_guard (by rfl) ?_; dsimp only)); refine box_event ?hg (N := 6) ?hd (cs := #[.string (⟨#[]⟩ : ByteArray), .int .i64 0]) (t := 95) ?hr ?_; (case hd => rfl); (case hg => rfl); (case hr => first | (go_simp; done) | (go_simp; rfl)); intro gb347 hg w46 hbox hb; have BK347 := As.mk (hbox); have GW347 := As.mk (gs w hg); have GE347 := As.mk (gs w hg); replace HB := As.mk (below_step (be w) hb); clear hb hbox hg; obtain ⟨hcz47_0, hcz47_1, hfz47_0, hfz47_1⟩ := cl2 BK347.out) | ((with_reducible refine gate_callee (f := 50) rfl ?_); refine goesL_ (some 41) rfl rfl Tryd.func50 (by kernel_rfl) rfl #[.string ((rd_T95 l1_1 x35_2).f0)] rfl (by (try simp only [lm]); first | done | rfl | (simp only [List.length_drop, List.length_take]; rfl)) ?_; (with_reducible refine (impl_NameOk.calls k2 ((rd_T95 l1_1 x35_2).f0) true _ A36.out).mono ?_); rintro e w48 ⟨rfl, hb⟩; refine ⟨_, rfl, ?_⟩; replace BK347 := As.mk (blk_below (g := gb347) (o := .cells #[.string ((rd_T95 l1_1 x35_2).f0), .int .i64 ((rd_T95 l1_1 x35_2).f1)] 95 (0, 0)) (by refine pl ?_; refine blk_put (cs := #[.string ((rd_T95 l1_1 x35_2).f0), .int .i64 0]) ?_ 1 _ rfl; refine pl ?_; refine blk_put (cs := #[.string (⟨#[]⟩ : ByteArray), .int .i64 0]) ?_ 0 _ rfl; exact bx BK347.out) hb); replace HB := As.mk (below_step (be w) hb); (try clear hb); (try clear hb2); (try clear hk); (try clear hi); obtain ⟨hcz49_0, hcz49_1, hfz49_0, hfz49_1⟩ := cl2 BK347.out) | (go_at_call 45; (with_reducible refine (impl_in.calls ((rd_T95 l1_1 x35_2).f1) 1 4 false _ A38.out).mono ?_); rintro e w' ⟨rfl, ⟨nd, rfl⟩⟩))
      go_ret
      exact ⟨by first | rfl | (simp [errW_none, errW_some] <;> rfl) | (simp [*, errW_none, errW_some] <;> rfl), be w⟩
     subst c39
     rw [if_pos rfl] at H
     have H' := As.mk H
     clear H
     have p346 : 0 ≤ (x35_2 : Int) := of_decide_eq_true (by first | (with_reducible assumption) | assumption)
     have q346 : x35_2 < (l1_1.length : Int) := of_decide_eq_true (by first | (with_reducible assumption) | assumption)
     obtain ⟨ad346, e346, hx346_0, hx346_1⟩ := at_T95 HR1_1.out x35_2 p346 q346
     cases e346
     replace hx346_0 := ce HB.out hx346_0
     replace hx346_1 := ce HB.out hx346_1
     replace p346 := eq_true p346
     replace q346 := eq_true q346
     go_wp2_with (first | ((with_reducible refine gate_dst (N := 6) rfl ?_); (try (refine gate_guard (by rfl) ?_; dsimp only)); refine box_event ?hg (N := 6) ?hd (cs := #[.string (⟨#[]⟩ : ByteArray), .int .i64 0]) (t := 95) ?hr ?_; (case hd => rfl); (case hg => rfl); (case hr => first | (go_simp; done) | (go_simp; rfl)); intro gb347 hg w40 hbox hb; have BK347 := As.mk (hbox); have GW347 := As.mk (gs w hg); have GE347 := As.mk (gs w hg); replace HB := As.mk (below_step (be w) hb); have NB343_347 := As.mk (nl hg (bx BK343.out)); have NB347_343 := As.mk (ng hg (bx BK343.out)); replace BK343 := As.mk (blk_below (bx BK343.out) hb); have NB344_347 := As.mk (nl hg (bx BK344.out)); have NB347_344 := As.mk (ng hg (bx BK344.out)); replace BK344 := As.mk (blk_below (bx BK344.out) hb); clear hb hbox hg; have hnb41 := NB347_343.out; have hnc41 := NB343_347.out; have hnb42 := NB347_344.out; have hnc42 := NB344_347.out; obtain ⟨hcz43_0, hcz43_1, hfz43_0, hfz43_1⟩ := cl2 BK347.out) | ((with_reducible refine gate_callee (f := 50) rfl ?_); refine goesL_ (some 41) rfl rfl Tryd.func50 (by kernel_rfl) rfl #[.string ((rd_T95 l1_1 x35_2).f0)] rfl (by (try simp only [lm]); first | done | rfl | (simp only [List.length_drop, List.length_take]; rfl)) ?_; (with_reducible refine (impl_NameOk.calls k2 ((rd_T95 l1_1 x35_2).f0) true _ A36.out).mono ?_); rintro e w44 ⟨rfl, hb⟩; refine ⟨_, rfl, ?_⟩; replace BK343 := As.mk (blk_below (g := gb343) (o := .cells #[.slice A0_0 l0_0.length c0_0, .slice A0_1 l0_1.length c0_1] 52 (0, 0)) (by refine pl ?_; refine blk_far ?_ NB343_347.out _; refine pl ?_; refine blk_far ?_ NB343_347.out _; exact bx BK343.out) hb); replace BK344 := As.mk (blk_below (g := gb344) (o := .cells #[.string a1_0, .slice (some ad346) l1_1.length c1_1, .int .i64 a1_2, .int .i64 a1_3, .int .i64 a1_4] 93 (0, 0)) (by refine pl ?_; refine blk_far ?_ NB344_347.out _; refine pl ?_; refine blk_far ?_ NB344_347.out _; exact bx BK344.out) hb); replace BK347 := As.mk (blk_below (g := gb347) (o := .cells #[.string ((rd_T95 l1_1 x35_2).f0), .int .i64 ((rd_T95 l1_1 x35_2).f1)] 95 (0, 0)) (by refine pl ?_; refine blk_put (cs := #[.string ((rd_T95 l1_1 x35_2).f0), .int .i64 0]) ?_ 1 _ rfl; refine pl ?_; refine blk_put (cs := #[.string (⟨#[]⟩ : ByteArray), .int .i64 0]) ?_ 0 _ rfl; exact bx BK347.out) hb); replace HB := As.mk (below_step (be w) hb); (try clear hb); (try clear hb2); (try clear hk); (try clear hi); obtain ⟨hcz45_0, hcz45_1, hfz45_0, hfz45_1⟩ := cl2 BK347.out) | (go_at_call 45; (with_reducible refine (impl_in.calls ((rd_T95 l1_1 x35_2).f1) 1 4 true _ A38.out).mono ?_); rintro e w' ⟨rfl, ⟨nd, rfl⟩⟩))
     go_roundg k2
     case measure => have := HJ2.out; have := HK2.out; omega
     case rel => exact ⟨(wrap64 (x35_2 + 1)), (by first | rfl | (simp; done) | (simp [*]; done)), H', ⟨by have := HJ2.out; have := HK2.out; omega⟩, ⟨bx BK343.out⟩, ⟨bx BK344.out⟩, ⟨be w⟩⟩
/-! ### impl_FnAt: function 76 -/
def impl_FnAt.l0 : Nat → ByteArray → List (S93) → Int → Int → Option (Int)
 | 0, _, _, _, _ => none
 | k + 1, x1, x8, x9, x10 => if x10 < x9 then (if 0 ≤ x10 then (if x10 < (x8.length : Int) then (if ((rd_T93 x8 x10).f0).toList = x1.toList then (some x10) else (impl_FnAt.l0 k x1 x8 x9 (wrap64 (x10 + 1)))) else (none)) else (none)) else (some (-1))
def impl_FnAt.f (k : Nat) (l0_0 : List (S64)) (l0_1 : List (S93)) (a1 : ByteArray) : Option (Int) := impl_FnAt.l0 k a1 l0_1 (l0_1.length : Int) 0
theorem impl_FnAt.mono_l : ∀ k, (∀ y0 y1 y2 y3, LeO (impl_FnAt.l0 k y0 y1 y2 y3) (impl_FnAt.l0 (k + 1) y0 y1 y2 y3))
 | 0 => fun _ _ _ _ r h => by simp [impl_FnAt.l0] at h
 | k + 1 => by
  have ih0 := impl_FnAt.mono_l k
  ·
   intro y0 y1 y2 y3
   unfold impl_FnAt.l0
   with_reducible repeat' first | exact ih0 _ _ _ _ | exact LeO.refl _ | exact LeO.none _ | refine LeO.ite ?_ ?_ | refine LeO.bind ?_ (fun _ => ?_)
theorem impl_FnAt.mono : ∀ a0 a1 a2 k, LeO (impl_FnAt.f k a0 a1 a2) (impl_FnAt.f (k + 1) a0 a1 a2) := by
 intro a0 a1 a2 k
 have ih0 := impl_FnAt.mono_l k
 unfold impl_FnAt.f
 with_reducible repeat' first | exact ih0 _ _ _ _ | exact LeO.refl _ | exact LeO.none _ | refine LeO.ite ?_ ?_ | refine LeO.bind ?_ (fun _ => ?_)
set_option maxHeartbeats 8000000 in
set_option maxRecDepth 100000 in
theorem impl_FnAt.calls (k : Nat) (A0_0 : Option Addr) (c0_0 : Nat) (l0_0 : List (S64)) (A0_1 : Option Addr) (c0_1 : Nat) (l0_1 : List (S93)) (a1 : ByteArray) (r : Int) (w : World) (hr0_0 : Kd.C k64 w A0_0 l0_0.length l0_0) (hc0_0 : l0_0.length ≤ c0_0) (hr0_1 : Kd.C k93 w A0_1 l0_1.length l0_1) (hc0_1 : l0_1.length ≤ c0_1) (h : impl_FnAt.f k l0_0 l0_1 a1 = some r) :
  Calls Tryd.prog 76 #[.agg #[.slice A0_0 l0_0.length c0_0, .slice A0_1 l0_1.length c0_1], .string a1] w fun e w' => e = .returned (.int .i64 r) ∧ Below w.heap.size w w' := by
 have hu52 := Tryd.underlying52
 have hu93 := Tryd.underlying93
 have HR0_0 := As.mk hr0_0
 have HC0_0 := As.mk hc0_0
 clear hr0_0 hc0_0
 have HR0_1 := As.mk hr0_1
 have HC0_1 := As.mk hc0_1
 clear hr0_1 hc0_1
 have HB := As.mk (Below.refl w.heap.size w)
 have H : (impl_FnAt.l0 k a1 l0_1 (l0_1.length : Int) 0) = some r := h
 clear h
 have H' := As.mk H
 clear H
 go_enter Tryd.func76, Tryd.ntmps76
 go_wp2_with (first | ((with_reducible refine gate_dst (N := 2) rfl ?_); refine box_event ?hg (N := 2) ?hd (cs := #[.slice A0_0 l0_0.length c0_0, .slice A0_1 l0_1.length c0_1]) (t := 52) ?hr ?_; (case hd => rfl); (case hg => rfl); (case hr => first | (go_simp; done) | (go_simp; rfl)); intro gb355 hg w3 hbox hb; have BK355 := As.mk (hbox); have GW355 := As.mk (gs w hg); have GE355 := As.mk (gs w hg); replace HB := As.mk (below_step (be w) hb); clear hb hbox hg; obtain ⟨hcz4_0, hcz4_1, hfz4_0, hfz4_1⟩ := cl2 BK355.out))
 go_loopg [10] k (fun kq v10 w' => ∃ (x10_1 : Int), v10 = .int .i64 x10_1 ∧ As (impl_FnAt.l0 kq a1 l0_1 (l0_1.length : Int) x10_1 = some r) ∧ As (kq ≤ k) ∧ As (w'.heap[gb355]? = some (.cells #[(.slice A0_0 l0_0.length c0_0), (.slice A0_1 l0_1.length c0_1)] 52 (0, 0))) ∧ As (Below w.heap.size w w'))
 case atStart => exact ⟨(0), (by first | rfl | (simp; done) | (simp [*]; done)), H', ⟨Nat.le_refl _⟩, ⟨bx BK355.out⟩, ⟨be w⟩⟩
 case round =>
  clear H'
  (try clear hcz4_0); (try clear hcz4_1); (try clear hfz4_0); (try clear hfz4_1)
  obtain ⟨x10_1, rfl, HA, HK1, BK355, HB⟩ := hrel
  cases gk with
  | zero => exact absurd HA.out (by simp [impl_FnAt.l0])
  | succ k1 =>
   have H := HA.out
   clear HA
   simp only [impl_FnAt.l0] at H
   by_cases c5 : x10_1 < (l0_1.length : Int)
   rotate_left
   ·
    rw [if_neg c5] at H
    have c5b0 : decide (x10_1 < (l0_1.length : Int)) = false := decide_eq_false c5
    clear c5
    obtain rfl := Option.some.inj H
    go_wp2
    go_ret
    exact ⟨by first | rfl | (simp [errW_none, errW_some] <;> rfl) | (simp [*, errW_none, errW_some] <;> rfl), be w⟩

   rw [if_pos c5] at H
   have c5b0 : decide (x10_1 < (l0_1.length : Int)) = true := decide_eq_true c5
   clear c5
   by_cases c6 : 0 ≤ x10_1
   rotate_left
   ·
    rw [if_neg c6] at H
    exact absurd H (by simp)
   rw [if_pos c6] at H
   have c6b0 : decide (0 ≤ x10_1) = true := decide_eq_true c6
   clear c6
   by_cases c7 : x10_1 < (l0_1.length : Int)
   rotate_left
   ·
    rw [if_neg c7] at H
    exact absurd H (by simp)
   rw [if_pos c7] at H
   have c7b0 : decide (x10_1 < (l0_1.length : Int)) = true := decide_eq_true c7
   clear c7
   by_cases c8 : ((rd_T93 l0_1 x10_1).f0).toList = a1.toList
   ·
    rw [if_pos c8] at H
    have c8b0 : (((rd_T93 l0_1 x10_1).f0).toList == a1.toList) = true := beq_iff_eq.mpr c8
    have c8b1 : (((rd_T93 l0_1 x10_1).f0).toList != a1.toList) = false := bne_eq_false_iff_eq.mpr c8
    clear c8
    obtain rfl := Option.some.inj H
    have p356 : 0 ≤ (x10_1 : Int) := of_decide_eq_true (by first | (with_reducible assumption) | assumption)
    have q356 : x10_1 < (l0_1.length : Int) := of_decide_eq_true (by first | (with_reducible assumption) | assumption)
    obtain ⟨ad356, A356_1, c356_1, e356, hx356_0, hx356_1, hx356_2, hx356_3, hx356_4, hl356_1, hi356_1⟩ := at_T93 HR0_1.out x10_1 p356 q356
    cases e356
    replace hx356_0 := ce HB.out hx356_0
    replace hx356_1 := ce HB.out hx356_1
    replace hx356_2 := ce HB.out hx356_2
    replace hx356_3 := ce HB.out hx356_3
    replace hx356_4 := ce HB.out hx356_4
    have HR356_1 := As.mk hi356_1
    have HC356_1 := As.mk hl356_1
    clear hi356_1 hl356_1
    replace p356 := eq_true p356
    replace q356 := eq_true q356
    go_wp2_with (first | ((with_reducible refine gate_dst (N := 6) rfl ?_); refine box_event ?hg (N := 6) ?hd (cs := #[.string (⟨#[]⟩ : ByteArray), .slice none 0 0, .int .i64 0, .int .i64 0, .int .i64 0]) (t := 93) ?hr ?_; (case hd => rfl); (case hg => rfl); (case hr => first | (go_simp; done) | (go_simp; rfl)); intro gb357 hg w9 hbox hb; have BK357 := As.mk (hbox); have GW357 := As.mk (gs w hg); have GE357 := As.mk (gs w hg); replace HB := As.mk (below_step (be w) hb); clear hb hbox hg; obtain ⟨hcz10_0, hcz10_1, hcz10_2, hcz10_3, hcz10_4, hfz10_0, hfz10_1, hfz10_2, hfz10_3, hfz10_4⟩ := cl5 BK357.out))
    go_ret
    exact ⟨by first | rfl | (simp [errW_none, errW_some] <;> rfl) | (simp [*, errW_none, errW_some] <;> rfl), be w⟩
   rw [if_neg c8] at H
   have c8b0 : (((rd_T93 l0_1 x10_1).f0).toList == a1.toList) = false := beq_eq_false_iff_ne.mpr c8
   have c8b1 : (((rd_T93 l0_1 x10_1).f0).toList != a1.toList) = true := bne_iff_ne.mpr c8
   have H' := As.mk H
   clear H
   have p356 : 0 ≤ (x10_1 : Int) := of_decide_eq_true (by first | (with_reducible assumption) | assumption)
   have q356 : x10_1 < (l0_1.length : Int) := of_decide_eq_true (by first | (with_reducible assumption) | assumption)
   obtain ⟨ad356, A356_1, c356_1, e356, hx356_0, hx356_1, hx356_2, hx356_3, hx356_4, hl356_1, hi356_1⟩ := at_T93 HR0_1.out x10_1 p356 q356
   cases e356
   replace hx356_0 := ce HB.out hx356_0
   replace hx356_1 := ce HB.out hx356_1
   replace hx356_2 := ce HB.out hx356_2
   replace hx356_3 := ce HB.out hx356_3
   replace hx356_4 := ce HB.out hx356_4
   have HR356_1 := As.mk hi356_1
   have HC356_1 := As.mk hl356_1
   clear hi356_1 hl356_1
   replace p356 := eq_true p356
   replace q356 := eq_true q356
   go_wp2_with (first | ((with_reducible refine gate_dst (N := 6) rfl ?_); refine box_event ?hg (N := 6) ?hd (cs := #[.string (⟨#[]⟩ : ByteArray), .slice none 0 0, .int .i64 0, .int .i64 0, .int .i64 0]) (t := 93) ?hr ?_; (case hd => rfl); (case hg => rfl); (case hr => first | (go_simp; done) | (go_simp; rfl)); intro gb357 hg w11 hbox hb; have BK357 := As.mk (hbox); have GW357 := As.mk (gs w hg); have GE357 := As.mk (gs w hg); replace HB := As.mk (below_step (be w) hb); have NB355_357 := As.mk (nl hg (bx BK355.out)); have NB357_355 := As.mk (ng hg (bx BK355.out)); replace BK355 := As.mk (blk_below (bx BK355.out) hb); clear hb hbox hg; have hnb12 := NB357_355.out; have hnc12 := NB355_357.out; obtain ⟨hcz13_0, hcz13_1, hcz13_2, hcz13_3, hcz13_4, hfz13_0, hfz13_1, hfz13_2, hfz13_3, hfz13_4⟩ := cl5 BK357.out))
   go_roundg k1
   case measure => have := HK1.out; omega
   case rel => exact ⟨(wrap64 (x10_1 + 1)), (by first | rfl | (simp; done) | (simp [*]; done)), H', ⟨by have := HK1.out; omega⟩, ⟨by refine pl ?_; refine blk_far ?_ NB355_357.out _; refine pl ?_; refine blk_far ?_ NB355_357.out _; refine pl ?_; refine blk_far ?_ NB355_357.out _; refine pl ?_; refine blk_far ?_ NB355_357.out _; refine pl ?_; refine blk_far ?_ NB355_357.out _; exact bx BK355.out⟩, ⟨be w⟩⟩
end Go.Proofs.YtmdpggibcjkfoaaDoor.PFnExactProgramOk
