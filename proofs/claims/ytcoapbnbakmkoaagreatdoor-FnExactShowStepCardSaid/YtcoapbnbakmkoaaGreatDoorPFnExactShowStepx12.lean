/- Written by a program of this session (a turned copy of the kit's print): a contract for each Go function. No condition beside those in each statement. -/
import Derived.Test.YtcoapbnbakmkoaaGreatDoorPFnExactShowStepx0
import Derived.Test.YtcoapbnbakmkoaaGreatDoorPFnExactShowStepx9
import Derived.Test.YtcoapbnbakmkoaaGreatDoorPFnExactShowStepx11
namespace Go.Proofs.YtcoapbnbakmkoaaGreatDoor.PFnExactShowStep
open Go.RowKit Go.Proofs.YtcoapbnbakmkoaaGreatDoor.Given Go.Proofs.YtcoapbnbakmkoaaGreatDoorW.PrintWords Go.Proofs.YtcoapbnbakmkoaaGreatDoorW.PrintLast Go.Proofs.YtcoapbnbakmkoaaGreatDoorW.PrintMore
attribute [local go_sem] max2_int min2_int max_two min_two max_three min_three max_four min_four   -- for this text's walks alone
set_option linter.unusedVariables false
set_option linter.unusedSimpArgs false

/-! ### impl_depths: function 73 -/
mutual
def impl_depths.l0 : Nat → List (S62) → Int → List Int → Int → Option (List Int × Bool)
 | 0, _, _, _, _ => none
 | k + 1, x0, x1, x6, x7 => if x7 ≤ x1 then ((impl_NodeOk.f k x0 x7).bind fun t348 => (if t348 = true then (if 0 ≤ x7 then (if x7 < (x0.length : Int) then (impl_depths.l1 k x0 x1 x6 x7 1 ((rd_T62 x0 x7).f3) (((rd_T62 x0 x7).f3).length : Int) 0) else (none)) else (none)) else (some (([] : List Int), false)))) else (some (x6, true))
def impl_depths.l1 : Nat → List (S62) → Int → List Int → Int → Int → List Int → Int → Int → Option (List Int × Bool)
 | 0, _, _, _, _, _, _, _, _ => none
 | k + 1, x0, x1, x6, x7, x8, x30, x31, x32 => if x32 < x31 then (if 0 ≤ x32 then (if x32 < (x30.length : Int) then (if 0 ≤ (rd x30 x32) then (if (rd x30 x32) < (x6.length : Int) then (impl_depths.l1 k x0 x1 x6 x7 (mx x8 (wrap64 ((rd x6 (rd x30 x32)) + 1))) x30 x31 (wrap64 (x32 + 1))) else (none)) else (none)) else (none)) else (none)) else (if x8 > 10 then (some (([] : List Int), false)) else (if x6.length < 17592186044416 then (impl_depths.l0 k x0 x1 (x6 ++ [x8]) (wrap64 (x7 + 1))) else (none)))
end
def impl_depths.f (k : Nat) (l0 : List (S62)) (a1 : Int) : Option (List Int × Bool) := (impl_in.f a1 0 (wrap64 ((l0.length : Int) - 1))).bind fun t347 => (if t347 = true then (impl_depths.l0 k l0 a1 ([] : List Int) 0) else (some (([] : List Int), false)))
theorem impl_depths.mono_l : ∀ k, (∀ y0 y1 y2 y3, LeO (impl_depths.l0 k y0 y1 y2 y3) (impl_depths.l0 (k + 1) y0 y1 y2 y3)) ∧ (∀ y0 y1 y2 y3 y4 y5 y6 y7, LeO (impl_depths.l1 k y0 y1 y2 y3 y4 y5 y6 y7) (impl_depths.l1 (k + 1) y0 y1 y2 y3 y4 y5 y6 y7))
 | 0 => ⟨fun _ _ _ _ r h => by simp [impl_depths.l0] at h, fun _ _ _ _ _ _ _ _ r h => by simp [impl_depths.l1] at h⟩
 | k + 1 => by
  obtain ⟨ih0, ih1⟩ := impl_depths.mono_l k
  refine ⟨?_, ?_⟩
  ·
   intro y0 y1 y2 y3
   unfold impl_depths.l0
   with_reducible repeat' first | exact ih0 _ _ _ _ | exact ih1 _ _ _ _ _ _ _ _ | exact impl_NodeOk.mono _ _ _ | exact LeO.refl _ | exact LeO.none _ | refine LeO.ite ?_ ?_ | refine LeO.bind ?_ (fun _ => ?_)
  ·
   intro y0 y1 y2 y3 y4 y5 y6 y7
   unfold impl_depths.l1
   with_reducible repeat' first | exact ih0 _ _ _ _ | exact ih1 _ _ _ _ _ _ _ _ | exact impl_NodeOk.mono _ _ _ | exact LeO.refl _ | exact LeO.none _ | refine LeO.ite ?_ ?_ | refine LeO.bind ?_ (fun _ => ?_)
theorem impl_depths.mono : ∀ a0 a1 k, LeO (impl_depths.f k a0 a1) (impl_depths.f (k + 1) a0 a1) := by
 intro a0 a1 k
 obtain ⟨ih0, ih1⟩ := impl_depths.mono_l k
 unfold impl_depths.f
 with_reducible repeat' first | exact ih0 _ _ _ _ | exact ih1 _ _ _ _ _ _ _ _ | exact impl_NodeOk.mono _ _ _ | exact LeO.refl _ | exact LeO.none _ | refine LeO.ite ?_ ?_ | refine LeO.bind ?_ (fun _ => ?_)
set_option maxHeartbeats 8000000 in
set_option maxRecDepth 100000 in
theorem impl_depths.calls (k : Nat) (A0 : Option Addr) (c0 : Nat) (l0 : List (S62)) (a1 : Int) (r1 : List Int) (r2 : Bool) (w : World) (hr0 : Kd.C k62 w A0 l0.length l0) (hc0 : l0.length ≤ c0) (h : impl_depths.f k l0 a1 = some (r1, r2)) :
  Calls Tryz.prog 73 #[.slice A0 l0.length c0, .int .i64 a1] w fun e w' => ∃ v0_ : Value, e = .returned (.tuple #[v0_, .bool r2]) ∧ Kd.R (Kd.int .i64) 3 w' w.heap.size (fun _ => True) v0_ r1 ∧ Below w.heap.size w w' := by
 have HR0 := As.mk hr0
 have HC0 := As.mk hc0
 clear hr0 hc0
 have HB := As.mk (Below.refl w.heap.size w)
 have H : ((impl_in.f a1 0 (wrap64 ((l0.length : Int) - 1))).bind fun t347 => (if t347 = true then (impl_depths.l0 k l0 a1 ([] : List Int) 0) else (some (([] : List Int), false)))) = some (r1, r2) := h
 clear h
 obtain ⟨t347, A30, H⟩ := Option.bind_eq_some_iff.mp H
 try dsimp only at H
 have A3 := As.mk A30
 clear A30
 by_cases c4 : t347 = true
 rotate_left
 ·
  replace c4 := Bool.eq_false_iff.mpr c4
  subst c4
  rw [if_neg (show ¬ (false = true) by decide)] at H
  simp only [Option.some.injEq, Prod.mk.injEq] at H
  obtain ⟨rfl, rfl⟩ := H
  go_enter Tryz.func73, Tryz.ntmps73
  go_wp2_with (first | ((with_reducible refine gate_callee (f := 36) rfl ?_); refine goesL_ (some 15) rfl rfl Tryz.func36 (by kernel_rfl) rfl #[.int .i64 a1, .int .i64 0, .int .i64 (wrap64 ((l0.length : Int) - 1))] rfl gl ?_; (with_reducible refine (impl_in.calls a1 0 (wrap64 ((l0.length : Int) - 1)) false _ A3.out).mono ?_); rintro e w' ⟨rfl, ⟨nd, rfl⟩⟩; refine ⟨_, rfl, ?_⟩))
  go_ret2
  exact ⟨_, ez, by first | exact Kd.R_nil _ _ _ _ _ | exact Kd.N_nil _ _ _ _ _ | exact Kd.V_nil _ _ _ _ _ | exact Kd.Q_nil _ _ _ _ _ | exact Kd.S_nil _ _ _ _ _, be w⟩

 subst c4
 rw [if_pos rfl] at H
 have H' := As.mk H
 clear H
 go_enter Tryz.func73, Tryz.ntmps73
 go_wp2_with (first | ((with_reducible refine gate_callee (f := 36) rfl ?_); refine goesL_ (some 15) rfl rfl Tryz.func36 (by kernel_rfl) rfl #[.int .i64 a1, .int .i64 0, .int .i64 (wrap64 ((l0.length : Int) - 1))] rfl gl ?_; (with_reducible refine (impl_in.calls a1 0 (wrap64 ((l0.length : Int) - 1)) true _ A3.out).mono ?_); rintro e w' ⟨rfl, ⟨nd, rfl⟩⟩; refine ⟨_, rfl, ?_⟩))
 (try simp only [pk])
 go_loopg [6, 7] k (fun kq v6 v7 w' => ∃ (x6_1 : List Int) (x7_1 : Int), v7 = .int .i64 x7_1 ∧ As (impl_depths.l0 kq l0 a1 x6_1 x7_1 = some (r1, r2)) ∧ As (kq ≤ k) ∧ As (Kd.R (Kd.int .i64) 3 w' w.heap.size (fun _ => True) v6 x6_1) ∧ As (Below w.heap.size w w'))
 case atStart => exact ⟨(([] : List Int)), (0), (by first | rfl | (simp; done) | (simp [*]; done)), H', ⟨Nat.le_refl _⟩, ⟨by first | exact Kd.R_nil _ _ _ _ _ | exact Kd.N_nil _ _ _ _ _ | exact Kd.V_nil _ _ _ _ _ | exact Kd.Q_nil _ _ _ _ _ | exact Kd.S_nil _ _ _ _ _⟩, ⟨be w⟩⟩
 case round =>
  clear H'
  (try clear c4)
  obtain ⟨x6_1, x7_1, rfl, HA, HK1, HO_6, HB⟩ := hrel
  cases gk with
  | zero => exact absurd HA.out (by simp [impl_depths.l0])
  | succ k1 =>
   have H := HA.out
   clear HA
   simp only [impl_depths.l0] at H
   by_cases c5 : x7_1 ≤ a1
   rotate_left
   ·
    rw [if_neg c5] at H
    have c5b0 : decide (x7_1 ≤ a1) = false := decide_eq_false c5
    clear c5
    simp only [Option.some.injEq, Prod.mk.injEq] at H
    obtain ⟨rfl, rfl⟩ := H
    go_wp2
    go_ret2
    exact ⟨_, ez, by (with_reducible repeat (first | apply Kd.R_alloc | apply Kd.R_drewN | apply Kd.R_drew)); exact HO_6.out, be w⟩
   rw [if_pos c5] at H
   have c5b0 := decide_eq_true c5
   clear c5
   obtain ⟨t348, A60, H⟩ := Option.bind_eq_some_iff.mp H
   try dsimp only at H
   have A6 := As.mk A60
   clear A60
   by_cases c7 : t348 = true
   rotate_left
   ·
    replace c7 := Bool.eq_false_iff.mpr c7
    subst c7
    rw [if_neg (show ¬ (false = true) by decide)] at H
    simp only [Option.some.injEq, Prod.mk.injEq] at H
    obtain ⟨rfl, rfl⟩ := H
    go_wp2_with (first | ((with_reducible refine gate_callee (f := 96) rfl ?_); refine goesL_ (some 24) rfl rfl Tryz.func96 (by kernel_rfl) rfl #[.slice A0 l0.length c0, .int .i64 x7_1] rfl gl ?_; (with_reducible refine (impl_NodeOk.calls k1 _ _ l0 x7_1 false _ ?side1 ?side2 A6.out).mono ?_); (case side1 => exact Kd.C_below HR0.out (be w)); (case side2 => exact HC0.out); rintro e w21 ⟨rfl, hb⟩; refine ⟨_, rfl, ?_⟩; replace HB := As.mk (below_step (be w) hb); (try clear hb)))
    go_ret2
    exact ⟨_, ez, by first | exact Kd.R_nil _ _ _ _ _ | exact Kd.N_nil _ _ _ _ _ | exact Kd.V_nil _ _ _ _ _ | exact Kd.Q_nil _ _ _ _ _ | exact Kd.S_nil _ _ _ _ _, be w⟩
   subst c7
   rw [if_pos rfl] at H
   have c8 := i1 H; replace H := i2 H
   have c8b0 := decide_eq_true c8
   clear c8
   have c9 := i1 H; replace H := i2 H
   have c9b0 := decide_eq_true c9
   clear c9
   have H' := As.mk H
   clear H
   go_wp2_with (first | ((with_reducible refine gate_callee (f := 96) rfl ?_); refine goesL_ (some 24) rfl rfl Tryz.func96 (by kernel_rfl) rfl #[.slice A0 l0.length c0, .int .i64 x7_1] rfl gl ?_; (with_reducible refine (impl_NodeOk.calls k1 _ _ l0 x7_1 true _ ?side1 ?side2 A6.out).mono ?_); (case side1 => exact Kd.C_below HR0.out (be w)); (case side2 => exact HC0.out); rintro e w10 ⟨rfl, hb⟩; refine ⟨_, rfl, ?_⟩; replace HO_6 := As.mk (Kd.R_below (by (with_reducible repeat (first | apply Kd.R_alloc | apply Kd.R_drewN | apply Kd.R_drew)); exact HO_6.out) hb); replace HB := As.mk (below_step (be w) hb); (try clear hb); have p349 : 0 ≤ (x7_1 : Int) := od; have q349 : x7_1 < (l0.length : Int) := od; obtain ⟨ad349, A349_3, c349_3, e349, hx349_0, hx349_1, hx349_2, hx349_3, hl349_3, hi349_3⟩ := at_T62 HR0.out x7_1 p349 q349; cases e349; replace hx349_0 := ce HB.out hx349_0; replace hx349_1 := ce HB.out hx349_1; replace hx349_2 := ce HB.out hx349_2; replace hx349_3 := ce HB.out hx349_3; have HR349_3 := As.mk hi349_3; have HC349_3 := As.mk hl349_3; clear hi349_3 hl349_3; replace p349 := eq_true p349; replace q349 := eq_true q349))
   (try simp only [pk])
   go_loopg [8, 32] k1 (fun kq v8 v32 w' => ∃ (x8_2 : Int) (x32_2 : Int), v8 = .int .i64 x8_2 ∧ v32 = .int .i64 x32_2 ∧ As (impl_depths.l1 kq l0 a1 x6_1 x7_1 x8_2 ((rd_T62 l0 x7_1).f3) (((rd_T62 l0 x7_1).f3).length : Int) x32_2 = some (r1, r2)) ∧ As (kq ≤ k1) ∧ As (Kd.R (Kd.int .i64) 3 w' w.heap.size (fun _ => True) u6 x6_1) ∧ As (Below w.heap.size w w'))
   case atStart => exact ⟨(1), (0), (by first | rfl | (simp; done) | (simp [*]; done)), (by first | rfl | (simp; done) | (simp [*]; done)), H', ⟨Nat.le_refl _⟩, ⟨by (with_reducible repeat (first | apply Kd.R_alloc | apply Kd.R_drewN | apply Kd.R_drew)); exact HO_6.out⟩, ⟨be w⟩⟩
   case round =>
    clear H'
    (try clear c4); (try clear c5); (try clear c5b0); (try clear c7); (try clear c8); (try clear c8b0); (try clear c9); (try clear c9b0); (try clear hx349_0); (try clear hx349_1); (try clear hx349_2); (try clear hx349_3); (try clear p349); (try clear q349)
    obtain ⟨x8_2, x32_2, rfl, rfl, HA, HK2, HO_6, HB⟩ := hrel
    cases gk with
    | zero => exact absurd HA.out (by simp [impl_depths.l1])
    | succ k2 =>
     have H := HA.out
     clear HA
     simp only [impl_depths.l1] at H
     by_cases c11 : x32_2 < (((rd_T62 l0 x7_1).f3).length : Int)
     rotate_left
     ·
      rw [if_neg c11] at H
      have c11b0 : decide (x32_2 < (((rd_T62 l0 x7_1).f3).length : Int)) = false := decide_eq_false c11
      clear c11
      by_cases c18 : x8_2 > 10
      ·
       rw [if_pos c18] at H
       have c18b0 : decide (10 < x8_2) = true := decide_eq_true c18
       clear c18
       simp only [Option.some.injEq, Prod.mk.injEq] at H
       obtain ⟨rfl, rfl⟩ := H
       go_wp2
       go_ret2
       exact ⟨_, ez, by first | exact Kd.R_nil _ _ _ _ _ | exact Kd.N_nil _ _ _ _ _ | exact Kd.V_nil _ _ _ _ _ | exact Kd.Q_nil _ _ _ _ _ | exact Kd.S_nil _ _ _ _ _, be w⟩
      rw [if_neg c18] at H
      have c18b0 : decide (10 < x8_2) = false := decide_eq_false c18
      clear c18
      have c19 := i1 H; replace H := i2 H
      have LMc19 := As.mk c19
      clear c19
      obtain ⟨y352, hy352⟩ : ∃ y_ : List Int, y_ = (x6_1 ++ [x8_2]) := ⟨_, rfl⟩
      replace H : (impl_depths.l0 k2 l0 a1 y352 (wrap64 (x7_1 + 1))) = some (r1, r2) := by first | (rw [hy352]; with_reducible exact H) | (have H2_ := (Option.bind_some _ _).symm.trans H; rw [hy352]; with_reducible exact H2_) | (have H2_ := (Option.bind_some _ _).symm.trans H; with_reducible exact H2_) | with_reducible exact H | (rw [hy352]; exact H) | exact H
      have Ny352 := As.mk hy352
      clear hy352
      have H' := As.mk H
      clear H
      go_wp2_with (first | ((with_reducible refine gate_builtin (b := .append) (xs := #[.tmp 46, .tmp 48]) rfl ?_); at_builtin; refine Kd.R_append (Kd.int .i64) (w0 := w) w.heap.size rfl (.tmp 46) (.tmp 48) 45 3 (.int .i64 0) 8 rfl Tryz.underlying45 info3 rfl (by decide) (by omega) u6 x6_1 x8_2 [.int .i64 x8_2] (fun _ => True) (fun _ => False) rfl rfl ?aP (fun _ hk => hk.elim) ?aF ?aO ?aB ?aS ?aL ?_; (case aP => exact rfl); (case aB => exact (be w)); (case aF => exact (fun _ _ => trivial)); (case aO => exact (by (with_reducible repeat (first | apply Kd.R_alloc | apply Kd.R_drewN | apply Kd.R_drew)); exact HO_6.out)); (case aS => exact (below_size (be w))); (case aL => have := LMc19.out; omega); intro v353 w20 ho hb hg hat; rw [← Ny352.out] at ho; replace HB := As.mk (hb); have HO354 := As.mk (ho); clear HO_6; clear ho hb hg hat))
      go_roundg k2
      case measure => have := HK1.out; have := HK2.out; omega
      case rel => exact ⟨(y352), (wrap64 (x7_1 + 1)), (by first | rfl | (simp; done) | (simp [*]; done)), H', ⟨by have := HK1.out; have := HK2.out; omega⟩, ⟨by (with_reducible repeat (first | apply Kd.R_alloc | apply Kd.R_drewN | apply Kd.R_drew)); exact HO354.out⟩, ⟨be w⟩⟩
     rw [if_pos c11] at H
     have c11b0 := decide_eq_true c11
     clear c11
     have c12 := i1 H; replace H := i2 H
     have c12b0 := decide_eq_true c12
     clear c12
     have c13 := i1 H; replace H := i2 H
     have c13b0 := decide_eq_true c13
     clear c13
     have c14 := i1 H; replace H := i2 H
     have c14b0 := decide_eq_true c14
     clear c14
     have c15 := i1 H; replace H := i2 H
     have c15b0 := decide_eq_true c15
     clear c15
     obtain ⟨ji16, hji16⟩ : ∃ j_ : Int, (mx x8_2 (wrap64 ((rd x6_1 (rd ((rd_T62 l0 x7_1).f3) x32_2)) + 1))) = j_ := ⟨_, rfl⟩
     replace H : (impl_depths.l1 k2 l0 a1 x6_1 x7_1 ji16 ((rd_T62 l0 x7_1).f3) (((rd_T62 l0 x7_1).f3).length : Int) (wrap64 (x32_2 + 1))) = some (r1, r2) := by first | (rw [hji16] at H; exact H) | (simp only [hji16] at H ⊢; exact H)
     have hji16_ : (if x8_2 < (wrap64 ((rd x6_1 (rd ((rd_T62 l0 x7_1).f3) x32_2)) + 1)) then (wrap64 ((rd x6_1 (rd ((rd_T62 l0 x7_1).f3) x32_2)) + 1)) else x8_2) = ji16 := hji16
     have H' := As.mk H
     clear H
     have p350 : 0 ≤ (x32_2 : Int) := od
     have q350 : x32_2 < (((rd_T62 l0 x7_1).f3).length : Int) := od
     obtain ⟨ad350, e350, hx350_0⟩ := Kd.at_int HR349_3.out x32_2 p350 q350
     cases e350
     replace hx350_0 := ce HB.out hx350_0
     replace p350 := eq_true p350
     replace q350 := eq_true q350
     obtain ⟨Ao17, co17, eo17⟩ := Kd.R_slice HO_6.out
     subst eo17
     have p351 : 0 ≤ ((rd ((rd_T62 l0 x7_1).f3) x32_2) : Int) := od
     have q351 : (rd ((rd_T62 l0 x7_1).f3) x32_2) < (x6_1.length : Int) := od
     obtain ⟨ad351, e351, hx351_0⟩ := Kd.at_int (Kd.R_reads' HO_6.out).2.2 (rd ((rd_T62 l0 x7_1).f3) x32_2) p351 q351
     cases e351
     replace p351 := eq_true p351
     replace q351 := eq_true q351
     go_wp2
     go_roundg k2
     case measure => have := HK1.out; have := HK2.out; omega
     case rel => exact ⟨(ji16), (wrap64 (x32_2 + 1)), (by first | rfl | (simp; done) | (simp only [← hji16] <;> (first | rfl | simp)) | (simp [*]; done)), (by first | rfl | (simp; done) | (simp [*]; done)), H', ⟨by have := HK1.out; have := HK2.out; omega⟩, ⟨by (with_reducible repeat (first | apply Kd.R_alloc | apply Kd.R_drewN | apply Kd.R_drew)); exact HO_6.out⟩, ⟨be w⟩⟩
/-! ### impl_DeepOf: function 46 -/
def impl_DeepOf.f (k : Nat) (l0 : List (S62)) (a1 : Int) : Option (Int) := (impl_depths.f k l0 a1).bind fun bt355 => (if bt355.2 = true then (if 0 ≤ a1 then (if a1 < (bt355.1.length : Int) then (some (rd bt355.1 a1)) else (none)) else (none)) else (some 0))
theorem impl_DeepOf.mono : ∀ a0 a1 k, LeO (impl_DeepOf.f k a0 a1) (impl_DeepOf.f (k + 1) a0 a1) := by
 intro a0 a1 k
 unfold impl_DeepOf.f
 with_reducible repeat' first | exact impl_depths.mono _ _ _ | exact LeO.refl _ | exact LeO.none _ | refine LeO.ite ?_ ?_ | refine LeO.bind ?_ (fun _ => ?_)
set_option maxHeartbeats 8000000 in
set_option maxRecDepth 100000 in
theorem impl_DeepOf.calls (k : Nat) (A0 : Option Addr) (c0 : Nat) (l0 : List (S62)) (a1 : Int) (r : Int) (w : World) (hr0 : Kd.C k62 w A0 l0.length l0) (hc0 : l0.length ≤ c0) (h : impl_DeepOf.f k l0 a1 = some r) :
  Calls Tryz.prog 46 #[.slice A0 l0.length c0, .int .i64 a1] w fun e w' => e = .returned (.int .i64 r) ∧ Below w.heap.size w w' := by
 have HR0 := As.mk hr0
 have HC0 := As.mk hc0
 clear hr0 hc0
 have HB := As.mk (Below.refl w.heap.size w)
 have H : ((impl_depths.f k l0 a1).bind fun bt355 => (if bt355.2 = true then (if 0 ≤ a1 then (if a1 < (bt355.1.length : Int) then (some (rd bt355.1 a1)) else (none)) else (none)) else (some 0))) = some r := h
 clear h
 obtain ⟨⟨t355, t356⟩, A30, H⟩ := Option.bind_eq_some_iff.mp H
 try dsimp only at H
 have A3 := As.mk A30
 clear A30
 by_cases c4 : t356 = true
 rotate_left
 ·
  replace c4 := Bool.eq_false_iff.mpr c4
  subst c4
  rw [if_neg (show ¬ (false = true) by decide)] at H
  obtain rfl := Option.some.inj H
  go_enter Tryz.func46, Tryz.ntmps46
  go_wp2_with (first | ((with_reducible refine gate_callee (f := 73) rfl ?_); refine goesL_ (some 10) rfl rfl Tryz.func73 (by kernel_rfl) rfl #[.slice A0 l0.length c0, .int .i64 a1] rfl gl ?_; (with_reducible refine (impl_depths.calls k _ _ l0 a1 t355 false _ ?side1 ?side2 A3.out).mono ?_); (case side1 => repeat (first | exact HR0.out | (with_reducible refine Kd.C_alloc ?_ _) | (with_reducible refine Kd.C_drewN ?_ _) | (with_reducible refine Kd.C_drew ?_))); (case side2 => exact HC0.out); rintro e w9 ⟨v357, rfl, ho0, hb⟩; refine ⟨_, rfl, ?_⟩; have HO358 := As.mk (Kd.R_lower ho0 (below_size (be w))); replace HB := As.mk (below_step (be w) hb); (try clear hb); (try clear ho0)))
  go_ret
  exact ⟨ez, be w⟩

 subst c4
 rw [if_pos rfl] at H
 have c5 := i1 H; replace H := i2 H
 have c5b0 := decide_eq_true c5
 clear c5
 have c6 := i1 H; replace H := i2 H
 have c6b0 := decide_eq_true c6
 clear c6
 obtain rfl := Option.some.inj H
 go_enter Tryz.func46, Tryz.ntmps46
 go_wp2_with (first | ((with_reducible refine gate_callee (f := 73) rfl ?_); refine goesL_ (some 10) rfl rfl Tryz.func73 (by kernel_rfl) rfl #[.slice A0 l0.length c0, .int .i64 a1] rfl gl ?_; (with_reducible refine (impl_depths.calls k _ _ l0 a1 t355 true _ ?side1 ?side2 A3.out).mono ?_); (case side1 => repeat (first | exact HR0.out | (with_reducible refine Kd.C_alloc ?_ _) | (with_reducible refine Kd.C_drewN ?_ _) | (with_reducible refine Kd.C_drew ?_))); (case side2 => exact HC0.out); rintro e w7 ⟨v357, rfl, ho0, hb⟩; refine ⟨_, rfl, ?_⟩; have HO358 := As.mk (Kd.R_lower ho0 (below_size (be w))); replace HB := As.mk (below_step (be w) hb); (try clear hb); (try clear ho0); obtain ⟨Ao8, co8, eo8⟩ := Kd.R_slice HO358.out; subst eo8; have p359 : 0 ≤ (a1 : Int) := od; have q359 : a1 < (t355.length : Int) := od; obtain ⟨ad359, e359, hx359_0⟩ := Kd.at_int (Kd.R_reads' HO358.out).2.2 a1 p359 q359; cases e359; replace p359 := eq_true p359; replace q359 := eq_true q359))
 go_ret
 exact ⟨ez, be w⟩
/-! ### impl_Decimal: function 85 -/
def impl_Decimal.f (a0 : Int) : Option (ByteArray) := (strconv_Itoa.f a0).bind fun t360 => (some t360)
set_option maxHeartbeats 8000000 in
set_option maxRecDepth 100000 in
theorem impl_Decimal.calls (a0 : Int) (r : ByteArray) (w : World) (hTab : TabW w) (h : impl_Decimal.f a0 = some r) :
  Calls Tryz.prog 85 #[.int .i64 a0] w fun e w' => e = .returned (.string r) ∧ Below w.heap.size w w' := by
 have HTAB := As.mk hTab
 clear hTab
 have HB := As.mk (Below.refl w.heap.size w)
 have H : ((strconv_Itoa.f a0).bind fun t360 => (some t360)) = some r := h
 clear h
 obtain ⟨t360, A20, H⟩ := Option.bind_eq_some_iff.mp H
 try dsimp only at H
 have A2 := As.mk A20
 clear A20
 obtain rfl := Option.some.inj H
 go_enter Tryz.func85, Tryz.ntmps85
 go_wp2_with (first | ((with_reducible refine gate_callee (f := 108) rfl ?_); refine goesL_ (some 4) rfl rfl Tryz.func108 (by kernel_rfl) rfl #[.int .i64 a0] rfl gl ?_; (with_reducible refine (strconv_Itoa.calls a0 t360 _ (by first | (with_reducible exact HTAB.out) | exact tabW_below HTAB.out (be w)) A2.out).mono ?_); rintro e w3 ⟨rfl, hb⟩; refine ⟨_, rfl, ?_⟩; replace HB := As.mk (below_step (be w) hb); (try clear hb)))
 go_ret
 exact ⟨ez, be w⟩

end Go.Proofs.YtcoapbnbakmkoaaGreatDoor.PFnExactShowStep
