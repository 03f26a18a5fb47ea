/- Written by a program of this session (a turned copy of the kit's print): a contract for each Go function. No condition beside those in each statement. -/
import Derived.Test.YtcoapbnbakmkoaaGreatDoorPFnExactShowProgramx0
import Derived.Test.YtcoapbnbakmkoaaGreatDoorPFnExactShowProgramx12
import Derived.Test.YtcoapbnbakmkoaaGreatDoorPFnExactShowProgramx13
import Derived.Test.YtcoapbnbakmkoaaGreatDoorPFnExactShowProgramx14
namespace Go.Proofs.YtcoapbnbakmkoaaGreatDoor.PFnExactShowProgram
open Go.RowKit Go.Proofs.YtcoapbnbakmkoaaGreatDoor.Given Go.Proofs.YtcoapbnbakmkoaaGreatDoorW.PrintWords Go.Proofs.YtcoapbnbakmkoaaGreatDoorW.PrintLast Go.Proofs.YtcoapbnbakmkoaaGreatDoorW.PrintMore
attribute [local go_sem] max2_int min2_int max_two min_two max_three min_three max_four min_four   -- for this text's walks alone
set_option linter.unusedVariables false
set_option linter.unusedSimpArgs false

/-! ### impl_depths: function 73 -/
mutual
def impl_depths.l0 : Nat → List (S62) → Int → List Int → Int → Option (List Int × Bool)
 | 0, _, _, _, _ => none
 | k + 1, x0, x1, x6, x7 => if x7 ≤ x1 then ((impl_NodeOk.f k x0 x7).bind fun t398 => (if t398 = true then (if 0 ≤ x7 then (if x7 < (x0.length : Int) then (impl_depths.l1 k x0 x1 x6 x7 1 ((rd_T62 x0 x7).f3) (((rd_T62 x0 x7).f3).length : Int) 0) else (none)) else (none)) else (some (([] : List Int), false)))) else (some (x6, true))
def impl_depths.l1 : Nat → List (S62) → Int → List Int → Int → Int → List Int → Int → Int → Option (List Int × Bool)
 | 0, _, _, _, _, _, _, _, _ => none
 | k + 1, x0, x1, x6, x7, x8, x30, x31, x32 => if x32 < x31 then (if 0 ≤ x32 then (if x32 < (x30.length : Int) then (if 0 ≤ (rd x30 x32) then (if (rd x30 x32) < (x6.length : Int) then (impl_depths.l1 k x0 x1 x6 x7 (mx x8 (wrap64 ((rd x6 (rd x30 x32)) + 1))) x30 x31 (wrap64 (x32 + 1))) else (none)) else (none)) else (none)) else (none)) else (if x8 > 10 then (some (([] : List Int), false)) else (if x6.length < 17592186044416 then (impl_depths.l0 k x0 x1 (x6 ++ [x8]) (wrap64 (x7 + 1))) else (none)))
end
def impl_depths.f (k : Nat) (l0 : List (S62)) (a1 : Int) : Option (List Int × Bool) := (impl_in.f a1 0 (wrap64 ((l0.length : Int) - 1))).bind fun t397 => (if t397 = true then (impl_depths.l0 k l0 a1 ([] : List Int) 0) else (some (([] : List Int), false)))
theorem impl_depths.mono_l : ∀ k, (∀ y0 y1 y2 y3, LeO (impl_depths.l0 k y0 y1 y2 y3) (impl_depths.l0 (k + 1) y0 y1 y2 y3)) ∧ (∀ y0 y1 y2 y3 y4 y5 y6 y7, LeO (impl_depths.l1 k y0 y1 y2 y3 y4 y5 y6 y7) (impl_depths.l1 (k + 1) y0 y1 y2 y3 y4 y5 y6 y7))
 | 0 => ⟨fun _ _ _ _ r h => by simp [impl_depths.l0] at h, fun _ _ _ _ _ _ _ _ r h => by simp [impl_depths.l1] at h⟩
 | k + 1 => by
  obtain ⟨ih0, ih1⟩ := impl_depths.mono_l k
  refine ⟨?_, ?_⟩
  ·
   intro y0 y1 y2 y3
   unfold impl_depths.l0
   with_reducible repeat' first | exact ih0 _ _ _ _ | exact ih1 _ _ _ _ _ _ _ _ | exact impl_NodeOk.mono _ _ _ | exact LeO.refl _ | exact LeO.none _ | refine LeO.ite ?_ ?_ | refine LeO.bind ?_ (fun _ => ?_)
  ·
   intro y0 y1 y2 y3 y4 y5 y6 y7
   unfold impl_depths.l1
   with_reducible repeat' first | exact ih0 _ _ _ _ | exact ih1 _ _ _ _ _ _ _ _ | exact impl_NodeOk.mono _ _ _ | exact LeO.refl _ | exact LeO.none _ | refine LeO.ite ?_ ?_ | refine LeO.bind ?_ (fun _ => ?_)
theorem impl_depths.mono : ∀ a0 a1 k, LeO (impl_depths.f k a0 a1) (impl_depths.f (k + 1) a0 a1) := by
 intro a0 a1 k; obtain ⟨ih0, ih1⟩ := impl_depths.mono_l k
 unfold impl_depths.f
 with_reducible repeat' first | exact ih0 _ _ _ _ | exact ih1 _ _ _ _ _ _ _ _ | exact impl_NodeOk.mono _ _ _ | exact LeO.refl _ | exact LeO.none _ | refine LeO.ite ?_ ?_ | refine LeO.bind ?_ (fun _ => ?_)
set_option maxHeartbeats 8000000 in
set_option maxRecDepth 100000 in
theorem impl_depths.calls (k : Nat) (A0 : Option Addr) (c0 : Nat) (l0 : List (S62)) (a1 : Int) (r1 : List Int) (r2 : Bool) (w : World) (hr0 : Kd.C k62 w A0 l0.length l0) (hc0 : l0.length ≤ c0) (h : impl_depths.f k l0 a1 = some (r1, r2)) :
  Calls Tryz.prog 73 #[.slice A0 l0.length c0, .int .i64 a1] w fun e w' => ∃ v0_ : Value, e = .returned (.tuple #[v0_, .bool r2]) ∧ Kd.R (Kd.int .i64) 3 w' w.heap.size (fun _ => True) v0_ r1 ∧ Below w.heap.size w w' := by
 have HR0 := As.mk hr0; have HC0 := As.mk hc0; clear hr0 hc0; have HB := As.mk (Below.refl w.heap.size w); have H : ((impl_in.f a1 0 (wrap64 ((l0.length : Int) - 1))).bind fun t397 => (if t397 = true then (impl_depths.l0 k l0 a1 ([] : List Int) 0) else (some (([] : List Int), false)))) = some (r1, r2) := h; clear h; replace H := bo H; obtain ⟨t397, A3, H⟩ := H
 by_cases c4 : t397 = true
 rotate_left
 ·
  replace c4 := Bool.eq_false_iff.mpr c4; subst c4; rw [if_neg ft] at H
  simp only [Option.some.injEq, Prod.mk.injEq] at H
  obtain ⟨rfl, rfl⟩ := H; go_enter Tryz.func73, Tryz.ntmps73
  go_wp2_with (first | ((with_reducible refine gate_callee (f := 36) rfl ?_); refine goL (some 15) Tryz.func36 #[.int .i64 a1, .int .i64 0, .int .i64 (wrap64 ((l0.length : Int) - 1))] ?_; (with_reducible refine (impl_in.calls a1 0 (wrap64 ((l0.length : Int) - 1)) false _ A3.out).mono ?_); rintro e w' ⟨rfl, ⟨nd, rfl⟩⟩; refine ⟨_, rfl, ?_⟩))
  go_ret2
  exact ⟨_, ez, by first | exact Kd.R_nil _ _ _ _ _ | exact Kd.N_nil _ _ _ _ _ | exact Kd.V_nil _ _ _ _ _ | exact Kd.Q_nil _ _ _ _ _ | exact Kd.S_nil _ _ _ _ _, be w⟩

 subst c4; rw [if_pos rfl] at H; have H' := As.mk H; clear H; go_enter Tryz.func73, Tryz.ntmps73
 go_wp2_with (first | ((with_reducible refine gate_callee (f := 36) rfl ?_); refine goL (some 15) Tryz.func36 #[.int .i64 a1, .int .i64 0, .int .i64 (wrap64 ((l0.length : Int) - 1))] ?_; (with_reducible refine (impl_in.calls a1 0 (wrap64 ((l0.length : Int) - 1)) true _ A3.out).mono ?_); rintro e w' ⟨rfl, ⟨nd, rfl⟩⟩; refine ⟨_, rfl, ?_⟩))
 (try simp only [pk])
 go_loopg [6, 7] k (fun kq v6 v7 w' => ∃ (x6_1 : List Int) (x7_1 : Int), v7 = .int .i64 x7_1 ∧ As (impl_depths.l0 kq l0 a1 x6_1 x7_1 = some (r1, r2)) ∧ As (kq ≤ k) ∧ As (Kd.R (Kd.int .i64) 3 w' w.heap.size (fun _ => True) v6 x6_1) ∧ As (Below w.heap.size w w'))
 case atStart => exact ⟨(([] : List Int)), (0), (by first | rfl | (simp; done) | (simp [*]; done)), H', ⟨Nat.le_refl _⟩, ⟨by first | exact Kd.R_nil _ _ _ _ _ | exact Kd.N_nil _ _ _ _ _ | exact Kd.V_nil _ _ _ _ _ | exact Kd.Q_nil _ _ _ _ _ | exact Kd.S_nil _ _ _ _ _⟩, ⟨be w⟩⟩
 case round =>
  clear H'; (try clear c4); obtain ⟨x6_1, x7_1, rfl, HA, HK1, HO_6, HB⟩ := hrel
  cases gk with
  | zero => exact absurd HA.out (by simp [impl_depths.l0])
  | succ k1 =>
   have H := HA.out; clear HA
   simp only [impl_depths.l0] at H
   by_cases c5 : x7_1 ≤ a1
   rotate_left
   ·
    rw [if_neg c5] at H; have c5b0 := decide_eq_false c5; clear c5
    simp only [Option.some.injEq, Prod.mk.injEq] at H
    obtain ⟨rfl, rfl⟩ := H
    go_wp2
    go_ret2
    exact ⟨_, ez, by (with_reducible repeat (first | apply Kd.R_alloc | apply Kd.R_drewN | apply Kd.R_drew)); exact HO_6.out, be w⟩
   rw [if_pos c5] at H; have c5b0 := decide_eq_true c5; clear c5; replace H := bo H; obtain ⟨t398, A6, H⟩ := H
   by_cases c7 : t398 = true
   rotate_left
   ·
    replace c7 := Bool.eq_false_iff.mpr c7; subst c7; rw [if_neg ft] at H
    simp only [Option.some.injEq, Prod.mk.injEq] at H
    obtain ⟨rfl, rfl⟩ := H
    go_wp2_with (first | ((with_reducible refine gate_callee (f := 96) rfl ?_); refine goL (some 24) Tryz.func96 #[.slice A0 l0.length c0, .int .i64 x7_1] ?_; (with_reducible refine (impl_NodeOk.calls k1 _ _ l0 x7_1 false _ (cb HR0) HC0.out A6.out).mono ?_); rintro e w21 ⟨rfl, hb⟩; refine ⟨_, rfl, ?_⟩; replace HB := bs w hb; (try clear hb)))
    go_ret2
    exact ⟨_, ez, by first | exact Kd.R_nil _ _ _ _ _ | exact Kd.N_nil _ _ _ _ _ | exact Kd.V_nil _ _ _ _ _ | exact Kd.Q_nil _ _ _ _ _ | exact Kd.S_nil _ _ _ _ _, be w⟩
   subst c7; rw [if_pos rfl] at H; replace H := ia H; obtain ⟨c8b0, H⟩ := H; replace H := ia H; obtain ⟨c9b0, H⟩ := H; have H' := As.mk H; clear H
   go_wp2_with (first | ((with_reducible refine gate_callee (f := 96) rfl ?_); refine goL (some 24) Tryz.func96 #[.slice A0 l0.length c0, .int .i64 x7_1] ?_; (with_reducible refine (impl_NodeOk.calls k1 _ _ l0 x7_1 true _ (cb HR0) HC0.out A6.out).mono ?_); rintro e w10 ⟨rfl, hb⟩; refine ⟨_, rfl, ?_⟩; replace HO_6 := As.mk (Kd.R_below (by (with_reducible repeat (first | apply Kd.R_alloc | apply Kd.R_drewN | apply Kd.R_drew)); exact HO_6.out) hb); replace HB := bs w hb; (try clear hb); obtain ⟨ad399, A399_3, c399_3, e399, p399, q399, x399a, x399b, x399c, x399d, HC399_3, HR399_3⟩ := bt_T62 HB.out HR0.out x7_1 od od; cases e399))
   (try simp only [pk])
   go_loopg [8, 32] k1 (fun kq v8 v32 w' => ∃ (x8_2 : Int) (x32_2 : Int), v8 = .int .i64 x8_2 ∧ v32 = .int .i64 x32_2 ∧ As (impl_depths.l1 kq l0 a1 x6_1 x7_1 x8_2 ((rd_T62 l0 x7_1).f3) (((rd_T62 l0 x7_1).f3).length : Int) x32_2 = some (r1, r2)) ∧ As (kq ≤ k1) ∧ As (Kd.R (Kd.int .i64) 3 w' w.heap.size (fun _ => True) u6 x6_1) ∧ As (Below w.heap.size w w'))
   case atStart => exact ⟨(1), (0), (by first | rfl | (simp; done) | (simp [*]; done)), (by first | rfl | (simp; done) | (simp [*]; done)), H', ⟨Nat.le_refl _⟩, ⟨by (with_reducible repeat (first | apply Kd.R_alloc | apply Kd.R_drewN | apply Kd.R_drew)); exact HO_6.out⟩, ⟨be w⟩⟩
   case round =>
    clear H'; (try clear c4); (try clear c5); (try clear c5b0); (try clear c7); (try clear c8); (try clear c8b0); (try clear c9); (try clear c9b0); (try clear x399a); (try clear x399b); (try clear x399c); (try clear x399d); (try clear p399); (try clear q399); obtain ⟨x8_2, x32_2, rfl, rfl, HA, HK2, HO_6, HB⟩ := hrel
    cases gk with
    | zero => exact absurd HA.out (by simp [impl_depths.l1])
    | succ k2 =>
     have H := HA.out; clear HA
     simp only [impl_depths.l1] at H
     by_cases c11 : x32_2 < (((rd_T62 l0 x7_1).f3).length : Int)
     rotate_left
     ·
      rw [if_neg c11] at H; have c11b0 := decide_eq_false c11; clear c11
      by_cases c18 : x8_2 > 10
      ·
       rw [if_pos c18] at H; have c18b0 : decide (10 < x8_2) = true := decide_eq_true c18; clear c18
       simp only [Option.some.injEq, Prod.mk.injEq] at H
       obtain ⟨rfl, rfl⟩ := H
       go_wp2
       go_ret2
       exact ⟨_, ez, by first | exact Kd.R_nil _ _ _ _ _ | exact Kd.N_nil _ _ _ _ _ | exact Kd.V_nil _ _ _ _ _ | exact Kd.Q_nil _ _ _ _ _ | exact Kd.S_nil _ _ _ _ _, be w⟩
      rw [if_neg c18] at H; have c18b0 : decide (10 < x8_2) = false := decide_eq_false c18; clear c18; have c19 := i1 H; replace H := i2 H; have LMc19 := As.mk c19; clear c19
      obtain ⟨y402, hy402⟩ : ∃ y_ : List Int, y_ = (x6_1 ++ [x8_2]) := ⟨_, rfl⟩
      replace H : (impl_depths.l0 k2 l0 a1 y402 (wrap64 (x7_1 + 1))) = some (r1, r2) := by first | (rw [hy402]; with_reducible exact H) | (have H2_ := (Option.bind_some _ _).symm.trans H; rw [hy402]; with_reducible exact H2_) | (have H2_ := (Option.bind_some _ _).symm.trans H; with_reducible exact H2_) | with_reducible exact H | (rw [hy402]; exact H) | exact H
      have Ny402 := As.mk hy402; clear hy402; have H' := As.mk H; clear H
      go_wp2_with (first | ((with_reducible refine gate_builtin (b := .append) (xs := #[.tmp 46, .tmp 48]) rfl ?_); at_builtin; refine Kd.R_append (Kd.int .i64) (w0 := w) w.heap.size rfl (.tmp 46) (.tmp 48) 45 3 (.int .i64 0) 8 rfl Tryz.underlying45 info3 rfl (by decide) (by omega) u6 x6_1 x8_2 [.int .i64 x8_2] (fun _ => True) (fun _ => False) rfl rfl ?aP (fun _ hk => hk.elim) ?aF ?aO ?aB ?aS ?aL ?_; (case aP => exact rfl); (case aB => exact (be w)); (case aF => exact (fun _ _ => trivial)); (case aO => exact (by (with_reducible repeat (first | apply Kd.R_alloc | apply Kd.R_drewN | apply Kd.R_drew)); exact HO_6.out)); (case aS => exact (below_size (be w))); (case aL => have := LMc19.out; omega); intro v403 w20 ho hb hg hat; rw [← Ny402.out] at ho; replace HB := As.mk (hb); have HO404 := As.mk (ho); clear HO_6; clear ho hb hg hat))
      go_roundg k2
      case measure => have := HK1.out; have := HK2.out; omega
      case rel => exact ⟨(y402), (wrap64 (x7_1 + 1)), (by first | rfl | (simp; done) | (simp [*]; done)), H', ⟨by have := HK1.out; have := HK2.out; omega⟩, ⟨by (with_reducible repeat (first | apply Kd.R_alloc | apply Kd.R_drewN | apply Kd.R_drew)); exact HO404.out⟩, ⟨be w⟩⟩
     rw [if_pos c11] at H; have c11b0 := decide_eq_true c11; clear c11; replace H := ia H; obtain ⟨c12b0, H⟩ := H; replace H := ia H; obtain ⟨c13b0, H⟩ := H; replace H := ia H; obtain ⟨c14b0, H⟩ := H; replace H := ia H; obtain ⟨c15b0, H⟩ := H
     obtain ⟨ji16, hji16⟩ : ∃ j_ : Int, (mx x8_2 (wrap64 ((rd x6_1 (rd ((rd_T62 l0 x7_1).f3) x32_2)) + 1))) = j_ := ⟨_, rfl⟩
     replace H : (impl_depths.l1 k2 l0 a1 x6_1 x7_1 ji16 ((rd_T62 l0 x7_1).f3) (((rd_T62 l0 x7_1).f3).length : Int) (wrap64 (x32_2 + 1))) = some (r1, r2) := by first | (rw [hji16] at H; exact H) | (simp only [hji16] at H ⊢; exact H)
     have hji16_ : (if x8_2 < (wrap64 ((rd x6_1 (rd ((rd_T62 l0 x7_1).f3) x32_2)) + 1)) then (wrap64 ((rd x6_1 (rd ((rd_T62 l0 x7_1).f3) x32_2)) + 1)) else x8_2) = ji16 := hji16; have H' := As.mk H; clear H; have p400 : 0 ≤ (x32_2 : Int) := od; have q400 : x32_2 < (((rd_T62 l0 x7_1).f3).length : Int) := od; obtain ⟨ad400, e400, x400a⟩ := Kd.at_int HR399_3.out x32_2 p400 q400; cases e400; replace x400a := ce HB.out x400a; replace p400 := eq_true p400; replace q400 := eq_true q400; obtain ⟨Ao17, co17, eo17⟩ := Kd.R_slice HO_6.out; subst eo17; have p401 : 0 ≤ ((rd ((rd_T62 l0 x7_1).f3) x32_2) : Int) := od; have q401 : (rd ((rd_T62 l0 x7_1).f3) x32_2) < (x6_1.length : Int) := od; obtain ⟨ad401, e401, x401a⟩ := Kd.at_int (Kd.R_reads' HO_6.out).2.2 (rd ((rd_T62 l0 x7_1).f3) x32_2) p401 q401; cases e401; replace p401 := eq_true p401; replace q401 := eq_true q401
     go_wp2
     go_roundg k2
     case measure => have := HK1.out; have := HK2.out; omega
     case rel => exact ⟨(ji16), (wrap64 (x32_2 + 1)), (by first | rfl | (simp; done) | (simp only [← hji16] <;> (first | rfl | simp)) | (simp [*]; done)), (by first | rfl | (simp; done) | (simp [*]; done)), H', ⟨by have := HK1.out; have := HK2.out; omega⟩, ⟨by (with_reducible repeat (first | apply Kd.R_alloc | apply Kd.R_drewN | apply Kd.R_drew)); exact HO_6.out⟩, ⟨be w⟩⟩
/-! ### impl_DeepOf: function 46 -/
def impl_DeepOf.f (k : Nat) (l0 : List (S62)) (a1 : Int) : Option (Int) := (impl_depths.f k l0 a1).bind fun bt405 => (if bt405.2 = true then (if 0 ≤ a1 then (if a1 < (bt405.1.length : Int) then (some (rd bt405.1 a1)) else (none)) else (none)) else (some 0))
theorem impl_DeepOf.mono : ∀ a0 a1 k, LeO (impl_DeepOf.f k a0 a1) (impl_DeepOf.f (k + 1) a0 a1) := by
 intro a0 a1 k
 unfold impl_DeepOf.f
 with_reducible repeat' first | exact impl_depths.mono _ _ _ | exact LeO.refl _ | exact LeO.none _ | refine LeO.ite ?_ ?_ | refine LeO.bind ?_ (fun _ => ?_)
set_option maxHeartbeats 8000000 in
set_option maxRecDepth 100000 in
theorem impl_DeepOf.calls (k : Nat) (A0 : Option Addr) (c0 : Nat) (l0 : List (S62)) (a1 : Int) (r : Int) (w : World) (hr0 : Kd.C k62 w A0 l0.length l0) (hc0 : l0.length ≤ c0) (h : impl_DeepOf.f k l0 a1 = some r) :
  Calls Tryz.prog 46 #[.slice A0 l0.length c0, .int .i64 a1] w fun e w' => e = .returned (.int .i64 r) ∧ Below w.heap.size w w' := by
 have HR0 := As.mk hr0; have HC0 := As.mk hc0; clear hr0 hc0; have HB := As.mk (Below.refl w.heap.size w); have H : ((impl_depths.f k l0 a1).bind fun bt405 => (if bt405.2 = true then (if 0 ≤ a1 then (if a1 < (bt405.1.length : Int) then (some (rd bt405.1 a1)) else (none)) else (none)) else (some 0))) = some r := h; clear h; replace H := bo H; obtain ⟨⟨t405, t406⟩, A3, H⟩ := H
 try dsimp only at H
 by_cases c4 : t406 = true
 rotate_left
 ·
  replace c4 := Bool.eq_false_iff.mpr c4; subst c4; rw [if_neg ft] at H; obtain rfl := sj H; go_enter Tryz.func46, Tryz.ntmps46
  go_wp2_with (first | ((with_reducible refine gate_callee (f := 73) rfl ?_); refine goL (some 10) Tryz.func73 #[.slice A0 l0.length c0, .int .i64 a1] ?_; (with_reducible refine (impl_depths.calls k _ _ l0 a1 t405 false _ ?side1 HC0.out A3.out).mono ?_); (case side1 => repeat (first | exact HR0.out | (with_reducible refine Kd.C_alloc ?_ _) | (with_reducible refine Kd.C_drewN ?_ _) | (with_reducible refine Kd.C_drew ?_))); rintro e w9 ⟨v407, rfl, ho0, hb⟩; refine ⟨_, rfl, ?_⟩; have HO408 := As.mk (Kd.R_lower ho0 (below_size (be w))); replace HB := bs w hb; (try clear hb); (try clear ho0)))
  go_ret
  exact ⟨ez, be w⟩

 subst c4; rw [if_pos rfl] at H; replace H := ia H; obtain ⟨c5b0, H⟩ := H; replace H := ia H; obtain ⟨c6b0, H⟩ := H; obtain rfl := sj H; go_enter Tryz.func46, Tryz.ntmps46
 go_wp2_with (first | ((with_reducible refine gate_callee (f := 73) rfl ?_); refine goL (some 10) Tryz.func73 #[.slice A0 l0.length c0, .int .i64 a1] ?_; (with_reducible refine (impl_depths.calls k _ _ l0 a1 t405 true _ ?side1 HC0.out A3.out).mono ?_); (case side1 => repeat (first | exact HR0.out | (with_reducible refine Kd.C_alloc ?_ _) | (with_reducible refine Kd.C_drewN ?_ _) | (with_reducible refine Kd.C_drew ?_))); rintro e w7 ⟨v407, rfl, ho0, hb⟩; refine ⟨_, rfl, ?_⟩; have HO408 := As.mk (Kd.R_lower ho0 (below_size (be w))); replace HB := bs w hb; (try clear hb); (try clear ho0); obtain ⟨Ao8, co8, eo8⟩ := Kd.R_slice HO408.out; subst eo8; have p409 : 0 ≤ (a1 : Int) := od; have q409 : a1 < (t405.length : Int) := od; obtain ⟨ad409, e409, x409a⟩ := Kd.at_int (Kd.R_reads' HO408.out).2.2 a1 p409 q409; cases e409; replace p409 := eq_true p409; replace q409 := eq_true q409))
 go_ret
 exact ⟨ez, be w⟩
/-! ### impl_fnOk: function 81 -/
mutual
def impl_fnOk.j0 : Nat → Bool → List (S62) → List (S56) → ByteArray → List (S58) → Int → Int → Int → Option (Bool)
 | 0, _, _, _, _, _, _, _, _ => none
 | k + 1, x31, x411000, x411001, x412000, x412001, x412002, x412003, x412004 => if x31 = true then (some false) else (impl_fnOk.l0 k x412001 (x412001.length : Int) 0 x411000 x411001 x412000 x412001 x412002 x412003 x412004)
def impl_fnOk.l0 : Nat → List (S58) → Int → Int → List (S62) → List (S56) → ByteArray → List (S58) → Int → Int → Int → Option (Bool)
 | 0, _, _, _, _, _, _, _, _, _, _ => none
 | k + 1, x33, x34, x35, x411000, x411001, x412000, x412001, x412002, x412003, x412004 => if x35 < x34 then (if 0 ≤ x35 then (if x35 < (x33.length : Int) then ((impl_NameOk.f k ((rd_T58 x33 x35).f0)).bind fun t415 => (if t415 = true then ((impl_in.f ((rd_T58 x33 x35).f1) 1 4).bind fun t416 => (if t416 = true then (impl_fnOk.l0 k x33 x34 (wrap64 (x35 + 1)) x411000 x411001 x412000 x412001 x412002 x412003 x412004) else (some false))) else (some false))) else (none)) else (none)) else ((impl_in.f x412003 0 (wrap64 ((x411000.length : Int) - 1))).bind fun t417 => (if t417 = true then (if 0 ≤ x412003 then (if x412003 < (x411000.length : Int) then (impl_fnOk.j2 k (((rd_T62 x411000 x412003).f0) != 20) x411000 x411001 x412000 x412001 x412002 x412003 x412004) else (none)) else (none)) else (impl_fnOk.j2 k true x411000 x411001 x412000 x412001 x412002 x412003 x412004)))
def impl_fnOk.j2 : Nat → Bool → List (S62) → List (S56) → ByteArray → List (S58) → Int → Int → Int → Option (Bool)
 | 0, _, _, _, _, _, _, _, _ => none
 | k + 1, x67, x411000, x411001, x412000, x412001, x412002, x412003, x412004 => if x67 = true then (some false) else (if x412002 = 0 then (some (x412004 == (-1))) else ((impl_in.f x412004 0 (wrap64 ((x411000.length : Int) - 1))).bind fun t419 => (if t419 = true then (if 0 ≤ x412004 then (if x412004 < (x411000.length : Int) then ((impl_isValue.f ((rd_T62 x411000 x412004).f0)).bind fun t421 => (some t421)) else (none)) else (none)) else (some false))))
end
def impl_fnOk.f (k : Nat) (l0_0 : List (S62)) (l0_1 : List (S56)) (a1_0 : ByteArray) (l1_1 : List (S58)) (a1_2 : Int) (a1_3 : Int) (a1_4 : Int) : Option (Bool) := (impl_NameOk.f k a1_0).bind fun t412 => (if t412 = true then (if (l1_1.length : Int) > 3 then (impl_fnOk.j0 k true l0_0 l0_1 a1_0 l1_1 a1_2 a1_3 a1_4) else (if a1_2 = 0 then (impl_fnOk.j0 k false l0_0 l0_1 a1_0 l1_1 a1_2 a1_3 a1_4) else (if a1_2 = 1 then (impl_fnOk.j0 k false l0_0 l0_1 a1_0 l1_1 a1_2 a1_3 a1_4) else (impl_fnOk.j0 k (a1_2 != 2) l0_0 l0_1 a1_0 l1_1 a1_2 a1_3 a1_4)))) else (impl_fnOk.j0 k true l0_0 l0_1 a1_0 l1_1 a1_2 a1_3 a1_4))
theorem impl_fnOk.mono_l : ∀ k, (∀ y0 y1 y2 y3 y4 y5 y6 y7, LeO (impl_fnOk.j0 k y0 y1 y2 y3 y4 y5 y6 y7) (impl_fnOk.j0 (k + 1) y0 y1 y2 y3 y4 y5 y6 y7)) ∧ (∀ y0 y1 y2 y3 y4 y5 y6 y7 y8 y9, LeO (impl_fnOk.l0 k y0 y1 y2 y3 y4 y5 y6 y7 y8 y9) (impl_fnOk.l0 (k + 1) y0 y1 y2 y3 y4 y5 y6 y7 y8 y9)) ∧ (∀ y0 y1 y2 y3 y4 y5 y6 y7, LeO (impl_fnOk.j2 k y0 y1 y2 y3 y4 y5 y6 y7) (impl_fnOk.j2 (k + 1) y0 y1 y2 y3 y4 y5 y6 y7))
 | 0 => ⟨fun _ _ _ _ _ _ _ _ r h => by simp [impl_fnOk.j0] at h, fun _ _ _ _ _ _ _ _ _ _ r h => by simp [impl_fnOk.l0] at h, fun _ _ _ _ _ _ _ _ r h => by simp [impl_fnOk.j2] at h⟩
 | k + 1 => by
  obtain ⟨ih0, ih1, ih2⟩ := impl_fnOk.mono_l k
  refine ⟨?_, ?_, ?_⟩
  ·
   intro y0 y1 y2 y3 y4 y5 y6 y7
   unfold impl_fnOk.j0
   with_reducible repeat' first | exact ih0 _ _ _ _ _ _ _ _ | exact ih1 _ _ _ _ _ _ _ _ _ _ | exact ih2 _ _ _ _ _ _ _ _ | exact impl_NameOk.mono _ _ | exact LeO.refl _ | exact LeO.none _ | refine LeO.ite ?_ ?_ | refine LeO.bind ?_ (fun _ => ?_)
  ·
   intro y0 y1 y2 y3 y4 y5 y6 y7 y8 y9
   unfold impl_fnOk.l0
   with_reducible repeat' first | exact ih0 _ _ _ _ _ _ _ _ | exact ih1 _ _ _ _ _ _ _ _ _ _ | exact ih2 _ _ _ _ _ _ _ _ | exact impl_NameOk.mono _ _ | exact LeO.refl _ | exact LeO.none _ | refine LeO.ite ?_ ?_ | refine LeO.bind ?_ (fun _ => ?_)
  ·
   intro y0 y1 y2 y3 y4 y5 y6 y7
   unfold impl_fnOk.j2
   with_reducible repeat' first | exact ih0 _ _ _ _ _ _ _ _ | exact ih1 _ _ _ _ _ _ _ _ _ _ | exact ih2 _ _ _ _ _ _ _ _ | exact impl_NameOk.mono _ _ | exact LeO.refl _ | exact LeO.none _ | refine LeO.ite ?_ ?_ | refine LeO.bind ?_ (fun _ => ?_)
theorem impl_fnOk.mono : ∀ a0 a1 a2 a3 a4 a5 a6 k, LeO (impl_fnOk.f k a0 a1 a2 a3 a4 a5 a6) (impl_fnOk.f (k + 1) a0 a1 a2 a3 a4 a5 a6) := by
 intro a0 a1 a2 a3 a4 a5 a6 k; obtain ⟨ih0, ih1, ih2⟩ := impl_fnOk.mono_l k
 unfold impl_fnOk.f
 with_reducible repeat' first | exact ih0 _ _ _ _ _ _ _ _ | exact ih1 _ _ _ _ _ _ _ _ _ _ | exact ih2 _ _ _ _ _ _ _ _ | exact impl_NameOk.mono _ _ | exact LeO.refl _ | exact LeO.none _ | refine LeO.ite ?_ ?_ | refine LeO.bind ?_ (fun _ => ?_)
set_option maxHeartbeats 8000000 in
set_option maxRecDepth 100000 in
theorem impl_fnOk.calls (k : Nat) (A0_0 : Option Addr) (c0_0 : Nat) (l0_0 : List (S62)) (A0_1 : Option Addr) (c0_1 : Nat) (l0_1 : List (S56)) (a1_0 : ByteArray) (A1_1 : Option Addr) (c1_1 : Nat) (l1_1 : List (S58)) (a1_2 : Int) (a1_3 : Int) (a1_4 : Int) (r : Bool) (w : World) (hr0_0 : Kd.C k62 w A0_0 l0_0.length l0_0) (hc0_0 : l0_0.length ≤ c0_0) (hr0_1 : Kd.C k56 w A0_1 l0_1.length l0_1) (hc0_1 : l0_1.length ≤ c0_1) (hr1_1 : Kd.C k58 w A1_1 l1_1.length l1_1) (hc1_1 : l1_1.length ≤ c1_1) (h : impl_fnOk.f k l0_0 l0_1 a1_0 l1_1 a1_2 a1_3 a1_4 = some r) :
  Calls Tryz.prog 81 #[.agg #[.slice A0_0 l0_0.length c0_0, .slice A0_1 l0_1.length c0_1], .agg #[.string a1_0, .slice A1_1 l1_1.length c1_1, .int .i64 a1_2, .int .i64 a1_3, .int .i64 a1_4]] w fun e w' => e = .returned (.bool r) ∧ Below w.heap.size w w' := by
 have hu32 := Tryz.underlying32; have hu56 := Tryz.underlying56; have hu58 := Tryz.underlying58; have HR0_0 := As.mk hr0_0; have HC0_0 := As.mk hc0_0; clear hr0_0 hc0_0; have HR0_1 := As.mk hr0_1; have HC0_1 := As.mk hc0_1; clear hr0_1 hc0_1; have HR1_1 := As.mk hr1_1; have HC1_1 := As.mk hc1_1; clear hr1_1 hc1_1; have HB := As.mk (Below.refl w.heap.size w); have H : ((impl_NameOk.f k a1_0).bind fun t412 => (if t412 = true then (if (l1_1.length : Int) > 3 then (impl_fnOk.j0 k true l0_0 l0_1 a1_0 l1_1 a1_2 a1_3 a1_4) else (if a1_2 = 0 then (impl_fnOk.j0 k false l0_0 l0_1 a1_0 l1_1 a1_2 a1_3 a1_4) else (if a1_2 = 1 then (impl_fnOk.j0 k false l0_0 l0_1 a1_0 l1_1 a1_2 a1_3 a1_4) else (impl_fnOk.j0 k (a1_2 != 2) l0_0 l0_1 a1_0 l1_1 a1_2 a1_3 a1_4)))) else (impl_fnOk.j0 k true l0_0 l0_1 a1_0 l1_1 a1_2 a1_3 a1_4))) = some r := h; clear h; have HC3 := As.mk H; clear H; go_enter Tryz.func81, Tryz.ntmps81
 go_upto_region 1 with (first | ((with_reducible refine gate_dst (N := 2) rfl ?_); (try (refine gate_guard (by rfl) ?_; dsimp only)); refine bxe 2 #[.slice A0_0 l0_0.length c0_0, .slice A0_1 l0_1.length c0_1] 32 ?_; intro gb410 hg w4 BK410 hb; have GW410 := As.mk (gs w hg); replace HB := bs w hb; clear hb hg) | ((with_reducible refine gate_dst (N := 3) rfl ?_); (try (refine gate_guard (by rfl) ?_; dsimp only)); refine bxe 3 #[.string a1_0, .slice A1_1 l1_1.length c1_1, .int .i64 a1_2, .int .i64 a1_3, .int .i64 a1_4] 56 ?_; intro gb411 hg w5 BK411 hb; have GW411 := As.mk (gs w hg); replace HB := bs w hb; have NB410_411 := As.mk (nl hg (bx BK410.out)); have NB411_410 := As.mk (ng hg (bx BK410.out)); replace BK410 := bb BK410 hb; clear hb hg))
 (try simp only [pk])
 go_cut [31] (fun v31 wc => ∃ (kq : Nat) (x31_2 : Bool), v31 = .bool x31_2 ∧ As (impl_fnOk.j0 kq x31_2 l0_0 l0_1 a1_0 l1_1 a1_2 a1_3 a1_4 = some r) ∧ As (kq ≤ k) ∧ As (wc.heap[gb410]? = some (.cells #[(.slice A0_0 l0_0.length c0_0), (.slice A0_1 l0_1.length c0_1)] 32 (0, 0))) ∧ As (wc.heap[gb411]? = some (.cells #[.string a1_0, (.slice A1_1 l1_1.length c1_1), .int .i64 a1_2, .int .i64 a1_3, .int .i64 a1_4] 56 (0, 0))) ∧ As (Below w.heap.size w wc))
 case first =>
  have H := HC3.out; clear HC3; replace H := bo H; obtain ⟨t412, A6, H⟩ := H
  by_cases c7 : t412 = true
  rotate_left
  ·
   replace c7 := Bool.eq_false_iff.mpr c7; subst c7; rw [if_neg ft] at H; have H' := As.mk H; clear H; have hnb27 := NB411_410.out; have hnc27 := NB410_411.out; obtain ⟨y28a, y28b, y28c, y28d, y28e, v28a, v28b, v28c, v28d, v28e⟩ := cl5 BK411.out
   go_wp2_with (first | ((with_reducible refine gate_callee (f := 107) rfl ?_); refine goL (some 9) Tryz.func107 #[.string a1_0] ?_; (with_reducible refine (impl_NameOk.calls k a1_0 false _ A6.out).mono ?_); rintro e w29 ⟨rfl, hb⟩; refine ⟨_, rfl, ?_⟩; replace BK410 := bb BK410 hb; replace BK411 := bb BK411 hb; replace HB := bs w hb; (try clear hb)))
   go_meet
   case rel => exact ⟨_, (true), (by first | rfl | (simp; done) | (simp [*]; done)), H', ⟨by first | omega | exact Nat.le_refl _⟩, ⟨bx BK410.out⟩, ⟨bx BK411.out⟩, ⟨be w⟩⟩
  subst c7; rw [if_pos rfl] at H
  by_cases c8 : (l1_1.length : Int) > 3
  ·
   rw [if_pos c8] at H; have c8b0 : decide (3 < (l1_1.length : Int)) = true := decide_eq_true c8; have c8b1 : decide (3 < l1_1.length) = true := decide_eq_true (by omega); clear c8
   (first | rw [c8b0] | (simp only [i64_w, i32_w]; rw [c8b0]) | skip)
   have H' := As.mk H; clear H; have hnb9 := NB411_410.out; have hnc9 := NB410_411.out; obtain ⟨y10a, y10b, y10c, y10d, y10e, v10a, v10b, v10c, v10d, v10e⟩ := cl5 BK411.out
   go_wp2_with (first | ((with_reducible refine gate_callee (f := 107) rfl ?_); refine goL (some 9) Tryz.func107 #[.string a1_0] ?_; (with_reducible refine (impl_NameOk.calls k a1_0 true _ A6.out).mono ?_); rintro e w11 ⟨rfl, hb⟩; refine ⟨_, rfl, ?_⟩; replace BK410 := bb BK410 hb; replace BK411 := bb BK411 hb; replace HB := bs w hb; (try clear hb); obtain ⟨y12a, y12b, y12c, y12d, y12e, v12a, v12b, v12c, v12d, v12e⟩ := cl5 BK411.out))
   go_meet
   case rel => exact ⟨_, (true), (by first | rfl | (simp; done) | (simp [*]; done)), H', ⟨by first | omega | exact Nat.le_refl _⟩, ⟨bx BK410.out⟩, ⟨bx BK411.out⟩, ⟨be w⟩⟩
  rw [if_neg c8] at H; have c8b0 : decide (3 < (l1_1.length : Int)) = false := decide_eq_false c8; have c8b1 : decide (3 < l1_1.length) = false := decide_eq_false (by omega); clear c8
  (first | rw [c8b0] | (simp only [i64_w, i32_w]; rw [c8b0]) | skip)
  by_cases c13 : a1_2 = 0
  ·
   rw [if_pos c13] at H; have c13b0 : (a1_2 == 0) = true := beq_iff_eq.mpr c13; have c13b1 : (a1_2 != 0) = false := bne_eq_false_iff_eq.mpr c13; clear c13; have H' := As.mk H; clear H; have hnb14 := NB411_410.out; have hnc14 := NB410_411.out; obtain ⟨y15a, y15b, y15c, y15d, y15e, v15a, v15b, v15c, v15d, v15e⟩ := cl5 BK411.out
   go_wp2_with (first | ((with_reducible refine gate_callee (f := 107) rfl ?_); refine goL (some 9) Tryz.func107 #[.string a1_0] ?_; (with_reducible refine (impl_NameOk.calls k a1_0 true _ A6.out).mono ?_); rintro e w16 ⟨rfl, hb⟩; refine ⟨_, rfl, ?_⟩; replace BK410 := bb BK410 hb; replace BK411 := bb BK411 hb; replace HB := bs w hb; (try clear hb); obtain ⟨y17a, y17b, y17c, y17d, y17e, v17a, v17b, v17c, v17d, v17e⟩ := cl5 BK411.out))
   go_meet
   case rel => exact ⟨_, (false), (by first | rfl | (simp; done) | (simp [*]; done)), H', ⟨by first | omega | exact Nat.le_refl _⟩, ⟨bx BK410.out⟩, ⟨bx BK411.out⟩, ⟨be w⟩⟩
  rw [if_neg c13] at H; have c13b0 : (a1_2 == 0) = false := beq_eq_false_iff_ne.mpr c13; have c13b1 : (a1_2 != 0) = true := bne_iff_ne.mpr c13
  by_cases c18 : a1_2 = 1
  rotate_left
  ·
   rw [if_neg c18] at H; have c18b0 : (a1_2 == 1) = false := beq_eq_false_iff_ne.mpr c18; have c18b1 : (a1_2 != 1) = true := bne_iff_ne.mpr c18; have H' := As.mk H; clear H; have hnb23 := NB411_410.out; have hnc23 := NB410_411.out; obtain ⟨y24a, y24b, y24c, y24d, y24e, v24a, v24b, v24c, v24d, v24e⟩ := cl5 BK411.out
   go_wp2_with (first | ((with_reducible refine gate_callee (f := 107) rfl ?_); refine goL (some 9) Tryz.func107 #[.string a1_0] ?_; (with_reducible refine (impl_NameOk.calls k a1_0 true _ A6.out).mono ?_); rintro e w25 ⟨rfl, hb⟩; refine ⟨_, rfl, ?_⟩; replace BK410 := bb BK410 hb; replace BK411 := bb BK411 hb; replace HB := bs w hb; (try clear hb); obtain ⟨y26a, y26b, y26c, y26d, y26e, v26a, v26b, v26c, v26d, v26e⟩ := cl5 BK411.out))
   go_meet
   case rel => exact ⟨_, ((a1_2 != 2)), (by first | rfl | (simp; done) | (simp [*]; done)), H', ⟨by first | omega | exact Nat.le_refl _⟩, ⟨bx BK410.out⟩, ⟨bx BK411.out⟩, ⟨be w⟩⟩
  rw [if_pos c18] at H; have c18b0 : (a1_2 == 1) = true := beq_iff_eq.mpr c18; have c18b1 : (a1_2 != 1) = false := bne_eq_false_iff_eq.mpr c18; clear c18; have H' := As.mk H; clear H; have hnb19 := NB411_410.out; have hnc19 := NB410_411.out; obtain ⟨y20a, y20b, y20c, y20d, y20e, v20a, v20b, v20c, v20d, v20e⟩ := cl5 BK411.out
  go_wp2_with (first | ((with_reducible refine gate_callee (f := 107) rfl ?_); refine goL (some 9) Tryz.func107 #[.string a1_0] ?_; (with_reducible refine (impl_NameOk.calls k a1_0 true _ A6.out).mono ?_); rintro e w21 ⟨rfl, hb⟩; refine ⟨_, rfl, ?_⟩; replace BK410 := bb BK410 hb; replace BK411 := bb BK411 hb; replace HB := bs w hb; (try clear hb); obtain ⟨y22a, y22b, y22c, y22d, y22e, v22a, v22b, v22c, v22d, v22e⟩ := cl5 BK411.out))
  go_meet
  case rel => exact ⟨_, (false), (by first | rfl | (simp; done) | (simp [*]; done)), H', ⟨by first | omega | exact Nat.le_refl _⟩, ⟨bx BK410.out⟩, ⟨bx BK411.out⟩, ⟨be w⟩⟩
 case rest =>
  clear HC3; obtain ⟨kq, x31_2, rfl, HA, HJ2, BK410, BK411, HB⟩ := hcut
  cases kq with
  | zero => exact absurd HA.out (by simp [impl_fnOk.j0])
  | succ kj2 =>
   have H := HA.out; clear HA
   simp only [impl_fnOk.j0] at H
   by_cases c30 : x31_2 = true
   ·
    subst c30; rw [if_pos rfl] at H; obtain rfl := sj H
    go_wp2
    go_ret
    exact ⟨ez, be w⟩
   replace c30 := Bool.eq_false_iff.mpr c30; subst c30; rw [if_neg ft] at H; have H' := As.mk H; clear H; have hnb31 := NB411_410.out; have hnc31 := NB410_411.out; obtain ⟨y32a, y32b, y32c, y32d, y32e, v32a, v32b, v32c, v32d, v32e⟩ := cl5 BK411.out
   go_wp2
   go_loopg [35] kj2 (fun kq v35 w' => ∃ (x35_2 : Int), v35 = .int .i64 x35_2 ∧ As (impl_fnOk.l0 kq l1_1 (l1_1.length : Int) x35_2 l0_0 l0_1 a1_0 l1_1 a1_2 a1_3 a1_4 = some r) ∧ As (kq ≤ kj2) ∧ As (w'.heap[gb410]? = some (.cells #[(.slice A0_0 l0_0.length c0_0), (.slice A0_1 l0_1.length c0_1)] 32 (0, 0))) ∧ As (w'.heap[gb411]? = some (.cells #[.string a1_0, (.slice A1_1 l1_1.length c1_1), .int .i64 a1_2, .int .i64 a1_3, .int .i64 a1_4] 56 (0, 0))) ∧ As (Below w.heap.size w w'))
   case atStart => exact ⟨(0), (by first | rfl | (simp; done) | (simp [*]; done)), H', ⟨Nat.le_refl _⟩, ⟨bx BK410.out⟩, ⟨bx BK411.out⟩, ⟨be w⟩⟩
   case round =>
    clear H'; (try clear c30); (try clear y32a); (try clear y32b); (try clear y32c); (try clear y32d); (try clear y32e); (try clear v32a); (try clear v32b); (try clear v32c); (try clear v32d); (try clear v32e); obtain ⟨x35_2, rfl, HA, HK2, BK410, BK411, HB⟩ := hrel
    cases gk with
    | zero => exact absurd HA.out (by simp [impl_fnOk.l0])
    | succ k2 =>
     have H := HA.out; clear HA
     simp only [impl_fnOk.l0] at H
     by_cases c33 : x35_2 < (l1_1.length : Int)
     rotate_left
     ·
      rw [if_neg c33] at H; have c33b0 := decide_eq_false c33; clear c33; have HC53 := As.mk H; clear H
      go_upto_region 9 with (fail)
      go_cut [67] (fun v67 wc => ∃ (kq : Nat) (x67_52 : Bool), v67 = .bool x67_52 ∧ As (impl_fnOk.j2 kq x67_52 l0_0 l0_1 a1_0 l1_1 a1_2 a1_3 a1_4 = some r) ∧ As (kq ≤ k2) ∧ As (wc.heap[gb410]? = some (.cells #[(.slice A0_0 l0_0.length c0_0), (.slice A0_1 l0_1.length c0_1)] 32 (0, 0))) ∧ As (wc.heap[gb411]? = some (.cells #[.string a1_0, (.slice A1_1 l1_1.length c1_1), .int .i64 a1_2, .int .i64 a1_3, .int .i64 a1_4] 56 (0, 0))) ∧ As (Below w.heap.size w wc))
      case first =>
       have H := HC53.out; clear HC53; replace H := bo H; obtain ⟨t417, A54, H⟩ := H
       by_cases c55 : t417 = true
       rotate_left
       ·
        replace c55 := Bool.eq_false_iff.mpr c55; subst c55; rw [if_neg ft] at H; have H' := As.mk H; clear H; have hnb61 := NB411_410.out; have hnc61 := NB410_411.out; obtain ⟨y62a, y62b, y62c, y62d, y62e, v62a, v62b, v62c, v62d, v62e⟩ := cl5 BK411.out; obtain ⟨y63a, y63b, v63a, v63b⟩ := cl2 BK410.out
        go_wp2_with (first | ((with_reducible refine gate_callee (f := 36) rfl ?_); refine goL (some 56) Tryz.func36 #[.int .i64 a1_3, .int .i64 0, .int .i64 (wrap64 ((l0_0.length : Int) - 1))] ?_; (with_reducible refine (impl_in.calls a1_3 0 (wrap64 ((l0_0.length : Int) - 1)) false _ A54.out).mono ?_); rintro e w' ⟨rfl, ⟨nd, rfl⟩⟩; refine ⟨_, rfl, ?_⟩))
        go_meet
        case rel => exact ⟨_, (true), (by first | rfl | (simp; done) | (simp [*]; done)), H', ⟨by have := HJ2.out; have := HK2.out; first | omega | exact Nat.le_refl _⟩, ⟨bx BK410.out⟩, ⟨bx BK411.out⟩, ⟨be w⟩⟩
       subst c55; rw [if_pos rfl] at H; replace H := ia H; obtain ⟨c56b0, H⟩ := H
       (first | rw [c56b0] | (simp only [i64_w, i32_w]; rw [c56b0]) | skip)
       replace H := ia H; obtain ⟨c57b0, H⟩ := H; have H' := As.mk H; clear H; have hnb58 := NB411_410.out; have hnc58 := NB410_411.out; obtain ⟨y59a, y59b, y59c, y59d, y59e, v59a, v59b, v59c, v59d, v59e⟩ := cl5 BK411.out; obtain ⟨y60a, y60b, v60a, v60b⟩ := cl2 BK410.out
       go_wp2_with (first | ((with_reducible refine gate_callee (f := 36) rfl ?_); refine goL (some 56) Tryz.func36 #[.int .i64 a1_3, .int .i64 0, .int .i64 (wrap64 ((l0_0.length : Int) - 1))] ?_; (with_reducible refine (impl_in.calls a1_3 0 (wrap64 ((l0_0.length : Int) - 1)) true _ A54.out).mono ?_); rintro e w' ⟨rfl, ⟨nd, rfl⟩⟩; refine ⟨_, rfl, ?_⟩; obtain ⟨ad418, A418_3, c418_3, e418, p418, q418, x418a, x418b, x418c, x418d, HC418_3, HR418_3⟩ := bt_T62 HB.out HR0_0.out a1_3 od od; cases e418))
       go_meet
       case rel => exact ⟨_, ((((rd_T62 l0_0 a1_3).f0) != 20)), (by first | rfl | (simp; done) | (simp [*]; done)), H', ⟨by have := HJ2.out; have := HK2.out; first | omega | exact Nat.le_refl _⟩, ⟨bx BK410.out⟩, ⟨bx BK411.out⟩, ⟨be w⟩⟩
      case rest =>
       clear HC53; (try clear c30); (try clear c33); (try clear c33b0); (try clear y32a); (try clear y32b); (try clear y32c); (try clear y32d); (try clear y32e); (try clear v32a); (try clear v32b); (try clear v32c); (try clear v32d); (try clear v32e); obtain ⟨kq, x67_52, rfl, HA, HJ52, BK410, BK411, HB⟩ := hcut
       cases kq with
       | zero => exact absurd HA.out (by simp [impl_fnOk.j2])
       | succ kj52 =>
        have H := HA.out; clear HA
        simp only [impl_fnOk.j2] at H
        by_cases c64 : x67_52 = true
        ·
         subst c64; rw [if_pos rfl] at H; obtain rfl := sj H
         go_wp2
         go_ret
         exact ⟨ez, be w⟩
        replace c64 := Bool.eq_false_iff.mpr c64; subst c64; rw [if_neg ft] at H
        by_cases c65 : a1_2 = 0
        ·
         rw [if_pos c65] at H; have c65b0 : (a1_2 == 0) = true := beq_iff_eq.mpr c65; have c65b1 : (a1_2 != 0) = false := bne_eq_false_iff_eq.mpr c65; clear c65; obtain rfl := sj H; obtain ⟨y66a, y66b, y66c, y66d, y66e, v66a, v66b, v66c, v66d, v66e⟩ := cl5 BK411.out
         go_wp2
         go_ret
         exact ⟨ez, be w⟩
        rw [if_neg c65] at H; have c65b0 : (a1_2 == 0) = false := beq_eq_false_iff_ne.mpr c65; have c65b1 : (a1_2 != 0) = true := bne_iff_ne.mpr c65; replace H := bo H; obtain ⟨t419, A67, H⟩ := H
        by_cases c68 : t419 = true
        rotate_left
        ·
         replace c68 := Bool.eq_false_iff.mpr c68; subst c68; rw [if_neg ft] at H; obtain rfl := sj H; have hnb75 := NB411_410.out; have hnc75 := NB410_411.out; obtain ⟨y76a, y76b, y76c, y76d, y76e, v76a, v76b, v76c, v76d, v76e⟩ := cl5 BK411.out; obtain ⟨y77a, y77b, v77a, v77b⟩ := cl2 BK410.out
         go_wp2_with (first | ((with_reducible refine gate_callee (f := 36) rfl ?_); refine goL (some 80) Tryz.func36 #[.int .i64 a1_4, .int .i64 0, .int .i64 (wrap64 ((l0_0.length : Int) - 1))] ?_; (with_reducible refine (impl_in.calls a1_4 0 (wrap64 ((l0_0.length : Int) - 1)) false _ A67.out).mono ?_); rintro e w' ⟨rfl, ⟨nd, rfl⟩⟩; refine ⟨_, rfl, ?_⟩))
         go_ret
         exact ⟨ez, be w⟩

        subst c68; rw [if_pos rfl] at H; replace H := ia H; obtain ⟨c69b0, H⟩ := H; replace H := ia H; obtain ⟨c70b0, H⟩ := H; replace H := bo H; obtain ⟨t421, A71, H⟩ := H; obtain rfl := sj H; have hnb72 := NB411_410.out; have hnc72 := NB410_411.out; obtain ⟨y73a, y73b, y73c, y73d, y73e, v73a, v73b, v73c, v73d, v73e⟩ := cl5 BK411.out; obtain ⟨y74a, y74b, v74a, v74b⟩ := cl2 BK410.out
        go_wp2_with (first | ((with_reducible refine gate_callee (f := 36) rfl ?_); refine goL (some 80) Tryz.func36 #[.int .i64 a1_4, .int .i64 0, .int .i64 (wrap64 ((l0_0.length : Int) - 1))] ?_; (with_reducible refine (impl_in.calls a1_4 0 (wrap64 ((l0_0.length : Int) - 1)) true _ A67.out).mono ?_); rintro e w' ⟨rfl, ⟨nd, rfl⟩⟩; refine ⟨_, rfl, ?_⟩; obtain ⟨ad420, A420_3, c420_3, e420, p420, q420, x420a, x420b, x420c, x420d, HC420_3, HR420_3⟩ := bt_T62 HB.out HR0_0.out a1_4 od od; cases e420) | (go_at_call 56; (with_reducible refine (impl_isValue.calls ((rd_T62 l0_0 a1_4).f0) t421 _ A71.out).mono ?_); rintro e w' ⟨rfl, ⟨nd, rfl⟩⟩))
        go_ret
        exact ⟨ez, be w⟩
     rw [if_pos c33] at H; have c33b0 := decide_eq_true c33; clear c33; replace H := ia H; obtain ⟨c34b0, H⟩ := H; replace H := ia H; obtain ⟨c35b0, H⟩ := H; replace H := bo H; obtain ⟨t415, A36, H⟩ := H
     by_cases c37 : t415 = true
     rotate_left
     ·
      replace c37 := Bool.eq_false_iff.mpr c37; subst c37; rw [if_neg ft] at H; obtain rfl := sj H; obtain ⟨ad413, e413, p413, q413, x413a, x413b⟩ := bt_T58 HB.out HR1_1.out x35_2 od od; cases e413
      go_wp2_with (first | ((with_reducible refine gate_dst (N := 6) rfl ?_); (try (refine gate_guard (by rfl) ?_; dsimp only)); refine bxe 6 #[.string (⟨#[]⟩ : ByteArray), .int .i64 0] 58 ?_; intro gb414 hg w50 BK414 hb; have GW414 := As.mk (gs w hg); replace HB := bs w hb; clear hb hg; obtain ⟨y51a, y51b, v51a, v51b⟩ := cl2 BK414.out) | ((with_reducible refine gate_callee (f := 107) rfl ?_); refine goL (some 41) Tryz.func107 #[.string ((rd_T58 l1_1 x35_2).f0)] ?_; (with_reducible refine (impl_NameOk.calls k2 ((rd_T58 l1_1 x35_2).f0) false _ A36.out).mono ?_); rintro e w52 ⟨rfl, hb⟩; refine ⟨_, rfl, ?_⟩; replace BK414 := As.mk (blk_below (g := gb414) (o := .cells #[.string ((rd_T58 l1_1 x35_2).f0), .int .i64 ((rd_T58 l1_1 x35_2).f1)] 58 (0, 0)) (by exact pl (bp2 (bx BK414.out))) hb); replace HB := bs w hb; (try clear hb)))
      go_ret
      exact ⟨ez, be w⟩
     subst c37; rw [if_pos rfl] at H; replace H := bo H; obtain ⟨t416, A38, H⟩ := H
     by_cases c39 : t416 = true
     rotate_left
     ·
      replace c39 := Bool.eq_false_iff.mpr c39; subst c39; rw [if_neg ft] at H; obtain rfl := sj H; obtain ⟨ad413, e413, p413, q413, x413a, x413b⟩ := bt_T58 HB.out HR1_1.out x35_2 od od; cases e413
      go_wp2_with (first | ((with_reducible refine gate_dst (N := 6) rfl ?_); (try (refine gate_guard (by rfl) ?_; dsimp only)); refine bxe 6 #[.string (⟨#[]⟩ : ByteArray), .int .i64 0] 58 ?_; intro gb414 hg w46 BK414 hb; have GW414 := As.mk (gs w hg); replace HB := bs w hb; clear hb hg; obtain ⟨y47a, y47b, v47a, v47b⟩ := cl2 BK414.out) | ((with_reducible refine gate_callee (f := 107) rfl ?_); refine goL (some 41) Tryz.func107 #[.string ((rd_T58 l1_1 x35_2).f0)] ?_; (with_reducible refine (impl_NameOk.calls k2 ((rd_T58 l1_1 x35_2).f0) true _ A36.out).mono ?_); rintro e w48 ⟨rfl, hb⟩; refine ⟨_, rfl, ?_⟩; replace BK414 := As.mk (blk_below (g := gb414) (o := .cells #[.string ((rd_T58 l1_1 x35_2).f0), .int .i64 ((rd_T58 l1_1 x35_2).f1)] 58 (0, 0)) (by exact pl (bp2 (bx BK414.out))) hb); replace HB := bs w hb; (try clear hb); obtain ⟨y49a, y49b, v49a, v49b⟩ := cl2 BK414.out) | (go_at_call 36; (with_reducible refine (impl_in.calls ((rd_T58 l1_1 x35_2).f1) 1 4 false _ A38.out).mono ?_); rintro e w' ⟨rfl, ⟨nd, rfl⟩⟩))
      go_ret
      exact ⟨ez, be w⟩
     subst c39; rw [if_pos rfl] at H; have H' := As.mk H; clear H; obtain ⟨ad413, e413, p413, q413, x413a, x413b⟩ := bt_T58 HB.out HR1_1.out x35_2 od od; cases e413
     go_wp2_with (first | ((with_reducible refine gate_dst (N := 6) rfl ?_); (try (refine gate_guard (by rfl) ?_; dsimp only)); refine bxe 6 #[.string (⟨#[]⟩ : ByteArray), .int .i64 0] 58 ?_; intro gb414 hg w40 BK414 hb; have GW414 := As.mk (gs w hg); replace HB := bs w hb; have NB410_414 := As.mk (nl hg (bx BK410.out)); have NB414_410 := As.mk (ng hg (bx BK410.out)); replace BK410 := bb BK410 hb; have NB411_414 := As.mk (nl hg (bx BK411.out)); have NB414_411 := As.mk (ng hg (bx BK411.out)); replace BK411 := bb BK411 hb; clear hb hg; have hnb41 := NB414_410.out; have hnc41 := NB410_414.out; have hnb42 := NB414_411.out; have hnc42 := NB411_414.out; obtain ⟨y43a, y43b, v43a, v43b⟩ := cl2 BK414.out) | ((with_reducible refine gate_callee (f := 107) rfl ?_); refine goL (some 41) Tryz.func107 #[.string ((rd_T58 l1_1 x35_2).f0)] ?_; (with_reducible refine (impl_NameOk.calls k2 ((rd_T58 l1_1 x35_2).f0) true _ A36.out).mono ?_); rintro e w44 ⟨rfl, hb⟩; refine ⟨_, rfl, ?_⟩; replace BK410 := As.mk (blk_below (g := gb410) (o := .cells #[.slice A0_0 l0_0.length c0_0, .slice A0_1 l0_1.length c0_1] 32 (0, 0)) (by refine pl ?_; refine blk_far ?_ NB410_414.out _; refine pl ?_; refine blk_far ?_ NB410_414.out _; exact bx BK410.out) hb); replace BK411 := As.mk (blk_below (g := gb411) (o := .cells #[.string a1_0, .slice (some ad413) l1_1.length c1_1, .int .i64 a1_2, .int .i64 a1_3, .int .i64 a1_4] 56 (0, 0)) (by refine pl ?_; refine blk_far ?_ NB411_414.out _; refine pl ?_; refine blk_far ?_ NB411_414.out _; exact bx BK411.out) hb); replace BK414 := As.mk (blk_below (g := gb414) (o := .cells #[.string ((rd_T58 l1_1 x35_2).f0), .int .i64 ((rd_T58 l1_1 x35_2).f1)] 58 (0, 0)) (by exact pl (bp2 (bx BK414.out))) hb); replace HB := bs w hb; (try clear hb); obtain ⟨y45a, y45b, v45a, v45b⟩ := cl2 BK414.out) | (go_at_call 36; (with_reducible refine (impl_in.calls ((rd_T58 l1_1 x35_2).f1) 1 4 true _ A38.out).mono ?_); rintro e w' ⟨rfl, ⟨nd, rfl⟩⟩))
     go_roundg k2
     case measure => have := HJ2.out; have := HK2.out; omega
     case rel => exact ⟨(wrap64 (x35_2 + 1)), (by first | rfl | (simp; done) | (simp [*]; done)), H', ⟨by have := HJ2.out; have := HK2.out; omega⟩, ⟨bx BK410.out⟩, ⟨bx BK411.out⟩, ⟨be w⟩⟩
/-! ### impl_FnAt: function 82 -/
def impl_FnAt.l0 : Nat → ByteArray → List (S56) → Int → Int → Option (Int)
 | 0, _, _, _, _ => none
 | k + 1, x1, x8, x9, x10 => if x10 < x9 then (if 0 ≤ x10 then (if x10 < (x8.length : Int) then (if ((rd_T56 x8 x10).f0).toList = x1.toList then (some x10) else (impl_FnAt.l0 k x1 x8 x9 (wrap64 (x10 + 1)))) else (none)) else (none)) else (some (-1))
def impl_FnAt.f (k : Nat) (l0_0 : List (S62)) (l0_1 : List (S56)) (a1 : ByteArray) : Option (Int) := impl_FnAt.l0 k a1 l0_1 (l0_1.length : Int) 0
theorem impl_FnAt.mono_l : ∀ k, (∀ y0 y1 y2 y3, LeO (impl_FnAt.l0 k y0 y1 y2 y3) (impl_FnAt.l0 (k + 1) y0 y1 y2 y3))
 | 0 => fun _ _ _ _ r h => by simp [impl_FnAt.l0] at h
 | k + 1 => by
  have ih0 := impl_FnAt.mono_l k
  ·
   intro y0 y1 y2 y3
   unfold impl_FnAt.l0
   with_reducible repeat' first | exact ih0 _ _ _ _ | exact LeO.refl _ | exact LeO.none _ | refine LeO.ite ?_ ?_ | refine LeO.bind ?_ (fun _ => ?_)
theorem impl_FnAt.mono : ∀ a0 a1 a2 k, LeO (impl_FnAt.f k a0 a1 a2) (impl_FnAt.f (k + 1) a0 a1 a2) := by
 intro a0 a1 a2 k; have ih0 := impl_FnAt.mono_l k
 unfold impl_FnAt.f
 with_reducible repeat' first | exact ih0 _ _ _ _ | exact LeO.refl _ | exact LeO.none _ | refine LeO.ite ?_ ?_ | refine LeO.bind ?_ (fun _ => ?_)
set_option maxHeartbeats 8000000 in
set_option maxRecDepth 100000 in
theorem impl_FnAt.calls (k : Nat) (A0_0 : Option Addr) (c0_0 : Nat) (l0_0 : List (S62)) (A0_1 : Option Addr) (c0_1 : Nat) (l0_1 : List (S56)) (a1 : ByteArray) (r : Int) (w : World) (hr0_0 : Kd.C k62 w A0_0 l0_0.length l0_0) (hc0_0 : l0_0.length ≤ c0_0) (hr0_1 : Kd.C k56 w A0_1 l0_1.length l0_1) (hc0_1 : l0_1.length ≤ c0_1) (h : impl_FnAt.f k l0_0 l0_1 a1 = some r) :
  Calls Tryz.prog 82 #[.agg #[.slice A0_0 l0_0.length c0_0, .slice A0_1 l0_1.length c0_1], .string a1] w fun e w' => e = .returned (.int .i64 r) ∧ Below w.heap.size w w' := by
 have hu32 := Tryz.underlying32; have hu56 := Tryz.underlying56; have HR0_0 := As.mk hr0_0; have HC0_0 := As.mk hc0_0; clear hr0_0 hc0_0; have HR0_1 := As.mk hr0_1; have HC0_1 := As.mk hc0_1; clear hr0_1 hc0_1; have HB := As.mk (Below.refl w.heap.size w); have H : (impl_FnAt.l0 k a1 l0_1 (l0_1.length : Int) 0) = some r := h; clear h; have H' := As.mk H; clear H; go_enter Tryz.func82, Tryz.ntmps82
 go_wp2_with (first | ((with_reducible refine gate_dst (N := 2) rfl ?_); refine bxe 2 #[.slice A0_0 l0_0.length c0_0, .slice A0_1 l0_1.length c0_1] 32 ?_; intro gb422 hg w3 BK422 hb; have GW422 := As.mk (gs w hg); replace HB := bs w hb; clear hb hg; obtain ⟨y4a, y4b, v4a, v4b⟩ := cl2 BK422.out))
 go_loopg [10] k (fun kq v10 w' => ∃ (x10_1 : Int), v10 = .int .i64 x10_1 ∧ As (impl_FnAt.l0 kq a1 l0_1 (l0_1.length : Int) x10_1 = some r) ∧ As (kq ≤ k) ∧ As (w'.heap[gb422]? = some (.cells #[(.slice A0_0 l0_0.length c0_0), (.slice A0_1 l0_1.length c0_1)] 32 (0, 0))) ∧ As (Below w.heap.size w w'))
 case atStart => exact ⟨(0), (by first | rfl | (simp; done) | (simp [*]; done)), H', ⟨Nat.le_refl _⟩, ⟨bx BK422.out⟩, ⟨be w⟩⟩
 case round =>
  clear H'; (try clear y4a); (try clear y4b); (try clear v4a); (try clear v4b); obtain ⟨x10_1, rfl, HA, HK1, BK422, HB⟩ := hrel
  cases gk with
  | zero => exact absurd HA.out (by simp [impl_FnAt.l0])
  | succ k1 =>
   have H := HA.out; clear HA
   simp only [impl_FnAt.l0] at H
   by_cases c5 : x10_1 < (l0_1.length : Int)
   rotate_left
   ·
    rw [if_neg c5] at H; have c5b0 := decide_eq_false c5; clear c5; obtain rfl := sj H
    go_wp2
    go_ret
    exact ⟨ez, be w⟩

   rw [if_pos c5] at H; have c5b0 := decide_eq_true c5; clear c5; replace H := ia H; obtain ⟨c6b0, H⟩ := H; replace H := ia H; obtain ⟨c7b0, H⟩ := H
   by_cases c8 : ((rd_T56 l0_1 x10_1).f0).toList = a1.toList
   ·
    rw [if_pos c8] at H; have c8b0 : (((rd_T56 l0_1 x10_1).f0).toList == a1.toList) = true := beq_iff_eq.mpr c8; have c8b1 : (((rd_T56 l0_1 x10_1).f0).toList != a1.toList) = false := bne_eq_false_iff_eq.mpr c8; clear c8; obtain rfl := sj H; obtain ⟨ad423, A423_1, c423_1, e423, p423, q423, x423a, x423b, x423c, x423d, x423e, HC423_1, HR423_1⟩ := bt_T56 HB.out HR0_1.out x10_1 od od; cases e423
    go_wp2_with (first | ((with_reducible refine gate_dst (N := 6) rfl ?_); refine bxe 6 #[.string (⟨#[]⟩ : ByteArray), .slice none 0 0, .int .i64 0, .int .i64 0, .int .i64 0] 56 ?_; intro gb424 hg w9 BK424 hb; have GW424 := As.mk (gs w hg); replace HB := bs w hb; clear hb hg; obtain ⟨y10a, y10b, y10c, y10d, y10e, v10a, v10b, v10c, v10d, v10e⟩ := cl5 BK424.out))
    go_ret
    exact ⟨ez, be w⟩
   rw [if_neg c8] at H; have c8b0 : (((rd_T56 l0_1 x10_1).f0).toList == a1.toList) = false := beq_eq_false_iff_ne.mpr c8; have c8b1 : (((rd_T56 l0_1 x10_1).f0).toList != a1.toList) = true := bne_iff_ne.mpr c8; have H' := As.mk H; clear H; obtain ⟨ad423, A423_1, c423_1, e423, p423, q423, x423a, x423b, x423c, x423d, x423e, HC423_1, HR423_1⟩ := bt_T56 HB.out HR0_1.out x10_1 od od; cases e423
   go_wp2_with (first | ((with_reducible refine gate_dst (N := 6) rfl ?_); refine bxe 6 #[.string (⟨#[]⟩ : ByteArray), .slice none 0 0, .int .i64 0, .int .i64 0, .int .i64 0] 56 ?_; intro gb424 hg w11 BK424 hb; have GW424 := As.mk (gs w hg); replace HB := bs w hb; have NB422_424 := As.mk (nl hg (bx BK422.out)); have NB424_422 := As.mk (ng hg (bx BK422.out)); replace BK422 := bb BK422 hb; clear hb hg; have hnb12 := NB424_422.out; have hnc12 := NB422_424.out; obtain ⟨y13a, y13b, y13c, y13d, y13e, v13a, v13b, v13c, v13d, v13e⟩ := cl5 BK424.out))
   go_roundg k1
   case measure => have := HK1.out; omega
   case rel => exact ⟨(wrap64 (x10_1 + 1)), (by first | rfl | (simp; done) | (simp [*]; done)), H', ⟨by have := HK1.out; omega⟩, ⟨by refine pl ?_; refine blk_far ?_ NB422_424.out _; refine pl ?_; refine blk_far ?_ NB422_424.out _; refine pl ?_; refine blk_far ?_ NB422_424.out _; refine pl ?_; refine blk_far ?_ NB422_424.out _; refine pl ?_; refine blk_far ?_ NB422_424.out _; exact bx BK422.out⟩, ⟨be w⟩⟩
end Go.Proofs.YtcoapbnbakmkoaaGreatDoor.PFnExactShowProgram
