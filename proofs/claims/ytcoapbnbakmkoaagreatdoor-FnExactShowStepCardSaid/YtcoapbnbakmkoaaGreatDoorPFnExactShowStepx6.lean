/- Written by a program of this session (a turned copy of the kit's print): a contract for each Go function. No condition beside those in each statement. -/
import Derived.Test.YtcoapbnbakmkoaaGreatDoorPFnExactShowStepx0
import Derived.Test.YtcoapbnbakmkoaaGreatDoorPFnExactShowStepx3
import Derived.Test.YtcoapbnbakmkoaaGreatDoorPFnExactShowStepx5
namespace Go.Proofs.YtcoapbnbakmkoaaGreatDoor.PFnExactShowStep
open Go.RowKit Go.Proofs.YtcoapbnbakmkoaaGreatDoor.Given Go.Proofs.YtcoapbnbakmkoaaGreatDoorW.PrintWords Go.Proofs.YtcoapbnbakmkoaaGreatDoorW.PrintLast Go.Proofs.YtcoapbnbakmkoaaGreatDoorW.PrintMore
attribute [local go_sem] max2_int min2_int max_two min_two max_three min_three max_four min_four   -- for this text's walks alone
set_option linter.unusedVariables false
set_option linter.unusedSimpArgs false

/-! ### spec_l04Deeps: function 71 -/
mutual
def spec_l04Deeps.l0 : Nat → List (S62) → Int → List Int → Int → Option (List Int)
 | 0, _, _, _, _ => none
 | k + 1, x0, x1, x5, x6 => if x6 ≤ x1 then (spec_l04Deeps.j1 k x0 x1 x5 x6 (decide (x6 < (x0.length : Int)))) else (spec_l04Deeps.j1 k x0 x1 x5 x6 false)
def spec_l04Deeps.j1 : Nat → List (S62) → Int → List Int → Int → Bool → Option (List Int)
 | 0, _, _, _, _, _ => none
 | k + 1, x0, x1, x5, x6, x18 => if x18 = true then ((spec_NodeOk.f k x0 x6).bind fun t235 => (if t235 = true then (if x6 > 0 then (if 0 ≤ (wrap64 (x6 - 1)) then (if (wrap64 (x6 - 1)) < (x5.length : Int) then (spec_l04Deeps.j2 k x0 x1 x5 x6 1 ((rd x5 (wrap64 (x6 - 1))) == 0)) else (none)) else (none)) else (spec_l04Deeps.j2 k x0 x1 x5 x6 1 false)) else (spec_l04Deeps.j2 k x0 x1 x5 x6 1 true))) else (some x5)
def spec_l04Deeps.j2 : Nat → List (S62) → Int → List Int → Int → Int → Bool → Option (List Int)
 | 0, _, _, _, _, _, _ => none
 | k + 1, x0, x1, x5, x6, x7, x36 => if x36 = true then (spec_l04Deeps.j3 k x0 x1 x5 x6 0) else (spec_l04Deeps.j3 k x0 x1 x5 x6 x7)
def spec_l04Deeps.j3 : Nat → List (S62) → Int → List Int → Int → Int → Option (List Int)
 | 0, _, _, _, _, _ => none
 | k + 1, x0, x1, x5, x6, x7 => spec_l04Deeps.l1 k x0 x1 x5 x6 x7 0
def spec_l04Deeps.l1 : Nat → List (S62) → Int → List Int → Int → Int → Int → Option (List Int)
 | 0, _, _, _, _, _, _ => none
 | k + 1, x0, x1, x5, x6, x7, x8 => if x7 > 0 then (if 0 ≤ x6 then (if x6 < (x0.length : Int) then (spec_l04Deeps.j5 k x0 x1 x5 x6 x7 x8 (decide (x8 < (((rd_T62 x0 x6).f3).length : Int)))) else (none)) else (none)) else (spec_l04Deeps.j5 k x0 x1 x5 x6 x7 x8 false)
def spec_l04Deeps.j5 : Nat → List (S62) → Int → List Int → Int → Int → Int → Bool → Option (List Int)
 | 0, _, _, _, _, _, _, _ => none
 | k + 1, x0, x1, x5, x6, x7, x8, x48 => if x48 = true then (if 0 ≤ x6 then (if x6 < (x0.length : Int) then (if 0 ≤ x8 then (if x8 < (((rd_T62 x0 x6).f3).length : Int) then (if 0 ≤ (rd ((rd_T62 x0 x6).f3) x8) then (if (rd ((rd_T62 x0 x6).f3) x8) < (x5.length : Int) then (if (wrap64 ((rd x5 (rd ((rd_T62 x0 x6).f3) x8)) + 1)) > x7 then (spec_l04Deeps.l1 k x0 x1 x5 x6 (wrap64 ((rd x5 (rd ((rd_T62 x0 x6).f3) x8)) + 1)) (wrap64 (x8 + 1))) else (spec_l04Deeps.l1 k x0 x1 x5 x6 x7 (wrap64 (x8 + 1)))) else (none)) else (none)) else (none)) else (none)) else (none)) else (none)) else (if x7 > 10 then (if x5.length < 17592186044416 then (spec_l04Deeps.l0 k x0 x1 (x5 ++ [0]) (wrap64 (x6 + 1))) else (none)) else (if x5.length < 17592186044416 then (spec_l04Deeps.l0 k x0 x1 (x5 ++ [x7]) (wrap64 (x6 + 1))) else (none)))
end
def spec_l04Deeps.f (k : Nat) (l0 : List (S62)) (a1 : Int) : Option (List Int) := spec_l04Deeps.l0 k l0 a1 (([] : List Int)) 0
theorem spec_l04Deeps.mono_l : ∀ k, (∀ y0 y1 y2 y3, LeO (spec_l04Deeps.l0 k y0 y1 y2 y3) (spec_l04Deeps.l0 (k + 1) y0 y1 y2 y3)) ∧ (∀ y0 y1 y2 y3 y4, LeO (spec_l04Deeps.j1 k y0 y1 y2 y3 y4) (spec_l04Deeps.j1 (k + 1) y0 y1 y2 y3 y4)) ∧ (∀ y0 y1 y2 y3 y4 y5, LeO (spec_l04Deeps.j2 k y0 y1 y2 y3 y4 y5) (spec_l04Deeps.j2 (k + 1) y0 y1 y2 y3 y4 y5)) ∧ (∀ y0 y1 y2 y3 y4, LeO (spec_l04Deeps.j3 k y0 y1 y2 y3 y4) (spec_l04Deeps.j3 (k + 1) y0 y1 y2 y3 y4)) ∧ (∀ y0 y1 y2 y3 y4 y5, LeO (spec_l04Deeps.l1 k y0 y1 y2 y3 y4 y5) (spec_l04Deeps.l1 (k + 1) y0 y1 y2 y3 y4 y5)) ∧ (∀ y0 y1 y2 y3 y4 y5 y6, LeO (spec_l04Deeps.j5 k y0 y1 y2 y3 y4 y5 y6) (spec_l04Deeps.j5 (k + 1) y0 y1 y2 y3 y4 y5 y6))
 | 0 => ⟨fun _ _ _ _ r h => by simp [spec_l04Deeps.l0] at h, fun _ _ _ _ _ r h => by simp [spec_l04Deeps.j1] at h, fun _ _ _ _ _ _ r h => by simp [spec_l04Deeps.j2] at h, fun _ _ _ _ _ r h => by simp [spec_l04Deeps.j3] at h, fun _ _ _ _ _ _ r h => by simp [spec_l04Deeps.l1] at h, fun _ _ _ _ _ _ _ r h => by simp [spec_l04Deeps.j5] at h⟩
 | k + 1 => by
  obtain ⟨ih0, ih1, ih2, ih3, ih4, ih5⟩ := spec_l04Deeps.mono_l k
  refine ⟨?_, ?_, ?_, ?_, ?_, ?_⟩
  ·
   intro y0 y1 y2 y3
   unfold spec_l04Deeps.l0
   with_reducible repeat' first | exact ih0 _ _ _ _ | exact ih1 _ _ _ _ _ | exact ih2 _ _ _ _ _ _ | exact ih3 _ _ _ _ _ | exact ih4 _ _ _ _ _ _ | exact ih5 _ _ _ _ _ _ _ | exact spec_NodeOk.mono _ _ _ | exact LeO.refl _ | exact LeO.none _ | refine LeO.ite ?_ ?_ | refine LeO.bind ?_ (fun _ => ?_)
  ·
   intro y0 y1 y2 y3 y4
   unfold spec_l04Deeps.j1
   with_reducible repeat' first | exact ih0 _ _ _ _ | exact ih1 _ _ _ _ _ | exact ih2 _ _ _ _ _ _ | exact ih3 _ _ _ _ _ | exact ih4 _ _ _ _ _ _ | exact ih5 _ _ _ _ _ _ _ | exact spec_NodeOk.mono _ _ _ | exact LeO.refl _ | exact LeO.none _ | refine LeO.ite ?_ ?_ | refine LeO.bind ?_ (fun _ => ?_)
  ·
   intro y0 y1 y2 y3 y4 y5
   unfold spec_l04Deeps.j2
   with_reducible repeat' first | exact ih0 _ _ _ _ | exact ih1 _ _ _ _ _ | exact ih2 _ _ _ _ _ _ | exact ih3 _ _ _ _ _ | exact ih4 _ _ _ _ _ _ | exact ih5 _ _ _ _ _ _ _ | exact spec_NodeOk.mono _ _ _ | exact LeO.refl _ | exact LeO.none _ | refine LeO.ite ?_ ?_ | refine LeO.bind ?_ (fun _ => ?_)
  ·
   intro y0 y1 y2 y3 y4
   unfold spec_l04Deeps.j3
   with_reducible repeat' first | exact ih0 _ _ _ _ | exact ih1 _ _ _ _ _ | exact ih2 _ _ _ _ _ _ | exact ih3 _ _ _ _ _ | exact ih4 _ _ _ _ _ _ | exact ih5 _ _ _ _ _ _ _ | exact spec_NodeOk.mono _ _ _ | exact LeO.refl _ | exact LeO.none _ | refine LeO.ite ?_ ?_ | refine LeO.bind ?_ (fun _ => ?_)
  ·
   intro y0 y1 y2 y3 y4 y5
   unfold spec_l04Deeps.l1
   with_reducible repeat' first | exact ih0 _ _ _ _ | exact ih1 _ _ _ _ _ | exact ih2 _ _ _ _ _ _ | exact ih3 _ _ _ _ _ | exact ih4 _ _ _ _ _ _ | exact ih5 _ _ _ _ _ _ _ | exact spec_NodeOk.mono _ _ _ | exact LeO.refl _ | exact LeO.none _ | refine LeO.ite ?_ ?_ | refine LeO.bind ?_ (fun _ => ?_)
  ·
   intro y0 y1 y2 y3 y4 y5 y6
   unfold spec_l04Deeps.j5
   with_reducible repeat' first | exact ih0 _ _ _ _ | exact ih1 _ _ _ _ _ | exact ih2 _ _ _ _ _ _ | exact ih3 _ _ _ _ _ | exact ih4 _ _ _ _ _ _ | exact ih5 _ _ _ _ _ _ _ | exact spec_NodeOk.mono _ _ _ | exact LeO.refl _ | exact LeO.none _ | refine LeO.ite ?_ ?_ | refine LeO.bind ?_ (fun _ => ?_)
theorem spec_l04Deeps.mono : ∀ a0 a1 k, LeO (spec_l04Deeps.f k a0 a1) (spec_l04Deeps.f (k + 1) a0 a1) := by
 intro a0 a1 k
 obtain ⟨ih0, ih1, ih2, ih3, ih4, ih5⟩ := spec_l04Deeps.mono_l k
 unfold spec_l04Deeps.f
 with_reducible repeat' first | exact ih0 _ _ _ _ | exact ih1 _ _ _ _ _ | exact ih2 _ _ _ _ _ _ | exact ih3 _ _ _ _ _ | exact ih4 _ _ _ _ _ _ | exact ih5 _ _ _ _ _ _ _ | exact spec_NodeOk.mono _ _ _ | exact LeO.refl _ | exact LeO.none _ | refine LeO.ite ?_ ?_ | refine LeO.bind ?_ (fun _ => ?_)
set_option maxHeartbeats 8000000 in
set_option maxRecDepth 100000 in
theorem spec_l04Deeps.calls (k : Nat) (A0 : Option Addr) (c0 : Nat) (l0 : List (S62)) (a1 : Int) (r : List Int) (w : World) (hr0 : Kd.C k62 w A0 l0.length l0) (hc0 : l0.length ≤ c0) (h : spec_l04Deeps.f k l0 a1 = some r) :
  Calls Tryz.prog 71 #[.slice A0 l0.length c0, .int .i64 a1] w fun e w' => ∃ v0_ : Value, e = .returned (v0_) ∧ Kd.R (Kd.int .i64) 3 w' w.heap.size (fun _ => True) v0_ r ∧ Below w.heap.size w w' := by
 have HR0 := As.mk hr0
 have HC0 := As.mk hc0
 clear hr0 hc0
 have HB := As.mk (Below.refl w.heap.size w)
 have H : (spec_l04Deeps.l0 k l0 a1 (([] : List Int)) 0) = some r := h
 clear h
 obtain ⟨y232, hy232⟩ : ∃ y_ : List Int, y_ = (([] : List Int)) := ⟨_, rfl⟩
 replace H : (spec_l04Deeps.l0 k l0 a1 y232 0) = some r := by first | (rw [hy232]; with_reducible exact H) | (have H2_ := (Option.bind_some _ _).symm.trans H; rw [hy232]; with_reducible exact H2_) | (have H2_ := (Option.bind_some _ _).symm.trans H; with_reducible exact H2_) | with_reducible exact H | (rw [hy232]; exact H) | exact H
 have Ny232 := As.mk hy232
 clear hy232
 have H' := As.mk H
 clear H
 go_enter Tryz.func71, Tryz.ntmps71
 go_wp2_with (first | ((with_reducible refine gate_dst (N := 9) rfl ?_); (try (refine gate_guard (by rfl) ?_; dsimp only)); refine Kd.R_lit (Kd.int .i64) _ 3 ?hg (N := 9) ?hd (xs := ([] : List Int)) (inner := []) (ok := fun _ => True) (okp := fun _ => True) ?hr ?hp (fun _ hk => hk) trivial (Below.refl _ _) (Nat.le_refl _) (by simp) ?_; (case hd => rfl); (case hg => rfl); (case hr => first | (go_simp; done) | (go_simp; rfl)); (case hp => exact (Reps.none _ _)); intro v233 w3 ho4 hb hg_ hnew_; clear hg_ hnew_; (first | rw [← Ny232.out] at ho4 | (simp only [Int.reduceToNat] at ho4; rw [← Ny232.out] at ho4)); have HO234 := As.mk (Kd.R_lower ho4 (below_size (be w))); replace HB := As.mk (below_step (be w) hb); clear hb ho4))
 go_loopg [5, 6] k (fun kq v5 v6 w' => ∃ (x5_1 : List Int) (x6_1 : Int), v6 = .int .i64 x6_1 ∧ As (spec_l04Deeps.l0 kq l0 a1 x5_1 x6_1 = some r) ∧ As (kq ≤ k) ∧ As (Kd.R (Kd.int .i64) 3 w' w.heap.size (fun _ => True) v5 x5_1) ∧ As (Below w.heap.size w w'))
 case atStart => exact ⟨(y232), (0), (by first | rfl | (simp; done) | (simp [*]; done)), H', ⟨Nat.le_refl _⟩, ⟨by (with_reducible repeat (first | apply Kd.R_alloc | apply Kd.R_drewN | apply Kd.R_drew)); exact HO234.out⟩, ⟨be w⟩⟩
 case round =>
  clear H'
  obtain ⟨x5_1, x6_1, rfl, HA, HK1, HO_5, HB⟩ := hrel
  cases gk with
  | zero => exact absurd HA.out (by simp [spec_l04Deeps.l0])
  | succ k1 =>
   have H := HA.out
   clear HA
   simp only [spec_l04Deeps.l0] at H
   have HC5 := As.mk H
   clear H
   go_upto_region 3 with (fail)
   go_cut [18] (fun v18 wc => ∃ (kq : Nat) (x18_4 : Bool), v18 = .bool x18_4 ∧ As (spec_l04Deeps.j1 kq l0 a1 x5_1 x6_1 x18_4 = some r) ∧ As (kq ≤ k1) ∧ As (Kd.R (Kd.int .i64) 3 wc w.heap.size (fun _ => True) u5 x5_1) ∧ As (Below w.heap.size w wc))
   case first =>
    have H := HC5.out
    clear HC5
    by_cases c6 : x6_1 ≤ a1
    rotate_left
    ·
     rw [if_neg c6] at H
     have c6b0 : decide (x6_1 ≤ a1) = false := decide_eq_false c6
     clear c6
     (first | rw [c6b0] | (simp only [i64_w, i32_w]; rw [c6b0]) | skip)
     have H' := As.mk H
     clear H
     go_wp2
     go_meet
     case rel => exact ⟨_, (false), (by first | rfl | (simp; done) | (simp [*]; done)), H', ⟨by have := HK1.out; first | omega | exact Nat.le_refl _⟩, ⟨by (with_reducible repeat (first | apply Kd.R_alloc | apply Kd.R_drewN | apply Kd.R_drew)); exact HO_5.out⟩, ⟨be w⟩⟩
    rw [if_pos c6] at H
    have c6b0 := decide_eq_true c6
    clear c6
    (first | rw [c6b0] | (simp only [i64_w, i32_w]; rw [c6b0]) | skip)
    have H' := As.mk H
    clear H
    go_wp2
    go_meet
    case rel => exact ⟨_, (decide (x6_1 < (l0.length : Int))), (by first | rfl | (simp; done) | (simp [*]; done)), H', ⟨by have := HK1.out; first | omega | exact Nat.le_refl _⟩, ⟨by (with_reducible repeat (first | apply Kd.R_alloc | apply Kd.R_drewN | apply Kd.R_drew)); exact HO_5.out⟩, ⟨be w⟩⟩
   case rest =>
    clear HC5
    obtain ⟨kq, x18_4, rfl, HA, HJ4, HO_5, HB⟩ := hcut
    cases kq with
    | zero => exact absurd HA.out (by simp [spec_l04Deeps.j1])
    | succ kj4 =>
     have H := HA.out
     clear HA
     simp only [spec_l04Deeps.j1] at H
     by_cases c7 : x18_4 = true
     rotate_left
     ·
      replace c7 := Bool.eq_false_iff.mpr c7
      subst c7
      rw [if_neg (show ¬ (false = true) by decide)] at H
      obtain rfl := Option.some.inj H
      go_wp2
      go_ret
      exact ⟨_, ez, by (with_reducible repeat (first | apply Kd.R_alloc | apply Kd.R_drewN | apply Kd.R_drew)); exact HO_5.out, be w⟩

     subst c7
     rw [if_pos rfl] at H
     have HC8 := As.mk H
     clear H
     go_upto_region 6 with (fail)
     go_cut [36] (fun v36 wc => ∃ (kq : Nat) (x36_7 : Bool), v36 = .bool x36_7 ∧ As (spec_l04Deeps.j2 kq l0 a1 x5_1 x6_1 1 x36_7 = some r) ∧ As (kq ≤ kj4) ∧ As (Kd.R (Kd.int .i64) 3 wc w.heap.size (fun _ => True) u5 x5_1) ∧ As (Below w.heap.size w wc))
     case first =>
      have H := HC8.out
      clear HC8
      obtain ⟨t235, A90, H⟩ := Option.bind_eq_some_iff.mp H
      try dsimp only at H
      have A9 := As.mk A90
      clear A90
      by_cases c10 : t235 = true
      rotate_left
      ·
       replace c10 := Bool.eq_false_iff.mpr c10
       subst c10
       rw [if_neg (show ¬ (false = true) by decide)] at H
       have H' := As.mk H
       clear H
       go_wp2_with (first | ((with_reducible refine gate_callee (f := 95) rfl ?_); refine goesL_ (some 23) rfl rfl Tryz.func95 (by kernel_rfl) rfl #[.slice A0 l0.length c0, .int .i64 x6_1] rfl gl ?_; (with_reducible refine (spec_NodeOk.calls kj4 _ _ l0 x6_1 false _ ?side1 ?side2 A9.out).mono ?_); (case side1 => exact Kd.C_below HR0.out (be w)); (case side2 => exact HC0.out); rintro e w18 ⟨rfl, hb⟩; refine ⟨_, rfl, ?_⟩; replace HO_5 := As.mk (Kd.R_below (by (with_reducible repeat (first | apply Kd.R_alloc | apply Kd.R_drewN | apply Kd.R_drew)); exact HO_5.out) hb); replace HB := As.mk (below_step (be w) hb); (try clear hb)))
       go_meet
       case rel => exact ⟨_, (true), (by first | rfl | (simp; done) | (simp [*]; done)), H', ⟨by have := HK1.out; have := HJ4.out; first | omega | exact Nat.le_refl _⟩, ⟨by (with_reducible repeat (first | apply Kd.R_alloc | apply Kd.R_drewN | apply Kd.R_drew)); exact HO_5.out⟩, ⟨be w⟩⟩
      subst c10
      rw [if_pos rfl] at H
      by_cases c11 : x6_1 > 0
      rotate_left
      ·
       rw [if_neg c11] at H
       have c11b0 : decide (0 < x6_1) = false := decide_eq_false c11
       clear c11
       (first | rw [c11b0] | (simp only [i64_w, i32_w]; rw [c11b0]) | skip)
       have H' := As.mk H
       clear H
       go_wp2_with (first | ((with_reducible refine gate_callee (f := 95) rfl ?_); refine goesL_ (some 23) rfl rfl Tryz.func95 (by kernel_rfl) rfl #[.slice A0 l0.length c0, .int .i64 x6_1] rfl gl ?_; (with_reducible refine (spec_NodeOk.calls kj4 _ _ l0 x6_1 true _ ?side1 ?side2 A9.out).mono ?_); (case side1 => exact Kd.C_below HR0.out (be w)); (case side2 => exact HC0.out); rintro e w17 ⟨rfl, hb⟩; refine ⟨_, rfl, ?_⟩; replace HO_5 := As.mk (Kd.R_below (by (with_reducible repeat (first | apply Kd.R_alloc | apply Kd.R_drewN | apply Kd.R_drew)); exact HO_5.out) hb); replace HB := As.mk (below_step (be w) hb); (try clear hb)))
       go_meet
       case rel => exact ⟨_, (false), (by first | rfl | (simp; done) | (simp [*]; done)), H', ⟨by have := HK1.out; have := HJ4.out; first | omega | exact Nat.le_refl _⟩, ⟨by (with_reducible repeat (first | apply Kd.R_alloc | apply Kd.R_drewN | apply Kd.R_drew)); exact HO_5.out⟩, ⟨be w⟩⟩
      rw [if_pos c11] at H
      have c11b0 : decide (0 < x6_1) = true := decide_eq_true c11
      clear c11
      (first | rw [c11b0] | (simp only [i64_w, i32_w]; rw [c11b0]) | skip)
      obtain ⟨ji12, hji12⟩ : ∃ j_ : Int, (wrap64 (x6_1 - 1)) = j_ := ⟨_, rfl⟩
      replace H : (if 0 ≤ (ji12) then (if (ji12) < (x5_1.length : Int) then (spec_l04Deeps.j2 kj4 l0 a1 x5_1 x6_1 1 ((rd x5_1 (ji12)) == 0)) else (none)) else (none)) = some r := by first | (rw [hji12] at H; exact H) | (simp only [hji12] at H ⊢; exact H)
      (try rw [hji12] at A9)
      have hji12w : (IntKind.i64.wrap (x6_1 - 1)) = ji12 := (i64_w _).trans hji12
      have c13 := i1 H; replace H := i2 H
      have c13b0 := decide_eq_true c13
      clear c13
      have c14 := i1 H; replace H := i2 H
      have c14b0 := decide_eq_true c14
      clear c14
      have H' := As.mk H
      clear H
      go_wp2_with (first | ((with_reducible refine gate_callee (f := 95) rfl ?_); refine goesL_ (some 23) rfl rfl Tryz.func95 (by kernel_rfl) rfl #[.slice A0 l0.length c0, .int .i64 x6_1] rfl gl ?_; (with_reducible refine (spec_NodeOk.calls kj4 _ _ l0 x6_1 true _ ?side1 ?side2 A9.out).mono ?_); (case side1 => exact Kd.C_below HR0.out (be w)); (case side2 => exact HC0.out); rintro e w15 ⟨rfl, hb⟩; refine ⟨_, rfl, ?_⟩; replace HO_5 := As.mk (Kd.R_below (by (with_reducible repeat (first | apply Kd.R_alloc | apply Kd.R_drewN | apply Kd.R_drew)); exact HO_5.out) hb); replace HB := As.mk (below_step (be w) hb); (try clear hb); obtain ⟨Ao16, co16, eo16⟩ := Kd.R_slice HO_5.out; subst eo16; have p236 : 0 ≤ ((ji12) : Int) := od; have q236 : (ji12) < (x5_1.length : Int) := od; obtain ⟨ad236, e236, hx236_0⟩ := Kd.at_int (Kd.R_reads' HO_5.out).2.2 (ji12) p236 q236; cases e236; replace p236 := eq_true p236; replace q236 := eq_true q236))
      go_meet
      case rel => exact ⟨_, (((rd x5_1 (ji12)) == 0)), (by first | rfl | (simp; done) | (simp only [← hji12] <;> (first | rfl | simp)) | (simp [*]; done)), H', ⟨by have := HK1.out; have := HJ4.out; first | omega | exact Nat.le_refl _⟩, ⟨by (with_reducible repeat (first | apply Kd.R_alloc | apply Kd.R_drewN | apply Kd.R_drew)); exact HO_5.out⟩, ⟨be w⟩⟩
     case rest =>
      clear HC8
      (try clear c7)
      obtain ⟨kq, x36_7, rfl, HA, HJ7, HO_5, HB⟩ := hcut
      cases kq with
      | zero => exact absurd HA.out (by simp [spec_l04Deeps.j2])
      | succ kj7 =>
       have H := HA.out
       clear HA
       simp only [spec_l04Deeps.j2] at H
       have HC19 := As.mk H
       clear H
       go_upto_if 36 with (fail)
       go_cut [7] (fun v7 wc => ∃ (kq : Nat) (x7_18 : Int), v7 = .int .i64 x7_18 ∧ As (spec_l04Deeps.j3 kq l0 a1 x5_1 x6_1 x7_18 = some r) ∧ As (kq ≤ kj7) ∧ As (Kd.R (Kd.int .i64) 3 wc w.heap.size (fun _ => True) u5 x5_1) ∧ As (Below w.heap.size w wc))
       case first =>
        have H := HC19.out
        clear HC19
        by_cases c20 : x36_7 = true
        ·
         subst c20
         rw [if_pos rfl] at H
         have H' := As.mk H
         clear H
         go_wp2
         go_meet
         case rel => exact ⟨_, (0), (by first | rfl | (simp; done) | (simp [*]; done)), H', ⟨by have := HK1.out; have := HJ4.out; have := HJ7.out; first | omega | exact Nat.le_refl _⟩, ⟨by (with_reducible repeat (first | apply Kd.R_alloc | apply Kd.R_drewN | apply Kd.R_drew)); exact HO_5.out⟩, ⟨be w⟩⟩
        replace c20 := Bool.eq_false_iff.mpr c20
        subst c20
        rw [if_neg (show ¬ (false = true) by decide)] at H
        have H' := As.mk H
        clear H
        go_wp2
        go_meet
        case rel => exact ⟨_, (1), (by first | rfl | (simp; done) | (simp [*]; done)), H', ⟨by have := HK1.out; have := HJ4.out; have := HJ7.out; first | omega | exact Nat.le_refl _⟩, ⟨by (with_reducible repeat (first | apply Kd.R_alloc | apply Kd.R_drewN | apply Kd.R_drew)); exact HO_5.out⟩, ⟨be w⟩⟩
       case rest =>
        clear HC19
        (try clear c7)
        obtain ⟨kq, x7_18, rfl, HA, HJ18, HO_5, HB⟩ := hcut
        cases kq with
        | zero => exact absurd HA.out (by simp [spec_l04Deeps.j3])
        | succ kj18 =>
         have H := HA.out
         clear HA
         simp only [spec_l04Deeps.j3] at H
         have H' := As.mk H
         clear H
         go_wp2
         go_loopg [7, 8] kj18 (fun kq v7 v8 w' => ∃ (x7_5 : Int) (x8_5 : Int), v7 = .int .i64 x7_5 ∧ v8 = .int .i64 x8_5 ∧ As (spec_l04Deeps.l1 kq l0 a1 x5_1 x6_1 x7_5 x8_5 = some r) ∧ As (kq ≤ kj18) ∧ As (Kd.R (Kd.int .i64) 3 w' w.heap.size (fun _ => True) u5 x5_1) ∧ As (Below w.heap.size w w'))
         case atStart => exact ⟨(x7_18), (0), (by first | rfl | (simp; done) | (simp [*]; done)), (by first | rfl | (simp; done) | (simp [*]; done)), H', ⟨Nat.le_refl _⟩, ⟨by (with_reducible repeat (first | apply Kd.R_alloc | apply Kd.R_drewN | apply Kd.R_drew)); exact HO_5.out⟩, ⟨be w⟩⟩
         case round =>
          clear H'
          (try clear c7)
          obtain ⟨x7_5, x8_5, rfl, rfl, HA, HK5, HO_5, HB⟩ := hrel
          cases gk with
          | zero => exact absurd HA.out (by simp [spec_l04Deeps.l1])
          | succ k5 =>
           have H := HA.out
           clear HA
           simp only [spec_l04Deeps.l1] at H
           have HC21 := As.mk H
           clear H
           go_upto_region 9 with (fail)
           go_cut [48] (fun v48 wc => ∃ (kq : Nat) (x48_20 : Bool), v48 = .bool x48_20 ∧ As (spec_l04Deeps.j5 kq l0 a1 x5_1 x6_1 x7_5 x8_5 x48_20 = some r) ∧ As (kq ≤ k5) ∧ As (Kd.R (Kd.int .i64) 3 wc w.heap.size (fun _ => True) u5 x5_1) ∧ As (Below w.heap.size w wc))
           case first =>
            have H := HC21.out
            clear HC21
            by_cases c22 : x7_5 > 0
            rotate_left
            ·
             rw [if_neg c22] at H
             have c22b0 : decide (0 < x7_5) = false := decide_eq_false c22
             clear c22
             (first | rw [c22b0] | (simp only [i64_w, i32_w]; rw [c22b0]) | skip)
             have H' := As.mk H
             clear H
             go_wp2
             go_meet
             case rel => exact ⟨_, (false), (by first | rfl | (simp; done) | (simp [*]; done)), H', ⟨by have := HK1.out; have := HJ4.out; have := HJ7.out; have := HJ18.out; have := HK5.out; first | omega | exact Nat.le_refl _⟩, ⟨by (with_reducible repeat (first | apply Kd.R_alloc | apply Kd.R_drewN | apply Kd.R_drew)); exact HO_5.out⟩, ⟨be w⟩⟩
            rw [if_pos c22] at H
            have c22b0 : decide (0 < x7_5) = true := decide_eq_true c22
            clear c22
            (first | rw [c22b0] | (simp only [i64_w, i32_w]; rw [c22b0]) | skip)
            have c23 := i1 H; replace H := i2 H
            have c23b0 := decide_eq_true c23
            clear c23
            have c24 := i1 H; replace H := i2 H
            have c24b0 := decide_eq_true c24
            clear c24
            have H' := As.mk H
            clear H
            have p237 : 0 ≤ (x6_1 : Int) := od
            have q237 : x6_1 < (l0.length : Int) := od
            obtain ⟨ad237, A237_3, c237_3, e237, hx237_0, hx237_1, hx237_2, hx237_3, hl237_3, hi237_3⟩ := at_T62 HR0.out x6_1 p237 q237
            cases e237
            replace hx237_0 := ce HB.out hx237_0
            replace hx237_1 := ce HB.out hx237_1
            replace hx237_2 := ce HB.out hx237_2
            replace hx237_3 := ce HB.out hx237_3
            have HR237_3 := As.mk hi237_3
            have HC237_3 := As.mk hl237_3
            clear hi237_3 hl237_3
            replace p237 := eq_true p237
            replace q237 := eq_true q237
            go_wp2
            go_meet
            case rel => exact ⟨_, (decide (x8_5 < (((rd_T62 l0 x6_1).f3).length : Int))), (by first | rfl | (simp; done) | (simp [*]; done)), H', ⟨by have := HK1.out; have := HJ4.out; have := HJ7.out; have := HJ18.out; have := HK5.out; first | omega | exact Nat.le_refl _⟩, ⟨by (with_reducible repeat (first | apply Kd.R_alloc | apply Kd.R_drewN | apply Kd.R_drew)); exact HO_5.out⟩, ⟨be w⟩⟩
           case rest =>
            clear HC21
            (try clear c7)
            obtain ⟨kq, x48_20, rfl, HA, HJ20, HO_5, HB⟩ := hcut
            cases kq with
            | zero => exact absurd HA.out (by simp [spec_l04Deeps.j5])
            | succ kj20 =>
             have H := HA.out
             clear HA
             simp only [spec_l04Deeps.j5] at H
             by_cases c25 : x48_20 = true
             rotate_left
             ·
              replace c25 := Bool.eq_false_iff.mpr c25
              subst c25
              rw [if_neg (show ¬ (false = true) by decide)] at H
              by_cases c35 : x7_5 > 10
              ·
               rw [if_pos c35] at H
               have c35b0 : decide (10 < x7_5) = true := decide_eq_true c35
               clear c35
               have c36 := i1 H; replace H := i2 H
               have LMc36 := As.mk c36
               clear c36
               obtain ⟨y244, hy244⟩ : ∃ y_ : List Int, y_ = (x5_1 ++ [0]) := ⟨_, rfl⟩
               replace H : (spec_l04Deeps.l0 kj20 l0 a1 y244 (wrap64 (x6_1 + 1))) = some r := by first | (rw [hy244]; with_reducible exact H) | (have H2_ := (Option.bind_some _ _).symm.trans H; rw [hy244]; with_reducible exact H2_) | (have H2_ := (Option.bind_some _ _).symm.trans H; with_reducible exact H2_) | with_reducible exact H | (rw [hy244]; exact H) | exact H
               have Ny244 := As.mk hy244
               clear hy244
               have H' := As.mk H
               clear H
               go_wp2_with (first | ((with_reducible refine gate_builtin (b := .append) (xs := #[.tmp 79, .tmp 81]) rfl ?_); (try (refine gate_guard (by rfl) ?_; dsimp only)); at_builtin; refine Kd.R_append (Kd.int .i64) (w0 := w) w.heap.size rfl (.tmp 79) (.tmp 81) 45 3 (.int .i64 0) 8 rfl Tryz.underlying45 info3 rfl (by decide) (by omega) u5 x5_1 0 [.int .i64 0] (fun _ => True) (fun _ => False) rfl rfl ?aP (fun _ hk => hk.elim) ?aF ?aO ?aB ?aS ?aL ?_; (case aP => exact rfl); (case aB => exact (be w)); (case aF => exact (fun _ _ => trivial)); (case aO => exact (by (with_reducible repeat (first | apply Kd.R_alloc | apply Kd.R_drewN | apply Kd.R_drew)); exact HO_5.out)); (case aS => exact (below_size (be w))); (case aL => have := LMc36.out; omega); intro v245 w37 ho hb hg hat; rw [← Ny244.out] at ho; replace HB := As.mk (hb); have HO246 := As.mk (ho); clear HO_5; clear ho hb hg hat))
               go_roundg kj20
               case measure => have := HK1.out; have := HJ4.out; have := HJ7.out; have := HJ18.out; have := HK5.out; have := HJ20.out; omega
               case rel => exact ⟨(y244), (wrap64 (x6_1 + 1)), (by first | rfl | (simp; done) | (simp [*]; done)), H', ⟨by have := HK1.out; have := HJ4.out; have := HJ7.out; have := HJ18.out; have := HK5.out; have := HJ20.out; omega⟩, ⟨by (with_reducible repeat (first | apply Kd.R_alloc | apply Kd.R_drewN | apply Kd.R_drew)); exact HO246.out⟩, ⟨be w⟩⟩
              rw [if_neg c35] at H
              have c35b0 : decide (10 < x7_5) = false := decide_eq_false c35
              clear c35
              have c38 := i1 H; replace H := i2 H
              have LMc38 := As.mk c38
              clear c38
              obtain ⟨y247, hy247⟩ : ∃ y_ : List Int, y_ = (x5_1 ++ [x7_5]) := ⟨_, rfl⟩
              replace H : (spec_l04Deeps.l0 kj20 l0 a1 y247 (wrap64 (x6_1 + 1))) = some r := by first | (rw [hy247]; with_reducible exact H) | (have H2_ := (Option.bind_some _ _).symm.trans H; rw [hy247]; with_reducible exact H2_) | (have H2_ := (Option.bind_some _ _).symm.trans H; with_reducible exact H2_) | with_reducible exact H | (rw [hy247]; exact H) | exact H
              have Ny247 := As.mk hy247
              clear hy247
              have H' := As.mk H
              clear H
              go_wp2_with (first | ((with_reducible refine gate_builtin (b := .append) (xs := #[.tmp 79, .tmp 81]) rfl ?_); (try (refine gate_guard (by rfl) ?_; dsimp only)); at_builtin; refine Kd.R_append (Kd.int .i64) (w0 := w) w.heap.size rfl (.tmp 79) (.tmp 81) 45 3 (.int .i64 0) 8 rfl Tryz.underlying45 info3 rfl (by decide) (by omega) u5 x5_1 x7_5 [.int .i64 x7_5] (fun _ => True) (fun _ => False) rfl rfl ?aP (fun _ hk => hk.elim) ?aF ?aO ?aB ?aS ?aL ?_; (case aP => exact rfl); (case aB => exact (be w)); (case aF => exact (fun _ _ => trivial)); (case aO => exact (by (with_reducible repeat (first | apply Kd.R_alloc | apply Kd.R_drewN | apply Kd.R_drew)); exact HO_5.out)); (case aS => exact (below_size (be w))); (case aL => have := LMc38.out; omega); intro v248 w39 ho hb hg hat; rw [← Ny247.out] at ho; replace HB := As.mk (hb); have HO249 := As.mk (ho); clear HO_5; clear ho hb hg hat))
              go_roundg kj20
              case measure => have := HK1.out; have := HJ4.out; have := HJ7.out; have := HJ18.out; have := HK5.out; have := HJ20.out; omega
              case rel => exact ⟨(y247), (wrap64 (x6_1 + 1)), (by first | rfl | (simp; done) | (simp [*]; done)), H', ⟨by have := HK1.out; have := HJ4.out; have := HJ7.out; have := HJ18.out; have := HK5.out; have := HJ20.out; omega⟩, ⟨by (with_reducible repeat (first | apply Kd.R_alloc | apply Kd.R_drewN | apply Kd.R_drew)); exact HO249.out⟩, ⟨be w⟩⟩
             subst c25
             rw [if_pos rfl] at H
             have c26 := i1 H; replace H := i2 H
             have c26b0 := decide_eq_true c26
             clear c26
             have c27 := i1 H; replace H := i2 H
             have c27b0 := decide_eq_true c27
             clear c27
             have c28 := i1 H; replace H := i2 H
             have c28b0 := decide_eq_true c28
             clear c28
             have c29 := i1 H; replace H := i2 H
             have c29b0 := decide_eq_true c29
             clear c29
             have c30 := i1 H; replace H := i2 H
             have c30b0 := decide_eq_true c30
             clear c30
             have c31 := i1 H; replace H := i2 H
             have c31b0 := decide_eq_true c31
             clear c31
             by_cases c32 : (wrap64 ((rd x5_1 (rd ((rd_T62 l0 x6_1).f3) x8_5)) + 1)) > x7_5
             rotate_left
             ·
              rw [if_neg c32] at H
              have c32b0 : decide (x7_5 < (wrap64 ((rd x5_1 (rd ((rd_T62 l0 x6_1).f3) x8_5)) + 1))) = false := decide_eq_false c32
              clear c32
              have H' := As.mk H
              clear H
              have p238 : 0 ≤ (x6_1 : Int) := od
              have q238 : x6_1 < (l0.length : Int) := od
              obtain ⟨ad238, A238_3, c238_3, e238, hx238_0, hx238_1, hx238_2, hx238_3, hl238_3, hi238_3⟩ := at_T62 HR0.out x6_1 p238 q238
              cases e238
              replace hx238_0 := ce HB.out hx238_0
              replace hx238_1 := ce HB.out hx238_1
              replace hx238_2 := ce HB.out hx238_2
              replace hx238_3 := ce HB.out hx238_3
              have HR238_3 := As.mk hi238_3
              have HC238_3 := As.mk hl238_3
              clear hi238_3 hl238_3
              replace p238 := eq_true p238
              replace q238 := eq_true q238
              have p239 : 0 ≤ (x8_5 : Int) := od
              have q239 : x8_5 < (((rd_T62 l0 x6_1).f3).length : Int) := od
              obtain ⟨ad239, e239, hx239_0⟩ := Kd.at_int HR238_3.out x8_5 p239 q239
              cases e239
              replace hx239_0 := ce HB.out hx239_0
              replace p239 := eq_true p239
              replace q239 := eq_true q239
              obtain ⟨Ao34, co34, eo34⟩ := Kd.R_slice HO_5.out
              subst eo34
              have p240 : 0 ≤ ((rd ((rd_T62 l0 x6_1).f3) x8_5) : Int) := od
              have q240 : (rd ((rd_T62 l0 x6_1).f3) x8_5) < (x5_1.length : Int) := od
              obtain ⟨ad240, e240, hx240_0⟩ := Kd.at_int (Kd.R_reads' HO_5.out).2.2 (rd ((rd_T62 l0 x6_1).f3) x8_5) p240 q240
              cases e240
              replace p240 := eq_true p240
              replace q240 := eq_true q240
              go_wp2
              go_roundg kj20
              case measure => have := HK1.out; have := HJ4.out; have := HJ7.out; have := HJ18.out; have := HK5.out; have := HJ20.out; omega
              case rel => exact ⟨(x7_5), (wrap64 (x8_5 + 1)), (by first | rfl | (simp; done) | (simp [*]; done)), (by first | rfl | (simp; done) | (simp [*]; done)), H', ⟨by have := HK1.out; have := HJ4.out; have := HJ7.out; have := HJ18.out; have := HK5.out; have := HJ20.out; omega⟩, ⟨by (with_reducible repeat (first | apply Kd.R_alloc | apply Kd.R_drewN | apply Kd.R_drew)); exact HO_5.out⟩, ⟨be w⟩⟩
             rw [if_pos c32] at H
             have c32b0 : decide (x7_5 < (wrap64 ((rd x5_1 (rd ((rd_T62 l0 x6_1).f3) x8_5)) + 1))) = true := decide_eq_true c32
             clear c32
             have H' := As.mk H
             clear H
             have p238 : 0 ≤ (x6_1 : Int) := od
             have q238 : x6_1 < (l0.length : Int) := od
             obtain ⟨ad238, A238_3, c238_3, e238, hx238_0, hx238_1, hx238_2, hx238_3, hl238_3, hi238_3⟩ := at_T62 HR0.out x6_1 p238 q238
             cases e238
             replace hx238_0 := ce HB.out hx238_0
             replace hx238_1 := ce HB.out hx238_1
             replace hx238_2 := ce HB.out hx238_2
             replace hx238_3 := ce HB.out hx238_3
             have HR238_3 := As.mk hi238_3
             have HC238_3 := As.mk hl238_3
             clear hi238_3 hl238_3
             replace p238 := eq_true p238
             replace q238 := eq_true q238
             have p239 : 0 ≤ (x8_5 : Int) := od
             have q239 : x8_5 < (((rd_T62 l0 x6_1).f3).length : Int) := od
             obtain ⟨ad239, e239, hx239_0⟩ := Kd.at_int HR238_3.out x8_5 p239 q239
             cases e239
             replace hx239_0 := ce HB.out hx239_0
             replace p239 := eq_true p239
             replace q239 := eq_true q239
             obtain ⟨Ao33, co33, eo33⟩ := Kd.R_slice HO_5.out
             subst eo33
             have p240 : 0 ≤ ((rd ((rd_T62 l0 x6_1).f3) x8_5) : Int) := od
             have q240 : (rd ((rd_T62 l0 x6_1).f3) x8_5) < (x5_1.length : Int) := od
             obtain ⟨ad240, e240, hx240_0⟩ := Kd.at_int (Kd.R_reads' HO_5.out).2.2 (rd ((rd_T62 l0 x6_1).f3) x8_5) p240 q240
             cases e240
             replace p240 := eq_true p240
             replace q240 := eq_true q240
             have p241 : 0 ≤ (x6_1 : Int) := od
             have q241 : x6_1 < (l0.length : Int) := od
             obtain ⟨ad241, A241_3, c241_3, e241, hx241_0, hx241_1, hx241_2, hx241_3, hl241_3, hi241_3⟩ := at_T62 HR0.out x6_1 p241 q241
             obtain rfl : ad238 = ad241 := (by injection e241)
             replace hx241_0 := ce HB.out hx241_0
             replace hx241_1 := ce HB.out hx241_1
             replace hx241_2 := ce HB.out hx241_2
             replace hx241_3 := ce HB.out hx241_3
             have HR241_3 := As.mk hi241_3
             have HC241_3 := As.mk hl241_3
             clear hi241_3 hl241_3
             replace p241 := eq_true p241
             replace q241 := eq_true q241
             have ea_ := Option.some.inj (hx238_3.symm.trans hx241_3)
             injection ea_ with ea_ en_ ec_
             subst ea_
             subst ec_
             clear en_
             have p242 : 0 ≤ (x8_5 : Int) := od
             have q242 : x8_5 < (((rd_T62 l0 x6_1).f3).length : Int) := od
             obtain ⟨ad242, e242, hx242_0⟩ := Kd.at_int HR241_3.out x8_5 p242 q242
             cases e242
             replace hx242_0 := ce HB.out hx242_0
             replace p242 := eq_true p242
             replace q242 := eq_true q242
             have p243 : 0 ≤ ((rd ((rd_T62 l0 x6_1).f3) x8_5) : Int) := od
             have q243 : (rd ((rd_T62 l0 x6_1).f3) x8_5) < (x5_1.length : Int) := od
             obtain ⟨ad243, e243, hx243_0⟩ := Kd.at_int (Kd.R_reads' HO_5.out).2.2 (rd ((rd_T62 l0 x6_1).f3) x8_5) p243 q243
             obtain rfl : ad240 = ad243 := (by injection e243)
             replace p243 := eq_true p243
             replace q243 := eq_true q243
             go_wp2
             go_roundg kj20
             case measure => have := HK1.out; have := HJ4.out; have := HJ7.out; have := HJ18.out; have := HK5.out; have := HJ20.out; omega
             case rel => exact ⟨(wrap64 ((rd x5_1 (rd ((rd_T62 l0 x6_1).f3) x8_5)) + 1)), (wrap64 (x8_5 + 1)), (by first | rfl | (simp; done) | (simp [*]; done)), (by first | rfl | (simp; done) | (simp [*]; done)), H', ⟨by have := HK1.out; have := HJ4.out; have := HJ7.out; have := HJ18.out; have := HK5.out; have := HJ20.out; omega⟩, ⟨by (with_reducible repeat (first | apply Kd.R_alloc | apply Kd.R_drewN | apply Kd.R_drew)); exact HO_5.out⟩, ⟨be w⟩⟩
/-! ### spec_DeepOf: function 43 -/
def spec_DeepOf.f (k : Nat) (l0 : List (S62)) (a1 : Int) : Option (Int) := (spec_l01In.f a1 0 (wrap64 ((l0.length : Int) - 1))).bind fun t250 => (if t250 = true then ((spec_l04Deeps.f k l0 a1).bind fun t251 => (if 0 ≤ a1 then (if a1 < (t251.length : Int) then (some (rd t251 a1)) else (none)) else (none))) else (some 0))
theorem spec_DeepOf.mono : ∀ a0 a1 k, LeO (spec_DeepOf.f k a0 a1) (spec_DeepOf.f (k + 1) a0 a1) := by
 intro a0 a1 k
 unfold spec_DeepOf.f
 with_reducible repeat' first | exact spec_l04Deeps.mono _ _ _ | exact LeO.refl _ | exact LeO.none _ | refine LeO.ite ?_ ?_ | refine LeO.bind ?_ (fun _ => ?_)
set_option maxHeartbeats 8000000 in
set_option maxRecDepth 100000 in
theorem spec_DeepOf.calls (k : Nat) (A0 : Option Addr) (c0 : Nat) (l0 : List (S62)) (a1 : Int) (r : Int) (w : World) (hr0 : Kd.C k62 w A0 l0.length l0) (hc0 : l0.length ≤ c0) (h : spec_DeepOf.f k l0 a1 = some r) :
  Calls Tryz.prog 43 #[.slice A0 l0.length c0, .int .i64 a1] w fun e w' => e = .returned (.int .i64 r) ∧ Below w.heap.size w w' := by
 have HR0 := As.mk hr0
 have HC0 := As.mk hc0
 clear hr0 hc0
 have HB := As.mk (Below.refl w.heap.size w)
 have H : ((spec_l01In.f a1 0 (wrap64 ((l0.length : Int) - 1))).bind fun t250 => (if t250 = true then ((spec_l04Deeps.f k l0 a1).bind fun t251 => (if 0 ≤ a1 then (if a1 < (t251.length : Int) then (some (rd t251 a1)) else (none)) else (none))) else (some 0))) = some r := h
 clear h
 obtain ⟨t250, A30, H⟩ := Option.bind_eq_some_iff.mp H
 try dsimp only at H
 have A3 := As.mk A30
 clear A30
 by_cases c4 : t250 = true
 rotate_left
 ·
  replace c4 := Bool.eq_false_iff.mpr c4
  subst c4
  rw [if_neg (show ¬ (false = true) by decide)] at H
  obtain rfl := Option.some.inj H
  go_enter Tryz.func43, Tryz.ntmps43
  go_wp2_with (first | ((with_reducible refine gate_callee (f := 33) rfl ?_); refine goesL_ (some 9) rfl rfl Tryz.func33 (by kernel_rfl) rfl #[.int .i64 a1, .int .i64 0, .int .i64 (wrap64 ((l0.length : Int) - 1))] rfl gl ?_; (with_reducible refine (spec_l01In.calls a1 0 (wrap64 ((l0.length : Int) - 1)) false _ A3.out).mono ?_); rintro e w' ⟨rfl, ⟨nd, rfl⟩⟩; refine ⟨_, rfl, ?_⟩))
  go_ret
  exact ⟨ez, be w⟩

 subst c4
 rw [if_pos rfl] at H
 obtain ⟨t251, A50, H⟩ := Option.bind_eq_some_iff.mp H
 try dsimp only at H
 have A5 := As.mk A50
 clear A50
 have c6 := i1 H; replace H := i2 H
 have c6b0 := decide_eq_true c6
 clear c6
 have c7 := i1 H; replace H := i2 H
 have c7b0 := decide_eq_true c7
 clear c7
 obtain rfl := Option.some.inj H
 go_enter Tryz.func43, Tryz.ntmps43
 go_wp2_with (first | ((with_reducible refine gate_callee (f := 33) rfl ?_); refine goesL_ (some 9) rfl rfl Tryz.func33 (by kernel_rfl) rfl #[.int .i64 a1, .int .i64 0, .int .i64 (wrap64 ((l0.length : Int) - 1))] rfl gl ?_; (with_reducible refine (spec_l01In.calls a1 0 (wrap64 ((l0.length : Int) - 1)) true _ A3.out).mono ?_); rintro e w' ⟨rfl, ⟨nd, rfl⟩⟩; refine ⟨_, rfl, ?_⟩) | ((with_reducible refine gate_callee (f := 71) rfl ?_); refine goesL_ (some 13) rfl rfl Tryz.func71 (by kernel_rfl) rfl #[.slice A0 l0.length c0, .int .i64 a1] rfl gl ?_; (with_reducible refine (spec_l04Deeps.calls k _ _ l0 a1 t251 _ ?side1 ?side2 A5.out).mono ?_); (case side1 => repeat (first | exact HR0.out | (with_reducible refine Kd.C_alloc ?_ _) | (with_reducible refine Kd.C_drewN ?_ _) | (with_reducible refine Kd.C_drew ?_))); (case side2 => exact HC0.out); rintro e w8 ⟨v252, rfl, ho0, hb⟩; refine ⟨_, rfl, ?_⟩; have HO253 := As.mk (Kd.R_lower ho0 (below_size (be w))); replace HB := As.mk (below_step (be w) hb); (try clear hb); (try clear ho0); obtain ⟨Ao9, co9, eo9⟩ := Kd.R_slice HO253.out; subst eo9; have p254 : 0 ≤ (a1 : Int) := od; have q254 : a1 < (t251.length : Int) := od; obtain ⟨ad254, e254, hx254_0⟩ := Kd.at_int (Kd.R_reads' HO253.out).2.2 a1 p254 q254; cases e254; replace p254 := eq_true p254; replace q254 := eq_true q254))
 go_ret
 exact ⟨ez, be w⟩
/-! ### spec_l01Figure: function 105 -/
def spec_l01Figure.f (a0 : Int) : Option (Int) := if a0 < 10 then (some ((wrap64 (48 + a0)) % 256)) else (some ((wrap64 ((wrap64 (97 + a0)) - 10)) % 256))
set_option maxHeartbeats 8000000 in
set_option maxRecDepth 100000 in
theorem spec_l01Figure.calls (a0 : Int) (r : Int) (w : World) (h : spec_l01Figure.f a0 = some r) :
  Calls Tryz.prog 105 #[.int .i64 a0] w fun e w' => e = .returned (.int .u8 r) ∧ Drawn0 w w' := by
 have H : (if a0 < 10 then (some ((wrap64 (48 + a0)) % 256)) else (some ((wrap64 ((wrap64 (97 + a0)) - 10)) % 256))) = some r := h
 clear h
 by_cases c2 : a0 < 10
 ·
  rw [if_pos c2] at H
  have c2b0 := decide_eq_true c2
  clear c2
  obtain rfl := Option.some.inj H
  go_enter Tryz.func105, Tryz.ntmps105
  go_wp2
  go_ret
  exact dw
 rw [if_neg c2] at H
 have c2b0 : decide (a0 < 10) = false := decide_eq_false c2
 clear c2
 obtain rfl := Option.some.inj H
 go_enter Tryz.func105, Tryz.ntmps105
 go_wp2
 go_ret
 exact dw

/-! ### spec_Decimal: function 78 -/
def spec_Decimal.l0 : Nat → Int → Bool → ByteArray → Option (ByteArray)
 | 0, _, _, _ => none
 | k + 1, x0, x3, x4 => if x0 = 0 then (if x3 = true then (if 1 + x4.size ≤ 9223372036854775807 then (some ((⟨#[45]⟩ : ByteArray) ++ x4)) else (none)) else (some x4)) else (if (Int.tmod x0 10) < 0 then ((spec_l01Figure.f (wrap64 (-(Int.tmod x0 10)))).bind fun t255 => ((some (([t255] : List Int) : List Int)).bind fun y256 => (if (strOfNums y256).size + x4.size ≤ 9223372036854775807 then (spec_Decimal.l0 k (wrap64 (Int.tdiv x0 10)) x3 ((strOfNums y256) ++ x4)) else (none)))) else ((spec_l01Figure.f (Int.tmod x0 10)).bind fun t259 => ((some (([t259] : List Int) : List Int)).bind fun y260 => (if (strOfNums y260).size + x4.size ≤ 9223372036854775807 then (spec_Decimal.l0 k (wrap64 (Int.tdiv x0 10)) x3 ((strOfNums y260) ++ x4)) else (none)))))
def spec_Decimal.f (k : Nat) (a0 : Int) : Option (ByteArray) := if a0 = 0 then (some (⟨#[48]⟩ : ByteArray)) else (spec_Decimal.l0 k a0 (decide (a0 < 0)) (⟨#[]⟩ : ByteArray))
theorem spec_Decimal.mono_l : ∀ k, (∀ y0 y1 y2, LeO (spec_Decimal.l0 k y0 y1 y2) (spec_Decimal.l0 (k + 1) y0 y1 y2))
 | 0 => fun _ _ _ r h => by simp [spec_Decimal.l0] at h
 | k + 1 => by
  have ih0 := spec_Decimal.mono_l k
  ·
   intro y0 y1 y2
   unfold spec_Decimal.l0
   with_reducible repeat' first | exact ih0 _ _ _ | exact LeO.refl _ | exact LeO.none _ | refine LeO.ite ?_ ?_ | refine LeO.bind ?_ (fun _ => ?_)
theorem spec_Decimal.mono : ∀ a0 k, LeO (spec_Decimal.f k a0) (spec_Decimal.f (k + 1) a0) := by
 intro a0 k
 have ih0 := spec_Decimal.mono_l k
 unfold spec_Decimal.f
 with_reducible repeat' first | exact ih0 _ _ _ | exact LeO.refl _ | exact LeO.none _ | refine LeO.ite ?_ ?_ | refine LeO.bind ?_ (fun _ => ?_)
set_option maxHeartbeats 8000000 in
set_option maxRecDepth 100000 in
theorem spec_Decimal.calls (k : Nat) (a0 : Int) (r : ByteArray) (w : World) (h : spec_Decimal.f k a0 = some r) :
  Calls Tryz.prog 78 #[.int .i64 a0] w fun e w' => e = .returned (.string r) ∧ Below w.heap.size w w' := by
 have HB := As.mk (Below.refl w.heap.size w)
 have H : (if a0 = 0 then (some (⟨#[48]⟩ : ByteArray)) else (spec_Decimal.l0 k a0 (decide (a0 < 0)) (⟨#[]⟩ : ByteArray))) = some r := h
 clear h
 by_cases c2 : a0 = 0
 ·
  rw [if_pos c2] at H
  have c2b0 : (a0 == 0) = true := beq_iff_eq.mpr c2
  have c2b1 : (a0 != 0) = false := bne_eq_false_iff_eq.mpr c2
  clear c2
  obtain rfl := Option.some.inj H
  go_enter Tryz.func78, Tryz.ntmps78
  go_wp2
  go_ret
  exact ⟨ez, be w⟩
 rw [if_neg c2] at H
 have c2b0 : (a0 == 0) = false := beq_eq_false_iff_ne.mpr c2
 have c2b1 : (a0 != 0) = true := bne_iff_ne.mpr c2
 have H' := As.mk H
 clear H
 go_enter Tryz.func78, Tryz.ntmps78
 go_wp2
 go_loopg [0, 4] k (fun kq v0 v4 w' => ∃ (x0_1 : Int) (x4_1 : ByteArray), v0 = .int .i64 x0_1 ∧ v4 = .string x4_1 ∧ As (spec_Decimal.l0 kq x0_1 (decide (a0 < 0)) x4_1 = some r) ∧ As (kq ≤ k) ∧ As (Below w.heap.size w w'))
 case atStart => exact ⟨(a0), ((⟨#[]⟩ : ByteArray)), (by first | rfl | (simp; done) | (simp [*]; done)), (by first | rfl | (simp; done) | (simp [*]; done)), H', ⟨Nat.le_refl _⟩, ⟨be w⟩⟩
 case round =>
  clear H'
  (try clear c2); (try clear c2b0); (try clear c2b1)
  obtain ⟨x0_1, x4_1, rfl, rfl, HA, HK1, HB⟩ := hrel
  cases gk with
  | zero => exact absurd HA.out (by simp [spec_Decimal.l0])
  | succ k1 =>
   have H := HA.out
   clear HA
   simp only [spec_Decimal.l0] at H
   by_cases c3 : x0_1 = 0
   ·
    rw [if_pos c3] at H
    have c3b0 : (x0_1 == 0) = true := beq_iff_eq.mpr c3
    have c3b1 : (x0_1 != 0) = false := bne_eq_false_iff_eq.mpr c3
    clear c3
    by_cases c4 : (decide (a0 < 0)) = true
    rotate_left
    ·
     rw [if_neg c4] at H
     have c4b0 : (decide (a0 < 0)) = false := by simpa using c4
     clear c4
     obtain rfl := Option.some.inj H
     go_wp2
     all_goals (try (exfalso; first | (have hq_ := of_decide_eq_true c4b0; omega) | (have hq_ := of_decide_eq_false c4b0; omega) | (have hq_ := of_decide_eq_true c4b0; omega) | (have hq_ := of_decide_eq_false c4b0; omega); done))
     go_ret
     exact ⟨ez, be w⟩
    rw [if_pos c4] at H
    have c4b0 : (decide (a0 < 0)) = true := c4
    clear c4
    have c5 := i1 H; replace H := i2 H
    have c5b0 := eq_true c5
    have c5b1 := decide_eq_true c5
    try have c5b2 := eq_false (Nat.not_lt.2 c5)
    obtain rfl := Option.some.inj H
    go_wp2
    all_goals (try (exfalso; first | (have hq_ := of_decide_eq_true c4b0; omega) | (have hq_ := of_decide_eq_false c4b0; omega); done))
    go_ret
    exact ⟨ez, be w⟩
   rw [if_neg c3] at H
   have c3b0 : (x0_1 == 0) = false := beq_eq_false_iff_ne.mpr c3
   have c3b1 : (x0_1 != 0) = true := bne_iff_ne.mpr c3
   by_cases c6 : (Int.tmod x0_1 10) < 0
   rotate_left
   ·
    rw [if_neg c6] at H
    have c6b0 : decide ((Int.tmod x0_1 10) < 0) = false := decide_eq_false c6
    clear c6
    obtain ⟨t259, A120, H⟩ := Option.bind_eq_some_iff.mp H
    try dsimp only at H
    have A12 := As.mk A120
    clear A120
    obtain ⟨y260, hy260⟩ : ∃ y_ : List Int, y_ = (([t259] : List Int)) := ⟨_, rfl⟩
    replace H : (if (strOfNums y260).size + x4_1.size ≤ 9223372036854775807 then (spec_Decimal.l0 k1 (wrap64 (Int.tdiv x0_1 10)) (decide (a0 < 0)) ((strOfNums y260) ++ x4_1)) else (none)) = some r := by first | (rw [hy260]; with_reducible exact H) | (have H2_ := (Option.bind_some _ _).symm.trans H; rw [hy260]; with_reducible exact H2_) | (have H2_ := (Option.bind_some _ _).symm.trans H; with_reducible exact H2_) | with_reducible exact H | (rw [hy260]; exact H) | exact H
    have Ny260 := As.mk hy260
    clear hy260
    by_cases c13 : (strOfNums y260).size + x4_1.size ≤ 9223372036854775807
    rotate_left; · rw [if_neg c13] at H; exact absurd H (by simp)

    rw [if_pos c13] at H
    have c13b0 := eq_true c13
    have c13b1 := decide_eq_true c13
    try have c13b2 := eq_false (Nat.not_lt.2 c13)
    have H' := As.mk H
    clear H
    go_wp2_with (first | ((with_reducible refine gate_callee (f := 105) rfl ?_); refine goesL_ (some 19) rfl rfl Tryz.func105 (by kernel_rfl) rfl #[.int .i64 (Int.tmod x0_1 10)] rfl gl ?_; (with_reducible refine (spec_l01Figure.calls (Int.tmod x0_1 10) t259 _ A12.out).mono ?_); rintro e w' ⟨rfl, ⟨nd, rfl⟩⟩; refine ⟨_, rfl, ?_⟩) | ((with_reducible refine gate_dst (N := 20) rfl ?_); refine Kd.R_lit (Kd.int .u8) _ 5 ?hg (N := 20) ?hd (xs := ([t259] : List Int)) (inner := [.int .u8 t259]) (ok := fun _ => True) (okp := fun _ => True) ?hr ?hp (fun _ hk => hk) trivial (Below.refl _ _) (Nat.le_refl _) (by simp) ?_; (case hd => rfl); (case hg => rfl); (case hr => first | (go_simp; done) | (go_simp; rfl)); (case hp => exact (Reps.one (show Kd.M (Kd.int .u8) _ _ _ t259 [.int .u8 t259] from rfl) (Reps.none _ _))); intro v261 w14 ho15 hb hg_ hnew_; clear hg_ hnew_; (first | rw [← Ny260.out] at ho15 | (simp only [Int.reduceToNat] at ho15; rw [← Ny260.out] at ho15)); have HO262 := As.mk (Kd.R_lower ho15 (below_size (be w))); replace HB := As.mk (below_step (be w) hb); clear hb ho15; have hcv16 := own_string (P := Tryz.prog) Tryz.underlying90 Tryz.underlying5 Tryz.underlying9 (Kd.own_of_R HO262.out)))
    go_roundg k1
    case measure => have := HK1.out; omega
    case rel => exact ⟨(wrap64 (Int.tdiv x0_1 10)), ((strOfNums y260) ++ x4_1), (by first | rfl | (simp; done) | (simp [*]; done)), (by first | rfl | (simp; done) | (simp [*]; done)), H', ⟨by have := HK1.out; omega⟩, ⟨be w⟩⟩
   rw [if_pos c6] at H
   have c6b0 := decide_eq_true c6
   clear c6
   obtain ⟨t255, A70, H⟩ := Option.bind_eq_some_iff.mp H
   try dsimp only at H
   have A7 := As.mk A70
   clear A70
   obtain ⟨y256, hy256⟩ : ∃ y_ : List Int, y_ = (([t255] : List Int)) := ⟨_, rfl⟩
   replace H : (if (strOfNums y256).size + x4_1.size ≤ 9223372036854775807 then (spec_Decimal.l0 k1 (wrap64 (Int.tdiv x0_1 10)) (decide (a0 < 0)) ((strOfNums y256) ++ x4_1)) else (none)) = some r := by first | (rw [hy256]; with_reducible exact H) | (have H2_ := (Option.bind_some _ _).symm.trans H; rw [hy256]; with_reducible exact H2_) | (have H2_ := (Option.bind_some _ _).symm.trans H; with_reducible exact H2_) | with_reducible exact H | (rw [hy256]; exact H) | exact H
   have Ny256 := As.mk hy256
   clear hy256
   have c8 := i1 H; replace H := i2 H
   have c8b0 := eq_true c8
   have c8b1 := decide_eq_true c8
   try have c8b2 := eq_false (Nat.not_lt.2 c8)
   have H' := As.mk H
   clear H
   go_wp2_with (first | ((with_reducible refine gate_callee (f := 105) rfl ?_); refine goesL_ (some 19) rfl rfl Tryz.func105 (by kernel_rfl) rfl #[.int .i64 (wrap64 (-(Int.tmod x0_1 10)))] rfl gl ?_; (with_reducible refine (spec_l01Figure.calls (wrap64 (-(Int.tmod x0_1 10))) t255 _ A7.out).mono ?_); rintro e w' ⟨rfl, ⟨nd, rfl⟩⟩; refine ⟨_, rfl, ?_⟩) | ((with_reducible refine gate_dst (N := 20) rfl ?_); refine Kd.R_lit (Kd.int .u8) _ 5 ?hg (N := 20) ?hd (xs := ([t255] : List Int)) (inner := [.int .u8 t255]) (ok := fun _ => True) (okp := fun _ => True) ?hr ?hp (fun _ hk => hk) trivial (Below.refl _ _) (Nat.le_refl _) (by simp) ?_; (case hd => rfl); (case hg => rfl); (case hr => first | (go_simp; done) | (go_simp; rfl)); (case hp => exact (Reps.one (show Kd.M (Kd.int .u8) _ _ _ t255 [.int .u8 t255] from rfl) (Reps.none _ _))); intro v257 w9 ho10 hb hg_ hnew_; clear hg_ hnew_; (first | rw [← Ny256.out] at ho10 | (simp only [Int.reduceToNat] at ho10; rw [← Ny256.out] at ho10)); have HO258 := As.mk (Kd.R_lower ho10 (below_size (be w))); replace HB := As.mk (below_step (be w) hb); clear hb ho10; have hcv11 := own_string (P := Tryz.prog) Tryz.underlying90 Tryz.underlying5 Tryz.underlying9 (Kd.own_of_R HO258.out)))
   go_roundg k1
   case measure => have := HK1.out; omega
   case rel => exact ⟨(wrap64 (Int.tdiv x0_1 10)), ((strOfNums y256) ++ x4_1), (by first | rfl | (simp; done) | (simp [*]; done)), (by first | rfl | (simp; done) | (simp [*]; done)), H', ⟨by have := HK1.out; omega⟩, ⟨be w⟩⟩
/-! ### spec_l06Pair: function 106 -/
def spec_l06Pair.f (a0 : Int) : Option (Bool) := (spec_l01In.f a0 9 11).bind fun t263 => (some t263)
set_option maxHeartbeats 8000000 in
set_option maxRecDepth 100000 in
theorem spec_l06Pair.calls (a0 : Int) (r : Bool) (w : World) (h : spec_l06Pair.f a0 = some r) :
  Calls Tryz.prog 106 #[.int .i64 a0] w fun e w' => e = .returned (.bool r) ∧ Drawn0 w w' := by
 have H : ((spec_l01In.f a0 9 11).bind fun t263 => (some t263)) = some r := h
 clear h
 obtain ⟨t263, A20, H⟩ := Option.bind_eq_some_iff.mp H
 try dsimp only at H
 have A2 := As.mk A20
 clear A20
 obtain rfl := Option.some.inj H
 go_enter Tryz.func106, Tryz.ntmps106
 go_wp2_with (first | ((with_reducible refine gate_callee (f := 33) rfl ?_); refine goesL_ (some 4) rfl rfl Tryz.func33 (by kernel_rfl) rfl #[.int .i64 a0, .int .i64 9, .int .i64 11] rfl gl ?_; (with_reducible refine (spec_l01In.calls a0 9 11 t263 _ A2.out).mono ?_); rintro e w' ⟨rfl, ⟨nd, rfl⟩⟩; refine ⟨_, rfl, ?_⟩))
 go_ret
 exact dw

/-! ### spec_l06Sign: function 80 -/
def spec_l06Sign.f (a0 : Int) : Option (ByteArray) := if a0 = 9 then (some (⟨#[32, 43, 32]⟩ : ByteArray)) else (if a0 = 10 then (some (⟨#[32, 60, 32]⟩ : ByteArray)) else (some (⟨#[32, 61, 61, 32]⟩ : ByteArray)))
set_option maxHeartbeats 8000000 in
set_option maxRecDepth 100000 in
theorem spec_l06Sign.calls (a0 : Int) (r : ByteArray) (w : World) (h : spec_l06Sign.f a0 = some r) :
  Calls Tryz.prog 80 #[.int .i64 a0] w fun e w' => e = .returned (.string r) ∧ Drawn0 w w' := by
 have H : (if a0 = 9 then (some (⟨#[32, 43, 32]⟩ : ByteArray)) else (if a0 = 10 then (some (⟨#[32, 60, 32]⟩ : ByteArray)) else (some (⟨#[32, 61, 61, 32]⟩ : ByteArray)))) = some r := h
 clear h
 by_cases c2 : a0 = 9
 ·
  rw [if_pos c2] at H
  have c2b0 : (a0 == 9) = true := beq_iff_eq.mpr c2
  have c2b1 : (a0 != 9) = false := bne_eq_false_iff_eq.mpr c2
  clear c2
  obtain rfl := Option.some.inj H
  go_enter Tryz.func80, Tryz.ntmps80
  go_wp2
  go_ret
  exact dw
 rw [if_neg c2] at H
 have c2b0 : (a0 == 9) = false := beq_eq_false_iff_ne.mpr c2
 have c2b1 : (a0 != 9) = true := bne_iff_ne.mpr c2
 by_cases c3 : a0 = 10
 rotate_left
 ·
  rw [if_neg c3] at H
  have c3b0 : (a0 == 10) = false := beq_eq_false_iff_ne.mpr c3
  have c3b1 : (a0 != 10) = true := bne_iff_ne.mpr c3
  obtain rfl := Option.some.inj H
  go_enter Tryz.func80, Tryz.ntmps80
  go_wp2
  go_ret
  exact dw

 rw [if_pos c3] at H
 have c3b0 : (a0 == 10) = true := beq_iff_eq.mpr c3
 have c3b1 : (a0 != 10) = false := bne_eq_false_iff_eq.mpr c3
 clear c3
 obtain rfl := Option.some.inj H
 go_enter Tryz.func80, Tryz.ntmps80
 go_wp2
 go_ret
 exact dw
end Go.Proofs.YtcoapbnbakmkoaaGreatDoor.PFnExactShowStep
