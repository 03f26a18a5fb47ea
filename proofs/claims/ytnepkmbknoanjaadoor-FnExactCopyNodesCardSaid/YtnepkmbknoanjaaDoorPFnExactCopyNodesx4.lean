/- Written by a program of this session (a turned copy of the kit's print): a contract for each Go function. No condition beside those in each statement. -/
import Derived.Test.YtnepkmbknoanjaaDoorPFnExactCopyNodesx0
import Derived.Test.YtnepkmbknoanjaaDoorPFnExactCopyNodesx1
import Derived.Test.YtnepkmbknoanjaaDoorPFnExactCopyNodesx3
namespace Go.Proofs.YtnepkmbknoanjaaDoor.PFnExactCopyNodes
open Go.RowKit Go.Proofs.YtnepkmbknoanjaaDoor.Given Go.Proofs.YtnepkmbknoanjaaDoorW.PrintWords Go.Proofs.YtnepkmbknoanjaaDoorW.PrintLast Go.Proofs.YtnepkmbknoanjaaDoorW.PrintMore
attribute [local go_sem] max2_int min2_int max_two min_two max_three min_three max_four min_four   -- for this text's walks alone
set_option linter.unusedVariables false
set_option linter.unusedSimpArgs false

/-! ### spec_l04Deeps: function 34 -/
mutual
def spec_l04Deeps.l0 : Nat → List (S52) → Int → List Int → Int → Option (List Int)
 | 0, _, _, _, _ => none
 | k + 1, x0, x1, x5, x6 => if x6 ≤ x1 then (spec_l04Deeps.j1 k x0 x1 x5 x6 (decide (x6 < (x0.length : Int)))) else (spec_l04Deeps.j1 k x0 x1 x5 x6 false)
def spec_l04Deeps.j1 : Nat → List (S52) → Int → List Int → Int → Bool → Option (List Int)
 | 0, _, _, _, _, _ => none
 | k + 1, x0, x1, x5, x6, x18 => if x18 = true then ((spec_NodeOk.f k x0 x6).bind fun t153 => (if t153 = true then (if x6 > 0 then (if 0 ≤ (wrap64 (x6 - 1)) then (if (wrap64 (x6 - 1)) < (x5.length : Int) then (spec_l04Deeps.j2 k x0 x1 x5 x6 1 ((rd x5 (wrap64 (x6 - 1))) == 0)) else (none)) else (none)) else (spec_l04Deeps.j2 k x0 x1 x5 x6 1 false)) else (spec_l04Deeps.j2 k x0 x1 x5 x6 1 true))) else (some x5)
def spec_l04Deeps.j2 : Nat → List (S52) → Int → List Int → Int → Int → Bool → Option (List Int)
 | 0, _, _, _, _, _, _ => none
 | k + 1, x0, x1, x5, x6, x7, x36 => if x36 = true then (spec_l04Deeps.j3 k x0 x1 x5 x6 0) else (spec_l04Deeps.j3 k x0 x1 x5 x6 x7)
def spec_l04Deeps.j3 : Nat → List (S52) → Int → List Int → Int → Int → Option (List Int)
 | 0, _, _, _, _, _ => none
 | k + 1, x0, x1, x5, x6, x7 => spec_l04Deeps.l1 k x0 x1 x5 x6 x7 0
def spec_l04Deeps.l1 : Nat → List (S52) → Int → List Int → Int → Int → Int → Option (List Int)
 | 0, _, _, _, _, _, _ => none
 | k + 1, x0, x1, x5, x6, x7, x8 => if x7 > 0 then (if 0 ≤ x6 then (if x6 < (x0.length : Int) then (spec_l04Deeps.j5 k x0 x1 x5 x6 x7 x8 (decide (x8 < (((rd_T52 x0 x6).f3).length : Int)))) else (none)) else (none)) else (spec_l04Deeps.j5 k x0 x1 x5 x6 x7 x8 false)
def spec_l04Deeps.j5 : Nat → List (S52) → Int → List Int → Int → Int → Int → Bool → Option (List Int)
 | 0, _, _, _, _, _, _, _ => none
 | k + 1, x0, x1, x5, x6, x7, x8, x48 => if x48 = true then (if 0 ≤ x6 then (if x6 < (x0.length : Int) then (if 0 ≤ x8 then (if x8 < (((rd_T52 x0 x6).f3).length : Int) then (if 0 ≤ (rd ((rd_T52 x0 x6).f3) x8) then (if (rd ((rd_T52 x0 x6).f3) x8) < (x5.length : Int) then (if (wrap64 ((rd x5 (rd ((rd_T52 x0 x6).f3) x8)) + 1)) > x7 then (spec_l04Deeps.l1 k x0 x1 x5 x6 (wrap64 ((rd x5 (rd ((rd_T52 x0 x6).f3) x8)) + 1)) (wrap64 (x8 + 1))) else (spec_l04Deeps.l1 k x0 x1 x5 x6 x7 (wrap64 (x8 + 1)))) else (none)) else (none)) else (none)) else (none)) else (none)) else (none)) else (if x7 > 10 then (if x5.length < 17592186044416 then (spec_l04Deeps.l0 k x0 x1 (x5 ++ [0]) (wrap64 (x6 + 1))) else (none)) else (if x5.length < 17592186044416 then (spec_l04Deeps.l0 k x0 x1 (x5 ++ [x7]) (wrap64 (x6 + 1))) else (none)))
end
def spec_l04Deeps.f (k : Nat) (l0 : List (S52)) (a1 : Int) : Option (List Int) := spec_l04Deeps.l0 k l0 a1 (([] : List Int)) 0
theorem spec_l04Deeps.mono_l : ∀ k, (∀ y0 y1 y2 y3, LeO (spec_l04Deeps.l0 k y0 y1 y2 y3) (spec_l04Deeps.l0 (k + 1) y0 y1 y2 y3)) ∧ (∀ y0 y1 y2 y3 y4, LeO (spec_l04Deeps.j1 k y0 y1 y2 y3 y4) (spec_l04Deeps.j1 (k + 1) y0 y1 y2 y3 y4)) ∧ (∀ y0 y1 y2 y3 y4 y5, LeO (spec_l04Deeps.j2 k y0 y1 y2 y3 y4 y5) (spec_l04Deeps.j2 (k + 1) y0 y1 y2 y3 y4 y5)) ∧ (∀ y0 y1 y2 y3 y4, LeO (spec_l04Deeps.j3 k y0 y1 y2 y3 y4) (spec_l04Deeps.j3 (k + 1) y0 y1 y2 y3 y4)) ∧ (∀ y0 y1 y2 y3 y4 y5, LeO (spec_l04Deeps.l1 k y0 y1 y2 y3 y4 y5) (spec_l04Deeps.l1 (k + 1) y0 y1 y2 y3 y4 y5)) ∧ (∀ y0 y1 y2 y3 y4 y5 y6, LeO (spec_l04Deeps.j5 k y0 y1 y2 y3 y4 y5 y6) (spec_l04Deeps.j5 (k + 1) y0 y1 y2 y3 y4 y5 y6))
 | 0 => ⟨fun _ _ _ _ r h => by simp [spec_l04Deeps.l0] at h, fun _ _ _ _ _ r h => by simp [spec_l04Deeps.j1] at h, fun _ _ _ _ _ _ r h => by simp [spec_l04Deeps.j2] at h, fun _ _ _ _ _ r h => by simp [spec_l04Deeps.j3] at h, fun _ _ _ _ _ _ r h => by simp [spec_l04Deeps.l1] at h, fun _ _ _ _ _ _ _ r h => by simp [spec_l04Deeps.j5] at h⟩
 | k + 1 => by
  obtain ⟨ih0, ih1, ih2, ih3, ih4, ih5⟩ := spec_l04Deeps.mono_l k
  refine ⟨?_, ?_, ?_, ?_, ?_, ?_⟩
  ·
   intro y0 y1 y2 y3
   unfold spec_l04Deeps.l0
   with_reducible repeat' first | exact ih0 _ _ _ _ | exact ih1 _ _ _ _ _ | exact ih2 _ _ _ _ _ _ | exact ih3 _ _ _ _ _ | exact ih4 _ _ _ _ _ _ | exact ih5 _ _ _ _ _ _ _ | exact spec_NodeOk.mono _ _ _ | exact LeO.refl _ | exact LeO.none _ | refine LeO.ite ?_ ?_ | refine LeO.bind ?_ (fun _ => ?_)
  ·
   intro y0 y1 y2 y3 y4
   unfold spec_l04Deeps.j1
   with_reducible repeat' first | exact ih0 _ _ _ _ | exact ih1 _ _ _ _ _ | exact ih2 _ _ _ _ _ _ | exact ih3 _ _ _ _ _ | exact ih4 _ _ _ _ _ _ | exact ih5 _ _ _ _ _ _ _ | exact spec_NodeOk.mono _ _ _ | exact LeO.refl _ | exact LeO.none _ | refine LeO.ite ?_ ?_ | refine LeO.bind ?_ (fun _ => ?_)
  ·
   intro y0 y1 y2 y3 y4 y5
   unfold spec_l04Deeps.j2
   with_reducible repeat' first | exact ih0 _ _ _ _ | exact ih1 _ _ _ _ _ | exact ih2 _ _ _ _ _ _ | exact ih3 _ _ _ _ _ | exact ih4 _ _ _ _ _ _ | exact ih5 _ _ _ _ _ _ _ | exact spec_NodeOk.mono _ _ _ | exact LeO.refl _ | exact LeO.none _ | refine LeO.ite ?_ ?_ | refine LeO.bind ?_ (fun _ => ?_)
  ·
   intro y0 y1 y2 y3 y4
   unfold spec_l04Deeps.j3
   with_reducible repeat' first | exact ih0 _ _ _ _ | exact ih1 _ _ _ _ _ | exact ih2 _ _ _ _ _ _ | exact ih3 _ _ _ _ _ | exact ih4 _ _ _ _ _ _ | exact ih5 _ _ _ _ _ _ _ | exact spec_NodeOk.mono _ _ _ | exact LeO.refl _ | exact LeO.none _ | refine LeO.ite ?_ ?_ | refine LeO.bind ?_ (fun _ => ?_)
  ·
   intro y0 y1 y2 y3 y4 y5
   unfold spec_l04Deeps.l1
   with_reducible repeat' first | exact ih0 _ _ _ _ | exact ih1 _ _ _ _ _ | exact ih2 _ _ _ _ _ _ | exact ih3 _ _ _ _ _ | exact ih4 _ _ _ _ _ _ | exact ih5 _ _ _ _ _ _ _ | exact spec_NodeOk.mono _ _ _ | exact LeO.refl _ | exact LeO.none _ | refine LeO.ite ?_ ?_ | refine LeO.bind ?_ (fun _ => ?_)
  ·
   intro y0 y1 y2 y3 y4 y5 y6
   unfold spec_l04Deeps.j5
   with_reducible repeat' first | exact ih0 _ _ _ _ | exact ih1 _ _ _ _ _ | exact ih2 _ _ _ _ _ _ | exact ih3 _ _ _ _ _ | exact ih4 _ _ _ _ _ _ | exact ih5 _ _ _ _ _ _ _ | exact spec_NodeOk.mono _ _ _ | exact LeO.refl _ | exact LeO.none _ | refine LeO.ite ?_ ?_ | refine LeO.bind ?_ (fun _ => ?_)
theorem spec_l04Deeps.mono : ∀ a0 a1 k, LeO (spec_l04Deeps.f k a0 a1) (spec_l04Deeps.f (k + 1) a0 a1) := by
 intro a0 a1 k
 obtain ⟨ih0, ih1, ih2, ih3, ih4, ih5⟩ := spec_l04Deeps.mono_l k
 unfold spec_l04Deeps.f
 with_reducible repeat' first | exact ih0 _ _ _ _ | exact ih1 _ _ _ _ _ | exact ih2 _ _ _ _ _ _ | exact ih3 _ _ _ _ _ | exact ih4 _ _ _ _ _ _ | exact ih5 _ _ _ _ _ _ _ | exact spec_NodeOk.mono _ _ _ | exact LeO.refl _ | exact LeO.none _ | refine LeO.ite ?_ ?_ | refine LeO.bind ?_ (fun _ => ?_)
set_option maxHeartbeats 8000000 in
set_option maxRecDepth 100000 in
theorem spec_l04Deeps.calls (k : Nat) (A0 : Option Addr) (c0 : Nat) (l0 : List (S52)) (a1 : Int) (r : List Int) (w : World) (hr0 : Kd.C k52 w A0 l0.length l0) (hc0 : l0.length ≤ c0) (h : spec_l04Deeps.f k l0 a1 = some r) :
  Calls Tryd.prog 34 #[.slice A0 l0.length c0, .int .i64 a1] w fun e w' => ∃ v0_ : Value, e = .returned (v0_) ∧ Kd.R (Kd.int .i64) 3 w' w.heap.size (fun _ => True) v0_ r ∧ Below w.heap.size w w' := by
 have HR0 := As.mk hr0
 have HC0 := As.mk hc0
 clear hr0 hc0
 have HB := As.mk (Below.refl w.heap.size w)
 have H : (spec_l04Deeps.l0 k l0 a1 (([] : List Int)) 0) = some r := h
 clear h
 obtain ⟨y150, hy150⟩ : ∃ y_ : List Int, y_ = (([] : List Int)) := ⟨_, rfl⟩
 replace H : (spec_l04Deeps.l0 k l0 a1 y150 0) = some r := by first | (rw [hy150]; with_reducible exact H) | (have H2_ := (Option.bind_some _ _).symm.trans H; rw [hy150]; with_reducible exact H2_) | (have H2_ := (Option.bind_some _ _).symm.trans H; with_reducible exact H2_) | with_reducible exact H | (rw [hy150]; exact H) | exact H
 have Ny150 := As.mk hy150
 clear hy150
 have H' := As.mk H
 clear H
 go_enter Tryd.func34, Tryd.ntmps34
 go_wp2_with (first | ((with_reducible refine gate_dst (N := 9) rfl ?_); (try (refine gate_guard (by rfl) ?_; dsimp only)); refine Kd.R_lit (Kd.int .i64) _ 3 ?hg (N := 9) ?hd (xs := ([] : List Int)) (inner := []) (ok := fun _ => True) (okp := fun _ => True) ?hr ?hp (fun _ hk => hk) trivial (Below.refl _ _) (Nat.le_refl _) (by simp) ?_; (case hd => rfl); (case hg => rfl); (case hr => first | (go_simp; done) | (go_simp; rfl)); (case hp => exact (Reps.none _ _)); intro v151 w3 ho4 hb hg_ hnew_; clear hg_ hnew_; (first | rw [← Ny150.out] at ho4 | (simp only [Int.reduceToNat] at ho4; rw [← Ny150.out] at ho4)); have HO152 := As.mk (Kd.R_lower ho4 (below_size (be w))); replace HB := As.mk (below_step (be w) hb); clear hb ho4))
 go_loopg [5, 6] k (fun kq v5 v6 w' => ∃ (x5_1 : List Int) (x6_1 : Int), v6 = .int .i64 x6_1 ∧ As (spec_l04Deeps.l0 kq l0 a1 x5_1 x6_1 = some r) ∧ As (kq ≤ k) ∧ As (Kd.R (Kd.int .i64) 3 w' w.heap.size (fun _ => True) v5 x5_1) ∧ As (Below w.heap.size w w'))
 case atStart => exact ⟨(y150), (0), (by first | rfl | (simp; done) | (simp [*]; done)), H', ⟨Nat.le_refl _⟩, ⟨by (with_reducible repeat (first | apply Kd.R_alloc | apply Kd.R_drewN | apply Kd.R_drew)); exact HO152.out⟩, ⟨be w⟩⟩
 case round =>
  clear H'
  obtain ⟨x5_1, x6_1, rfl, HA, HK1, HO_5, HB⟩ := hrel
  cases gk with
  | zero => exact absurd HA.out (by simp [spec_l04Deeps.l0])
  | succ k1 =>
   have H := HA.out
   clear HA
   simp only [spec_l04Deeps.l0] at H
   have HC5 := As.mk H
   clear H
   go_upto_region 3 with (fail)
   go_cut [18] (fun v18 wc => ∃ (kq : Nat) (x18_4 : Bool), v18 = .bool x18_4 ∧ As (spec_l04Deeps.j1 kq l0 a1 x5_1 x6_1 x18_4 = some r) ∧ As (kq ≤ k1) ∧ As (Kd.R (Kd.int .i64) 3 wc w.heap.size (fun _ => True) u5 x5_1) ∧ As (Below w.heap.size w wc))
   case first =>
    have H := HC5.out
    clear HC5
    by_cases c6 : x6_1 ≤ a1
    rotate_left
    ·
     rw [if_neg c6] at H
     have c6b0 : decide (x6_1 ≤ a1) = false := decide_eq_false c6
     clear c6
     (first | rw [c6b0] | (simp only [i64_w, i32_w]; rw [c6b0]) | skip)
     have H' := As.mk H
     clear H
     go_wp2
     go_meet
     case rel => exact ⟨_, (false), (by first | rfl | (simp; done) | (simp [*]; done)), H', ⟨by have := HK1.out; first | omega | exact Nat.le_refl _⟩, ⟨by (with_reducible repeat (first | apply Kd.R_alloc | apply Kd.R_drewN | apply Kd.R_drew)); exact HO_5.out⟩, ⟨be w⟩⟩
    rw [if_pos c6] at H
    have c6b0 : decide (x6_1 ≤ a1) = true := decide_eq_true c6
    clear c6
    (first | rw [c6b0] | (simp only [i64_w, i32_w]; rw [c6b0]) | skip)
    have H' := As.mk H
    clear H
    go_wp2
    go_meet
    case rel => exact ⟨_, (decide (x6_1 < (l0.length : Int))), (by first | rfl | (simp; done) | (simp [*]; done)), H', ⟨by have := HK1.out; first | omega | exact Nat.le_refl _⟩, ⟨by (with_reducible repeat (first | apply Kd.R_alloc | apply Kd.R_drewN | apply Kd.R_drew)); exact HO_5.out⟩, ⟨be w⟩⟩
   case rest =>
    clear HC5
    obtain ⟨kq, x18_4, rfl, HA, HJ4, HO_5, HB⟩ := hcut
    cases kq with
    | zero => exact absurd HA.out (by simp [spec_l04Deeps.j1])
    | succ kj4 =>
     have H := HA.out
     clear HA
     simp only [spec_l04Deeps.j1] at H
     by_cases c7 : x18_4 = true
     rotate_left
     ·
      replace c7 := Bool.eq_false_iff.mpr c7
      subst c7
      rw [if_neg (show ¬ (false = true) by decide)] at H
      obtain rfl := Option.some.inj H
      go_wp2
      go_ret
      exact ⟨_, ez, by (with_reducible repeat (first | apply Kd.R_alloc | apply Kd.R_drewN | apply Kd.R_drew)); exact HO_5.out, be w⟩

     subst c7
     rw [if_pos rfl] at H
     have HC8 := As.mk H
     clear H
     go_upto_region 6 with (fail)
     go_cut [36] (fun v36 wc => ∃ (kq : Nat) (x36_7 : Bool), v36 = .bool x36_7 ∧ As (spec_l04Deeps.j2 kq l0 a1 x5_1 x6_1 1 x36_7 = some r) ∧ As (kq ≤ kj4) ∧ As (Kd.R (Kd.int .i64) 3 wc w.heap.size (fun _ => True) u5 x5_1) ∧ As (Below w.heap.size w wc))
     case first =>
      have H := HC8.out
      clear HC8
      obtain ⟨t153, A90, H⟩ := Option.bind_eq_some_iff.mp H
      try dsimp only at H
      have A9 := As.mk A90
      clear A90
      by_cases c10 : t153 = true
      rotate_left
      ·
       replace c10 := Bool.eq_false_iff.mpr c10
       subst c10
       rw [if_neg (show ¬ (false = true) by decide)] at H
       have H' := As.mk H
       clear H
       go_wp2_with (first | ((with_reducible refine gate_callee (f := 44) rfl ?_); refine goesL_ (some 23) rfl rfl Tryd.func44 (by kernel_rfl) rfl #[.slice A0 l0.length c0, .int .i64 x6_1] rfl (by (try simp only [lm]); first | done | rfl | (simp only [List.length_drop, List.length_take]; rfl)) ?_; (with_reducible refine (spec_NodeOk.calls kj4 _ _ l0 x6_1 false _ ?side1 ?side2 A9.out).mono ?_); (case side1 => exact Kd.C_below HR0.out (be w)); (case side2 => exact HC0.out); rintro e w18 ⟨rfl, hb⟩; refine ⟨_, rfl, ?_⟩; replace HO_5 := As.mk (Kd.R_below (by (with_reducible repeat (first | apply Kd.R_alloc | apply Kd.R_drewN | apply Kd.R_drew)); exact HO_5.out) hb); replace HB := As.mk (below_step (be w) hb); (try clear hb); (try clear hb2); (try clear hk); (try clear hi)))
       go_meet
       case rel => exact ⟨_, (true), (by first | rfl | (simp; done) | (simp [*]; done)), H', ⟨by have := HK1.out; have := HJ4.out; first | omega | exact Nat.le_refl _⟩, ⟨by (with_reducible repeat (first | apply Kd.R_alloc | apply Kd.R_drewN | apply Kd.R_drew)); exact HO_5.out⟩, ⟨be w⟩⟩
      subst c10
      rw [if_pos rfl] at H
      by_cases c11 : x6_1 > 0
      rotate_left
      ·
       rw [if_neg c11] at H
       have c11b0 : decide (0 < x6_1) = false := decide_eq_false c11
       clear c11
       (first | rw [c11b0] | (simp only [i64_w, i32_w]; rw [c11b0]) | skip)
       have H' := As.mk H
       clear H
       go_wp2_with (first | ((with_reducible refine gate_callee (f := 44) rfl ?_); refine goesL_ (some 23) rfl rfl Tryd.func44 (by kernel_rfl) rfl #[.slice A0 l0.length c0, .int .i64 x6_1] rfl (by (try simp only [lm]); first | done | rfl | (simp only [List.length_drop, List.length_take]; rfl)) ?_; (with_reducible refine (spec_NodeOk.calls kj4 _ _ l0 x6_1 true _ ?side1 ?side2 A9.out).mono ?_); (case side1 => exact Kd.C_below HR0.out (be w)); (case side2 => exact HC0.out); rintro e w17 ⟨rfl, hb⟩; refine ⟨_, rfl, ?_⟩; replace HO_5 := As.mk (Kd.R_below (by (with_reducible repeat (first | apply Kd.R_alloc | apply Kd.R_drewN | apply Kd.R_drew)); exact HO_5.out) hb); replace HB := As.mk (below_step (be w) hb); (try clear hb); (try clear hb2); (try clear hk); (try clear hi)))
       go_meet
       case rel => exact ⟨_, (false), (by first | rfl | (simp; done) | (simp [*]; done)), H', ⟨by have := HK1.out; have := HJ4.out; first | omega | exact Nat.le_refl _⟩, ⟨by (with_reducible repeat (first | apply Kd.R_alloc | apply Kd.R_drewN | apply Kd.R_drew)); exact HO_5.out⟩, ⟨be w⟩⟩
      rw [if_pos c11] at H
      have c11b0 : decide (0 < x6_1) = true := decide_eq_true c11
      clear c11
      (first | rw [c11b0] | (simp only [i64_w, i32_w]; rw [c11b0]) | skip)
      obtain ⟨ji12, hji12⟩ : ∃ j_ : Int, (wrap64 (x6_1 - 1)) = j_ := ⟨_, rfl⟩
      replace H : (if 0 ≤ (ji12) then (if (ji12) < (x5_1.length : Int) then (spec_l04Deeps.j2 kj4 l0 a1 x5_1 x6_1 1 ((rd x5_1 (ji12)) == 0)) else (none)) else (none)) = some r := by first | (rw [hji12] at H; exact H) | (simp only [hji12] at H ⊢; exact H)
      (try rw [hji12] at A9)
      have hji12w : (IntKind.i64.wrap (x6_1 - 1)) = ji12 := (i64_w _).trans hji12
      by_cases c13 : 0 ≤ (ji12)
      rotate_left; · rw [if_neg c13] at H; exact absurd H (by simp)
      rw [if_pos c13] at H
      have c13b0 : decide (0 ≤ (ji12)) = true := decide_eq_true c13
      clear c13
      by_cases c14 : (ji12) < (x5_1.length : Int)
      rotate_left; · rw [if_neg c14] at H; exact absurd H (by simp)
      rw [if_pos c14] at H
      have c14b0 : decide ((ji12) < (x5_1.length : Int)) = true := decide_eq_true c14
      clear c14
      have H' := As.mk H
      clear H
      go_wp2_with (first | ((with_reducible refine gate_callee (f := 44) rfl ?_); refine goesL_ (some 23) rfl rfl Tryd.func44 (by kernel_rfl) rfl #[.slice A0 l0.length c0, .int .i64 x6_1] rfl (by (try simp only [lm]); first | done | rfl | (simp only [List.length_drop, List.length_take]; rfl)) ?_; (with_reducible refine (spec_NodeOk.calls kj4 _ _ l0 x6_1 true _ ?side1 ?side2 A9.out).mono ?_); (case side1 => exact Kd.C_below HR0.out (be w)); (case side2 => exact HC0.out); rintro e w15 ⟨rfl, hb⟩; refine ⟨_, rfl, ?_⟩; replace HO_5 := As.mk (Kd.R_below (by (with_reducible repeat (first | apply Kd.R_alloc | apply Kd.R_drewN | apply Kd.R_drew)); exact HO_5.out) hb); replace HB := As.mk (below_step (be w) hb); (try clear hb); (try clear hb2); (try clear hk); (try clear hi); obtain ⟨Ao16, co16, eo16⟩ := Kd.R_slice HO_5.out; subst eo16; have p154 : 0 ≤ ((ji12) : Int) := od; have q154 : (ji12) < (x5_1.length : Int) := od; obtain ⟨ad154, e154, hx154_0⟩ := Kd.at_int (Kd.R_reads' HO_5.out).2.2 (ji12) p154 q154; cases e154; replace p154 := eq_true p154; replace q154 := eq_true q154))
      go_meet
      case rel => exact ⟨_, (((rd x5_1 (ji12)) == 0)), (by first | rfl | (simp; done) | (simp only [← hji12] <;> (first | rfl | simp)) | (simp [*]; done)), H', ⟨by have := HK1.out; have := HJ4.out; first | omega | exact Nat.le_refl _⟩, ⟨by (with_reducible repeat (first | apply Kd.R_alloc | apply Kd.R_drewN | apply Kd.R_drew)); exact HO_5.out⟩, ⟨be w⟩⟩
     case rest =>
      clear HC8
      (try clear c7)
      obtain ⟨kq, x36_7, rfl, HA, HJ7, HO_5, HB⟩ := hcut
      cases kq with
      | zero => exact absurd HA.out (by simp [spec_l04Deeps.j2])
      | succ kj7 =>
       have H := HA.out
       clear HA
       simp only [spec_l04Deeps.j2] at H
       have HC19 := As.mk H
       clear H
       go_upto_if 36 with (fail)
       go_cut [7] (fun v7 wc => ∃ (kq : Nat) (x7_18 : Int), v7 = .int .i64 x7_18 ∧ As (spec_l04Deeps.j3 kq l0 a1 x5_1 x6_1 x7_18 = some r) ∧ As (kq ≤ kj7) ∧ As (Kd.R (Kd.int .i64) 3 wc w.heap.size (fun _ => True) u5 x5_1) ∧ As (Below w.heap.size w wc))
       case first =>
        have H := HC19.out
        clear HC19
        by_cases c20 : x36_7 = true
        ·
         subst c20
         rw [if_pos rfl] at H
         have H' := As.mk H
         clear H
         go_wp2
         go_meet
         case rel => exact ⟨_, (0), (by first | rfl | (simp; done) | (simp [*]; done)), H', ⟨by have := HK1.out; have := HJ4.out; have := HJ7.out; first | omega | exact Nat.le_refl _⟩, ⟨by (with_reducible repeat (first | apply Kd.R_alloc | apply Kd.R_drewN | apply Kd.R_drew)); exact HO_5.out⟩, ⟨be w⟩⟩
        replace c20 := Bool.eq_false_iff.mpr c20
        subst c20
        rw [if_neg (show ¬ (false = true) by decide)] at H
        have H' := As.mk H
        clear H
        go_wp2
        go_meet
        case rel => exact ⟨_, (1), (by first | rfl | (simp; done) | (simp [*]; done)), H', ⟨by have := HK1.out; have := HJ4.out; have := HJ7.out; first | omega | exact Nat.le_refl _⟩, ⟨by (with_reducible repeat (first | apply Kd.R_alloc | apply Kd.R_drewN | apply Kd.R_drew)); exact HO_5.out⟩, ⟨be w⟩⟩
       case rest =>
        clear HC19
        (try clear c7)
        obtain ⟨kq, x7_18, rfl, HA, HJ18, HO_5, HB⟩ := hcut
        cases kq with
        | zero => exact absurd HA.out (by simp [spec_l04Deeps.j3])
        | succ kj18 =>
         have H := HA.out
         clear HA
         simp only [spec_l04Deeps.j3] at H
         have H' := As.mk H
         clear H
         go_wp2
         go_loopg [7, 8] kj18 (fun kq v7 v8 w' => ∃ (x7_5 : Int) (x8_5 : Int), v7 = .int .i64 x7_5 ∧ v8 = .int .i64 x8_5 ∧ As (spec_l04Deeps.l1 kq l0 a1 x5_1 x6_1 x7_5 x8_5 = some r) ∧ As (kq ≤ kj18) ∧ As (Kd.R (Kd.int .i64) 3 w' w.heap.size (fun _ => True) u5 x5_1) ∧ As (Below w.heap.size w w'))
         case atStart => exact ⟨(x7_18), (0), (by first | rfl | (simp; done) | (simp [*]; done)), (by first | rfl | (simp; done) | (simp [*]; done)), H', ⟨Nat.le_refl _⟩, ⟨by (with_reducible repeat (first | apply Kd.R_alloc | apply Kd.R_drewN | apply Kd.R_drew)); exact HO_5.out⟩, ⟨be w⟩⟩
         case round =>
          clear H'
          (try clear c7)
          obtain ⟨x7_5, x8_5, rfl, rfl, HA, HK5, HO_5, HB⟩ := hrel
          cases gk with
          | zero => exact absurd HA.out (by simp [spec_l04Deeps.l1])
          | succ k5 =>
           have H := HA.out
           clear HA
           simp only [spec_l04Deeps.l1] at H
           have HC21 := As.mk H
           clear H
           go_upto_region 9 with (fail)
           go_cut [48] (fun v48 wc => ∃ (kq : Nat) (x48_20 : Bool), v48 = .bool x48_20 ∧ As (spec_l04Deeps.j5 kq l0 a1 x5_1 x6_1 x7_5 x8_5 x48_20 = some r) ∧ As (kq ≤ k5) ∧ As (Kd.R (Kd.int .i64) 3 wc w.heap.size (fun _ => True) u5 x5_1) ∧ As (Below w.heap.size w wc))
           case first =>
            have H := HC21.out
            clear HC21
            by_cases c22 : x7_5 > 0
            rotate_left
            ·
             rw [if_neg c22] at H
             have c22b0 : decide (0 < x7_5) = false := decide_eq_false c22
             clear c22
             (first | rw [c22b0] | (simp only [i64_w, i32_w]; rw [c22b0]) | skip)
             have H' := As.mk H
             clear H
             go_wp2
             go_meet
             case rel => exact ⟨_, (false), (by first | rfl | (simp; done) | (simp [*]; done)), H', ⟨by have := HK1.out; have := HJ4.out; have := HJ7.out; have := HJ18.out; have := HK5.out; first | omega | exact Nat.le_refl _⟩, ⟨by (with_reducible repeat (first | apply Kd.R_alloc | apply Kd.R_drewN | apply Kd.R_drew)); exact HO_5.out⟩, ⟨be w⟩⟩
            rw [if_pos c22] at H
            have c22b0 : decide (0 < x7_5) = true := decide_eq_true c22
            clear c22
            (first | rw [c22b0] | (simp only [i64_w, i32_w]; rw [c22b0]) | skip)
            by_cases c23 : 0 ≤ x6_1
            rotate_left; · rw [if_neg c23] at H; exact absurd H (by simp)
            rw [if_pos c23] at H
            have c23b0 : decide (0 ≤ x6_1) = true := decide_eq_true c23
            clear c23
            by_cases c24 : x6_1 < (l0.length : Int)
            rotate_left; · rw [if_neg c24] at H; exact absurd H (by simp)
            rw [if_pos c24] at H
            have c24b0 : decide (x6_1 < (l0.length : Int)) = true := decide_eq_true c24
            clear c24
            have H' := As.mk H
            clear H
            have p155 : 0 ≤ (x6_1 : Int) := od
            have q155 : x6_1 < (l0.length : Int) := od
            obtain ⟨ad155, A155_3, c155_3, e155, hx155_0, hx155_1, hx155_2, hx155_3, hl155_3, hi155_3⟩ := at_T52 HR0.out x6_1 p155 q155
            cases e155
            replace hx155_0 := ce HB.out hx155_0
            replace hx155_1 := ce HB.out hx155_1
            replace hx155_2 := ce HB.out hx155_2
            replace hx155_3 := ce HB.out hx155_3
            have HR155_3 := As.mk hi155_3
            have HC155_3 := As.mk hl155_3
            clear hi155_3 hl155_3
            replace p155 := eq_true p155
            replace q155 := eq_true q155
            go_wp2
            go_meet
            case rel => exact ⟨_, (decide (x8_5 < (((rd_T52 l0 x6_1).f3).length : Int))), (by first | rfl | (simp; done) | (simp [*]; done)), H', ⟨by have := HK1.out; have := HJ4.out; have := HJ7.out; have := HJ18.out; have := HK5.out; first | omega | exact Nat.le_refl _⟩, ⟨by (with_reducible repeat (first | apply Kd.R_alloc | apply Kd.R_drewN | apply Kd.R_drew)); exact HO_5.out⟩, ⟨be w⟩⟩
           case rest =>
            clear HC21
            (try clear c7)
            obtain ⟨kq, x48_20, rfl, HA, HJ20, HO_5, HB⟩ := hcut
            cases kq with
            | zero => exact absurd HA.out (by simp [spec_l04Deeps.j5])
            | succ kj20 =>
             have H := HA.out
             clear HA
             simp only [spec_l04Deeps.j5] at H
             by_cases c25 : x48_20 = true
             rotate_left
             ·
              replace c25 := Bool.eq_false_iff.mpr c25
              subst c25
              rw [if_neg (show ¬ (false = true) by decide)] at H
              by_cases c35 : x7_5 > 10
              ·
               rw [if_pos c35] at H
               have c35b0 : decide (10 < x7_5) = true := decide_eq_true c35
               clear c35
               by_cases c36 : x5_1.length < 17592186044416
               rotate_left; · rw [if_neg c36] at H; exact absurd H (by simp)
               rw [if_pos c36] at H
               have LMc36 := As.mk c36
               clear c36
               obtain ⟨y162, hy162⟩ : ∃ y_ : List Int, y_ = (x5_1 ++ [0]) := ⟨_, rfl⟩
               replace H : (spec_l04Deeps.l0 kj20 l0 a1 y162 (wrap64 (x6_1 + 1))) = some r := by first | (rw [hy162]; with_reducible exact H) | (have H2_ := (Option.bind_some _ _).symm.trans H; rw [hy162]; with_reducible exact H2_) | (have H2_ := (Option.bind_some _ _).symm.trans H; with_reducible exact H2_) | with_reducible exact H | (rw [hy162]; exact H) | exact H
               have Ny162 := As.mk hy162
               clear hy162
               have H' := As.mk H
               clear H
               go_wp2_with (first | ((with_reducible refine gate_builtin (b := .append) (xs := #[.tmp 79, .tmp 81]) rfl ?_); (try (refine gate_guard (by rfl) ?_; dsimp only)); at_builtin; refine Kd.R_append (Kd.int .i64) (w0 := w) w.heap.size rfl (.tmp 79) (.tmp 81) 43 3 (.int .i64 0) 8 rfl Tryd.underlying43 info3 rfl (by decide) (by omega) u5 x5_1 0 [.int .i64 0] (fun _ => True) (fun _ => False) rfl rfl ?aP (fun _ hk => hk.elim) ?aF ?aO ?aB ?aS ?aL ?_; (case aP => exact rfl); (case aB => exact (be w)); (case aF => exact (fun _ _ => trivial)); (case aO => exact (by (with_reducible repeat (first | apply Kd.R_alloc | apply Kd.R_drewN | apply Kd.R_drew)); exact HO_5.out)); (case aS => exact (below_size (be w))); (case aL => have := LMc36.out; omega); intro v163 w37 ho hb hg hat; rw [← Ny162.out] at ho; replace HB := As.mk (hb); have HO164 := As.mk (ho); clear HO_5; clear ho hb hg hat))
               go_roundg kj20
               case measure => have := HK1.out; have := HJ4.out; have := HJ7.out; have := HJ18.out; have := HK5.out; have := HJ20.out; omega
               case rel => exact ⟨(y162), (wrap64 (x6_1 + 1)), (by first | rfl | (simp; done) | (simp [*]; done)), H', ⟨by have := HK1.out; have := HJ4.out; have := HJ7.out; have := HJ18.out; have := HK5.out; have := HJ20.out; omega⟩, ⟨by (with_reducible repeat (first | apply Kd.R_alloc | apply Kd.R_drewN | apply Kd.R_drew)); exact HO164.out⟩, ⟨be w⟩⟩
              rw [if_neg c35] at H
              have c35b0 : decide (10 < x7_5) = false := decide_eq_false c35
              clear c35
              by_cases c38 : x5_1.length < 17592186044416
              rotate_left; · rw [if_neg c38] at H; exact absurd H (by simp)
              rw [if_pos c38] at H
              have LMc38 := As.mk c38
              clear c38
              obtain ⟨y165, hy165⟩ : ∃ y_ : List Int, y_ = (x5_1 ++ [x7_5]) := ⟨_, rfl⟩
              replace H : (spec_l04Deeps.l0 kj20 l0 a1 y165 (wrap64 (x6_1 + 1))) = some r := by first | (rw [hy165]; with_reducible exact H) | (have H2_ := (Option.bind_some _ _).symm.trans H; rw [hy165]; with_reducible exact H2_) | (have H2_ := (Option.bind_some _ _).symm.trans H; with_reducible exact H2_) | with_reducible exact H | (rw [hy165]; exact H) | exact H
              have Ny165 := As.mk hy165
              clear hy165
              have H' := As.mk H
              clear H
              go_wp2_with (first | ((with_reducible refine gate_builtin (b := .append) (xs := #[.tmp 79, .tmp 81]) rfl ?_); (try (refine gate_guard (by rfl) ?_; dsimp only)); at_builtin; refine Kd.R_append (Kd.int .i64) (w0 := w) w.heap.size rfl (.tmp 79) (.tmp 81) 43 3 (.int .i64 0) 8 rfl Tryd.underlying43 info3 rfl (by decide) (by omega) u5 x5_1 x7_5 [.int .i64 x7_5] (fun _ => True) (fun _ => False) rfl rfl ?aP (fun _ hk => hk.elim) ?aF ?aO ?aB ?aS ?aL ?_; (case aP => exact rfl); (case aB => exact (be w)); (case aF => exact (fun _ _ => trivial)); (case aO => exact (by (with_reducible repeat (first | apply Kd.R_alloc | apply Kd.R_drewN | apply Kd.R_drew)); exact HO_5.out)); (case aS => exact (below_size (be w))); (case aL => have := LMc38.out; omega); intro v166 w39 ho hb hg hat; rw [← Ny165.out] at ho; replace HB := As.mk (hb); have HO167 := As.mk (ho); clear HO_5; clear ho hb hg hat))
              go_roundg kj20
              case measure => have := HK1.out; have := HJ4.out; have := HJ7.out; have := HJ18.out; have := HK5.out; have := HJ20.out; omega
              case rel => exact ⟨(y165), (wrap64 (x6_1 + 1)), (by first | rfl | (simp; done) | (simp [*]; done)), H', ⟨by have := HK1.out; have := HJ4.out; have := HJ7.out; have := HJ18.out; have := HK5.out; have := HJ20.out; omega⟩, ⟨by (with_reducible repeat (first | apply Kd.R_alloc | apply Kd.R_drewN | apply Kd.R_drew)); exact HO167.out⟩, ⟨be w⟩⟩
             subst c25
             rw [if_pos rfl] at H
             by_cases c26 : 0 ≤ x6_1
             rotate_left; · rw [if_neg c26] at H; exact absurd H (by simp)
             rw [if_pos c26] at H
             have c26b0 : decide (0 ≤ x6_1) = true := decide_eq_true c26
             clear c26
             by_cases c27 : x6_1 < (l0.length : Int)
             rotate_left; · rw [if_neg c27] at H; exact absurd H (by simp)
             rw [if_pos c27] at H
             have c27b0 : decide (x6_1 < (l0.length : Int)) = true := decide_eq_true c27
             clear c27
             by_cases c28 : 0 ≤ x8_5
             rotate_left; · rw [if_neg c28] at H; exact absurd H (by simp)
             rw [if_pos c28] at H
             have c28b0 : decide (0 ≤ x8_5) = true := decide_eq_true c28
             clear c28
             by_cases c29 : x8_5 < (((rd_T52 l0 x6_1).f3).length : Int)
             rotate_left; · rw [if_neg c29] at H; exact absurd H (by simp)
             rw [if_pos c29] at H
             have c29b0 : decide (x8_5 < (((rd_T52 l0 x6_1).f3).length : Int)) = true := decide_eq_true c29
             clear c29
             by_cases c30 : 0 ≤ (rd ((rd_T52 l0 x6_1).f3) x8_5)
             rotate_left; · rw [if_neg c30] at H; exact absurd H (by simp)
             rw [if_pos c30] at H
             have c30b0 : decide (0 ≤ (rd ((rd_T52 l0 x6_1).f3) x8_5)) = true := decide_eq_true c30
             clear c30
             by_cases c31 : (rd ((rd_T52 l0 x6_1).f3) x8_5) < (x5_1.length : Int)
             rotate_left; · rw [if_neg c31] at H; exact absurd H (by simp)
             rw [if_pos c31] at H
             have c31b0 : decide ((rd ((rd_T52 l0 x6_1).f3) x8_5) < (x5_1.length : Int)) = true := decide_eq_true c31
             clear c31
             by_cases c32 : (wrap64 ((rd x5_1 (rd ((rd_T52 l0 x6_1).f3) x8_5)) + 1)) > x7_5
             rotate_left
             ·
              rw [if_neg c32] at H
              have c32b0 : decide (x7_5 < (wrap64 ((rd x5_1 (rd ((rd_T52 l0 x6_1).f3) x8_5)) + 1))) = false := decide_eq_false c32
              clear c32
              have H' := As.mk H
              clear H
              have p156 : 0 ≤ (x6_1 : Int) := od
              have q156 : x6_1 < (l0.length : Int) := od
              obtain ⟨ad156, A156_3, c156_3, e156, hx156_0, hx156_1, hx156_2, hx156_3, hl156_3, hi156_3⟩ := at_T52 HR0.out x6_1 p156 q156
              cases e156
              replace hx156_0 := ce HB.out hx156_0
              replace hx156_1 := ce HB.out hx156_1
              replace hx156_2 := ce HB.out hx156_2
              replace hx156_3 := ce HB.out hx156_3
              have HR156_3 := As.mk hi156_3
              have HC156_3 := As.mk hl156_3
              clear hi156_3 hl156_3
              replace p156 := eq_true p156
              replace q156 := eq_true q156
              have p157 : 0 ≤ (x8_5 : Int) := od
              have q157 : x8_5 < (((rd_T52 l0 x6_1).f3).length : Int) := od
              obtain ⟨ad157, e157, hx157_0⟩ := Kd.at_int HR156_3.out x8_5 p157 q157
              cases e157
              replace hx157_0 := ce HB.out hx157_0
              replace p157 := eq_true p157
              replace q157 := eq_true q157
              obtain ⟨Ao34, co34, eo34⟩ := Kd.R_slice HO_5.out
              subst eo34
              have p158 : 0 ≤ ((rd ((rd_T52 l0 x6_1).f3) x8_5) : Int) := od
              have q158 : (rd ((rd_T52 l0 x6_1).f3) x8_5) < (x5_1.length : Int) := od
              obtain ⟨ad158, e158, hx158_0⟩ := Kd.at_int (Kd.R_reads' HO_5.out).2.2 (rd ((rd_T52 l0 x6_1).f3) x8_5) p158 q158
              cases e158
              replace p158 := eq_true p158
              replace q158 := eq_true q158
              go_wp2
              go_roundg kj20
              case measure => have := HK1.out; have := HJ4.out; have := HJ7.out; have := HJ18.out; have := HK5.out; have := HJ20.out; omega
              case rel => exact ⟨(x7_5), (wrap64 (x8_5 + 1)), (by first | rfl | (simp; done) | (simp [*]; done)), (by first | rfl | (simp; done) | (simp [*]; done)), H', ⟨by have := HK1.out; have := HJ4.out; have := HJ7.out; have := HJ18.out; have := HK5.out; have := HJ20.out; omega⟩, ⟨by (with_reducible repeat (first | apply Kd.R_alloc | apply Kd.R_drewN | apply Kd.R_drew)); exact HO_5.out⟩, ⟨be w⟩⟩
             rw [if_pos c32] at H
             have c32b0 : decide (x7_5 < (wrap64 ((rd x5_1 (rd ((rd_T52 l0 x6_1).f3) x8_5)) + 1))) = true := decide_eq_true c32
             clear c32
             have H' := As.mk H
             clear H
             have p156 : 0 ≤ (x6_1 : Int) := od
             have q156 : x6_1 < (l0.length : Int) := od
             obtain ⟨ad156, A156_3, c156_3, e156, hx156_0, hx156_1, hx156_2, hx156_3, hl156_3, hi156_3⟩ := at_T52 HR0.out x6_1 p156 q156
             cases e156
             replace hx156_0 := ce HB.out hx156_0
             replace hx156_1 := ce HB.out hx156_1
             replace hx156_2 := ce HB.out hx156_2
             replace hx156_3 := ce HB.out hx156_3
             have HR156_3 := As.mk hi156_3
             have HC156_3 := As.mk hl156_3
             clear hi156_3 hl156_3
             replace p156 := eq_true p156
             replace q156 := eq_true q156
             have p157 : 0 ≤ (x8_5 : Int) := od
             have q157 : x8_5 < (((rd_T52 l0 x6_1).f3).length : Int) := od
             obtain ⟨ad157, e157, hx157_0⟩ := Kd.at_int HR156_3.out x8_5 p157 q157
             cases e157
             replace hx157_0 := ce HB.out hx157_0
             replace p157 := eq_true p157
             replace q157 := eq_true q157
             obtain ⟨Ao33, co33, eo33⟩ := Kd.R_slice HO_5.out
             subst eo33
             have p158 : 0 ≤ ((rd ((rd_T52 l0 x6_1).f3) x8_5) : Int) := od
             have q158 : (rd ((rd_T52 l0 x6_1).f3) x8_5) < (x5_1.length : Int) := od
             obtain ⟨ad158, e158, hx158_0⟩ := Kd.at_int (Kd.R_reads' HO_5.out).2.2 (rd ((rd_T52 l0 x6_1).f3) x8_5) p158 q158
             cases e158
             replace p158 := eq_true p158
             replace q158 := eq_true q158
             have p159 : 0 ≤ (x6_1 : Int) := od
             have q159 : x6_1 < (l0.length : Int) := od
             obtain ⟨ad159, A159_3, c159_3, e159, hx159_0, hx159_1, hx159_2, hx159_3, hl159_3, hi159_3⟩ := at_T52 HR0.out x6_1 p159 q159
             obtain rfl : ad156 = ad159 := (by injection e159)
             replace hx159_0 := ce HB.out hx159_0
             replace hx159_1 := ce HB.out hx159_1
             replace hx159_2 := ce HB.out hx159_2
             replace hx159_3 := ce HB.out hx159_3
             have HR159_3 := As.mk hi159_3
             have HC159_3 := As.mk hl159_3
             clear hi159_3 hl159_3
             replace p159 := eq_true p159
             replace q159 := eq_true q159
             have ea_ := Option.some.inj (hx156_3.symm.trans hx159_3)
             injection ea_ with ea_ en_ ec_
             subst ea_
             subst ec_
             clear en_
             have p160 : 0 ≤ (x8_5 : Int) := od
             have q160 : x8_5 < (((rd_T52 l0 x6_1).f3).length : Int) := od
             obtain ⟨ad160, e160, hx160_0⟩ := Kd.at_int HR159_3.out x8_5 p160 q160
             cases e160
             replace hx160_0 := ce HB.out hx160_0
             replace p160 := eq_true p160
             replace q160 := eq_true q160
             have p161 : 0 ≤ ((rd ((rd_T52 l0 x6_1).f3) x8_5) : Int) := od
             have q161 : (rd ((rd_T52 l0 x6_1).f3) x8_5) < (x5_1.length : Int) := od
             obtain ⟨ad161, e161, hx161_0⟩ := Kd.at_int (Kd.R_reads' HO_5.out).2.2 (rd ((rd_T52 l0 x6_1).f3) x8_5) p161 q161
             obtain rfl : ad158 = ad161 := (by injection e161)
             replace p161 := eq_true p161
             replace q161 := eq_true q161
             go_wp2
             go_roundg kj20
             case measure => have := HK1.out; have := HJ4.out; have := HJ7.out; have := HJ18.out; have := HK5.out; have := HJ20.out; omega
             case rel => exact ⟨(wrap64 ((rd x5_1 (rd ((rd_T52 l0 x6_1).f3) x8_5)) + 1)), (wrap64 (x8_5 + 1)), (by first | rfl | (simp; done) | (simp [*]; done)), (by first | rfl | (simp; done) | (simp [*]; done)), H', ⟨by have := HK1.out; have := HJ4.out; have := HJ7.out; have := HJ18.out; have := HK5.out; have := HJ20.out; omega⟩, ⟨by (with_reducible repeat (first | apply Kd.R_alloc | apply Kd.R_drewN | apply Kd.R_drew)); exact HO_5.out⟩, ⟨be w⟩⟩
/-! ### spec_DeepOf: function 17 -/
def spec_DeepOf.f (k : Nat) (l0 : List (S52)) (a1 : Int) : Option (Int) := (spec_l01In.f a1 0 (wrap64 ((l0.length : Int) - 1))).bind fun t168 => (if t168 = true then ((spec_l04Deeps.f k l0 a1).bind fun t169 => (if 0 ≤ a1 then (if a1 < (t169.length : Int) then (some (rd t169 a1)) else (none)) else (none))) else (some 0))
theorem spec_DeepOf.mono : ∀ a0 a1 k, LeO (spec_DeepOf.f k a0 a1) (spec_DeepOf.f (k + 1) a0 a1) := by
 intro a0 a1 k
 unfold spec_DeepOf.f
 with_reducible repeat' first | exact spec_l04Deeps.mono _ _ _ | exact LeO.refl _ | exact LeO.none _ | refine LeO.ite ?_ ?_ | refine LeO.bind ?_ (fun _ => ?_)
set_option maxHeartbeats 8000000 in
set_option maxRecDepth 100000 in
theorem spec_DeepOf.calls (k : Nat) (A0 : Option Addr) (c0 : Nat) (l0 : List (S52)) (a1 : Int) (r : Int) (w : World) (hr0 : Kd.C k52 w A0 l0.length l0) (hc0 : l0.length ≤ c0) (h : spec_DeepOf.f k l0 a1 = some r) :
  Calls Tryd.prog 17 #[.slice A0 l0.length c0, .int .i64 a1] w fun e w' => e = .returned (.int .i64 r) ∧ Below w.heap.size w w' := by
 have HR0 := As.mk hr0
 have HC0 := As.mk hc0
 clear hr0 hc0
 have HB := As.mk (Below.refl w.heap.size w)
 have H : ((spec_l01In.f a1 0 (wrap64 ((l0.length : Int) - 1))).bind fun t168 => (if t168 = true then ((spec_l04Deeps.f k l0 a1).bind fun t169 => (if 0 ≤ a1 then (if a1 < (t169.length : Int) then (some (rd t169 a1)) else (none)) else (none))) else (some 0))) = some r := h
 clear h
 obtain ⟨t168, A30, H⟩ := Option.bind_eq_some_iff.mp H
 try dsimp only at H
 have A3 := As.mk A30
 clear A30
 by_cases c4 : t168 = true
 rotate_left
 ·
  replace c4 := Bool.eq_false_iff.mpr c4
  subst c4
  rw [if_neg (show ¬ (false = true) by decide)] at H
  obtain rfl := Option.some.inj H
  go_enter Tryd.func17, Tryd.ntmps17
  go_wp2_with (first | ((with_reducible refine gate_callee (f := 33) rfl ?_); refine goesL_ (some 9) rfl rfl Tryd.func33 (by kernel_rfl) rfl #[.int .i64 a1, .int .i64 0, .int .i64 (wrap64 ((l0.length : Int) - 1))] rfl (by (try simp only [lm]); first | done | rfl | (simp only [List.length_drop, List.length_take]; rfl)) ?_; (with_reducible refine (spec_l01In.calls a1 0 (wrap64 ((l0.length : Int) - 1)) false _ A3.out).mono ?_); rintro e w' ⟨rfl, ⟨nd, rfl⟩⟩; refine ⟨_, rfl, ?_⟩))
  go_ret
  exact ⟨ez, be w⟩

 subst c4
 rw [if_pos rfl] at H
 obtain ⟨t169, A50, H⟩ := Option.bind_eq_some_iff.mp H
 try dsimp only at H
 have A5 := As.mk A50
 clear A50
 by_cases c6 : 0 ≤ a1
 rotate_left; · rw [if_neg c6] at H; exact absurd H (by simp)
 rw [if_pos c6] at H
 have c6b0 : decide (0 ≤ a1) = true := decide_eq_true c6
 clear c6
 by_cases c7 : a1 < (t169.length : Int)
 rotate_left; · rw [if_neg c7] at H; exact absurd H (by simp)
 rw [if_pos c7] at H
 have c7b0 : decide (a1 < (t169.length : Int)) = true := decide_eq_true c7
 clear c7
 obtain rfl := Option.some.inj H
 go_enter Tryd.func17, Tryd.ntmps17
 go_wp2_with (first | ((with_reducible refine gate_callee (f := 33) rfl ?_); refine goesL_ (some 9) rfl rfl Tryd.func33 (by kernel_rfl) rfl #[.int .i64 a1, .int .i64 0, .int .i64 (wrap64 ((l0.length : Int) - 1))] rfl (by (try simp only [lm]); first | done | rfl | (simp only [List.length_drop, List.length_take]; rfl)) ?_; (with_reducible refine (spec_l01In.calls a1 0 (wrap64 ((l0.length : Int) - 1)) true _ A3.out).mono ?_); rintro e w' ⟨rfl, ⟨nd, rfl⟩⟩; refine ⟨_, rfl, ?_⟩) | ((with_reducible refine gate_callee (f := 34) rfl ?_); refine goesL_ (some 13) rfl rfl Tryd.func34 (by kernel_rfl) rfl #[.slice A0 l0.length c0, .int .i64 a1] rfl (by (try simp only [lm]); first | done | rfl | (simp only [List.length_drop, List.length_take]; rfl)) ?_; (with_reducible refine (spec_l04Deeps.calls k _ _ l0 a1 t169 _ ?side1 ?side2 A5.out).mono ?_); (case side1 => repeat (first | exact HR0.out | (with_reducible refine Kd.C_alloc ?_ _) | (with_reducible refine Kd.C_drewN ?_ _) | (with_reducible refine Kd.C_drew ?_))); (case side2 => exact HC0.out); rintro e w8 ⟨v170, rfl, ho0, hb⟩; refine ⟨_, rfl, ?_⟩; have HO171 := As.mk (Kd.R_lower ho0 (below_size (be w))); replace HB := As.mk (below_step (be w) hb); (try clear hb); (try clear hb2); (try clear hk); (try clear hi); (try clear ho0); obtain ⟨Ao9, co9, eo9⟩ := Kd.R_slice HO171.out; subst eo9; have p172 : 0 ≤ (a1 : Int) := od; have q172 : a1 < (t169.length : Int) := od; obtain ⟨ad172, e172, hx172_0⟩ := Kd.at_int (Kd.R_reads' HO171.out).2.2 a1 p172 q172; cases e172; replace p172 := eq_true p172; replace q172 := eq_true q172))
 go_ret
 exact ⟨ez, be w⟩
/-! ### spec_l04Nodes: function 18 -/
def spec_l04Nodes.l0 : Nat → List (S52) → List (S52) → Int → Option ((List (S52)))
 | 0, _, _, _ => none
 | k + 1, x0, x3, x4 => if x4 < (x0.length : Int) then (if 0 ≤ x4 then ((some (([] : List Int) : List Int)).bind fun y178 => (if y178.length + ((rd_T52 x0 x4).f3).length < 17592186044416 then (if x3.length < 2513169434916 then (spec_l04Nodes.l0 k x0 (x3 ++ [(⟨(rd_T52 x0 x4).f0, (rd_T52 x0 x4).f1, (rd_T52 x0 x4).f2, (y178 ++ ((rd_T52 x0 x4).f3))⟩ : S52)]) (wrap64 (x4 + 1))) else (none)) else (none))) else (none)) else (some x3)
def spec_l04Nodes.f (k : Nat) (l0 : List (S52)) : Option ((List (S52))) := spec_l04Nodes.l0 k l0 (([] : List (S52))) 0
theorem spec_l04Nodes.mono_l : ∀ k, (∀ y0 y1 y2, LeO (spec_l04Nodes.l0 k y0 y1 y2) (spec_l04Nodes.l0 (k + 1) y0 y1 y2))
 | 0 => fun _ _ _ r h => by simp [spec_l04Nodes.l0] at h
 | k + 1 => by
  have ih0 := spec_l04Nodes.mono_l k
  ·
   intro y0 y1 y2
   unfold spec_l04Nodes.l0
   with_reducible repeat' first | exact ih0 _ _ _ | exact LeO.refl _ | exact LeO.none _ | refine LeO.ite ?_ ?_ | refine LeO.bind ?_ (fun _ => ?_)
theorem spec_l04Nodes.mono : ∀ a0 k, LeO (spec_l04Nodes.f k a0) (spec_l04Nodes.f (k + 1) a0) := by
 intro a0 k
 have ih0 := spec_l04Nodes.mono_l k
 unfold spec_l04Nodes.f
 with_reducible repeat' first | exact ih0 _ _ _ | exact LeO.refl _ | exact LeO.none _ | refine LeO.ite ?_ ?_ | refine LeO.bind ?_ (fun _ => ?_)
set_option maxHeartbeats 8000000 in
set_option maxRecDepth 100000 in
theorem spec_l04Nodes.calls (k : Nat) (A0 : Option Addr) (c0 : Nat) (l0 : List (S52)) (r : List (S52)) (w : World) (hr0 : Kd.C k52 w A0 l0.length l0) (hc0 : l0.length ≤ c0) (h : spec_l04Nodes.f k l0 = some r) :
  Calls Tryd.prog 18 #[.slice A0 l0.length c0] w fun e w' => ∃ v0_ : Value, e = .returned (v0_) ∧ Kd.S k52 52 w' w.heap.size (fun _ => True) v0_ r ∧ Below w.heap.size w w' := by
 have hu52 := Tryd.underlying52
 have HR0 := As.mk hr0
 have HC0 := As.mk hc0
 clear hr0 hc0
 have HB := As.mk (Below.refl w.heap.size w)
 have H : (spec_l04Nodes.l0 k l0 (([] : List (S52))) 0) = some r := h
 clear h
 obtain ⟨y173, hy173⟩ : ∃ y_ : List (S52), y_ = (([] : List (S52))) := ⟨_, rfl⟩
 replace H : (spec_l04Nodes.l0 k l0 y173 0) = some r := by first | (rw [hy173]; with_reducible exact H) | (have H2_ := (Option.bind_some _ _).symm.trans H; rw [hy173]; with_reducible exact H2_) | (have H2_ := (Option.bind_some _ _).symm.trans H; with_reducible exact H2_) | with_reducible exact H | (rw [hy173]; exact H) | exact H
 have Ny173 := As.mk hy173
 clear hy173
 have H' := As.mk H
 clear H
 go_enter Tryd.func18, Tryd.ntmps18
 go_wp2_with (first | ((with_reducible refine gate_dst (N := 6) rfl ?_); refine Kd.S_lit k52 _ 52 ?hg (N := 6) ?hd (xs := ([] : List (S52))) (inner := []) (ok := fun _ => True) (okp := fun _ => True) ?hr ?hp (fun _ hk => hk) trivial (Below.refl _ _) (Nat.le_refl _) (by simp) ?_; (case hd => rfl); (case hg => rfl); (case hr => first | (go_simp; done) | (go_simp; rfl)); (case hp => exact (Reps.none _ _)); intro v174 w2 ho3 hb hg_ hnew_; clear hg_ hnew_; (first | rw [← Ny173.out] at ho3 | (simp only [Int.reduceToNat] at ho3; rw [← Ny173.out] at ho3)); have HO175 := As.mk (Kd.S_lower ho3 (below_size (be w))); replace HB := As.mk (below_step (be w) hb); clear hb ho3))
 go_loopg [3, 4] k (fun kq v3 v4 w' => ∃ (x3_1 : List (S52)) (x4_1 : Int), v4 = .int .i64 x4_1 ∧ As (spec_l04Nodes.l0 kq l0 x3_1 x4_1 = some r) ∧ As (kq ≤ k) ∧ As (Kd.S k52 52 w' w.heap.size (fun _ => True) v3 x3_1) ∧ As (Below w.heap.size w w'))
 case atStart => exact ⟨(y173), (0), (by first | rfl | (simp; done) | (simp [*]; done)), H', ⟨Nat.le_refl _⟩, ⟨by (with_reducible repeat (first | apply Kd.S_alloc | apply Kd.S_drewN | apply Kd.S_drew)); exact HO175.out⟩, ⟨be w⟩⟩
 case round =>
  clear H'
  obtain ⟨x3_1, x4_1, rfl, HA, HK1, HO_3, HB⟩ := hrel
  cases gk with
  | zero => exact absurd HA.out (by simp [spec_l04Nodes.l0])
  | succ k1 =>
   have H := HA.out
   clear HA
   simp only [spec_l04Nodes.l0] at H
   by_cases c4 : x4_1 < (l0.length : Int)
   rotate_left
   ·
    rw [if_neg c4] at H
    have c4b0 : decide (x4_1 < (l0.length : Int)) = false := decide_eq_false c4
    clear c4
    obtain rfl := Option.some.inj H
    go_wp2
    go_ret
    exact ⟨_, ez, by (with_reducible repeat (first | apply Kd.S_alloc | apply Kd.S_drewN | apply Kd.S_drew)); exact HO_3.out, be w⟩

   rw [if_pos c4] at H
   have c4b0 : decide (x4_1 < (l0.length : Int)) = true := decide_eq_true c4
   clear c4
   by_cases c5 : 0 ≤ x4_1
   rotate_left; · rw [if_neg c5] at H; exact absurd H (by simp)
   rw [if_pos c5] at H
   have c5b0 : decide (0 ≤ x4_1) = true := decide_eq_true c5
   clear c5
   obtain ⟨y178, hy178⟩ : ∃ y_ : List Int, y_ = (([] : List Int)) := ⟨_, rfl⟩
   replace H : (if y178.length + ((rd_T52 l0 x4_1).f3).length < 17592186044416 then (if x3_1.length < 2513169434916 then (spec_l04Nodes.l0 k1 l0 (x3_1 ++ [(⟨(rd_T52 l0 x4_1).f0, (rd_T52 l0 x4_1).f1, (rd_T52 l0 x4_1).f2, (y178 ++ ((rd_T52 l0 x4_1).f3))⟩ : S52)]) (wrap64 (x4_1 + 1))) else (none)) else (none)) = some r := by first | (rw [hy178]; with_reducible exact H) | (have H2_ := (Option.bind_some _ _).symm.trans H; rw [hy178]; with_reducible exact H2_) | (have H2_ := (Option.bind_some _ _).symm.trans H; with_reducible exact H2_) | with_reducible exact H | (rw [hy178]; exact H) | exact H
   have Ny178 := As.mk hy178
   clear hy178
   by_cases c6 : y178.length + ((rd_T52 l0 x4_1).f3).length < 17592186044416
   rotate_left; · rw [if_neg c6] at H; exact absurd H (by simp)
   rw [if_pos c6] at H
   have LMc6 := As.mk c6
   clear c6
   obtain ⟨y181, hy181⟩ : ∃ y_ : List Int, y_ = (y178 ++ ((rd_T52 l0 x4_1).f3)) := ⟨_, rfl⟩
   replace H : (if x3_1.length < 2513169434916 then (spec_l04Nodes.l0 k1 l0 (x3_1 ++ [(⟨(rd_T52 l0 x4_1).f0, (rd_T52 l0 x4_1).f1, (rd_T52 l0 x4_1).f2, y181⟩ : S52)]) (wrap64 (x4_1 + 1))) else (none)) = some r := by first | (rw [hy181]; with_reducible exact H) | (have H2_ := (Option.bind_some _ _).symm.trans H; rw [hy181]; with_reducible exact H2_) | (have H2_ := (Option.bind_some _ _).symm.trans H; with_reducible exact H2_) | with_reducible exact H | (rw [hy181]; exact H) | exact H
   have Ny181 := As.mk hy181
   clear hy181
   by_cases c7 : x3_1.length < 2513169434916
   rotate_left; · rw [if_neg c7] at H; exact absurd H (by simp)
   rw [if_pos c7] at H
   have LMc7 := As.mk c7
   clear c7
   obtain ⟨y184, hy184⟩ : ∃ y_ : List (S52), y_ = (x3_1 ++ [(⟨(rd_T52 l0 x4_1).f0, (rd_T52 l0 x4_1).f1, (rd_T52 l0 x4_1).f2, y181⟩ : S52)]) := ⟨_, rfl⟩
   replace H : (spec_l04Nodes.l0 k1 l0 y184 (wrap64 (x4_1 + 1))) = some r := by first | (rw [hy184]; with_reducible exact H) | (have H2_ := (Option.bind_some _ _).symm.trans H; rw [hy184]; with_reducible exact H2_) | (have H2_ := (Option.bind_some _ _).symm.trans H; with_reducible exact H2_) | with_reducible exact H | (rw [hy184]; exact H) | exact H
   have Ny184 := As.mk hy184
   clear hy184
   have H' := As.mk H
   clear H
   have p176 : 0 ≤ (x4_1 : Int) := od
   have q176 : x4_1 < (l0.length : Int) := od
   obtain ⟨ad176, A176_3, c176_3, e176, hx176_0, hx176_1, hx176_2, hx176_3, hl176_3, hi176_3⟩ := at_T52 HR0.out x4_1 p176 q176
   cases e176
   replace hx176_0 := ce HB.out hx176_0
   replace hx176_1 := ce HB.out hx176_1
   replace hx176_2 := ce HB.out hx176_2
   replace hx176_3 := ce HB.out hx176_3
   have HR176_3 := As.mk hi176_3
   have HC176_3 := As.mk hl176_3
   clear hi176_3 hl176_3
   replace p176 := eq_true p176
   replace q176 := eq_true q176
   go_wp2_with (first | ((with_reducible refine gate_dst (N := 5) rfl ?_); refine box_event ?hg (N := 5) ?hd (cs := #[.int .i64 0, .int .i64 0, .string (⟨#[]⟩ : ByteArray), .slice none 0 0]) (t := 52) ?hr ?_; (case hd => rfl); (case hg => rfl); (case hr => first | (go_simp; done) | (go_simp; rfl)); intro gb177 hg w8 hbox hb; replace HO_3 := As.mk (Kd.S_below (Kd.S_elderB (by (with_reducible repeat (first | apply Kd.S_alloc | apply Kd.S_drewN | apply Kd.S_drew)); exact HO_3.out) gb177 (Nat.le_of_eq hg.symm)) hb); have BK177 := As.mk (hbox); have GW177 := As.mk (gs w hg); have GE177 := As.mk (gs w hg); replace HB := As.mk (below_step (be w) hb); clear hb hbox hg; obtain ⟨hcz9_0, hcz9_1, hcz9_2, hcz9_3, hfz9_0, hfz9_1, hfz9_2, hfz9_3⟩ := cl4 BK177.out) | ((with_reducible refine gate_dst (N := 17) rfl ?_); refine Kd.R_lit (Kd.int .i64) _ 3 ?hg (N := 17) ?hd (xs := ([] : List Int)) (inner := []) (ok := fun _ => True) (okp := fun _ => True) ?hr ?hp (fun _ hk => hk) trivial (Below.refl _ _) (Nat.le_refl _) (by simp) ?_; (case hd => rfl); (case hg => rfl); (case hr => first | (go_simp; done) | (go_simp; rfl)); (case hp => exact (Reps.none _ _)); intro v179 w10 ho11 hb hg_ hnew_; clear hg_ hnew_; (first | rw [← Ny178.out] at ho11 | (simp only [Int.reduceToNat] at ho11; rw [← Ny178.out] at ho11)); replace HO_3 := As.mk (Kd.S_elder' (by (with_reducible repeat (first | apply Kd.S_alloc | apply Kd.S_drewN | apply Kd.S_drew)); exact (Kd.S_mono (Kd.S_far (p := ⟨gb177, 3, none⟩) (Kd.S_far (p := ⟨gb177, 2, none⟩) (Kd.S_far (p := ⟨gb177, 1, none⟩) (Kd.S_far (p := ⟨gb177, 0, none⟩) (Kd.S_mono HO_3.out (fun k_ hk => (⟨hk, hk.2⟩ : _ ∧ k_ ≠ gb177))) (fun _ hk => hk.2) (.int .i64 ((rd_T52 l0 x4_1).f0))) (fun _ hk => hk.2) (.int .i64 ((rd_T52 l0 x4_1).f1))) (fun _ hk => hk.2) (.string ((rd_T52 l0 x4_1).f2))) (fun _ hk => hk.2) (.slice A176_3 ((rd_T52 l0 x4_1).f3).length c176_3)) (fun _ h_ => h_.1))) (Kd.R_base ho11) hb); have HO180 := As.mk (Kd.R_lower ho11 (below_size (be w))); replace BK177 := As.mk (blk_below (g := gb177) (o := .cells #[.int .i64 ((rd_T52 l0 x4_1).f0), .int .i64 ((rd_T52 l0 x4_1).f1), .string ((rd_T52 l0 x4_1).f2), .slice A176_3 ((rd_T52 l0 x4_1).f3).length c176_3] 52 (0, 0)) (by refine pl ?_; refine blk_put (cs := #[.int .i64 ((rd_T52 l0 x4_1).f0), .int .i64 ((rd_T52 l0 x4_1).f1), .string ((rd_T52 l0 x4_1).f2), .slice none 0 0]) ?_ 3 _ rfl; refine pl ?_; refine blk_put (cs := #[.int .i64 ((rd_T52 l0 x4_1).f0), .int .i64 ((rd_T52 l0 x4_1).f1), .string (⟨#[]⟩ : ByteArray), .slice none 0 0]) ?_ 2 _ rfl; refine pl ?_; refine blk_put (cs := #[.int .i64 ((rd_T52 l0 x4_1).f0), .int .i64 0, .string (⟨#[]⟩ : ByteArray), .slice none 0 0]) ?_ 1 _ rfl; refine pl ?_; refine blk_put (cs := #[.int .i64 0, .int .i64 0, .string (⟨#[]⟩ : ByteArray), .slice none 0 0]) ?_ 0 _ rfl; exact bx BK177.out) hb); replace HB := As.mk (below_step (be w) hb); clear hb ho11; obtain ⟨hcz12_0, hcz12_1, hcz12_2, hcz12_3, hfz12_0, hfz12_1, hfz12_2, hfz12_3⟩ := cl4 BK177.out) | ((with_reducible refine gate_builtin (b := .append) (xs := #[(.tmp 17), .tmp 19]) rfl ?_); at_builtin; refine Kd.R_append_rows (Kd.int .i64) (w0 := w) w.heap.size rfl (.tmp 17) (.tmp 19) 43 3 (.int .i64 0) 8 rfl Tryd.underlying43 info3 rfl (by decide) (by omega) v179 y178 ((rd_T52 l0 x4_1).f3) _ _ _ (fun _ => True) (fun _ => False) rfl rfl ?aO ?aR (fun _ _ h => h) (fun _ h => h.elim) ?aF ?aB ?aS ?aL ?_; (case aR => repeat (first | exact (Kd.C_below HR176_3.out HB.out) | (with_reducible refine Kd.C_alloc ?_ _) | (with_reducible refine Kd.C_drewN ?_ _) | (with_reducible refine Kd.C_drew ?_))); (case aB => exact (be w)); (case aF => exact (fun _ _ => trivial)); (case aO => exact (by (with_reducible repeat (first | apply Kd.R_alloc | apply Kd.R_drewN | apply Kd.R_drew)); exact HO180.out)); (case aS => exact (below_size (be w))); (case aL => have := LMc6.out; omega); intro v182 w13 ho hb hg hat; rw [← Ny181.out] at ho; replace HO_3 := As.mk (Kd.S_after (ok := (fun k_ => k_ ≠ gb177)) (by (with_reducible repeat (first | apply Kd.S_alloc | apply Kd.S_drewN | apply Kd.S_drew)); exact Kd.S_mono HO_3.out (fun _ hk => ⟨hk.1.2, hk.2⟩)) hg hat); replace BK177 := As.mk (blk_grown (g := gb177) (o := .cells #[.int .i64 ((rd_T52 l0 x4_1).f0), .int .i64 ((rd_T52 l0 x4_1).f1), .string ((rd_T52 l0 x4_1).f2), .slice A176_3 ((rd_T52 l0 x4_1).f3).length c176_3] 52 (0, 0)) (bx BK177.out) hg (Kd.R_ne HO180.out BK177.out (by decide))); replace HB := As.mk (hb); have HO183 := As.mk (ho); clear HO180; clear ho hb hg hat; obtain ⟨Ao14, co14, eo14⟩ := Kd.R_slice HO183.out; subst eo14; obtain ⟨hcz15_0, hcz15_1, hcz15_2, hcz15_3, hfz15_0, hfz15_1, hfz15_2, hfz15_3⟩ := cl4 BK177.out) | ((with_reducible refine gate_store (t := 43) (p := 21) rfl ?_); refine store_event (t := 43) (p := 21) (v := ?vo_w16) (w1 := (w13.setCell ⟨gb177, 3, none⟩ (.slice Ao14 y181.length co14))) ?hg ?ho ?hn ?hr ?_; (case ho => rfl); (case hg => rfl); (case hn => rfl); (case hr => first | (go_simp; done) | (go_simp; rfl)); intro w16 hw; have n0_ : As (Kd.S k52 52 w16 w.heap.size (fun k_ => some k_ ≠ (.slice Ao14 y181.length co14 : Value).ownBlock ∧ k_ ≠ gb177) u3 x3_1) := ⟨(by rw [hw]; exact (by (with_reducible repeat (first | apply Kd.S_alloc | apply Kd.S_drewN | apply Kd.S_drew)); exact Kd.S_mono (Kd.S_far (p := ⟨gb177, 3, none⟩) (Kd.S_mono HO_3.out (fun k_ hk => (⟨hk, hk.1⟩ : _ ∧ k_ ≠ gb177))) (fun _ hk => hk.2) (.slice Ao14 y181.length co14)) (fun _ hk => ⟨hk.1.2, hk.1.1⟩)))⟩; have n1_ : As (Kd.R (Kd.int .i64) 3 w16 w.heap.size (fun _ => True) (.slice Ao14 y181.length co14) y181) := ⟨(by rw [hw]; exact (by (with_reducible repeat (first | apply Kd.R_alloc | apply Kd.R_drewN | apply Kd.R_drew)); exact Kd.R_mono (Kd.R_far (p := ⟨gb177, 3, none⟩) (Kd.R_types HO183.out BK177.out (by decide)) (fun _ hk => hk.2) (.slice Ao14 y181.length co14)) (fun _ hk => trivial)))⟩; have n2_ : As (w16.heap[gb177]? = some (.cells #[.int .i64 ((rd_T52 l0 x4_1).f0), .int .i64 ((rd_T52 l0 x4_1).f1), .string ((rd_T52 l0 x4_1).f2), .slice Ao14 y181.length co14] 52 (0, 0))) := ⟨(by rw [hw]; exact (by refine pl ?_; refine blk_put (cs := #[.int .i64 ((rd_T52 l0 x4_1).f0), .int .i64 ((rd_T52 l0 x4_1).f1), .string ((rd_T52 l0 x4_1).f2), .slice A176_3 ((rd_T52 l0 x4_1).f3).length c176_3]) ?_ 3 _ rfl; exact bx BK177.out))⟩; have n3_ : As (Below w.heap.size w w16) := ⟨(by rw [hw]; exact (be w))⟩; clear hw; clear HO_3; clear HO183; clear BK177; clear HB; have HO_3 := n0_; have HO183 := n1_; have BK177 := n2_; have HB := n3_; clear n0_ n1_ n2_ n3_; obtain ⟨hcz17_0, hcz17_1, hcz17_2, hcz17_3, hfz17_0, hfz17_1, hfz17_2, hfz17_3⟩ := cl4 BK177.out) | ((with_reducible refine gate_builtin (b := .append) (xs := #[.tmp 22, .tmp 24]) rfl ?_); at_builtin; refine Kd.S_append k52 (w0 := w) w.heap.size rfl (.tmp 22) (.tmp 24) 28 52 (.agg #[(.int .i64 0), (.int .i64 0), (.string ⟨#[]⟩), (.slice none 0 0)]) 56 rfl Tryd.underlying28 info52 rfl (by decide) (by omega) u3 x3_1 (⟨(rd_T52 l0 x4_1).f0, (rd_T52 l0 x4_1).f1, (rd_T52 l0 x4_1).f2, y181⟩ : S52) [.int .i64 ((rd_T52 l0 x4_1).f0), .int .i64 ((rd_T52 l0 x4_1).f1), .string ((rd_T52 l0 x4_1).f2), .slice Ao14 y181.length co14] (fun _ => True) (fun k_ => some k_ = (.slice Ao14 y181.length co14 : Value).ownBlock) rfl rfl ?aP (fun k_ hk_ => ((Kd.R_mono (ok' := fun k_ => ((fun _ => True)) k_ ∧ some k_ ≠ (u3 : Value).ownBlock) (Kd.R_apart' (HO183.out) (Kd.S_typed HO_3.out) (by decide)) (fun k_ hk => ⟨trivial, hk.2⟩))).1 k_ hk_.symm) ?aF ?aO ?aB ?aS ?aL ?_; (case aP => exact k52_mkM _ _ _ (⟨(rd_T52 l0 x4_1).f0, (rd_T52 l0 x4_1).f1, (rd_T52 l0 x4_1).f2, y181⟩ : S52) (Kd.R_mono (Kd.R_tight rfl (Kd.R_mono (ok' := fun k_ => ((fun _ => True)) k_ ∧ some k_ ≠ (u3 : Value).ownBlock) (Kd.R_apart' (HO183.out) (Kd.S_typed HO_3.out) (by decide)) (fun k_ hk => ⟨trivial, hk.2⟩))) (fun _ h_ => h_))); (case aB => exact (be w)); (case aF => exact (fun _ _ => trivial)); (case aO => exact (by (with_reducible repeat (first | apply Kd.S_alloc | apply Kd.S_drewN | apply Kd.S_drew)); exact Kd.S_mono HO_3.out (fun k_ hk => ⟨trivial, fun e_ => hk.1 e_⟩))); (case aS => exact (below_size (be w))); (case aL => have := LMc7.out; omega); intro v185 w18 ho hb hg hat; rw [← Ny184.out] at ho; replace HB := As.mk (hb); have HO186 := As.mk (ho); clear HO183 HO_3; clear ho hb hg hat))
   go_roundg k1
   case measure => have := HK1.out; omega
   case rel => exact ⟨(y184), (wrap64 (x4_1 + 1)), (by first | rfl | (simp; done) | (simp [*]; done)), H', ⟨by have := HK1.out; omega⟩, ⟨by (with_reducible repeat (first | apply Kd.S_alloc | apply Kd.S_drewN | apply Kd.S_drew)); exact HO186.out⟩, ⟨be w⟩⟩
-- NOT PRINTED: function 19 (spec_l04Pack_put)

/-! ### laws_toIntS: function 36 -/
def laws_toIntS.l0 : Nat → List Int → List Int → Int → Option (List Int)
 | 0, _, _, _ => none
 | k + 1, x0, x3, x4 => if x4 < (x0.length : Int) then (if 0 ≤ x4 then (if x4 < (x3.length : Int) then (laws_toIntS.l0 k x0 (x3.set (x4 : Int).toNat (rd x0 x4)) (wrap64 (x4 + 1))) else (none)) else (none)) else (some x3)
def laws_toIntS.f (k : Nat) (l0 : List Int) : Option (List Int) := if 0 ≤ (l0.length : Int) then (if ((l0.length : Int) : Int).toNat ≤ 35184372088832 then (laws_toIntS.l0 k l0 (List.replicate ((l0.length : Int) : Int).toNat 0) 0) else (none)) else (none)
theorem laws_toIntS.mono_l : ∀ k, (∀ y0 y1 y2, LeO (laws_toIntS.l0 k y0 y1 y2) (laws_toIntS.l0 (k + 1) y0 y1 y2))
 | 0 => fun _ _ _ r h => by simp [laws_toIntS.l0] at h
 | k + 1 => by
  have ih0 := laws_toIntS.mono_l k
  ·
   intro y0 y1 y2
   unfold laws_toIntS.l0
   with_reducible repeat' first | exact ih0 _ _ _ | exact LeO.refl _ | exact LeO.none _ | refine LeO.ite ?_ ?_ | refine LeO.bind ?_ (fun _ => ?_)
theorem laws_toIntS.mono : ∀ a0 k, LeO (laws_toIntS.f k a0) (laws_toIntS.f (k + 1) a0) := by
 intro a0 k
 have ih0 := laws_toIntS.mono_l k
 unfold laws_toIntS.f
 with_reducible repeat' first | exact ih0 _ _ _ | exact LeO.refl _ | exact LeO.none _ | refine LeO.ite ?_ ?_ | refine LeO.bind ?_ (fun _ => ?_)
set_option maxHeartbeats 8000000 in
set_option maxRecDepth 100000 in
theorem laws_toIntS.calls (k : Nat) (A0 : Option Addr) (c0 : Nat) (l0 : List Int) (r : List Int) (w : World) (hr0 : Kd.C (Kd.int .i64) w A0 l0.length l0) (hc0 : l0.length ≤ c0) (h : laws_toIntS.f k l0 = some r) :
  Calls Tryd.prog 36 #[.slice A0 l0.length c0] w fun e w' => ∃ v0_ : Value, e = .returned (v0_) ∧ Kd.R (Kd.int .i64) 3 w' w.heap.size (fun _ => True) v0_ r ∧ Below w.heap.size w w' := by
 have HR0 := As.mk hr0
 have HC0 := As.mk hc0
 clear hr0 hc0
 have HB := As.mk (Below.refl w.heap.size w)
 have H : (if 0 ≤ (l0.length : Int) then (if ((l0.length : Int) : Int).toNat ≤ 35184372088832 then (laws_toIntS.l0 k l0 (List.replicate ((l0.length : Int) : Int).toNat 0) 0) else (none)) else (none)) = some r := h
 clear h
 by_cases c2 : 0 ≤ (l0.length : Int)
 rotate_left; · rw [if_neg c2] at H; exact absurd H (by simp)

 rw [if_pos c2] at H
 have c2b0 := eq_true c2
 have c2b1 : decide (0 ≤ (l0.length : Int)) = true := decide_eq_true c2
 clear c2
 by_cases c3 : ((l0.length : Int) : Int).toNat ≤ 35184372088832
 rotate_left; · rw [if_neg c3] at H; exact absurd H (by simp)
 rw [if_pos c3] at H
 have c3b0 := eq_true c3
 have c3b1 : decide (((l0.length : Int) : Int).toNat ≤ 35184372088832) = true := decide_eq_true c3
 clear c3
 obtain ⟨y193, hy193⟩ : ∃ y_ : List Int, y_ = (List.replicate ((l0.length : Int) : Int).toNat 0) := ⟨_, rfl⟩
 replace H : (laws_toIntS.l0 k l0 y193 0) = some r := by first | (rw [hy193]; with_reducible exact H) | (have H2_ := (Option.bind_some _ _).symm.trans H; rw [hy193]; with_reducible exact H2_) | (have H2_ := (Option.bind_some _ _).symm.trans H; with_reducible exact H2_) | with_reducible exact H | (rw [hy193]; exact H) | exact H
 have Ny193 := As.mk hy193
 clear hy193
 have H' := As.mk H
 clear H
 go_enter Tryd.func36, Tryd.ntmps36
 go_wp2_with (first | ((with_reducible refine gate_dst (N := 7) rfl ?_); refine Kd.R_make (Kd.int .i64) _ 3 rfl (N := 7) rfl 43 _ _ rfl (l0.length : Int) rfl rfl Tryd.underlying43 (.int .i64 0) 8 info3 rfl (by decide) (by omega) 0 (ok := fun _ => True) (okp := fun _ => True) rfl (fun _ hk => hk) trivial (of_decide_eq_true (by first | (with_reducible assumption) | assumption)) (Nat.le_trans (Nat.mul_le_mul_right _ (of_decide_eq_true (by first | (with_reducible assumption) | assumption) : (l0.length : Int).toNat ≤ 35184372088832)) (by omega)) (Below.refl _ _) (Nat.le_refl _) ?_; intro v194 w4 ho5 hb hg_ hnew_; clear hg_ hnew_; (first | rw [← Ny193.out] at ho5 | (simp only [Int.reduceToNat] at ho5; rw [← Ny193.out] at ho5)); have HO195 := As.mk (Kd.R_lower ho5 (below_size (be w))); replace HB := As.mk (below_step (be w) hb); clear hb ho5))
 go_loopg [4] k (fun kq v4 w' => ∃ (x3_1 : List Int) (x4_1 : Int), v4 = .int .i64 x4_1 ∧ As (laws_toIntS.l0 kq l0 x3_1 x4_1 = some r) ∧ As (kq ≤ k) ∧ As (Kd.R (Kd.int .i64) 3 w' w.heap.size (fun _ => True) v194 x3_1) ∧ As (Below w.heap.size w w'))
 case atStart => exact ⟨(y193), (0), (by first | rfl | (simp; done) | (simp [*]; done)), H', ⟨Nat.le_refl _⟩, ⟨by (with_reducible repeat (first | apply Kd.R_alloc | apply Kd.R_drewN | apply Kd.R_drew)); exact HO195.out⟩, ⟨be w⟩⟩
 case round =>
  clear H'
  (try clear c2); (try clear c2b0); (try clear c2b1); (try clear c3); (try clear c3b0); (try clear c3b1)
  obtain ⟨x3_1, x4_1, rfl, HA, HK1, HO_3, HB⟩ := hrel
  cases gk with
  | zero => exact absurd HA.out (by simp [laws_toIntS.l0])
  | succ k1 =>
   have H := HA.out
   clear HA
   simp only [laws_toIntS.l0] at H
   by_cases c6 : x4_1 < (l0.length : Int)
   rotate_left
   ·
    rw [if_neg c6] at H
    have c6b0 : decide (x4_1 < (l0.length : Int)) = false := decide_eq_false c6
    clear c6
    obtain rfl := Option.some.inj H
    go_wp2
    go_ret
    exact ⟨_, ez, by (with_reducible repeat (first | apply Kd.R_alloc | apply Kd.R_drewN | apply Kd.R_drew)); exact HO_3.out, be w⟩
   rw [if_pos c6] at H
   have c6b0 : decide (x4_1 < (l0.length : Int)) = true := decide_eq_true c6
   clear c6
   by_cases c7 : 0 ≤ x4_1
   rotate_left; · rw [if_neg c7] at H; exact absurd H (by simp)
   rw [if_pos c7] at H
   have c7b0 : decide (0 ≤ x4_1) = true := decide_eq_true c7
   clear c7
   by_cases c8 : x4_1 < (x3_1.length : Int)
   rotate_left; · rw [if_neg c8] at H; exact absurd H (by simp)
   rw [if_pos c8] at H
   have c8b0 : decide (x4_1 < (x3_1.length : Int)) = true := decide_eq_true c8
   clear c8
   obtain ⟨y197, hy197⟩ : ∃ y_ : List Int, y_ = (x3_1.set (x4_1 : Int).toNat (rd l0 x4_1)) := ⟨_, rfl⟩
   replace H : (laws_toIntS.l0 k1 l0 y197 (wrap64 (x4_1 + 1))) = some r := by first | (rw [hy197]; with_reducible exact H) | (have H2_ := (Option.bind_some _ _).symm.trans H; rw [hy197]; with_reducible exact H2_) | (have H2_ := (Option.bind_some _ _).symm.trans H; with_reducible exact H2_) | with_reducible exact H | (rw [hy197]; exact H) | exact H
   have Ny197 := As.mk hy197
   clear hy197
   have H' := As.mk H
   clear H
   have p196 : 0 ≤ (x4_1 : Int) := od
   have q196 : x4_1 < (l0.length : Int) := od
   obtain ⟨ad196, e196, hx196_0⟩ := Kd.at_int HR0.out x4_1 p196 q196
   cases e196
   replace hx196_0 := ce HB.out hx196_0
   replace p196 := eq_true p196
   replace q196 := eq_true q196
   have p9 : 0 ≤ (x4_1 : Int) := od
   have q9 : (x4_1 : Int) < ((x3_1.length : Int) : Int) := od
   obtain ⟨go9, co9, eo9, gb9, gl9, cl9, HG9⟩ := Kd.R_form HO_3.out (by omega)
   (first | cases eo9 | (injection eo9 with ea_ en_ ec_; (first | subst ea_ | (injection ea_ with ea_; subst ea_)); subst ec_; clear en_))
   have GB9 := As.mk gb9
   have GG9 := As.mk HG9
   clear gb9 gl9 HG9
   obtain ⟨hx9_0, hf9_0⟩ := Kd.R_celln 0 HO_3.out (x4_1 : Int) p9 q9
   replace p9 := eq_true p9
   replace q9 := eq_true q9
   have HP10 := Kd.R_putg HO_3.out (x4_1 : Int) (rd l0 x4_1)
   go_wp2_with (first | ((with_reducible refine gate_store (t := 3) (p := 20) rfl ?_); refine store_event (t := 3) (p := 20) (v := ?vo_w11) (w1 := (wr.setCell ⟨go9, (x4_1 : Int).toNat, none⟩ (.int .i64 (rd l0 x4_1)))) ?hg ?ho ?hn ?hr ?_; (case ho => rfl); (case hg => rfl); (case hn => rfl); (case hr => first | (go_simp; done) | (go_simp; rfl)); intro w11 hw; have hg : wr.grownBy w11 (some go9) := (by rw [hw]; exact HP10.2); have hp_ : Kd.R (Kd.int .i64) 3 w11 w.heap.size (fun _ => True) (.slice (some ⟨go9, 0, none⟩) x3_1.length co9) y197 := (by rw [hw, Ny197.out]; exact HP10.1); clear HP10; replace HO_3 := As.mk (hp_); replace HB := As.mk ((by rw [hw]; exact below_set (HB.out) GB9.out : Below w.heap.size w w11)); clear hg hw hp_))
   go_roundg k1
   case measure => have := HK1.out; omega
   case rel => exact ⟨(y197), (wrap64 (x4_1 + 1)), (by first | rfl | (simp; done) | (simp [*]; done)), H', ⟨by have := HK1.out; omega⟩, ⟨by (with_reducible repeat (first | apply Kd.R_alloc | apply Kd.R_drewN | apply Kd.R_drew)); exact HO_3.out⟩, ⟨be w⟩⟩
/-! ### laws_toNode: function 21 -/
def laws_toNode.f (k : Nat) (a0_0 : Int) (a0_1 : Int) (a0_2 : ByteArray) (l0_3 : List Int) : Option (Int × Int × ByteArray × List Int) := (laws_toIntS.f k l0_3).bind fun t201 => (some (a0_0, a0_1, a0_2, t201))
theorem laws_toNode.mono : ∀ a0 a1 a2 a3 k, LeO (laws_toNode.f k a0 a1 a2 a3) (laws_toNode.f (k + 1) a0 a1 a2 a3) := by
 intro a0 a1 a2 a3 k
 unfold laws_toNode.f
 with_reducible repeat' first | exact laws_toIntS.mono _ _ | exact LeO.refl _ | exact LeO.none _ | refine LeO.ite ?_ ?_ | refine LeO.bind ?_ (fun _ => ?_)
set_option maxHeartbeats 8000000 in
set_option maxRecDepth 100000 in
theorem laws_toNode.calls (k : Nat) (a0_0 : Int) (a0_1 : Int) (a0_2 : ByteArray) (A0_3 : Option Addr) (c0_3 : Nat) (l0_3 : List Int) (r1 : Int) (r2 : Int) (r3 : ByteArray) (r4 : List Int) (w : World) (hr0_3 : Kd.C (Kd.int .i64) w A0_3 l0_3.length l0_3) (hc0_3 : l0_3.length ≤ c0_3) (h : laws_toNode.f k a0_0 a0_1 a0_2 l0_3 = some (r1, r2, r3, r4)) :
  Calls Tryd.prog 21 #[.agg #[.int .i64 a0_0, .int .i64 a0_1, .string a0_2, .slice A0_3 l0_3.length c0_3]] w fun e w' => ∃ v3_ : Value, e = .returned (.agg #[.int .i64 r1, .int .i64 r2, .string r3, v3_]) ∧ Kd.R (Kd.int .i64) 3 w' w.heap.size (fun _ => True) v3_ r4 ∧ Below w.heap.size w w' := by
 have hu45 := Tryd.underlying45
 have hu52 := Tryd.underlying52
 have HR0_3 := As.mk hr0_3
 have HC0_3 := As.mk hc0_3
 clear hr0_3 hc0_3
 have HB := As.mk (Below.refl w.heap.size w)
 have H : ((laws_toIntS.f k l0_3).bind fun t201 => (some (a0_0, a0_1, a0_2, t201))) = some (r1, r2, r3, r4) := h
 clear h
 obtain ⟨t201, A20, H⟩ := Option.bind_eq_some_iff.mp H
 try dsimp only at H
 have A2 := As.mk A20
 clear A20
 simp only [Option.some.injEq, Prod.mk.injEq] at H
 obtain ⟨rfl, rfl, rfl, rfl⟩ := H
 go_enter Tryd.func21, Tryd.ntmps21
 go_wp2_with (first | ((with_reducible refine gate_dst (N := 1) rfl ?_); refine box_event ?hg (N := 1) ?hd (cs := #[.int .i64 a0_0, .int .i64 a0_1, .string a0_2, .slice A0_3 l0_3.length c0_3]) (t := 45) ?hr ?_; (case hd => rfl); (case hg => rfl); (case hr => first | (go_simp; done) | (go_simp; rfl)); intro gb198 hg w3 hbox hb; have BK198 := As.mk (hbox); have GW198 := As.mk (gs w hg); have GE198 := As.mk (gs w hg); replace HB := As.mk (below_step (be w) hb); clear hb hbox hg) | ((with_reducible refine gate_dst (N := 2) rfl ?_); refine box_event ?hg (N := 2) ?hd (cs := #[.int .i64 0, .int .i64 0, .string (⟨#[]⟩ : ByteArray), .slice none 0 0]) (t := 52) ?hr ?_; (case hd => rfl); (case hg => rfl); (case hr => first | (go_simp; done) | (go_simp; rfl)); intro gb199 hg w4 hbox hb; have BK199 := As.mk (hbox); have GW199 := As.mk (gs w hg); have GE199 := As.mk (gs w hg); replace HB := As.mk (below_step (be w) hb); have NB198_199 := As.mk (nl hg (bx BK198.out)); have NB199_198 := As.mk (ng hg (bx BK198.out)); replace BK198 := As.mk (blk_below (bx BK198.out) hb); clear hb hbox hg) | ((with_reducible refine gate_dst (N := 3) rfl ?_); refine box_event ?hg (N := 3) ?hd (cs := #[.int .i64 0, .int .i64 0, .string (⟨#[]⟩ : ByteArray), .slice none 0 0]) (t := 52) ?hr ?_; (case hd => rfl); (case hg => rfl); (case hr => first | (go_simp; done) | (go_simp; rfl)); intro gb200 hg w5 hbox hb; have BK200 := As.mk (hbox); have GW200 := As.mk (gs w hg); have GE200 := As.mk (gs w hg); replace HB := As.mk (below_step (be w) hb); have NB198_200 := As.mk (nl hg (bx BK198.out)); have NB200_198 := As.mk (ng hg (bx BK198.out)); replace BK198 := As.mk (blk_below (bx BK198.out) hb); have NB199_200 := As.mk (nl hg (bx BK199.out)); have NB200_199 := As.mk (ng hg (bx BK199.out)); replace BK199 := As.mk (blk_below (bx BK199.out) hb); clear hb hbox hg; have hnb6 := NB198_199.out; have hnc6 := NB199_198.out; have hnb7 := NB198_200.out; have hnc7 := NB200_198.out; obtain ⟨hcz8_0, hcz8_1, hcz8_2, hcz8_3, hfz8_0, hfz8_1, hfz8_2, hfz8_3⟩ := cl4 BK198.out; have hnb9 := NB200_199.out; have hnc9 := NB199_200.out; obtain ⟨hcz10_0, hcz10_1, hcz10_2, hcz10_3, hfz10_0, hfz10_1, hfz10_2, hfz10_3⟩ := cl4 BK200.out) | ((with_reducible refine gate_callee (f := 36) rfl ?_); refine goesL_ (some 15) rfl rfl Tryd.func36 (by kernel_rfl) rfl #[.slice A0_3 l0_3.length c0_3] rfl (by (try simp only [lm]); first | done | rfl | (simp only [List.length_drop, List.length_take]; rfl)) ?_; (with_reducible refine (laws_toIntS.calls k _ _ l0_3 t201 _ ?side1 ?side2 A2.out).mono ?_); (case side1 => exact Kd.C_below HR0_3.out (be w)); (case side2 => exact HC0_3.out); rintro e w11 ⟨v202, rfl, ho0, hb⟩; refine ⟨_, rfl, ?_⟩; have HO203 := As.mk (Kd.R_lower ho0 (below_size (be w))); replace BK198 := As.mk (blk_below (g := gb198) (o := .cells #[.int .i64 a0_0, .int .i64 a0_1, .string a0_2, .slice A0_3 l0_3.length c0_3] 45 (0, 0)) (by refine pl ?_; refine blk_far ?_ NB198_200.out _; refine pl ?_; refine blk_far ?_ NB198_200.out _; refine pl ?_; refine blk_far ?_ NB198_200.out _; exact bx BK198.out) hb); replace BK199 := As.mk (blk_below (g := gb199) (o := .cells #[.int .i64 0, .int .i64 0, .string (⟨#[]⟩ : ByteArray), .slice none 0 0] 52 (0, 0)) (by refine pl ?_; refine blk_far ?_ NB199_200.out _; refine pl ?_; refine blk_far ?_ NB199_200.out _; refine pl ?_; refine blk_far ?_ NB199_200.out _; exact bx BK199.out) hb); replace BK200 := As.mk (blk_below (g := gb200) (o := .cells #[.int .i64 a0_0, .int .i64 a0_1, .string a0_2, .slice none 0 0] 52 (0, 0)) (by refine pl ?_; refine blk_put (cs := #[.int .i64 a0_0, .int .i64 a0_1, .string (⟨#[]⟩ : ByteArray), .slice none 0 0]) ?_ 2 _ rfl; refine pl ?_; refine blk_put (cs := #[.int .i64 a0_0, .int .i64 0, .string (⟨#[]⟩ : ByteArray), .slice none 0 0]) ?_ 1 _ rfl; refine pl ?_; refine blk_put (cs := #[.int .i64 0, .int .i64 0, .string (⟨#[]⟩ : ByteArray), .slice none 0 0]) ?_ 0 _ rfl; exact bx BK200.out) hb); replace HB := As.mk (below_step (be w) hb); (try clear hb); (try clear hb2); (try clear hk); (try clear hi); (try clear ho0); obtain ⟨Ao12, co12, eo12⟩ := Kd.R_slice HO203.out; subst eo12; obtain ⟨hcz13_0, hcz13_1, hcz13_2, hcz13_3, hfz13_0, hfz13_1, hfz13_2, hfz13_3⟩ := cl4 BK200.out; obtain ⟨hcz14_0, hcz14_1, hcz14_2, hcz14_3, hfz14_0, hfz14_1, hfz14_2, hfz14_3⟩ := cl4 BK199.out))
 refine bodyPost_ret (results_cell_row rfl _ _ gb199 52 #[.int .i64 a0_0, .int .i64 a0_1, .string a0_2, .slice Ao12 t201.length co12] (0, 0) _ rfl (by refine pl ?_; refine blk_put (cs := #[.int .i64 a0_0, .int .i64 a0_1, .string a0_2, .slice none 0 0]) ?_ 3 _ rfl; refine pl ?_; refine blk_put (cs := #[.int .i64 a0_0, .int .i64 a0_1, .string (⟨#[]⟩ : ByteArray), .slice none 0 0]) ?_ 2 _ rfl; refine pl ?_; refine blk_put (cs := #[.int .i64 a0_0, .int .i64 0, .string (⟨#[]⟩ : ByteArray), .slice none 0 0]) ?_ 1 _ rfl; refine pl ?_; refine blk_put (cs := #[.int .i64 0, .int .i64 0, .string (⟨#[]⟩ : ByteArray), .slice none 0 0]) ?_ 0 _ rfl; refine pl ?_; refine blk_far ?_ NB199_200.out _; exact bx BK199.out) Tryd.underlying52 rfl (by kernel_rfl)) rfl ?_
 exact ⟨_, ez, by (with_reducible repeat (first | apply Kd.R_alloc | apply Kd.R_drewN | apply Kd.R_drew)); exact Kd.R_mono (Kd.R_far (p := ⟨gb199, 3, none⟩) (Kd.R_far (p := ⟨gb199, 2, none⟩) (Kd.R_far (p := ⟨gb199, 1, none⟩) (Kd.R_far (p := ⟨gb199, 0, none⟩) (Kd.R_far (p := ⟨gb200, 3, none⟩) (Kd.R_types (Kd.R_types HO203.out BK200.out (by decide)) BK199.out (by decide)) (fun _ hk => hk.1.2) (.slice Ao12 t201.length co12)) (fun _ hk => hk.2) (.int .i64 a0_0)) (fun _ hk => hk.2) (.int .i64 a0_1)) (fun _ hk => hk.2) (.string a0_2)) (fun _ hk => hk.2) (.slice Ao12 t201.length co12)) (fun _ hk => trivial), be w⟩

end Go.Proofs.YtnepkmbknoanjaaDoor.PFnExactCopyNodes
