/- Written by a program of this session (a turned copy of the kit's print): a contract for each Go function. No condition beside those in each statement. -/
import Derived.Test.YtcoapbnbakmkoaaGreatDoorPFnExactVarsOfx0
import Derived.Test.YtcoapbnbakmkoaaGreatDoorPFnExactVarsOfx1
import Derived.Test.YtcoapbnbakmkoaaGreatDoorPFnExactVarsOfx3
namespace Go.Proofs.YtcoapbnbakmkoaaGreatDoor.PFnExactVarsOf
open Go.RowKit Go.Proofs.YtcoapbnbakmkoaaGreatDoor.Given Go.Proofs.YtcoapbnbakmkoaaGreatDoorW.PrintWords Go.Proofs.YtcoapbnbakmkoaaGreatDoorW.PrintLast Go.Proofs.YtcoapbnbakmkoaaGreatDoorW.PrintMore
attribute [local go_sem] max2_int min2_int max_two min_two max_three min_three max_four min_four   -- for this text's walks alone
set_option linter.unusedVariables false
set_option linter.unusedSimpArgs false

/-! ### spec_l04Deeps: function 71 -/
mutual
def spec_l04Deeps.l0 : Nat → List (S62) → Int → List Int → Int → Option (List Int)
 | 0, _, _, _, _ => none
 | k + 1, x0, x1, x5, x6 => if x6 ≤ x1 then (spec_l04Deeps.j1 k x0 x1 x5 x6 (decide (x6 < (x0.length : Int)))) else (spec_l04Deeps.j1 k x0 x1 x5 x6 false)
def spec_l04Deeps.j1 : Nat → List (S62) → Int → List Int → Int → Bool → Option (List Int)
 | 0, _, _, _, _, _ => none
 | k + 1, x0, x1, x5, x6, x18 => if x18 = true then ((spec_NodeOk.f k x0 x6).bind fun t153 => (if t153 = true then (if x6 > 0 then (if 0 ≤ (wrap64 (x6 - 1)) then (if (wrap64 (x6 - 1)) < (x5.length : Int) then (spec_l04Deeps.j2 k x0 x1 x5 x6 1 ((rd x5 (wrap64 (x6 - 1))) == 0)) else (none)) else (none)) else (spec_l04Deeps.j2 k x0 x1 x5 x6 1 false)) else (spec_l04Deeps.j2 k x0 x1 x5 x6 1 true))) else (some x5)
def spec_l04Deeps.j2 : Nat → List (S62) → Int → List Int → Int → Int → Bool → Option (List Int)
 | 0, _, _, _, _, _, _ => none
 | k + 1, x0, x1, x5, x6, x7, x36 => if x36 = true then (spec_l04Deeps.j3 k x0 x1 x5 x6 0) else (spec_l04Deeps.j3 k x0 x1 x5 x6 x7)
def spec_l04Deeps.j3 : Nat → List (S62) → Int → List Int → Int → Int → Option (List Int)
 | 0, _, _, _, _, _ => none
 | k + 1, x0, x1, x5, x6, x7 => spec_l04Deeps.l1 k x0 x1 x5 x6 x7 0
def spec_l04Deeps.l1 : Nat → List (S62) → Int → List Int → Int → Int → Int → Option (List Int)
 | 0, _, _, _, _, _, _ => none
 | k + 1, x0, x1, x5, x6, x7, x8 => if x7 > 0 then (if 0 ≤ x6 then (if x6 < (x0.length : Int) then (spec_l04Deeps.j5 k x0 x1 x5 x6 x7 x8 (decide (x8 < (((rd_T62 x0 x6).f3).length : Int)))) else (none)) else (none)) else (spec_l04Deeps.j5 k x0 x1 x5 x6 x7 x8 false)
def spec_l04Deeps.j5 : Nat → List (S62) → Int → List Int → Int → Int → Int → Bool → Option (List Int)
 | 0, _, _, _, _, _, _, _ => none
 | k + 1, x0, x1, x5, x6, x7, x8, x48 => if x48 = true then (if 0 ≤ x6 then (if x6 < (x0.length : Int) then (if 0 ≤ x8 then (if x8 < (((rd_T62 x0 x6).f3).length : Int) then (if 0 ≤ (rd ((rd_T62 x0 x6).f3) x8) then (if (rd ((rd_T62 x0 x6).f3) x8) < (x5.length : Int) then (if (wrap64 ((rd x5 (rd ((rd_T62 x0 x6).f3) x8)) + 1)) > x7 then (spec_l04Deeps.l1 k x0 x1 x5 x6 (wrap64 ((rd x5 (rd ((rd_T62 x0 x6).f3) x8)) + 1)) (wrap64 (x8 + 1))) else (spec_l04Deeps.l1 k x0 x1 x5 x6 x7 (wrap64 (x8 + 1)))) else (none)) else (none)) else (none)) else (none)) else (none)) else (none)) else (if x7 > 10 then (if x5.length < 17592186044416 then (spec_l04Deeps.l0 k x0 x1 (x5 ++ [0]) (wrap64 (x6 + 1))) else (none)) else (if x5.length < 17592186044416 then (spec_l04Deeps.l0 k x0 x1 (x5 ++ [x7]) (wrap64 (x6 + 1))) else (none)))
end
def spec_l04Deeps.f (k : Nat) (l0 : List (S62)) (a1 : Int) : Option (List Int) := spec_l04Deeps.l0 k l0 a1 (([] : List Int)) 0
theorem spec_l04Deeps.mono_l : ∀ k, (∀ y0 y1 y2 y3, LeO (spec_l04Deeps.l0 k y0 y1 y2 y3) (spec_l04Deeps.l0 (k + 1) y0 y1 y2 y3)) ∧ (∀ y0 y1 y2 y3 y4, LeO (spec_l04Deeps.j1 k y0 y1 y2 y3 y4) (spec_l04Deeps.j1 (k + 1) y0 y1 y2 y3 y4)) ∧ (∀ y0 y1 y2 y3 y4 y5, LeO (spec_l04Deeps.j2 k y0 y1 y2 y3 y4 y5) (spec_l04Deeps.j2 (k + 1) y0 y1 y2 y3 y4 y5)) ∧ (∀ y0 y1 y2 y3 y4, LeO (spec_l04Deeps.j3 k y0 y1 y2 y3 y4) (spec_l04Deeps.j3 (k + 1) y0 y1 y2 y3 y4)) ∧ (∀ y0 y1 y2 y3 y4 y5, LeO (spec_l04Deeps.l1 k y0 y1 y2 y3 y4 y5) (spec_l04Deeps.l1 (k + 1) y0 y1 y2 y3 y4 y5)) ∧ (∀ y0 y1 y2 y3 y4 y5 y6, LeO (spec_l04Deeps.j5 k y0 y1 y2 y3 y4 y5 y6) (spec_l04Deeps.j5 (k + 1) y0 y1 y2 y3 y4 y5 y6))
 | 0 => ⟨fun _ _ _ _ r h => by simp [spec_l04Deeps.l0] at h, fun _ _ _ _ _ r h => by simp [spec_l04Deeps.j1] at h, fun _ _ _ _ _ _ r h => by simp [spec_l04Deeps.j2] at h, fun _ _ _ _ _ r h => by simp [spec_l04Deeps.j3] at h, fun _ _ _ _ _ _ r h => by simp [spec_l04Deeps.l1] at h, fun _ _ _ _ _ _ _ r h => by simp [spec_l04Deeps.j5] at h⟩
 | k + 1 => by
  obtain ⟨ih0, ih1, ih2, ih3, ih4, ih5⟩ := spec_l04Deeps.mono_l k
  refine ⟨?_, ?_, ?_, ?_, ?_, ?_⟩
  ·
   intro y0 y1 y2 y3
   unfold spec_l04Deeps.l0
   with_reducible repeat' first | exact ih0 _ _ _ _ | exact ih1 _ _ _ _ _ | exact ih2 _ _ _ _ _ _ | exact ih3 _ _ _ _ _ | exact ih4 _ _ _ _ _ _ | exact ih5 _ _ _ _ _ _ _ | exact spec_NodeOk.mono _ _ _ | exact LeO.refl _ | exact LeO.none _ | refine LeO.ite ?_ ?_ | refine LeO.bind ?_ (fun _ => ?_)
  ·
   intro y0 y1 y2 y3 y4
   unfold spec_l04Deeps.j1
   with_reducible repeat' first | exact ih0 _ _ _ _ | exact ih1 _ _ _ _ _ | exact ih2 _ _ _ _ _ _ | exact ih3 _ _ _ _ _ | exact ih4 _ _ _ _ _ _ | exact ih5 _ _ _ _ _ _ _ | exact spec_NodeOk.mono _ _ _ | exact LeO.refl _ | exact LeO.none _ | refine LeO.ite ?_ ?_ | refine LeO.bind ?_ (fun _ => ?_)
  ·
   intro y0 y1 y2 y3 y4 y5
   unfold spec_l04Deeps.j2
   with_reducible repeat' first | exact ih0 _ _ _ _ | exact ih1 _ _ _ _ _ | exact ih2 _ _ _ _ _ _ | exact ih3 _ _ _ _ _ | exact ih4 _ _ _ _ _ _ | exact ih5 _ _ _ _ _ _ _ | exact spec_NodeOk.mono _ _ _ | exact LeO.refl _ | exact LeO.none _ | refine LeO.ite ?_ ?_ | refine LeO.bind ?_ (fun _ => ?_)
  ·
   intro y0 y1 y2 y3 y4
   unfold spec_l04Deeps.j3
   with_reducible repeat' first | exact ih0 _ _ _ _ | exact ih1 _ _ _ _ _ | exact ih2 _ _ _ _ _ _ | exact ih3 _ _ _ _ _ | exact ih4 _ _ _ _ _ _ | exact ih5 _ _ _ _ _ _ _ | exact spec_NodeOk.mono _ _ _ | exact LeO.refl _ | exact LeO.none _ | refine LeO.ite ?_ ?_ | refine LeO.bind ?_ (fun _ => ?_)
  ·
   intro y0 y1 y2 y3 y4 y5
   unfold spec_l04Deeps.l1
   with_reducible repeat' first | exact ih0 _ _ _ _ | exact ih1 _ _ _ _ _ | exact ih2 _ _ _ _ _ _ | exact ih3 _ _ _ _ _ | exact ih4 _ _ _ _ _ _ | exact ih5 _ _ _ _ _ _ _ | exact spec_NodeOk.mono _ _ _ | exact LeO.refl _ | exact LeO.none _ | refine LeO.ite ?_ ?_ | refine LeO.bind ?_ (fun _ => ?_)
  ·
   intro y0 y1 y2 y3 y4 y5 y6
   unfold spec_l04Deeps.j5
   with_reducible repeat' first | exact ih0 _ _ _ _ | exact ih1 _ _ _ _ _ | exact ih2 _ _ _ _ _ _ | exact ih3 _ _ _ _ _ | exact ih4 _ _ _ _ _ _ | exact ih5 _ _ _ _ _ _ _ | exact spec_NodeOk.mono _ _ _ | exact LeO.refl _ | exact LeO.none _ | refine LeO.ite ?_ ?_ | refine LeO.bind ?_ (fun _ => ?_)
theorem spec_l04Deeps.mono : ∀ a0 a1 k, LeO (spec_l04Deeps.f k a0 a1) (spec_l04Deeps.f (k + 1) a0 a1) := by
 intro a0 a1 k
 obtain ⟨ih0, ih1, ih2, ih3, ih4, ih5⟩ := spec_l04Deeps.mono_l k
 unfold spec_l04Deeps.f
 with_reducible repeat' first | exact ih0 _ _ _ _ | exact ih1 _ _ _ _ _ | exact ih2 _ _ _ _ _ _ | exact ih3 _ _ _ _ _ | exact ih4 _ _ _ _ _ _ | exact ih5 _ _ _ _ _ _ _ | exact spec_NodeOk.mono _ _ _ | exact LeO.refl _ | exact LeO.none _ | refine LeO.ite ?_ ?_ | refine LeO.bind ?_ (fun _ => ?_)
set_option maxHeartbeats 8000000 in
set_option maxRecDepth 100000 in
theorem spec_l04Deeps.calls (k : Nat) (A0 : Option Addr) (c0 : Nat) (l0 : List (S62)) (a1 : Int) (r : List Int) (w : World) (hr0 : Kd.C k62 w A0 l0.length l0) (hc0 : l0.length ≤ c0) (h : spec_l04Deeps.f k l0 a1 = some r) :
  Calls Tryz.prog 71 #[.slice A0 l0.length c0, .int .i64 a1] w fun e w' => ∃ v0_ : Value, e = .returned (v0_) ∧ Kd.R (Kd.int .i64) 3 w' w.heap.size (fun _ => True) v0_ r ∧ Below w.heap.size w w' := by
 have HR0 := As.mk hr0
 have HC0 := As.mk hc0
 clear hr0 hc0
 have HB := As.mk (Below.refl w.heap.size w)
 have H : (spec_l04Deeps.l0 k l0 a1 (([] : List Int)) 0) = some r := h
 clear h
 obtain ⟨y150, hy150⟩ : ∃ y_ : List Int, y_ = (([] : List Int)) := ⟨_, rfl⟩
 replace H : (spec_l04Deeps.l0 k l0 a1 y150 0) = some r := by first | (rw [hy150]; with_reducible exact H) | (have H2_ := (Option.bind_some _ _).symm.trans H; rw [hy150]; with_reducible exact H2_) | (have H2_ := (Option.bind_some _ _).symm.trans H; with_reducible exact H2_) | with_reducible exact H | (rw [hy150]; exact H) | exact H
 have Ny150 := As.mk hy150
 clear hy150
 have H' := As.mk H
 clear H
 go_enter Tryz.func71, Tryz.ntmps71
 go_wp2_with (first | ((with_reducible refine gate_dst (N := 9) rfl ?_); (try (refine gate_guard (by rfl) ?_; dsimp only)); refine Kd.R_lit (Kd.int .i64) _ 3 ?hg (N := 9) ?hd (xs := ([] : List Int)) (inner := []) (ok := fun _ => True) (okp := fun _ => True) ?hr ?hp (fun _ hk => hk) trivial (Below.refl _ _) (Nat.le_refl _) (by simp) ?_; (case hd => rfl); (case hg => rfl); (case hr => first | (go_simp; done) | (go_simp; rfl)); (case hp => exact (Reps.none _ _)); intro v151 w3 ho4 hb hg_ hnew_; clear hg_ hnew_; (first | rw [← Ny150.out] at ho4 | (simp only [Int.reduceToNat] at ho4; rw [← Ny150.out] at ho4)); have HO152 := As.mk (Kd.R_lower ho4 (below_size (be w))); replace HB := As.mk (below_step (be w) hb); clear hb ho4))
 go_loopg [5, 6] k (fun kq v5 v6 w' => ∃ (x5_1 : List Int) (x6_1 : Int), v6 = .int .i64 x6_1 ∧ As (spec_l04Deeps.l0 kq l0 a1 x5_1 x6_1 = some r) ∧ As (kq ≤ k) ∧ As (Kd.R (Kd.int .i64) 3 w' w.heap.size (fun _ => True) v5 x5_1) ∧ As (Below w.heap.size w w'))
 case atStart => exact ⟨(y150), (0), (by first | rfl | (simp; done) | (simp [*]; done)), H', ⟨Nat.le_refl _⟩, ⟨by (with_reducible repeat (first | apply Kd.R_alloc | apply Kd.R_drewN | apply Kd.R_drew)); exact HO152.out⟩, ⟨be w⟩⟩
 case round =>
  clear H'
  obtain ⟨x5_1, x6_1, rfl, HA, HK1, HO_5, HB⟩ := hrel
  cases gk with
  | zero => exact absurd HA.out (by simp [spec_l04Deeps.l0])
  | succ k1 =>
   have H := HA.out
   clear HA
   simp only [spec_l04Deeps.l0] at H
   have HC5 := As.mk H
   clear H
   go_upto_region 3 with (fail)
   go_cut [18] (fun v18 wc => ∃ (kq : Nat) (x18_4 : Bool), v18 = .bool x18_4 ∧ As (spec_l04Deeps.j1 kq l0 a1 x5_1 x6_1 x18_4 = some r) ∧ As (kq ≤ k1) ∧ As (Kd.R (Kd.int .i64) 3 wc w.heap.size (fun _ => True) u5 x5_1) ∧ As (Below w.heap.size w wc))
   case first =>
    have H := HC5.out
    clear HC5
    by_cases c6 : x6_1 ≤ a1
    rotate_left
    ·
     rw [if_neg c6] at H
     have c6b0 : decide (x6_1 ≤ a1) = false := decide_eq_false c6
     clear c6
     (first | rw [c6b0] | (simp only [i64_w, i32_w]; rw [c6b0]) | skip)
     have H' := As.mk H
     clear H
     go_wp2
     go_meet
     case rel => exact ⟨_, (false), (by first | rfl | (simp; done) | (simp [*]; done)), H', ⟨by have := HK1.out; first | omega | exact Nat.le_refl _⟩, ⟨by (with_reducible repeat (first | apply Kd.R_alloc | apply Kd.R_drewN | apply Kd.R_drew)); exact HO_5.out⟩, ⟨be w⟩⟩
    rw [if_pos c6] at H
    have c6b0 : decide (x6_1 ≤ a1) = true := decide_eq_true c6
    clear c6
    (first | rw [c6b0] | (simp only [i64_w, i32_w]; rw [c6b0]) | skip)
    have H' := As.mk H
    clear H
    go_wp2
    go_meet
    case rel => exact ⟨_, (decide (x6_1 < (l0.length : Int))), (by first | rfl | (simp; done) | (simp [*]; done)), H', ⟨by have := HK1.out; first | omega | exact Nat.le_refl _⟩, ⟨by (with_reducible repeat (first | apply Kd.R_alloc | apply Kd.R_drewN | apply Kd.R_drew)); exact HO_5.out⟩, ⟨be w⟩⟩
   case rest =>
    clear HC5
    obtain ⟨kq, x18_4, rfl, HA, HJ4, HO_5, HB⟩ := hcut
    cases kq with
    | zero => exact absurd HA.out (by simp [spec_l04Deeps.j1])
    | succ kj4 =>
     have H := HA.out
     clear HA
     simp only [spec_l04Deeps.j1] at H
     by_cases c7 : x18_4 = true
     rotate_left
     ·
      replace c7 := Bool.eq_false_iff.mpr c7
      subst c7
      rw [if_neg (show ¬ (false = true) by decide)] at H
      obtain rfl := Option.some.inj H
      go_wp2
      go_ret
      exact ⟨_, ez, by (with_reducible repeat (first | apply Kd.R_alloc | apply Kd.R_drewN | apply Kd.R_drew)); exact HO_5.out, be w⟩

     subst c7
     rw [if_pos rfl] at H
     have HC8 := As.mk H
     clear H
     go_upto_region 6 with (fail)
     go_cut [36] (fun v36 wc => ∃ (kq : Nat) (x36_7 : Bool), v36 = .bool x36_7 ∧ As (spec_l04Deeps.j2 kq l0 a1 x5_1 x6_1 1 x36_7 = some r) ∧ As (kq ≤ kj4) ∧ As (Kd.R (Kd.int .i64) 3 wc w.heap.size (fun _ => True) u5 x5_1) ∧ As (Below w.heap.size w wc))
     case first =>
      have H := HC8.out
      clear HC8
      obtain ⟨t153, A90, H⟩ := Option.bind_eq_some_iff.mp H
      try dsimp only at H
      have A9 := As.mk A90
      clear A90
      by_cases c10 : t153 = true
      rotate_left
      ·
       replace c10 := Bool.eq_false_iff.mpr c10
       subst c10
       rw [if_neg (show ¬ (false = true) by decide)] at H
       have H' := As.mk H
       clear H
       go_wp2_with (first | ((with_reducible refine gate_callee (f := 95) rfl ?_); refine goesL_ (some 23) rfl rfl Tryz.func95 (by kernel_rfl) rfl #[.slice A0 l0.length c0, .int .i64 x6_1] rfl (by (try simp only [lm]); first | done | rfl | (simp only [List.length_drop, List.length_take]; rfl)) ?_; (with_reducible refine (spec_NodeOk.calls kj4 _ _ l0 x6_1 false _ ?side1 ?side2 A9.out).mono ?_); (case side1 => exact Kd.C_below HR0.out (be w)); (case side2 => exact HC0.out); rintro e w18 ⟨rfl, hb⟩; refine ⟨_, rfl, ?_⟩; replace HO_5 := As.mk (Kd.R_below (by (with_reducible repeat (first | apply Kd.R_alloc | apply Kd.R_drewN | apply Kd.R_drew)); exact HO_5.out) hb); replace HB := As.mk (below_step (be w) hb); (try clear hb); (try clear hb2); (try clear hk); (try clear hi)))
       go_meet
       case rel => exact ⟨_, (true), (by first | rfl | (simp; done) | (simp [*]; done)), H', ⟨by have := HK1.out; have := HJ4.out; first | omega | exact Nat.le_refl _⟩, ⟨by (with_reducible repeat (first | apply Kd.R_alloc | apply Kd.R_drewN | apply Kd.R_drew)); exact HO_5.out⟩, ⟨be w⟩⟩
      subst c10
      rw [if_pos rfl] at H
      by_cases c11 : x6_1 > 0
      rotate_left
      ·
       rw [if_neg c11] at H
       have c11b0 : decide (0 < x6_1) = false := decide_eq_false c11
       clear c11
       (first | rw [c11b0] | (simp only [i64_w, i32_w]; rw [c11b0]) | skip)
       have H' := As.mk H
       clear H
       go_wp2_with (first | ((with_reducible refine gate_callee (f := 95) rfl ?_); refine goesL_ (some 23) rfl rfl Tryz.func95 (by kernel_rfl) rfl #[.slice A0 l0.length c0, .int .i64 x6_1] rfl (by (try simp only [lm]); first | done | rfl | (simp only [List.length_drop, List.length_take]; rfl)) ?_; (with_reducible refine (spec_NodeOk.calls kj4 _ _ l0 x6_1 true _ ?side1 ?side2 A9.out).mono ?_); (case side1 => exact Kd.C_below HR0.out (be w)); (case side2 => exact HC0.out); rintro e w17 ⟨rfl, hb⟩; refine ⟨_, rfl, ?_⟩; replace HO_5 := As.mk (Kd.R_below (by (with_reducible repeat (first | apply Kd.R_alloc | apply Kd.R_drewN | apply Kd.R_drew)); exact HO_5.out) hb); replace HB := As.mk (below_step (be w) hb); (try clear hb); (try clear hb2); (try clear hk); (try clear hi)))
       go_meet
       case rel => exact ⟨_, (false), (by first | rfl | (simp; done) | (simp [*]; done)), H', ⟨by have := HK1.out; have := HJ4.out; first | omega | exact Nat.le_refl _⟩, ⟨by (with_reducible repeat (first | apply Kd.R_alloc | apply Kd.R_drewN | apply Kd.R_drew)); exact HO_5.out⟩, ⟨be w⟩⟩
      rw [if_pos c11] at H
      have c11b0 : decide (0 < x6_1) = true := decide_eq_true c11
      clear c11
      (first | rw [c11b0] | (simp only [i64_w, i32_w]; rw [c11b0]) | skip)
      obtain ⟨ji12, hji12⟩ : ∃ j_ : Int, (wrap64 (x6_1 - 1)) = j_ := ⟨_, rfl⟩
      replace H : (if 0 ≤ (ji12) then (if (ji12) < (x5_1.length : Int) then (spec_l04Deeps.j2 kj4 l0 a1 x5_1 x6_1 1 ((rd x5_1 (ji12)) == 0)) else (none)) else (none)) = some r := by first | (rw [hji12] at H; exact H) | (simp only [hji12] at H ⊢; exact H)
      (try rw [hji12] at A9)
      have hji12w : (IntKind.i64.wrap (x6_1 - 1)) = ji12 := (i64_w _).trans hji12
      by_cases c13 : 0 ≤ (ji12)
      rotate_left; · rw [if_neg c13] at H; exact absurd H (by simp)
      rw [if_pos c13] at H
      have c13b0 : decide (0 ≤ (ji12)) = true := decide_eq_true c13
      clear c13
      by_cases c14 : (ji12) < (x5_1.length : Int)
      rotate_left; · rw [if_neg c14] at H; exact absurd H (by simp)
      rw [if_pos c14] at H
      have c14b0 : decide ((ji12) < (x5_1.length : Int)) = true := decide_eq_true c14
      clear c14
      have H' := As.mk H
      clear H
      go_wp2_with (first | ((with_reducible refine gate_callee (f := 95) rfl ?_); refine goesL_ (some 23) rfl rfl Tryz.func95 (by kernel_rfl) rfl #[.slice A0 l0.length c0, .int .i64 x6_1] rfl (by (try simp only [lm]); first | done | rfl | (simp only [List.length_drop, List.length_take]; rfl)) ?_; (with_reducible refine (spec_NodeOk.calls kj4 _ _ l0 x6_1 true _ ?side1 ?side2 A9.out).mono ?_); (case side1 => exact Kd.C_below HR0.out (be w)); (case side2 => exact HC0.out); rintro e w15 ⟨rfl, hb⟩; refine ⟨_, rfl, ?_⟩; replace HO_5 := As.mk (Kd.R_below (by (with_reducible repeat (first | apply Kd.R_alloc | apply Kd.R_drewN | apply Kd.R_drew)); exact HO_5.out) hb); replace HB := As.mk (below_step (be w) hb); (try clear hb); (try clear hb2); (try clear hk); (try clear hi); obtain ⟨Ao16, co16, eo16⟩ := Kd.R_slice HO_5.out; subst eo16; have p154 : 0 ≤ ((ji12) : Int) := od; have q154 : (ji12) < (x5_1.length : Int) := od; obtain ⟨ad154, e154, hx154_0⟩ := Kd.at_int (Kd.R_reads' HO_5.out).2.2 (ji12) p154 q154; cases e154; replace p154 := eq_true p154; replace q154 := eq_true q154))
      go_meet
      case rel => exact ⟨_, (((rd x5_1 (ji12)) == 0)), (by first | rfl | (simp; done) | (simp only [← hji12] <;> (first | rfl | simp)) | (simp [*]; done)), H', ⟨by have := HK1.out; have := HJ4.out; first | omega | exact Nat.le_refl _⟩, ⟨by (with_reducible repeat (first | apply Kd.R_alloc | apply Kd.R_drewN | apply Kd.R_drew)); exact HO_5.out⟩, ⟨be w⟩⟩
     case rest =>
      clear HC8
      (try clear c7)
      obtain ⟨kq, x36_7, rfl, HA, HJ7, HO_5, HB⟩ := hcut
      cases kq with
      | zero => exact absurd HA.out (by simp [spec_l04Deeps.j2])
      | succ kj7 =>
       have H := HA.out
       clear HA
       simp only [spec_l04Deeps.j2] at H
       have HC19 := As.mk H
       clear H
       go_upto_if 36 with (fail)
       go_cut [7] (fun v7 wc => ∃ (kq : Nat) (x7_18 : Int), v7 = .int .i64 x7_18 ∧ As (spec_l04Deeps.j3 kq l0 a1 x5_1 x6_1 x7_18 = some r) ∧ As (kq ≤ kj7) ∧ As (Kd.R (Kd.int .i64) 3 wc w.heap.size (fun _ => True) u5 x5_1) ∧ As (Below w.heap.size w wc))
       case first =>
        have H := HC19.out
        clear HC19
        by_cases c20 : x36_7 = true
        ·
         subst c20
         rw [if_pos rfl] at H
         have H' := As.mk H
         clear H
         go_wp2
         go_meet
         case rel => exact ⟨_, (0), (by first | rfl | (simp; done) | (simp [*]; done)), H', ⟨by have := HK1.out; have := HJ4.out; have := HJ7.out; first | omega | exact Nat.le_refl _⟩, ⟨by (with_reducible repeat (first | apply Kd.R_alloc | apply Kd.R_drewN | apply Kd.R_drew)); exact HO_5.out⟩, ⟨be w⟩⟩
        replace c20 := Bool.eq_false_iff.mpr c20
        subst c20
        rw [if_neg (show ¬ (false = true) by decide)] at H
        have H' := As.mk H
        clear H
        go_wp2
        go_meet
        case rel => exact ⟨_, (1), (by first | rfl | (simp; done) | (simp [*]; done)), H', ⟨by have := HK1.out; have := HJ4.out; have := HJ7.out; first | omega | exact Nat.le_refl _⟩, ⟨by (with_reducible repeat (first | apply Kd.R_alloc | apply Kd.R_drewN | apply Kd.R_drew)); exact HO_5.out⟩, ⟨be w⟩⟩
       case rest =>
        clear HC19
        (try clear c7)
        obtain ⟨kq, x7_18, rfl, HA, HJ18, HO_5, HB⟩ := hcut
        cases kq with
        | zero => exact absurd HA.out (by simp [spec_l04Deeps.j3])
        | succ kj18 =>
         have H := HA.out
         clear HA
         simp only [spec_l04Deeps.j3] at H
         have H' := As.mk H
         clear H
         go_wp2
         go_loopg [7, 8] kj18 (fun kq v7 v8 w' => ∃ (x7_5 : Int) (x8_5 : Int), v7 = .int .i64 x7_5 ∧ v8 = .int .i64 x8_5 ∧ As (spec_l04Deeps.l1 kq l0 a1 x5_1 x6_1 x7_5 x8_5 = some r) ∧ As (kq ≤ kj18) ∧ As (Kd.R (Kd.int .i64) 3 w' w.heap.size (fun _ => True) u5 x5_1) ∧ As (Below w.heap.size w w'))
         case atStart => exact ⟨(x7_18), (0), (by first | rfl | (simp; done) | (simp [*]; done)), (by first | rfl | (simp; done) | (simp [*]; done)), H', ⟨Nat.le_refl _⟩, ⟨by (with_reducible repeat (first | apply Kd.R_alloc | apply Kd.R_drewN | apply Kd.R_drew)); exact HO_5.out⟩, ⟨be w⟩⟩
         case round =>
          clear H'
          (try clear c7)
          obtain ⟨x7_5, x8_5, rfl, rfl, HA, HK5, HO_5, HB⟩ := hrel
          cases gk with
          | zero => exact absurd HA.out (by simp [spec_l04Deeps.l1])
          | succ k5 =>
           have H := HA.out
           clear HA
           simp only [spec_l04Deeps.l1] at H
           have HC21 := As.mk H
           clear H
           go_upto_region 9 with (fail)
           go_cut [48] (fun v48 wc => ∃ (kq : Nat) (x48_20 : Bool), v48 = .bool x48_20 ∧ As (spec_l04Deeps.j5 kq l0 a1 x5_1 x6_1 x7_5 x8_5 x48_20 = some r) ∧ As (kq ≤ k5) ∧ As (Kd.R (Kd.int .i64) 3 wc w.heap.size (fun _ => True) u5 x5_1) ∧ As (Below w.heap.size w wc))
           case first =>
            have H := HC21.out
            clear HC21
            by_cases c22 : x7_5 > 0
            rotate_left
            ·
             rw [if_neg c22] at H
             have c22b0 : decide (0 < x7_5) = false := decide_eq_false c22
             clear c22
             (first | rw [c22b0] | (simp only [i64_w, i32_w]; rw [c22b0]) | skip)
             have H' := As.mk H
             clear H
             go_wp2
             go_meet
             case rel => exact ⟨_, (false), (by first | rfl | (simp; done) | (simp [*]; done)), H', ⟨by have := HK1.out; have := HJ4.out; have := HJ7.out; have := HJ18.out; have := HK5.out; first | omega | exact Nat.le_refl _⟩, ⟨by (with_reducible repeat (first | apply Kd.R_alloc | apply Kd.R_drewN | apply Kd.R_drew)); exact HO_5.out⟩, ⟨be w⟩⟩
            rw [if_pos c22] at H
            have c22b0 : decide (0 < x7_5) = true := decide_eq_true c22
            clear c22
            (first | rw [c22b0] | (simp only [i64_w, i32_w]; rw [c22b0]) | skip)
            by_cases c23 : 0 ≤ x6_1
            rotate_left; · rw [if_neg c23] at H; exact absurd H (by simp)
            rw [if_pos c23] at H
            have c23b0 : decide (0 ≤ x6_1) = true := decide_eq_true c23
            clear c23
            by_cases c24 : x6_1 < (l0.length : Int)
            rotate_left; · rw [if_neg c24] at H; exact absurd H (by simp)
            rw [if_pos c24] at H
            have c24b0 : decide (x6_1 < (l0.length : Int)) = true := decide_eq_true c24
            clear c24
            have H' := As.mk H
            clear H
            have p155 : 0 ≤ (x6_1 : Int) := od
            have q155 : x6_1 < (l0.length : Int) := od
            obtain ⟨ad155, A155_3, c155_3, e155, hx155_0, hx155_1, hx155_2, hx155_3, hl155_3, hi155_3⟩ := at_T62 HR0.out x6_1 p155 q155
            cases e155
            replace hx155_0 := ce HB.out hx155_0
            replace hx155_1 := ce HB.out hx155_1
            replace hx155_2 := ce HB.out hx155_2
            replace hx155_3 := ce HB.out hx155_3
            have HR155_3 := As.mk hi155_3
            have HC155_3 := As.mk hl155_3
            clear hi155_3 hl155_3
            replace p155 := eq_true p155
            replace q155 := eq_true q155
            go_wp2
            go_meet
            case rel => exact ⟨_, (decide (x8_5 < (((rd_T62 l0 x6_1).f3).length : Int))), (by first | rfl | (simp; done) | (simp [*]; done)), H', ⟨by have := HK1.out; have := HJ4.out; have := HJ7.out; have := HJ18.out; have := HK5.out; first | omega | exact Nat.le_refl _⟩, ⟨by (with_reducible repeat (first | apply Kd.R_alloc | apply Kd.R_drewN | apply Kd.R_drew)); exact HO_5.out⟩, ⟨be w⟩⟩
           case rest =>
            clear HC21
            (try clear c7)
            obtain ⟨kq, x48_20, rfl, HA, HJ20, HO_5, HB⟩ := hcut
            cases kq with
            | zero => exact absurd HA.out (by simp [spec_l04Deeps.j5])
            | succ kj20 =>
             have H := HA.out
             clear HA
             simp only [spec_l04Deeps.j5] at H
             by_cases c25 : x48_20 = true
             rotate_left
             ·
              replace c25 := Bool.eq_false_iff.mpr c25
              subst c25
              rw [if_neg (show ¬ (false = true) by decide)] at H
              by_cases c35 : x7_5 > 10
              ·
               rw [if_pos c35] at H
               have c35b0 : decide (10 < x7_5) = true := decide_eq_true c35
               clear c35
               by_cases c36 : x5_1.length < 17592186044416
               rotate_left; · rw [if_neg c36] at H; exact absurd H (by simp)
               rw [if_pos c36] at H
               have LMc36 := As.mk c36
               clear c36
               obtain ⟨y162, hy162⟩ : ∃ y_ : List Int, y_ = (x5_1 ++ [0]) := ⟨_, rfl⟩
               replace H : (spec_l04Deeps.l0 kj20 l0 a1 y162 (wrap64 (x6_1 + 1))) = some r := by first | (rw [hy162]; with_reducible exact H) | (have H2_ := (Option.bind_some _ _).symm.trans H; rw [hy162]; with_reducible exact H2_) | (have H2_ := (Option.bind_some _ _).symm.trans H; with_reducible exact H2_) | with_reducible exact H | (rw [hy162]; exact H) | exact H
               have Ny162 := As.mk hy162
               clear hy162
               have H' := As.mk H
               clear H
               go_wp2_with (first | ((with_reducible refine gate_builtin (b := .append) (xs := #[.tmp 79, .tmp 81]) rfl ?_); (try (refine gate_guard (by rfl) ?_; dsimp only)); at_builtin; refine Kd.R_append (Kd.int .i64) (w0 := w) w.heap.size rfl (.tmp 79) (.tmp 81) 45 3 (.int .i64 0) 8 rfl Tryz.underlying45 info3 rfl (by decide) (by omega) u5 x5_1 0 [.int .i64 0] (fun _ => True) (fun _ => False) rfl rfl ?aP (fun _ hk => hk.elim) ?aF ?aO ?aB ?aS ?aL ?_; (case aP => exact rfl); (case aB => exact (be w)); (case aF => exact (fun _ _ => trivial)); (case aO => exact (by (with_reducible repeat (first | apply Kd.R_alloc | apply Kd.R_drewN | apply Kd.R_drew)); exact HO_5.out)); (case aS => exact (below_size (be w))); (case aL => have := LMc36.out; omega); intro v163 w37 ho hb hg hat; rw [← Ny162.out] at ho; replace HB := As.mk (hb); have HO164 := As.mk (ho); clear HO_5; clear ho hb hg hat))
               go_roundg kj20
               case measure => have := HK1.out; have := HJ4.out; have := HJ7.out; have := HJ18.out; have := HK5.out; have := HJ20.out; omega
               case rel => exact ⟨(y162), (wrap64 (x6_1 + 1)), (by first | rfl | (simp; done) | (simp [*]; done)), H', ⟨by have := HK1.out; have := HJ4.out; have := HJ7.out; have := HJ18.out; have := HK5.out; have := HJ20.out; omega⟩, ⟨by (with_reducible repeat (first | apply Kd.R_alloc | apply Kd.R_drewN | apply Kd.R_drew)); exact HO164.out⟩, ⟨be w⟩⟩
              rw [if_neg c35] at H
              have c35b0 : decide (10 < x7_5) = false := decide_eq_false c35
              clear c35
              by_cases c38 : x5_1.length < 17592186044416
              rotate_left; · rw [if_neg c38] at H; exact absurd H (by simp)
              rw [if_pos c38] at H
              have LMc38 := As.mk c38
              clear c38
              obtain ⟨y165, hy165⟩ : ∃ y_ : List Int, y_ = (x5_1 ++ [x7_5]) := ⟨_, rfl⟩
              replace H : (spec_l04Deeps.l0 kj20 l0 a1 y165 (wrap64 (x6_1 + 1))) = some r := by first | (rw [hy165]; with_reducible exact H) | (have H2_ := (Option.bind_some _ _).symm.trans H; rw [hy165]; with_reducible exact H2_) | (have H2_ := (Option.bind_some _ _).symm.trans H; with_reducible exact H2_) | with_reducible exact H | (rw [hy165]; exact H) | exact H
              have Ny165 := As.mk hy165
              clear hy165
              have H' := As.mk H
              clear H
              go_wp2_with (first | ((with_reducible refine gate_builtin (b := .append) (xs := #[.tmp 79, .tmp 81]) rfl ?_); (try (refine gate_guard (by rfl) ?_; dsimp only)); at_builtin; refine Kd.R_append (Kd.int .i64) (w0 := w) w.heap.size rfl (.tmp 79) (.tmp 81) 45 3 (.int .i64 0) 8 rfl Tryz.underlying45 info3 rfl (by decide) (by omega) u5 x5_1 x7_5 [.int .i64 x7_5] (fun _ => True) (fun _ => False) rfl rfl ?aP (fun _ hk => hk.elim) ?aF ?aO ?aB ?aS ?aL ?_; (case aP => exact rfl); (case aB => exact (be w)); (case aF => exact (fun _ _ => trivial)); (case aO => exact (by (with_reducible repeat (first | apply Kd.R_alloc | apply Kd.R_drewN | apply Kd.R_drew)); exact HO_5.out)); (case aS => exact (below_size (be w))); (case aL => have := LMc38.out; omega); intro v166 w39 ho hb hg hat; rw [← Ny165.out] at ho; replace HB := As.mk (hb); have HO167 := As.mk (ho); clear HO_5; clear ho hb hg hat))
              go_roundg kj20
              case measure => have := HK1.out; have := HJ4.out; have := HJ7.out; have := HJ18.out; have := HK5.out; have := HJ20.out; omega
              case rel => exact ⟨(y165), (wrap64 (x6_1 + 1)), (by first | rfl | (simp; done) | (simp [*]; done)), H', ⟨by have := HK1.out; have := HJ4.out; have := HJ7.out; have := HJ18.out; have := HK5.out; have := HJ20.out; omega⟩, ⟨by (with_reducible repeat (first | apply Kd.R_alloc | apply Kd.R_drewN | apply Kd.R_drew)); exact HO167.out⟩, ⟨be w⟩⟩
             subst c25
             rw [if_pos rfl] at H
             by_cases c26 : 0 ≤ x6_1
             rotate_left; · rw [if_neg c26] at H; exact absurd H (by simp)
             rw [if_pos c26] at H
             have c26b0 : decide (0 ≤ x6_1) = true := decide_eq_true c26
             clear c26
             by_cases c27 : x6_1 < (l0.length : Int)
             rotate_left; · rw [if_neg c27] at H; exact absurd H (by simp)
             rw [if_pos c27] at H
             have c27b0 : decide (x6_1 < (l0.length : Int)) = true := decide_eq_true c27
             clear c27
             by_cases c28 : 0 ≤ x8_5
             rotate_left; · rw [if_neg c28] at H; exact absurd H (by simp)
             rw [if_pos c28] at H
             have c28b0 : decide (0 ≤ x8_5) = true := decide_eq_true c28
             clear c28
             by_cases c29 : x8_5 < (((rd_T62 l0 x6_1).f3).length : Int)
             rotate_left; · rw [if_neg c29] at H; exact absurd H (by simp)
             rw [if_pos c29] at H
             have c29b0 : decide (x8_5 < (((rd_T62 l0 x6_1).f3).length : Int)) = true := decide_eq_true c29
             clear c29
             by_cases c30 : 0 ≤ (rd ((rd_T62 l0 x6_1).f3) x8_5)
             rotate_left; · rw [if_neg c30] at H; exact absurd H (by simp)
             rw [if_pos c30] at H
             have c30b0 : decide (0 ≤ (rd ((rd_T62 l0 x6_1).f3) x8_5)) = true := decide_eq_true c30
             clear c30
             by_cases c31 : (rd ((rd_T62 l0 x6_1).f3) x8_5) < (x5_1.length : Int)
             rotate_left; · rw [if_neg c31] at H; exact absurd H (by simp)
             rw [if_pos c31] at H
             have c31b0 : decide ((rd ((rd_T62 l0 x6_1).f3) x8_5) < (x5_1.length : Int)) = true := decide_eq_true c31
             clear c31
             by_cases c32 : (wrap64 ((rd x5_1 (rd ((rd_T62 l0 x6_1).f3) x8_5)) + 1)) > x7_5
             rotate_left
             ·
              rw [if_neg c32] at H
              have c32b0 : decide (x7_5 < (wrap64 ((rd x5_1 (rd ((rd_T62 l0 x6_1).f3) x8_5)) + 1))) = false := decide_eq_false c32
              clear c32
              have H' := As.mk H
              clear H
              have p156 : 0 ≤ (x6_1 : Int) := od
              have q156 : x6_1 < (l0.length : Int) := od
              obtain ⟨ad156, A156_3, c156_3, e156, hx156_0, hx156_1, hx156_2, hx156_3, hl156_3, hi156_3⟩ := at_T62 HR0.out x6_1 p156 q156
              cases e156
              replace hx156_0 := ce HB.out hx156_0
              replace hx156_1 := ce HB.out hx156_1
              replace hx156_2 := ce HB.out hx156_2
              replace hx156_3 := ce HB.out hx156_3
              have HR156_3 := As.mk hi156_3
              have HC156_3 := As.mk hl156_3
              clear hi156_3 hl156_3
              replace p156 := eq_true p156
              replace q156 := eq_true q156
              have p157 : 0 ≤ (x8_5 : Int) := od
              have q157 : x8_5 < (((rd_T62 l0 x6_1).f3).length : Int) := od
              obtain ⟨ad157, e157, hx157_0⟩ := Kd.at_int HR156_3.out x8_5 p157 q157
              cases e157
              replace hx157_0 := ce HB.out hx157_0
              replace p157 := eq_true p157
              replace q157 := eq_true q157
              obtain ⟨Ao34, co34, eo34⟩ := Kd.R_slice HO_5.out
              subst eo34
              have p158 : 0 ≤ ((rd ((rd_T62 l0 x6_1).f3) x8_5) : Int) := od
              have q158 : (rd ((rd_T62 l0 x6_1).f3) x8_5) < (x5_1.length : Int) := od
              obtain ⟨ad158, e158, hx158_0⟩ := Kd.at_int (Kd.R_reads' HO_5.out).2.2 (rd ((rd_T62 l0 x6_1).f3) x8_5) p158 q158
              cases e158
              replace p158 := eq_true p158
              replace q158 := eq_true q158
              go_wp2
              go_roundg kj20
              case measure => have := HK1.out; have := HJ4.out; have := HJ7.out; have := HJ18.out; have := HK5.out; have := HJ20.out; omega
              case rel => exact ⟨(x7_5), (wrap64 (x8_5 + 1)), (by first | rfl | (simp; done) | (simp [*]; done)), (by first | rfl | (simp; done) | (simp [*]; done)), H', ⟨by have := HK1.out; have := HJ4.out; have := HJ7.out; have := HJ18.out; have := HK5.out; have := HJ20.out; omega⟩, ⟨by (with_reducible repeat (first | apply Kd.R_alloc | apply Kd.R_drewN | apply Kd.R_drew)); exact HO_5.out⟩, ⟨be w⟩⟩
             rw [if_pos c32] at H
             have c32b0 : decide (x7_5 < (wrap64 ((rd x5_1 (rd ((rd_T62 l0 x6_1).f3) x8_5)) + 1))) = true := decide_eq_true c32
             clear c32
             have H' := As.mk H
             clear H
             have p156 : 0 ≤ (x6_1 : Int) := od
             have q156 : x6_1 < (l0.length : Int) := od
             obtain ⟨ad156, A156_3, c156_3, e156, hx156_0, hx156_1, hx156_2, hx156_3, hl156_3, hi156_3⟩ := at_T62 HR0.out x6_1 p156 q156
             cases e156
             replace hx156_0 := ce HB.out hx156_0
             replace hx156_1 := ce HB.out hx156_1
             replace hx156_2 := ce HB.out hx156_2
             replace hx156_3 := ce HB.out hx156_3
             have HR156_3 := As.mk hi156_3
             have HC156_3 := As.mk hl156_3
             clear hi156_3 hl156_3
             replace p156 := eq_true p156
             replace q156 := eq_true q156
             have p157 : 0 ≤ (x8_5 : Int) := od
             have q157 : x8_5 < (((rd_T62 l0 x6_1).f3).length : Int) := od
             obtain ⟨ad157, e157, hx157_0⟩ := Kd.at_int HR156_3.out x8_5 p157 q157
             cases e157
             replace hx157_0 := ce HB.out hx157_0
             replace p157 := eq_true p157
             replace q157 := eq_true q157
             obtain ⟨Ao33, co33, eo33⟩ := Kd.R_slice HO_5.out
             subst eo33
             have p158 : 0 ≤ ((rd ((rd_T62 l0 x6_1).f3) x8_5) : Int) := od
             have q158 : (rd ((rd_T62 l0 x6_1).f3) x8_5) < (x5_1.length : Int) := od
             obtain ⟨ad158, e158, hx158_0⟩ := Kd.at_int (Kd.R_reads' HO_5.out).2.2 (rd ((rd_T62 l0 x6_1).f3) x8_5) p158 q158
             cases e158
             replace p158 := eq_true p158
             replace q158 := eq_true q158
             have p159 : 0 ≤ (x6_1 : Int) := od
             have q159 : x6_1 < (l0.length : Int) := od
             obtain ⟨ad159, A159_3, c159_3, e159, hx159_0, hx159_1, hx159_2, hx159_3, hl159_3, hi159_3⟩ := at_T62 HR0.out x6_1 p159 q159
             obtain rfl : ad156 = ad159 := (by injection e159)
             replace hx159_0 := ce HB.out hx159_0
             replace hx159_1 := ce HB.out hx159_1
             replace hx159_2 := ce HB.out hx159_2
             replace hx159_3 := ce HB.out hx159_3
             have HR159_3 := As.mk hi159_3
             have HC159_3 := As.mk hl159_3
             clear hi159_3 hl159_3
             replace p159 := eq_true p159
             replace q159 := eq_true q159
             have ea_ := Option.some.inj (hx156_3.symm.trans hx159_3)
             injection ea_ with ea_ en_ ec_
             subst ea_
             subst ec_
             clear en_
             have p160 : 0 ≤ (x8_5 : Int) := od
             have q160 : x8_5 < (((rd_T62 l0 x6_1).f3).length : Int) := od
             obtain ⟨ad160, e160, hx160_0⟩ := Kd.at_int HR159_3.out x8_5 p160 q160
             cases e160
             replace hx160_0 := ce HB.out hx160_0
             replace p160 := eq_true p160
             replace q160 := eq_true q160
             have p161 : 0 ≤ ((rd ((rd_T62 l0 x6_1).f3) x8_5) : Int) := od
             have q161 : (rd ((rd_T62 l0 x6_1).f3) x8_5) < (x5_1.length : Int) := od
             obtain ⟨ad161, e161, hx161_0⟩ := Kd.at_int (Kd.R_reads' HO_5.out).2.2 (rd ((rd_T62 l0 x6_1).f3) x8_5) p161 q161
             obtain rfl : ad158 = ad161 := (by injection e161)
             replace p161 := eq_true p161
             replace q161 := eq_true q161
             go_wp2
             go_roundg kj20
             case measure => have := HK1.out; have := HJ4.out; have := HJ7.out; have := HJ18.out; have := HK5.out; have := HJ20.out; omega
             case rel => exact ⟨(wrap64 ((rd x5_1 (rd ((rd_T62 l0 x6_1).f3) x8_5)) + 1)), (wrap64 (x8_5 + 1)), (by first | rfl | (simp; done) | (simp [*]; done)), (by first | rfl | (simp; done) | (simp [*]; done)), H', ⟨by have := HK1.out; have := HJ4.out; have := HJ7.out; have := HJ18.out; have := HK5.out; have := HJ20.out; omega⟩, ⟨by (with_reducible repeat (first | apply Kd.R_alloc | apply Kd.R_drewN | apply Kd.R_drew)); exact HO_5.out⟩, ⟨be w⟩⟩
/-! ### spec_DeepOf: function 43 -/
def spec_DeepOf.f (k : Nat) (l0 : List (S62)) (a1 : Int) : Option (Int) := (spec_l01In.f a1 0 (wrap64 ((l0.length : Int) - 1))).bind fun t168 => (if t168 = true then ((spec_l04Deeps.f k l0 a1).bind fun t169 => (if 0 ≤ a1 then (if a1 < (t169.length : Int) then (some (rd t169 a1)) else (none)) else (none))) else (some 0))
theorem spec_DeepOf.mono : ∀ a0 a1 k, LeO (spec_DeepOf.f k a0 a1) (spec_DeepOf.f (k + 1) a0 a1) := by
 intro a0 a1 k
 unfold spec_DeepOf.f
 with_reducible repeat' first | exact spec_l04Deeps.mono _ _ _ | exact LeO.refl _ | exact LeO.none _ | refine LeO.ite ?_ ?_ | refine LeO.bind ?_ (fun _ => ?_)
set_option maxHeartbeats 8000000 in
set_option maxRecDepth 100000 in
theorem spec_DeepOf.calls (k : Nat) (A0 : Option Addr) (c0 : Nat) (l0 : List (S62)) (a1 : Int) (r : Int) (w : World) (hr0 : Kd.C k62 w A0 l0.length l0) (hc0 : l0.length ≤ c0) (h : spec_DeepOf.f k l0 a1 = some r) :
  Calls Tryz.prog 43 #[.slice A0 l0.length c0, .int .i64 a1] w fun e w' => e = .returned (.int .i64 r) ∧ Below w.heap.size w w' := by
 have HR0 := As.mk hr0
 have HC0 := As.mk hc0
 clear hr0 hc0
 have HB := As.mk (Below.refl w.heap.size w)
 have H : ((spec_l01In.f a1 0 (wrap64 ((l0.length : Int) - 1))).bind fun t168 => (if t168 = true then ((spec_l04Deeps.f k l0 a1).bind fun t169 => (if 0 ≤ a1 then (if a1 < (t169.length : Int) then (some (rd t169 a1)) else (none)) else (none))) else (some 0))) = some r := h
 clear h
 obtain ⟨t168, A30, H⟩ := Option.bind_eq_some_iff.mp H
 try dsimp only at H
 have A3 := As.mk A30
 clear A30
 by_cases c4 : t168 = true
 rotate_left
 ·
  replace c4 := Bool.eq_false_iff.mpr c4
  subst c4
  rw [if_neg (show ¬ (false = true) by decide)] at H
  obtain rfl := Option.some.inj H
  go_enter Tryz.func43, Tryz.ntmps43
  go_wp2_with (first | ((with_reducible refine gate_callee (f := 33) rfl ?_); refine goesL_ (some 9) rfl rfl Tryz.func33 (by kernel_rfl) rfl #[.int .i64 a1, .int .i64 0, .int .i64 (wrap64 ((l0.length : Int) - 1))] rfl (by (try simp only [lm]); first | done | rfl | (simp only [List.length_drop, List.length_take]; rfl)) ?_; (with_reducible refine (spec_l01In.calls a1 0 (wrap64 ((l0.length : Int) - 1)) false _ A3.out).mono ?_); rintro e w' ⟨rfl, ⟨nd, rfl⟩⟩; refine ⟨_, rfl, ?_⟩))
  go_ret
  exact ⟨ez, be w⟩

 subst c4
 rw [if_pos rfl] at H
 obtain ⟨t169, A50, H⟩ := Option.bind_eq_some_iff.mp H
 try dsimp only at H
 have A5 := As.mk A50
 clear A50
 by_cases c6 : 0 ≤ a1
 rotate_left; · rw [if_neg c6] at H; exact absurd H (by simp)
 rw [if_pos c6] at H
 have c6b0 : decide (0 ≤ a1) = true := decide_eq_true c6
 clear c6
 by_cases c7 : a1 < (t169.length : Int)
 rotate_left; · rw [if_neg c7] at H; exact absurd H (by simp)
 rw [if_pos c7] at H
 have c7b0 : decide (a1 < (t169.length : Int)) = true := decide_eq_true c7
 clear c7
 obtain rfl := Option.some.inj H
 go_enter Tryz.func43, Tryz.ntmps43
 go_wp2_with (first | ((with_reducible refine gate_callee (f := 33) rfl ?_); refine goesL_ (some 9) rfl rfl Tryz.func33 (by kernel_rfl) rfl #[.int .i64 a1, .int .i64 0, .int .i64 (wrap64 ((l0.length : Int) - 1))] rfl (by (try simp only [lm]); first | done | rfl | (simp only [List.length_drop, List.length_take]; rfl)) ?_; (with_reducible refine (spec_l01In.calls a1 0 (wrap64 ((l0.length : Int) - 1)) true _ A3.out).mono ?_); rintro e w' ⟨rfl, ⟨nd, rfl⟩⟩; refine ⟨_, rfl, ?_⟩) | ((with_reducible refine gate_callee (f := 71) rfl ?_); refine goesL_ (some 13) rfl rfl Tryz.func71 (by kernel_rfl) rfl #[.slice A0 l0.length c0, .int .i64 a1] rfl (by (try simp only [lm]); first | done | rfl | (simp only [List.length_drop, List.length_take]; rfl)) ?_; (with_reducible refine (spec_l04Deeps.calls k _ _ l0 a1 t169 _ ?side1 ?side2 A5.out).mono ?_); (case side1 => repeat (first | exact HR0.out | (with_reducible refine Kd.C_alloc ?_ _) | (with_reducible refine Kd.C_drewN ?_ _) | (with_reducible refine Kd.C_drew ?_))); (case side2 => exact HC0.out); rintro e w8 ⟨v170, rfl, ho0, hb⟩; refine ⟨_, rfl, ?_⟩; have HO171 := As.mk (Kd.R_lower ho0 (below_size (be w))); replace HB := As.mk (below_step (be w) hb); (try clear hb); (try clear hb2); (try clear hk); (try clear hi); (try clear ho0); obtain ⟨Ao9, co9, eo9⟩ := Kd.R_slice HO171.out; subst eo9; have p172 : 0 ≤ (a1 : Int) := od; have q172 : a1 < (t169.length : Int) := od; obtain ⟨ad172, e172, hx172_0⟩ := Kd.at_int (Kd.R_reads' HO171.out).2.2 a1 p172 q172; cases e172; replace p172 := eq_true p172; replace q172 := eq_true q172))
 go_ret
 exact ⟨ez, be w⟩
/-! ### spec_l04Mark: function 58 -/
mutual
def spec_l04Mark.l0 : Nat → List (S62) → Int → List Bool → Int → Option (List Bool)
 | 0, _, _, _, _ => none
 | k + 1, x0, x1, x2, x6 => if 0 ≤ x1 then (if x1 < (x0.length : Int) then (if x6 < (((rd_T62 x0 x1).f3).length : Int) then (if 0 ≤ x6 then ((spec_l04Mark.f k x0 (rd ((rd_T62 x0 x1).f3) x6) x2).bind fun t178 => (spec_l04Mark.l0 k x0 x1 t178 (wrap64 (x6 + 1)))) else (none)) else (some x2)) else (none)) else (none)
def spec_l04Mark.f : Nat → List (S62) → Int → List Bool → Option (List Bool)
 | 0, _, _, _ => none
 | k + 1, l0, a1, l2 => if 0 ≤ a1 then (if a1 < (l2.length : Int) then (if rdOf false l2 a1 = true then (some l2) else (spec_l04Mark.l0 k l0 a1 (l2.set (a1 : Int).toNat true) 0)) else (none)) else (none)
end
theorem spec_l04Mark.mono_l : ∀ k, (∀ y0 y1 y2, LeO (spec_l04Mark.f k y0 y1 y2) (spec_l04Mark.f (k + 1) y0 y1 y2)) ∧ (∀ y0 y1 y2 y3, LeO (spec_l04Mark.l0 k y0 y1 y2 y3) (spec_l04Mark.l0 (k + 1) y0 y1 y2 y3))
 | 0 => ⟨fun _ _ _ r h => by simp [spec_l04Mark.f] at h, fun _ _ _ _ r h => by simp [spec_l04Mark.l0] at h⟩
 | k + 1 => by
  obtain ⟨ih0, ih1⟩ := spec_l04Mark.mono_l k
  refine ⟨?_, ?_⟩
  ·
   intro y0 y1 y2
   unfold spec_l04Mark.f
   with_reducible repeat' first | exact ih0 _ _ _ | exact ih1 _ _ _ _ | exact LeO.refl _ | exact LeO.none _ | refine LeO.ite ?_ ?_ | refine LeO.bind ?_ (fun _ => ?_)
  ·
   intro y0 y1 y2 y3
   unfold spec_l04Mark.l0
   with_reducible repeat' first | exact ih0 _ _ _ | exact ih1 _ _ _ _ | exact LeO.refl _ | exact LeO.none _ | refine LeO.ite ?_ ?_ | refine LeO.bind ?_ (fun _ => ?_)
theorem spec_l04Mark.mono : ∀ a0 a1 a2 k, LeO (spec_l04Mark.f k a0 a1 a2) (spec_l04Mark.f (k + 1) a0 a1 a2) := by
 intro a0 a1 a2 k
 obtain ⟨ih0, ih1⟩ := spec_l04Mark.mono_l k
 exact ih0 a0 a1 a2
set_option maxHeartbeats 8000000 in
set_option maxRecDepth 100000 in
theorem spec_l04Mark.calls (k : Nat) : ∀ (A0 : Option Addr) (c0 : Nat) (l0 : List (S62)) (a1 : Int) (P2_ : Nat → Prop) (u9000_ : Value) (l2 : List Bool) (r : List Bool) (w0 w : World) (hB : Below w0.heap.size w0 w) (hr0 : ∀ W_, Kept w W_ (fun k_ => P2_ k_) → Kd.C k62 W_ A0 l0.length l0) (hc0 : l0.length ≤ c0) (ho2 : Kd.R Kd.bool 4 w w0.heap.size P2_ u9000_ l2) (h : spec_l04Mark.f k l0 a1 l2 = some r),
  Calls Tryz.prog 58 #[.slice A0 l0.length c0, .int .i64 a1, u9000_] w fun e w' => e = .returned (.tuple #[]) ∧ Kd.R Kd.bool 4 w' w0.heap.size (fun k_ => (P2_ k_ ∨ w.heap.size ≤ k_)) u9000_ r ∧ Below w0.heap.size w0 w' ∧ Kept w w' (fun k_ => P2_ k_) := by
 induction k using Nat.strongRecOn with
 | _ k ih =>
 intro A0 c0 l0 a1 P2_ u9000_ l2 r w0 w hB hr0 hc0 ho2 h
 cases k with
 | zero => exact absurd h (by simp [spec_l04Mark.f])
 | succ k =>
 simp only [spec_l04Mark.f] at h
 have HR0 := As.mk hr0
 have HC0 := As.mk hc0
 clear hr0 hc0
 have HO2 := As.mk (show Kd.R Kd.bool 4 w w0.heap.size (fun k_ => (P2_ k_ ∨ w.heap.size ≤ k_)) u9000_ l2 from Kd.R_mono ho2 (fun k_ hk => (.inl hk)))
 have HK := As.mk (Kept.refl w (fun k_ => P2_ k_))
 have HW0 := As.mk hB.size
 have HB := As.mk hB
 clear hB
 have H : (if 0 ≤ a1 then (if a1 < (l2.length : Int) then (if rdOf false l2 a1 = true then (some l2) else (spec_l04Mark.l0 k l0 a1 (l2.set (a1 : Int).toNat true) 0)) else (none)) else (none)) = some r := h
 clear h
 by_cases c4 : 0 ≤ a1
 rotate_left; · rw [if_neg c4] at H; exact absurd H (by simp)

 rw [if_pos c4] at H
 have c4b0 : decide (0 ≤ a1) = true := decide_eq_true c4
 clear c4
 by_cases c5 : a1 < (l2.length : Int)
 rotate_left; · rw [if_neg c5] at H; exact absurd H (by simp)
 rw [if_pos c5] at H
 have c5b0 : decide (a1 < (l2.length : Int)) = true := decide_eq_true c5
 clear c5
 obtain ⟨bq6, hbq6⟩ : ∃ b_ : Bool, b_ = (rdOf false l2 a1) := ⟨_, rfl⟩
 replace H : (if bq6 = true then (some l2) else (spec_l04Mark.l0 k l0 a1 (l2.set (a1 : Int).toNat true) 0)) = some r := by rw [← hbq6] at H; exact H
 have Nbq6 := As.mk hbq6
 clear hbq6
 by_cases c7 : bq6 = true
 ·
  subst c7
  rw [if_pos rfl] at H
  obtain rfl := Option.some.inj H
  obtain ⟨Ao8, co8, eo8⟩ := Kd.R_slice HO2.out
  subst eo8
  have p173 : 0 ≤ (a1 : Int) := od
  have q173 : a1 < (l2.length : Int) := od
  obtain ⟨ad173, e173, hx173_0⟩ := Kd.at_bool (Kd.R_reads' HO2.out).2.2 a1 p173 q173
  (try rw [← Nbq6.out] at hx173_0)
  cases e173
  replace p173 := eq_true p173
  replace q173 := eq_true q173
  go_enter Tryz.func58, Tryz.ntmps58
  go_wp2
  first | go_end0 | ((try simp only [Exit.inBlock, Exit.then]); refine bodyPost_ret (results_none rfl _ _ _) rfl ?_)
  exact ⟨ez, by (with_reducible repeat (first | apply Kd.R_alloc | apply Kd.R_drewN | apply Kd.R_drew)); exact HO2.out, be w0, by repeat (first | (with_reducible first | exact HK.out | apply Kept.alloc | apply Kept.drewN | apply Kept.drew) | exact HK.out)⟩
 replace c7 := Bool.eq_false_iff.mpr c7
 subst c7
 rw [if_neg (show ¬ (false = true) by decide)] at H
 obtain ⟨y174, hy174⟩ : ∃ y_ : List Bool, y_ = (l2.set (a1 : Int).toNat true) := ⟨_, rfl⟩
 replace H : (spec_l04Mark.l0 k l0 a1 y174 0) = some r := by first | (rw [hy174]; with_reducible exact H) | (have H2_ := (Option.bind_some _ _).symm.trans H; rw [hy174]; with_reducible exact H2_) | (have H2_ := (Option.bind_some _ _).symm.trans H; with_reducible exact H2_) | with_reducible exact H | (rw [hy174]; exact H) | exact H
 have Ny174 := As.mk hy174
 clear hy174
 have H' := As.mk H
 clear H
 obtain ⟨Ao10, co10, eo10⟩ := Kd.R_slice HO2.out
 subst eo10
 have p173 : 0 ≤ (a1 : Int) := od
 have q173 : a1 < (l2.length : Int) := od
 obtain ⟨ad173, e173, hx173_0⟩ := Kd.at_bool (Kd.R_reads' HO2.out).2.2 a1 p173 q173
 (try rw [← Nbq6.out] at hx173_0)
 cases e173
 replace p173 := eq_true p173
 replace q173 := eq_true q173
 have p9 : 0 ≤ (a1 : Int) := od
 have q9 : (a1 : Int) < ((l2.length : Int) : Int) := od
 obtain ⟨go9, co9, eo9, gb9, gl9, cl9, HG9⟩ := Kd.R_form HO2.out (by omega)
 (first | cases eo9 | (injection eo9 with ea_ en_ ec_; (first | subst ea_ | (injection ea_ with ea_; subst ea_)); subst ec_; clear en_))
 have GB9 := As.mk gb9
 have GG9 := As.mk HG9
 clear gb9 gl9 HG9
 have HMgo9 := As.mk (show (P2_ go9 ∨ w.heap.size ≤ go9) from (HO2.out.1 _ rfl))
 (first | simp only [add_plain] at hx173_0 | skip)
 obtain ⟨hx9_0, hf9_0⟩ := Kd.R_celln false HO2.out (a1 : Int) p9 q9
 replace p9 := eq_true p9
 replace q9 := eq_true q9
 have HP11 := Kd.R_putg HO2.out (a1 : Int) true
 go_enter Tryz.func58, Tryz.ntmps58
 go_wp2_with (first | ((with_reducible refine gate_store (t := 4) (p := 13) rfl ?_); refine store_event (t := 4) (p := 13) (v := ?vo_w12) (w1 := (w.setCell ⟨go9, (a1 : Int).toNat, none⟩ (.bool true))) ?hg ?ho ?hn ?hr ?_; (case ho => rfl); (case hg => rfl); (case hn => rfl); (case hr => first | (go_simp; done) | (go_simp; rfl)); intro w12 hw; have hg : w.grownBy w12 (some go9) := (by rw [hw]; exact HP11.2); have hp_ : Kd.R Kd.bool 4 w12 w0.heap.size (fun k_ => (P2_ k_ ∨ w.heap.size ≤ k_)) (.slice (some ⟨go9, 0, none⟩) l2.length co10) y174 := (by rw [hw, Ny174.out]; exact HP11.1); clear HP11; replace HB := As.mk ((by rw [hw]; exact below_set (HB.out) GB9.out : Below w0.heap.size w0 w12)); replace HK := As.mk (Kept.of_grown (S := (fun k_ => P2_ k_)) hg (by repeat (first | (with_reducible first | exact HK.out | apply Kept.alloc | apply Kept.drewN | apply Kept.drew) | exact HK.out)) (fun k_ e_ => (HO2.out.1 k_ e_))); replace HO2 := As.mk (hp_); clear hg hw hp_))
 go_loopg [6] k (fun kq v6 w' => ∃ (x2_1 : List Bool) (x6_1 : Int), v6 = .int .i64 x6_1 ∧ As (spec_l04Mark.l0 kq l0 a1 x2_1 x6_1 = some r) ∧ As (kq ≤ k) ∧ As (Kd.R Kd.bool 4 w' w0.heap.size (fun k_ => (P2_ k_ ∨ w.heap.size ≤ k_)) (.slice (some ⟨go9, 0, none⟩) l2.length co10) x2_1) ∧ As (Kept w w' (fun k_ => P2_ k_)) ∧ As (Below w0.heap.size w0 w'))
 case atStart => exact ⟨(y174), (0), (by first | rfl | (simp; done) | (simp [*]; done)), H', ⟨Nat.le_refl _⟩, ⟨by (with_reducible repeat (first | apply Kd.R_alloc | apply Kd.R_drewN | apply Kd.R_drew)); exact HO2.out⟩, ⟨by repeat (first | (with_reducible first | exact HK.out | apply Kept.alloc | apply Kept.drewN | apply Kept.drew) | exact HK.out)⟩, ⟨be w0⟩⟩
 case round =>
  clear H'
  (try clear c4); (try clear c4b0); (try clear c5); (try clear c5b0); (try clear c7); (try clear p9); (try clear q9); (try clear hx173_0); (try clear hx9_0); (try clear p173); (try clear q173)
  obtain ⟨x2_1, x6_1, rfl, HA, HK1, HO_2, HK, HB⟩ := hrel
  have hl2_1 := (Kd.R_reads' HO_2.out).1
  rw [hl2_1] at HO_2
  (try simp only [hl2_1])
  cases gk with
  | zero => exact absurd HA.out (by simp [spec_l04Mark.l0])
  | succ k1 =>
   have H := HA.out
   clear HA
   simp only [spec_l04Mark.l0] at H
   by_cases c13 : 0 ≤ a1
   rotate_left; · rw [if_neg c13] at H; exact absurd H (by simp)
   rw [if_pos c13] at H
   have c13b0 : decide (0 ≤ a1) = true := decide_eq_true c13
   clear c13
   by_cases c14 : a1 < (l0.length : Int)
   rotate_left; · rw [if_neg c14] at H; exact absurd H (by simp)
   rw [if_pos c14] at H
   have c14b0 : decide (a1 < (l0.length : Int)) = true := decide_eq_true c14
   clear c14
   by_cases c15 : x6_1 < (((rd_T62 l0 a1).f3).length : Int)
   rotate_left
   ·
    rw [if_neg c15] at H
    have c15b0 : decide (x6_1 < (((rd_T62 l0 a1).f3).length : Int)) = false := decide_eq_false c15
    clear c15
    obtain rfl := Option.some.inj H
    have p175 : 0 ≤ (a1 : Int) := od
    have q175 : a1 < (l0.length : Int) := od
    obtain ⟨ad175, A175_3, c175_3, e175, hx175_0, hx175_1, hx175_2, hx175_3, hl175_3, hi175_3⟩ := at_T62 (Kd.C_kept_now HR0.out HK.out) a1 p175 q175
    cases e175
    have HR175_3 := As.mk hi175_3
    have HC175_3 := As.mk hl175_3
    clear hi175_3 hl175_3
    replace p175 := eq_true p175
    replace q175 := eq_true q175
    go_wp2
    first | go_end0 | ((try simp only [Exit.inBlock, Exit.then]); refine bodyPost_ret (results_none rfl _ _ _) rfl ?_)
    exact ⟨ez, (by first | exact (by (with_reducible repeat (first | apply Kd.R_alloc | apply Kd.R_drewN | apply Kd.R_drew)); exact HO_2.out) | (simp only [hl2_1]; exact (by (with_reducible repeat (first | apply Kd.R_alloc | apply Kd.R_drewN | apply Kd.R_drew)); exact HO_2.out))), be w0, by repeat (first | (with_reducible first | exact HK.out | apply Kept.alloc | apply Kept.drewN | apply Kept.drew) | exact HK.out)⟩
   rw [if_pos c15] at H
   have c15b0 : decide (x6_1 < (((rd_T62 l0 a1).f3).length : Int)) = true := decide_eq_true c15
   clear c15
   by_cases c16 : 0 ≤ x6_1
   rotate_left; · rw [if_neg c16] at H; exact absurd H (by simp)
   rw [if_pos c16] at H
   have c16b0 : decide (0 ≤ x6_1) = true := decide_eq_true c16
   clear c16
   obtain ⟨t178, A170, H⟩ := Option.bind_eq_some_iff.mp H
   try dsimp only at H
   have A17 := As.mk A170
   clear A170
   have H' := As.mk H
   clear H
   have p175 : 0 ≤ (a1 : Int) := od
   have q175 : a1 < (l0.length : Int) := od
   obtain ⟨ad175, A175_3, c175_3, e175, hx175_0, hx175_1, hx175_2, hx175_3, hl175_3, hi175_3⟩ := at_T62 (Kd.C_kept_now HR0.out HK.out) a1 p175 q175
   cases e175
   have HR175_3 := As.mk hi175_3
   have HC175_3 := As.mk hl175_3
   clear hi175_3 hl175_3
   replace p175 := eq_true p175
   replace q175 := eq_true q175
   have p176 : 0 ≤ (a1 : Int) := od
   have q176 : a1 < (l0.length : Int) := od
   obtain ⟨ad176, A176_3, c176_3, e176, hx176_0, hx176_1, hx176_2, hx176_3, hl176_3, hi176_3⟩ := at_T62 (Kd.C_kept_now HR0.out HK.out) a1 p176 q176
   obtain rfl : ad175 = ad176 := (by injection e176)
   have HR176_3 := As.mk hi176_3
   have HC176_3 := As.mk hl176_3
   clear hi176_3 hl176_3
   replace p176 := eq_true p176
   replace q176 := eq_true q176
   have ea_ := Option.some.inj (hx175_3.symm.trans hx176_3)
   injection ea_ with ea_ en_ ec_
   subst ea_
   subst ec_
   clear en_
   have p177 : 0 ≤ (x6_1 : Int) := od
   have q177 : x6_1 < (((rd_T62 l0 a1).f3).length : Int) := od
   obtain ⟨ad177, e177, hx177_0⟩ := Kd.at_int (by repeat (first | (with_reducible exact HR176_3.out) | (with_reducible refine Kd.C_alloc ?_ _) | (with_reducible refine Kd.C_drewN ?_ _) | (with_reducible refine Kd.C_drew ?_) | exact HR176_3.out)) x6_1 p177 q177
   cases e177
   replace p177 := eq_true p177
   replace q177 := eq_true q177
   go_wp2_with (first | ((with_reducible refine gate_callee (f := 58) rfl ?_); refine goesL_ (some 34) rfl rfl Tryz.func58 (by kernel_rfl) rfl #[.slice (some ad175) l0.length c0, .int .i64 (rd ((rd_T62 l0 a1).f3) x6_1), .slice (some ⟨go9, 0, none⟩) x2_1.length co10] rfl (by (try simp only [lm]); first | done | rfl | (simp only [List.length_drop, List.length_take]; rfl)) ?_; (with_reducible refine (ih k1 (by have := HK1.out; omega) _ _ l0 (rd ((rd_T62 l0 a1).f3) x6_1) (fun k_ => some k_ = (.slice (some ⟨go9, 0, none⟩) x2_1.length co10 : Value).ownBlock) (.slice (some ⟨go9, 0, none⟩) x2_1.length co10) x2_1 t178 w0 _ ?side1 ?side2 ?side3 ?side4 A17.out).mono ?_); (case side1 => repeat (first | (with_reducible first | exact HB.out | apply below_alloc | apply pw_below_drewN | apply below_drew1) | exact HB.out)); (case side2 => exact Kd.C_kept_call HR0.out (by repeat (first | (with_reducible first | exact HK.out | apply Kept.alloc | apply Kept.drewN | apply Kept.drew) | exact HK.out)) (fun k_ hs_ => (fun e_ => (HO_2.out.1 k_ e_.symm)) hs_)); (case side3 => exact HC0.out); (case side4 => exact Kd.R_tight rfl HO_2.out); rintro e w18 ⟨rfl, hy0, hb, hkp⟩; refine ⟨_, rfl, ?_⟩; replace HK := As.mk (Kept.then_ (S := (fun k_ => P2_ k_)) (by repeat (first | (with_reducible first | exact HK.out | apply Kept.alloc | apply Kept.drewN | apply Kept.drew) | exact HK.out)) hkp (fun k_ hs_ => (fun e_ => (HO_2.out.1 k_ e_.symm)) hs_)); replace HO_2 := As.mk (Kd.R_reok rfl hy0 (fun k_ e_ => HO_2.out.1 k_ e_)); replace HB := As.mk (hb); (try clear hb); (try clear hkp); (try clear hy0)))
   (try simp only [← hl2_1])
   go_roundg k1
   case measure => have := HK1.out; omega
   case rel => exact ⟨(t178), (wrap64 (x6_1 + 1)), (by first | rfl | (simp; done) | (simp [*]; done)), H', ⟨by have := HK1.out; omega⟩, ⟨by (try simp only [hl2_1]); (with_reducible repeat (first | apply Kd.R_alloc | apply Kd.R_drewN | apply Kd.R_drew)); exact HO_2.out⟩, ⟨by repeat (first | (with_reducible first | exact HK.out | apply Kept.alloc | apply Kept.drewN | apply Kept.drew) | exact HK.out)⟩, ⟨be w0⟩⟩
end Go.Proofs.YtcoapbnbakmkoaaGreatDoor.PFnExactVarsOf
