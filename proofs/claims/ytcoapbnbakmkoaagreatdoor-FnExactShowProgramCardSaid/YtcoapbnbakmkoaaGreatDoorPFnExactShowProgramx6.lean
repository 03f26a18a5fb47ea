/- Written by a program of this session (a turned copy of the kit's print): a contract for each Go function. No condition beside those in each statement. -/
import Derived.Test.YtcoapbnbakmkoaaGreatDoorPFnExactShowProgramx0
import Derived.Test.YtcoapbnbakmkoaaGreatDoorPFnExactShowProgramx5
namespace Go.Proofs.YtcoapbnbakmkoaaGreatDoor.PFnExactShowProgram
open Go.RowKit Go.Proofs.YtcoapbnbakmkoaaGreatDoor.Given Go.Proofs.YtcoapbnbakmkoaaGreatDoorW.PrintWords Go.Proofs.YtcoapbnbakmkoaaGreatDoorW.PrintLast Go.Proofs.YtcoapbnbakmkoaaGreatDoorW.PrintMore
attribute [local go_sem] max2_int min2_int max_two min_two max_three min_three max_four min_four   -- for this text's walks alone
set_option linter.unusedVariables false
set_option linter.unusedSimpArgs false

/-! ### spec_l04Deeps: function 71 -/
mutual
def spec_l04Deeps.l0 : Nat → List (S62) → Int → List Int → Int → Option (List Int)
 | 0, _, _, _, _ => none
 | k + 1, x0, x1, x5, x6 => if x6 ≤ x1 then (spec_l04Deeps.j1 k x0 x1 x5 x6 (decide (x6 < (x0.length : Int)))) else (spec_l04Deeps.j1 k x0 x1 x5 x6 false)
def spec_l04Deeps.j1 : Nat → List (S62) → Int → List Int → Int → Bool → Option (List Int)
 | 0, _, _, _, _, _ => none
 | k + 1, x0, x1, x5, x6, x18 => if x18 = true then ((spec_NodeOk.f k x0 x6).bind fun t235 => (if t235 = true then (if x6 > 0 then (if 0 ≤ (wrap64 (x6 - 1)) then (if (wrap64 (x6 - 1)) < (x5.length : Int) then (spec_l04Deeps.j2 k x0 x1 x5 x6 1 ((rd x5 (wrap64 (x6 - 1))) == 0)) else (none)) else (none)) else (spec_l04Deeps.j2 k x0 x1 x5 x6 1 false)) else (spec_l04Deeps.j2 k x0 x1 x5 x6 1 true))) else (some x5)
def spec_l04Deeps.j2 : Nat → List (S62) → Int → List Int → Int → Int → Bool → Option (List Int)
 | 0, _, _, _, _, _, _ => none
 | k + 1, x0, x1, x5, x6, x7, x36 => if x36 = true then (spec_l04Deeps.j3 k x0 x1 x5 x6 0) else (spec_l04Deeps.j3 k x0 x1 x5 x6 x7)
def spec_l04Deeps.j3 : Nat → List (S62) → Int → List Int → Int → Int → Option (List Int)
 | 0, _, _, _, _, _ => none
 | k + 1, x0, x1, x5, x6, x7 => spec_l04Deeps.l1 k x0 x1 x5 x6 x7 0
def spec_l04Deeps.l1 : Nat → List (S62) → Int → List Int → Int → Int → Int → Option (List Int)
 | 0, _, _, _, _, _, _ => none
 | k + 1, x0, x1, x5, x6, x7, x8 => if x7 > 0 then (if 0 ≤ x6 then (if x6 < (x0.length : Int) then (spec_l04Deeps.j5 k x0 x1 x5 x6 x7 x8 (decide (x8 < (((rd_T62 x0 x6).f3).length : Int)))) else (none)) else (none)) else (spec_l04Deeps.j5 k x0 x1 x5 x6 x7 x8 false)
def spec_l04Deeps.j5 : Nat → List (S62) → Int → List Int → Int → Int → Int → Bool → Option (List Int)
 | 0, _, _, _, _, _, _, _ => none
 | k + 1, x0, x1, x5, x6, x7, x8, x48 => if x48 = true then (if 0 ≤ x6 then (if x6 < (x0.length : Int) then (if 0 ≤ x8 then (if x8 < (((rd_T62 x0 x6).f3).length : Int) then (if 0 ≤ (rd ((rd_T62 x0 x6).f3) x8) then (if (rd ((rd_T62 x0 x6).f3) x8) < (x5.length : Int) then (if (wrap64 ((rd x5 (rd ((rd_T62 x0 x6).f3) x8)) + 1)) > x7 then (spec_l04Deeps.l1 k x0 x1 x5 x6 (wrap64 ((rd x5 (rd ((rd_T62 x0 x6).f3) x8)) + 1)) (wrap64 (x8 + 1))) else (spec_l04Deeps.l1 k x0 x1 x5 x6 x7 (wrap64 (x8 + 1)))) else (none)) else (none)) else (none)) else (none)) else (none)) else (none)) else (if x7 > 10 then (if x5.length < 17592186044416 then (spec_l04Deeps.l0 k x0 x1 (x5 ++ [0]) (wrap64 (x6 + 1))) else (none)) else (if x5.length < 17592186044416 then (spec_l04Deeps.l0 k x0 x1 (x5 ++ [x7]) (wrap64 (x6 + 1))) else (none)))
end
def spec_l04Deeps.f (k : Nat) (l0 : List (S62)) (a1 : Int) : Option (List Int) := spec_l04Deeps.l0 k l0 a1 (([] : List Int)) 0
theorem spec_l04Deeps.mono_l : ∀ k, (∀ y0 y1 y2 y3, LeO (spec_l04Deeps.l0 k y0 y1 y2 y3) (spec_l04Deeps.l0 (k + 1) y0 y1 y2 y3)) ∧ (∀ y0 y1 y2 y3 y4, LeO (spec_l04Deeps.j1 k y0 y1 y2 y3 y4) (spec_l04Deeps.j1 (k + 1) y0 y1 y2 y3 y4)) ∧ (∀ y0 y1 y2 y3 y4 y5, LeO (spec_l04Deeps.j2 k y0 y1 y2 y3 y4 y5) (spec_l04Deeps.j2 (k + 1) y0 y1 y2 y3 y4 y5)) ∧ (∀ y0 y1 y2 y3 y4, LeO (spec_l04Deeps.j3 k y0 y1 y2 y3 y4) (spec_l04Deeps.j3 (k + 1) y0 y1 y2 y3 y4)) ∧ (∀ y0 y1 y2 y3 y4 y5, LeO (spec_l04Deeps.l1 k y0 y1 y2 y3 y4 y5) (spec_l04Deeps.l1 (k + 1) y0 y1 y2 y3 y4 y5)) ∧ (∀ y0 y1 y2 y3 y4 y5 y6, LeO (spec_l04Deeps.j5 k y0 y1 y2 y3 y4 y5 y6) (spec_l04Deeps.j5 (k + 1) y0 y1 y2 y3 y4 y5 y6))
 | 0 => ⟨fun _ _ _ _ r h => by simp [spec_l04Deeps.l0] at h, fun _ _ _ _ _ r h => by simp [spec_l04Deeps.j1] at h, fun _ _ _ _ _ _ r h => by simp [spec_l04Deeps.j2] at h, fun _ _ _ _ _ r h => by simp [spec_l04Deeps.j3] at h, fun _ _ _ _ _ _ r h => by simp [spec_l04Deeps.l1] at h, fun _ _ _ _ _ _ _ r h => by simp [spec_l04Deeps.j5] at h⟩
 | k + 1 => by
  obtain ⟨ih0, ih1, ih2, ih3, ih4, ih5⟩ := spec_l04Deeps.mono_l k
  refine ⟨?_, ?_, ?_, ?_, ?_, ?_⟩
  ·
   intro y0 y1 y2 y3
   unfold spec_l04Deeps.l0
   with_reducible repeat' first | exact ih0 _ _ _ _ | exact ih1 _ _ _ _ _ | exact ih2 _ _ _ _ _ _ | exact ih3 _ _ _ _ _ | exact ih4 _ _ _ _ _ _ | exact ih5 _ _ _ _ _ _ _ | exact spec_NodeOk.mono _ _ _ | exact LeO.refl _ | exact LeO.none _ | refine LeO.ite ?_ ?_ | refine LeO.bind ?_ (fun _ => ?_)
  ·
   intro y0 y1 y2 y3 y4
   unfold spec_l04Deeps.j1
   with_reducible repeat' first | exact ih0 _ _ _ _ | exact ih1 _ _ _ _ _ | exact ih2 _ _ _ _ _ _ | exact ih3 _ _ _ _ _ | exact ih4 _ _ _ _ _ _ | exact ih5 _ _ _ _ _ _ _ | exact spec_NodeOk.mono _ _ _ | exact LeO.refl _ | exact LeO.none _ | refine LeO.ite ?_ ?_ | refine LeO.bind ?_ (fun _ => ?_)
  ·
   intro y0 y1 y2 y3 y4 y5
   unfold spec_l04Deeps.j2
   with_reducible repeat' first | exact ih0 _ _ _ _ | exact ih1 _ _ _ _ _ | exact ih2 _ _ _ _ _ _ | exact ih3 _ _ _ _ _ | exact ih4 _ _ _ _ _ _ | exact ih5 _ _ _ _ _ _ _ | exact spec_NodeOk.mono _ _ _ | exact LeO.refl _ | exact LeO.none _ | refine LeO.ite ?_ ?_ | refine LeO.bind ?_ (fun _ => ?_)
  ·
   intro y0 y1 y2 y3 y4
   unfold spec_l04Deeps.j3
   with_reducible repeat' first | exact ih0 _ _ _ _ | exact ih1 _ _ _ _ _ | exact ih2 _ _ _ _ _ _ | exact ih3 _ _ _ _ _ | exact ih4 _ _ _ _ _ _ | exact ih5 _ _ _ _ _ _ _ | exact spec_NodeOk.mono _ _ _ | exact LeO.refl _ | exact LeO.none _ | refine LeO.ite ?_ ?_ | refine LeO.bind ?_ (fun _ => ?_)
  ·
   intro y0 y1 y2 y3 y4 y5
   unfold spec_l04Deeps.l1
   with_reducible repeat' first | exact ih0 _ _ _ _ | exact ih1 _ _ _ _ _ | exact ih2 _ _ _ _ _ _ | exact ih3 _ _ _ _ _ | exact ih4 _ _ _ _ _ _ | exact ih5 _ _ _ _ _ _ _ | exact spec_NodeOk.mono _ _ _ | exact LeO.refl _ | exact LeO.none _ | refine LeO.ite ?_ ?_ | refine LeO.bind ?_ (fun _ => ?_)
  ·
   intro y0 y1 y2 y3 y4 y5 y6
   unfold spec_l04Deeps.j5
   with_reducible repeat' first | exact ih0 _ _ _ _ | exact ih1 _ _ _ _ _ | exact ih2 _ _ _ _ _ _ | exact ih3 _ _ _ _ _ | exact ih4 _ _ _ _ _ _ | exact ih5 _ _ _ _ _ _ _ | exact spec_NodeOk.mono _ _ _ | exact LeO.refl _ | exact LeO.none _ | refine LeO.ite ?_ ?_ | refine LeO.bind ?_ (fun _ => ?_)
theorem spec_l04Deeps.mono : ∀ a0 a1 k, LeO (spec_l04Deeps.f k a0 a1) (spec_l04Deeps.f (k + 1) a0 a1) := by
 intro a0 a1 k; obtain ⟨ih0, ih1, ih2, ih3, ih4, ih5⟩ := spec_l04Deeps.mono_l k
 unfold spec_l04Deeps.f
 with_reducible repeat' first | exact ih0 _ _ _ _ | exact ih1 _ _ _ _ _ | exact ih2 _ _ _ _ _ _ | exact ih3 _ _ _ _ _ | exact ih4 _ _ _ _ _ _ | exact ih5 _ _ _ _ _ _ _ | exact spec_NodeOk.mono _ _ _ | exact LeO.refl _ | exact LeO.none _ | refine LeO.ite ?_ ?_ | refine LeO.bind ?_ (fun _ => ?_)
set_option maxHeartbeats 8000000 in
set_option maxRecDepth 100000 in
theorem spec_l04Deeps.calls (k : Nat) (A0 : Option Addr) (c0 : Nat) (l0 : List (S62)) (a1 : Int) (r : List Int) (w : World) (hr0 : Kd.C k62 w A0 l0.length l0) (hc0 : l0.length ≤ c0) (h : spec_l04Deeps.f k l0 a1 = some r) :
  Calls Tryz.prog 71 #[.slice A0 l0.length c0, .int .i64 a1] w fun e w' => ∃ v0_ : Value, e = .returned (v0_) ∧ Kd.R (Kd.int .i64) 3 w' w.heap.size (fun _ => True) v0_ r ∧ Below w.heap.size w w' := by
 have HR0 := As.mk hr0; have HC0 := As.mk hc0; clear hr0 hc0; have HB := As.mk (Below.refl w.heap.size w); have H : (spec_l04Deeps.l0 k l0 a1 (([] : List Int)) 0) = some r := h; clear h
 obtain ⟨y232, hy232⟩ : ∃ y_ : List Int, y_ = (([] : List Int)) := ⟨_, rfl⟩
 replace H : (spec_l04Deeps.l0 k l0 a1 y232 0) = some r := by first | (rw [hy232]; with_reducible exact H) | (have H2_ := (Option.bind_some _ _).symm.trans H; rw [hy232]; with_reducible exact H2_) | (have H2_ := (Option.bind_some _ _).symm.trans H; with_reducible exact H2_) | with_reducible exact H | (rw [hy232]; exact H) | exact H
 have Ny232 := As.mk hy232; clear hy232; have H' := As.mk H; clear H; go_enter Tryz.func71, Tryz.ntmps71
 go_wp2_with (first | ((with_reducible refine gate_dst (N := 9) rfl ?_); (try (refine gate_guard (by rfl) ?_; dsimp only)); refine Kd.R_lit (Kd.int .i64) _ 3 ?hg (N := 9) ?hd (xs := ([] : List Int)) (inner := []) (ok := fun _ => True) (okp := fun _ => True) ?hr ?hp (fun _ hk => hk) trivial (Below.refl _ _) (Nat.le_refl _) (by simp) ?_; (case hd => rfl); (case hg => rfl); (case hr => first | (go_simp; done) | (go_simp; rfl)); (case hp => exact (Reps.none _ _)); intro v233 w3 ho4 hb hg_ hnew_; clear hg_ hnew_; (first | rw [← Ny232.out] at ho4 | (simp only [Int.reduceToNat] at ho4; rw [← Ny232.out] at ho4)); have HO234 := As.mk (Kd.R_lower ho4 (below_size (be w))); replace HB := bs w hb; clear hb ho4))
 go_loopg [5, 6] k (fun kq v5 v6 w' => ∃ (x5_1 : List Int) (x6_1 : Int), v6 = .int .i64 x6_1 ∧ As (spec_l04Deeps.l0 kq l0 a1 x5_1 x6_1 = some r) ∧ As (kq ≤ k) ∧ As (Kd.R (Kd.int .i64) 3 w' w.heap.size (fun _ => True) v5 x5_1) ∧ As (Below w.heap.size w w'))
 case atStart => exact ⟨(y232), (0), (by first | rfl | (simp; done) | (simp [*]; done)), H', ⟨Nat.le_refl _⟩, ⟨by (with_reducible repeat (first | apply Kd.R_alloc | apply Kd.R_drewN | apply Kd.R_drew)); exact HO234.out⟩, ⟨be w⟩⟩
 case round =>
  clear H'; obtain ⟨x5_1, x6_1, rfl, HA, HK1, HO_5, HB⟩ := hrel
  cases gk with
  | zero => exact absurd HA.out (by simp [spec_l04Deeps.l0])
  | succ k1 =>
   have H := HA.out; clear HA
   simp only [spec_l04Deeps.l0] at H
   have HC5 := As.mk H; clear H
   go_upto_region 3 with (fail)
   go_cut [18] (fun v18 wc => ∃ (kq : Nat) (x18_4 : Bool), v18 = .bool x18_4 ∧ As (spec_l04Deeps.j1 kq l0 a1 x5_1 x6_1 x18_4 = some r) ∧ As (kq ≤ k1) ∧ As (Kd.R (Kd.int .i64) 3 wc w.heap.size (fun _ => True) u5 x5_1) ∧ As (Below w.heap.size w wc))
   case first =>
    have H := HC5.out; clear HC5
    by_cases c6 : x6_1 ≤ a1
    rotate_left
    ·
     rw [if_neg c6] at H; have c6b0 := decide_eq_false c6; clear c6
     (first | rw [c6b0] | (simp only [i64_w, i32_w]; rw [c6b0]) | skip)
     have H' := As.mk H; clear H
     go_wp2
     go_meet
     case rel => exact ⟨_, (false), (by first | rfl | (simp; done) | (simp [*]; done)), H', ⟨by have := HK1.out; first | omega | exact Nat.le_refl _⟩, ⟨by (with_reducible repeat (first | apply Kd.R_alloc | apply Kd.R_drewN | apply Kd.R_drew)); exact HO_5.out⟩, ⟨be w⟩⟩
    rw [if_pos c6] at H; have c6b0 := decide_eq_true c6; clear c6
    (first | rw [c6b0] | (simp only [i64_w, i32_w]; rw [c6b0]) | skip)
    have H' := As.mk H; clear H
    go_wp2
    go_meet
    case rel => exact ⟨_, (decide (x6_1 < (l0.length : Int))), (by first | rfl | (simp; done) | (simp [*]; done)), H', ⟨by have := HK1.out; first | omega | exact Nat.le_refl _⟩, ⟨by (with_reducible repeat (first | apply Kd.R_alloc | apply Kd.R_drewN | apply Kd.R_drew)); exact HO_5.out⟩, ⟨be w⟩⟩
   case rest =>
    clear HC5; obtain ⟨kq, x18_4, rfl, HA, HJ4, HO_5, HB⟩ := hcut
    cases kq with
    | zero => exact absurd HA.out (by simp [spec_l04Deeps.j1])
    | succ kj4 =>
     have H := HA.out; clear HA
     simp only [spec_l04Deeps.j1] at H
     by_cases c7 : x18_4 = true
     rotate_left
     ·
      replace c7 := Bool.eq_false_iff.mpr c7; subst c7; rw [if_neg ft] at H; obtain rfl := sj H
      go_wp2
      go_ret
      exact ⟨_, ez, by (with_reducible repeat (first | apply Kd.R_alloc | apply Kd.R_drewN | apply Kd.R_drew)); exact HO_5.out, be w⟩

     subst c7; rw [if_pos rfl] at H; have HC8 := As.mk H; clear H
     go_upto_region 6 with (fail)
     go_cut [36] (fun v36 wc => ∃ (kq : Nat) (x36_7 : Bool), v36 = .bool x36_7 ∧ As (spec_l04Deeps.j2 kq l0 a1 x5_1 x6_1 1 x36_7 = some r) ∧ As (kq ≤ kj4) ∧ As (Kd.R (Kd.int .i64) 3 wc w.heap.size (fun _ => True) u5 x5_1) ∧ As (Below w.heap.size w wc))
     case first =>
      have H := HC8.out; clear HC8; replace H := bo H; obtain ⟨t235, A9, H⟩ := H
      by_cases c10 : t235 = true
      rotate_left
      ·
       replace c10 := Bool.eq_false_iff.mpr c10; subst c10; rw [if_neg ft] at H; have H' := As.mk H; clear H
       go_wp2_with (first | ((with_reducible refine gate_callee (f := 95) rfl ?_); refine goL (some 23) Tryz.func95 #[.slice A0 l0.length c0, .int .i64 x6_1] ?_; (with_reducible refine (spec_NodeOk.calls kj4 _ _ l0 x6_1 false _ (cb HR0) HC0.out A9.out).mono ?_); rintro e w18 ⟨rfl, hb⟩; refine ⟨_, rfl, ?_⟩; replace HO_5 := As.mk (Kd.R_below (by (with_reducible repeat (first | apply Kd.R_alloc | apply Kd.R_drewN | apply Kd.R_drew)); exact HO_5.out) hb); replace HB := bs w hb; (try clear hb)))
       go_meet
       case rel => exact ⟨_, (true), (by first | rfl | (simp; done) | (simp [*]; done)), H', ⟨by have := HK1.out; have := HJ4.out; first | omega | exact Nat.le_refl _⟩, ⟨by (with_reducible repeat (first | apply Kd.R_alloc | apply Kd.R_drewN | apply Kd.R_drew)); exact HO_5.out⟩, ⟨be w⟩⟩
      subst c10; rw [if_pos rfl] at H
      by_cases c11 : x6_1 > 0
      rotate_left
      ·
       rw [if_neg c11] at H; have c11b0 : decide (0 < x6_1) = false := decide_eq_false c11; clear c11
       (first | rw [c11b0] | (simp only [i64_w, i32_w]; rw [c11b0]) | skip)
       have H' := As.mk H; clear H
       go_wp2_with (first | ((with_reducible refine gate_callee (f := 95) rfl ?_); refine goL (some 23) Tryz.func95 #[.slice A0 l0.length c0, .int .i64 x6_1] ?_; (with_reducible refine (spec_NodeOk.calls kj4 _ _ l0 x6_1 true _ (cb HR0) HC0.out A9.out).mono ?_); rintro e w17 ⟨rfl, hb⟩; refine ⟨_, rfl, ?_⟩; replace HO_5 := As.mk (Kd.R_below (by (with_reducible repeat (first | apply Kd.R_alloc | apply Kd.R_drewN | apply Kd.R_drew)); exact HO_5.out) hb); replace HB := bs w hb; (try clear hb)))
       go_meet
       case rel => exact ⟨_, (false), (by first | rfl | (simp; done) | (simp [*]; done)), H', ⟨by have := HK1.out; have := HJ4.out; first | omega | exact Nat.le_refl _⟩, ⟨by (with_reducible repeat (first | apply Kd.R_alloc | apply Kd.R_drewN | apply Kd.R_drew)); exact HO_5.out⟩, ⟨be w⟩⟩
      rw [if_pos c11] at H; have c11b0 : decide (0 < x6_1) = true := decide_eq_true c11; clear c11
      (first | rw [c11b0] | (simp only [i64_w, i32_w]; rw [c11b0]) | skip)
      obtain ⟨ji12, hji12⟩ : ∃ j_ : Int, (wrap64 (x6_1 - 1)) = j_ := ⟨_, rfl⟩
      replace H : (if 0 ≤ (ji12) then (if (ji12) < (x5_1.length : Int) then (spec_l04Deeps.j2 kj4 l0 a1 x5_1 x6_1 1 ((rd x5_1 (ji12)) == 0)) else (none)) else (none)) = some r := by first | (rw [hji12] at H; exact H) | (simp only [hji12] at H ⊢; exact H)
      (try rw [hji12] at A9); have hji12w : (IntKind.i64.wrap (x6_1 - 1)) = ji12 := (i64_w _).trans hji12; replace H := ia H; obtain ⟨c13b0, H⟩ := H; replace H := ia H; obtain ⟨c14b0, H⟩ := H; have H' := As.mk H; clear H
      go_wp2_with (first | ((with_reducible refine gate_callee (f := 95) rfl ?_); refine goL (some 23) Tryz.func95 #[.slice A0 l0.length c0, .int .i64 x6_1] ?_; (with_reducible refine (spec_NodeOk.calls kj4 _ _ l0 x6_1 true _ (cb HR0) HC0.out A9.out).mono ?_); rintro e w15 ⟨rfl, hb⟩; refine ⟨_, rfl, ?_⟩; replace HO_5 := As.mk (Kd.R_below (by (with_reducible repeat (first | apply Kd.R_alloc | apply Kd.R_drewN | apply Kd.R_drew)); exact HO_5.out) hb); replace HB := bs w hb; (try clear hb); obtain ⟨Ao16, co16, eo16⟩ := Kd.R_slice HO_5.out; subst eo16; have p236 : 0 ≤ ((ji12) : Int) := od; have q236 : (ji12) < (x5_1.length : Int) := od; obtain ⟨ad236, e236, x236a⟩ := Kd.at_int (Kd.R_reads' HO_5.out).2.2 (ji12) p236 q236; cases e236; replace p236 := eq_true p236; replace q236 := eq_true q236))
      go_meet
      case rel => exact ⟨_, (((rd x5_1 (ji12)) == 0)), (by first | rfl | (simp; done) | (simp only [← hji12] <;> (first | rfl | simp)) | (simp [*]; done)), H', ⟨by have := HK1.out; have := HJ4.out; first | omega | exact Nat.le_refl _⟩, ⟨by (with_reducible repeat (first | apply Kd.R_alloc | apply Kd.R_drewN | apply Kd.R_drew)); exact HO_5.out⟩, ⟨be w⟩⟩
     case rest =>
      clear HC8; (try clear c7); obtain ⟨kq, x36_7, rfl, HA, HJ7, HO_5, HB⟩ := hcut
      cases kq with
      | zero => exact absurd HA.out (by simp [spec_l04Deeps.j2])
      | succ kj7 =>
       have H := HA.out; clear HA
       simp only [spec_l04Deeps.j2] at H
       have HC19 := As.mk H; clear H
       go_upto_if 36 with (fail)
       go_cut [7] (fun v7 wc => ∃ (kq : Nat) (x7_18 : Int), v7 = .int .i64 x7_18 ∧ As (spec_l04Deeps.j3 kq l0 a1 x5_1 x6_1 x7_18 = some r) ∧ As (kq ≤ kj7) ∧ As (Kd.R (Kd.int .i64) 3 wc w.heap.size (fun _ => True) u5 x5_1) ∧ As (Below w.heap.size w wc))
       case first =>
        have H := HC19.out; clear HC19
        by_cases c20 : x36_7 = true
        ·
         subst c20; rw [if_pos rfl] at H; have H' := As.mk H; clear H
         go_wp2
         go_meet
         case rel => exact ⟨_, (0), (by first | rfl | (simp; done) | (simp [*]; done)), H', ⟨by have := HK1.out; have := HJ4.out; have := HJ7.out; first | omega | exact Nat.le_refl _⟩, ⟨by (with_reducible repeat (first | apply Kd.R_alloc | apply Kd.R_drewN | apply Kd.R_drew)); exact HO_5.out⟩, ⟨be w⟩⟩
        replace c20 := Bool.eq_false_iff.mpr c20; subst c20; rw [if_neg ft] at H; have H' := As.mk H; clear H
        go_wp2
        go_meet
        case rel => exact ⟨_, (1), (by first | rfl | (simp; done) | (simp [*]; done)), H', ⟨by have := HK1.out; have := HJ4.out; have := HJ7.out; first | omega | exact Nat.le_refl _⟩, ⟨by (with_reducible repeat (first | apply Kd.R_alloc | apply Kd.R_drewN | apply Kd.R_drew)); exact HO_5.out⟩, ⟨be w⟩⟩
       case rest =>
        clear HC19; (try clear c7); obtain ⟨kq, x7_18, rfl, HA, HJ18, HO_5, HB⟩ := hcut
        cases kq with
        | zero => exact absurd HA.out (by simp [spec_l04Deeps.j3])
        | succ kj18 =>
         have H := HA.out; clear HA
         simp only [spec_l04Deeps.j3] at H
         have H' := As.mk H; clear H
         go_wp2
         go_loopg [7, 8] kj18 (fun kq v7 v8 w' => ∃ (x7_5 : Int) (x8_5 : Int), v7 = .int .i64 x7_5 ∧ v8 = .int .i64 x8_5 ∧ As (spec_l04Deeps.l1 kq l0 a1 x5_1 x6_1 x7_5 x8_5 = some r) ∧ As (kq ≤ kj18) ∧ As (Kd.R (Kd.int .i64) 3 w' w.heap.size (fun _ => True) u5 x5_1) ∧ As (Below w.heap.size w w'))
         case atStart => exact ⟨(x7_18), (0), (by first | rfl | (simp; done) | (simp [*]; done)), (by first | rfl | (simp; done) | (simp [*]; done)), H', ⟨Nat.le_refl _⟩, ⟨by (with_reducible repeat (first | apply Kd.R_alloc | apply Kd.R_drewN | apply Kd.R_drew)); exact HO_5.out⟩, ⟨be w⟩⟩
         case round =>
          clear H'; (try clear c7); obtain ⟨x7_5, x8_5, rfl, rfl, HA, HK5, HO_5, HB⟩ := hrel
          cases gk with
          | zero => exact absurd HA.out (by simp [spec_l04Deeps.l1])
          | succ k5 =>
           have H := HA.out; clear HA
           simp only [spec_l04Deeps.l1] at H
           have HC21 := As.mk H; clear H
           go_upto_region 9 with (fail)
           go_cut [48] (fun v48 wc => ∃ (kq : Nat) (x48_20 : Bool), v48 = .bool x48_20 ∧ As (spec_l04Deeps.j5 kq l0 a1 x5_1 x6_1 x7_5 x8_5 x48_20 = some r) ∧ As (kq ≤ k5) ∧ As (Kd.R (Kd.int .i64) 3 wc w.heap.size (fun _ => True) u5 x5_1) ∧ As (Below w.heap.size w wc))
           case first =>
            have H := HC21.out; clear HC21
            by_cases c22 : x7_5 > 0
            rotate_left
            ·
             rw [if_neg c22] at H; have c22b0 : decide (0 < x7_5) = false := decide_eq_false c22; clear c22
             (first | rw [c22b0] | (simp only [i64_w, i32_w]; rw [c22b0]) | skip)
             have H' := As.mk H; clear H
             go_wp2
             go_meet
             case rel => exact ⟨_, (false), (by first | rfl | (simp; done) | (simp [*]; done)), H', ⟨by have := HK1.out; have := HJ4.out; have := HJ7.out; have := HJ18.out; have := HK5.out; first | omega | exact Nat.le_refl _⟩, ⟨by (with_reducible repeat (first | apply Kd.R_alloc | apply Kd.R_drewN | apply Kd.R_drew)); exact HO_5.out⟩, ⟨be w⟩⟩
            rw [if_pos c22] at H; have c22b0 : decide (0 < x7_5) = true := decide_eq_true c22; clear c22
            (first | rw [c22b0] | (simp only [i64_w, i32_w]; rw [c22b0]) | skip)
            replace H := ia H; obtain ⟨c23b0, H⟩ := H; replace H := ia H; obtain ⟨c24b0, H⟩ := H; have H' := As.mk H; clear H; obtain ⟨ad237, A237_3, c237_3, e237, p237, q237, x237a, x237b, x237c, x237d, HC237_3, HR237_3⟩ := bt_T62 HB.out HR0.out x6_1 od od; cases e237
            go_wp2
            go_meet
            case rel => exact ⟨_, (decide (x8_5 < (((rd_T62 l0 x6_1).f3).length : Int))), (by first | rfl | (simp; done) | (simp [*]; done)), H', ⟨by have := HK1.out; have := HJ4.out; have := HJ7.out; have := HJ18.out; have := HK5.out; first | omega | exact Nat.le_refl _⟩, ⟨by (with_reducible repeat (first | apply Kd.R_alloc | apply Kd.R_drewN | apply Kd.R_drew)); exact HO_5.out⟩, ⟨be w⟩⟩
           case rest =>
            clear HC21; (try clear c7); obtain ⟨kq, x48_20, rfl, HA, HJ20, HO_5, HB⟩ := hcut
            cases kq with
            | zero => exact absurd HA.out (by simp [spec_l04Deeps.j5])
            | succ kj20 =>
             have H := HA.out; clear HA
             simp only [spec_l04Deeps.j5] at H
             by_cases c25 : x48_20 = true
             rotate_left
             ·
              replace c25 := Bool.eq_false_iff.mpr c25; subst c25; rw [if_neg ft] at H
              by_cases c35 : x7_5 > 10
              ·
               rw [if_pos c35] at H; have c35b0 : decide (10 < x7_5) = true := decide_eq_true c35; clear c35; have c36 := i1 H; replace H := i2 H; have LMc36 := As.mk c36; clear c36
               obtain ⟨y244, hy244⟩ : ∃ y_ : List Int, y_ = (x5_1 ++ [0]) := ⟨_, rfl⟩
               replace H : (spec_l04Deeps.l0 kj20 l0 a1 y244 (wrap64 (x6_1 + 1))) = some r := by first | (rw [hy244]; with_reducible exact H) | (have H2_ := (Option.bind_some _ _).symm.trans H; rw [hy244]; with_reducible exact H2_) | (have H2_ := (Option.bind_some _ _).symm.trans H; with_reducible exact H2_) | with_reducible exact H | (rw [hy244]; exact H) | exact H
               have Ny244 := As.mk hy244; clear hy244; have H' := As.mk H; clear H
               go_wp2_with (first | ((with_reducible refine gate_builtin (b := .append) (xs := #[.tmp 79, .tmp 81]) rfl ?_); (try (refine gate_guard (by rfl) ?_; dsimp only)); at_builtin; refine Kd.R_append (Kd.int .i64) (w0 := w) w.heap.size rfl (.tmp 79) (.tmp 81) 45 3 (.int .i64 0) 8 rfl Tryz.underlying45 info3 rfl (by decide) (by omega) u5 x5_1 0 [.int .i64 0] (fun _ => True) (fun _ => False) rfl rfl ?aP (fun _ hk => hk.elim) ?aF ?aO ?aB ?aS ?aL ?_; (case aP => exact rfl); (case aB => exact (be w)); (case aF => exact (fun _ _ => trivial)); (case aO => exact (by (with_reducible repeat (first | apply Kd.R_alloc | apply Kd.R_drewN | apply Kd.R_drew)); exact HO_5.out)); (case aS => exact (below_size (be w))); (case aL => have := LMc36.out; omega); intro v245 w37 ho hb hg hat; rw [← Ny244.out] at ho; replace HB := As.mk (hb); have HO246 := As.mk (ho); clear HO_5; clear ho hb hg hat))
               go_roundg kj20
               case measure => have := HK1.out; have := HJ4.out; have := HJ7.out; have := HJ18.out; have := HK5.out; have := HJ20.out; omega
               case rel => exact ⟨(y244), (wrap64 (x6_1 + 1)), (by first | rfl | (simp; done) | (simp [*]; done)), H', ⟨by have := HK1.out; have := HJ4.out; have := HJ7.out; have := HJ18.out; have := HK5.out; have := HJ20.out; omega⟩, ⟨by (with_reducible repeat (first | apply Kd.R_alloc | apply Kd.R_drewN | apply Kd.R_drew)); exact HO246.out⟩, ⟨be w⟩⟩
              rw [if_neg c35] at H; have c35b0 : decide (10 < x7_5) = false := decide_eq_false c35; clear c35; have c38 := i1 H; replace H := i2 H; have LMc38 := As.mk c38; clear c38
              obtain ⟨y247, hy247⟩ : ∃ y_ : List Int, y_ = (x5_1 ++ [x7_5]) := ⟨_, rfl⟩
              replace H : (spec_l04Deeps.l0 kj20 l0 a1 y247 (wrap64 (x6_1 + 1))) = some r := by first | (rw [hy247]; with_reducible exact H) | (have H2_ := (Option.bind_some _ _).symm.trans H; rw [hy247]; with_reducible exact H2_) | (have H2_ := (Option.bind_some _ _).symm.trans H; with_reducible exact H2_) | with_reducible exact H | (rw [hy247]; exact H) | exact H
              have Ny247 := As.mk hy247; clear hy247; have H' := As.mk H; clear H
              go_wp2_with (first | ((with_reducible refine gate_builtin (b := .append) (xs := #[.tmp 79, .tmp 81]) rfl ?_); (try (refine gate_guard (by rfl) ?_; dsimp only)); at_builtin; refine Kd.R_append (Kd.int .i64) (w0 := w) w.heap.size rfl (.tmp 79) (.tmp 81) 45 3 (.int .i64 0) 8 rfl Tryz.underlying45 info3 rfl (by decide) (by omega) u5 x5_1 x7_5 [.int .i64 x7_5] (fun _ => True) (fun _ => False) rfl rfl ?aP (fun _ hk => hk.elim) ?aF ?aO ?aB ?aS ?aL ?_; (case aP => exact rfl); (case aB => exact (be w)); (case aF => exact (fun _ _ => trivial)); (case aO => exact (by (with_reducible repeat (first | apply Kd.R_alloc | apply Kd.R_drewN | apply Kd.R_drew)); exact HO_5.out)); (case aS => exact (below_size (be w))); (case aL => have := LMc38.out; omega); intro v248 w39 ho hb hg hat; rw [← Ny247.out] at ho; replace HB := As.mk (hb); have HO249 := As.mk (ho); clear HO_5; clear ho hb hg hat))
              go_roundg kj20
              case measure => have := HK1.out; have := HJ4.out; have := HJ7.out; have := HJ18.out; have := HK5.out; have := HJ20.out; omega
              case rel => exact ⟨(y247), (wrap64 (x6_1 + 1)), (by first | rfl | (simp; done) | (simp [*]; done)), H', ⟨by have := HK1.out; have := HJ4.out; have := HJ7.out; have := HJ18.out; have := HK5.out; have := HJ20.out; omega⟩, ⟨by (with_reducible repeat (first | apply Kd.R_alloc | apply Kd.R_drewN | apply Kd.R_drew)); exact HO249.out⟩, ⟨be w⟩⟩
             subst c25; rw [if_pos rfl] at H; replace H := ia H; obtain ⟨c26b0, H⟩ := H; replace H := ia H; obtain ⟨c27b0, H⟩ := H; replace H := ia H; obtain ⟨c28b0, H⟩ := H; replace H := ia H; obtain ⟨c29b0, H⟩ := H; replace H := ia H; obtain ⟨c30b0, H⟩ := H; replace H := ia H; obtain ⟨c31b0, H⟩ := H
             by_cases c32 : (wrap64 ((rd x5_1 (rd ((rd_T62 l0 x6_1).f3) x8_5)) + 1)) > x7_5
             rotate_left
             ·
              rw [if_neg c32] at H; have c32b0 : decide (x7_5 < (wrap64 ((rd x5_1 (rd ((rd_T62 l0 x6_1).f3) x8_5)) + 1))) = false := decide_eq_false c32; clear c32; have H' := As.mk H; clear H; obtain ⟨ad238, A238_3, c238_3, e238, p238, q238, x238a, x238b, x238c, x238d, HC238_3, HR238_3⟩ := bt_T62 HB.out HR0.out x6_1 od od; cases e238; have p239 : 0 ≤ (x8_5 : Int) := od; have q239 : x8_5 < (((rd_T62 l0 x6_1).f3).length : Int) := od; obtain ⟨ad239, e239, x239a⟩ := Kd.at_int HR238_3.out x8_5 p239 q239; cases e239; replace x239a := ce HB.out x239a; replace p239 := eq_true p239; replace q239 := eq_true q239; obtain ⟨Ao34, co34, eo34⟩ := Kd.R_slice HO_5.out; subst eo34; have p240 : 0 ≤ ((rd ((rd_T62 l0 x6_1).f3) x8_5) : Int) := od; have q240 : (rd ((rd_T62 l0 x6_1).f3) x8_5) < (x5_1.length : Int) := od; obtain ⟨ad240, e240, x240a⟩ := Kd.at_int (Kd.R_reads' HO_5.out).2.2 (rd ((rd_T62 l0 x6_1).f3) x8_5) p240 q240; cases e240; replace p240 := eq_true p240; replace q240 := eq_true q240
              go_wp2
              go_roundg kj20
              case measure => have := HK1.out; have := HJ4.out; have := HJ7.out; have := HJ18.out; have := HK5.out; have := HJ20.out; omega
              case rel => exact ⟨(x7_5), (wrap64 (x8_5 + 1)), (by first | rfl | (simp; done) | (simp [*]; done)), (by first | rfl | (simp; done) | (simp [*]; done)), H', ⟨by have := HK1.out; have := HJ4.out; have := HJ7.out; have := HJ18.out; have := HK5.out; have := HJ20.out; omega⟩, ⟨by (with_reducible repeat (first | apply Kd.R_alloc | apply Kd.R_drewN | apply Kd.R_drew)); exact HO_5.out⟩, ⟨be w⟩⟩
             rw [if_pos c32] at H; have c32b0 : decide (x7_5 < (wrap64 ((rd x5_1 (rd ((rd_T62 l0 x6_1).f3) x8_5)) + 1))) = true := decide_eq_true c32; clear c32; have H' := As.mk H; clear H; obtain ⟨ad238, A238_3, c238_3, e238, p238, q238, x238a, x238b, x238c, x238d, HC238_3, HR238_3⟩ := bt_T62 HB.out HR0.out x6_1 od od; cases e238; have p239 : 0 ≤ (x8_5 : Int) := od; have q239 : x8_5 < (((rd_T62 l0 x6_1).f3).length : Int) := od; obtain ⟨ad239, e239, x239a⟩ := Kd.at_int HR238_3.out x8_5 p239 q239; cases e239; replace x239a := ce HB.out x239a; replace p239 := eq_true p239; replace q239 := eq_true q239; obtain ⟨Ao33, co33, eo33⟩ := Kd.R_slice HO_5.out; subst eo33; have p240 : 0 ≤ ((rd ((rd_T62 l0 x6_1).f3) x8_5) : Int) := od; have q240 : (rd ((rd_T62 l0 x6_1).f3) x8_5) < (x5_1.length : Int) := od; obtain ⟨ad240, e240, x240a⟩ := Kd.at_int (Kd.R_reads' HO_5.out).2.2 (rd ((rd_T62 l0 x6_1).f3) x8_5) p240 q240; cases e240; replace p240 := eq_true p240; replace q240 := eq_true q240; have p241 : 0 ≤ (x6_1 : Int) := od; have q241 : x6_1 < (l0.length : Int) := od; obtain ⟨ad241, A241_3, c241_3, e241, x241a, x241b, x241c, x241d, hl241_3, hi241_3⟩ := at_T62 HR0.out x6_1 p241 q241; obtain rfl : ad238 = ad241 := (by injection e241); replace x241a := ce HB.out x241a; replace x241b := ce HB.out x241b; replace x241c := ce HB.out x241c; replace x241d := ce HB.out x241d; have HR241_3 := As.mk hi241_3; have HC241_3 := As.mk hl241_3; clear hi241_3 hl241_3; replace p241 := eq_true p241; replace q241 := eq_true q241; have ea_ := Option.some.inj (x238d.symm.trans x241d)
             injection ea_ with ea_ en_ ec_
             subst ea_; subst ec_; clear en_; have p242 : 0 ≤ (x8_5 : Int) := od; have q242 : x8_5 < (((rd_T62 l0 x6_1).f3).length : Int) := od; obtain ⟨ad242, e242, x242a⟩ := Kd.at_int HR241_3.out x8_5 p242 q242; cases e242; replace x242a := ce HB.out x242a; replace p242 := eq_true p242; replace q242 := eq_true q242; have p243 : 0 ≤ ((rd ((rd_T62 l0 x6_1).f3) x8_5) : Int) := od; have q243 : (rd ((rd_T62 l0 x6_1).f3) x8_5) < (x5_1.length : Int) := od; obtain ⟨ad243, e243, x243a⟩ := Kd.at_int (Kd.R_reads' HO_5.out).2.2 (rd ((rd_T62 l0 x6_1).f3) x8_5) p243 q243; obtain rfl : ad240 = ad243 := (by injection e243); replace p243 := eq_true p243; replace q243 := eq_true q243
             go_wp2
             go_roundg kj20
             case measure => have := HK1.out; have := HJ4.out; have := HJ7.out; have := HJ18.out; have := HK5.out; have := HJ20.out; omega
             case rel => exact ⟨(wrap64 ((rd x5_1 (rd ((rd_T62 l0 x6_1).f3) x8_5)) + 1)), (wrap64 (x8_5 + 1)), (by first | rfl | (simp; done) | (simp [*]; done)), (by first | rfl | (simp; done) | (simp [*]; done)), H', ⟨by have := HK1.out; have := HJ4.out; have := HJ7.out; have := HJ18.out; have := HK5.out; have := HJ20.out; omega⟩, ⟨by (with_reducible repeat (first | apply Kd.R_alloc | apply Kd.R_drewN | apply Kd.R_drew)); exact HO_5.out⟩, ⟨be w⟩⟩
/-! ### spec_l04Used: function 76 -/
mutual
def spec_l04Used.l0 : Nat → List (S62) → List Int → Int → Option (List Int)
 | 0, _, _, _ => none
 | k + 1, x0, x3, x4 => if x4 < (x0.length : Int) then (spec_l04Used.l1 k x0 x3 x4 0) else (some x3)
def spec_l04Used.l1 : Nat → List (S62) → List Int → Int → Int → Option (List Int)
 | 0, _, _, _, _ => none
 | k + 1, x0, x3, x4, x5 => if 0 ≤ x4 then (if x4 < (x0.length : Int) then (if x5 < (((rd_T62 x0 x4).f3).length : Int) then (if 0 ≤ x5 then (if 0 ≤ (rd ((rd_T62 x0 x4).f3) x5) then (if (rd ((rd_T62 x0 x4).f3) x5) < (x3.length : Int) then (spec_l04Used.l1 k x0 (x3.set ((rd ((rd_T62 x0 x4).f3) x5) : Int).toNat (wrap64 ((rd x3 (rd ((rd_T62 x0 x4).f3) x5)) + 1))) x4 (wrap64 (x5 + 1))) else (none)) else (none)) else (none)) else (spec_l04Used.l0 k x0 x3 (wrap64 (x4 + 1)))) else (none)) else (none)
end
def spec_l04Used.f (k : Nat) (l0 : List (S62)) : Option (List Int) := if 0 ≤ (l0.length : Int) then (if ((l0.length : Int) : Int).toNat ≤ 35184372088832 then (spec_l04Used.l0 k l0 (List.replicate ((l0.length : Int) : Int).toNat 0) 0) else (none)) else (none)
theorem spec_l04Used.mono_l : ∀ k, (∀ y0 y1 y2, LeO (spec_l04Used.l0 k y0 y1 y2) (spec_l04Used.l0 (k + 1) y0 y1 y2)) ∧ (∀ y0 y1 y2 y3, LeO (spec_l04Used.l1 k y0 y1 y2 y3) (spec_l04Used.l1 (k + 1) y0 y1 y2 y3))
 | 0 => ⟨fun _ _ _ r h => by simp [spec_l04Used.l0] at h, fun _ _ _ _ r h => by simp [spec_l04Used.l1] at h⟩
 | k + 1 => by
  obtain ⟨ih0, ih1⟩ := spec_l04Used.mono_l k
  refine ⟨?_, ?_⟩
  ·
   intro y0 y1 y2
   unfold spec_l04Used.l0
   with_reducible repeat' first | exact ih0 _ _ _ | exact ih1 _ _ _ _ | exact LeO.refl _ | exact LeO.none _ | refine LeO.ite ?_ ?_ | refine LeO.bind ?_ (fun _ => ?_)
  ·
   intro y0 y1 y2 y3
   unfold spec_l04Used.l1
   with_reducible repeat' first | exact ih0 _ _ _ | exact ih1 _ _ _ _ | exact LeO.refl _ | exact LeO.none _ | refine LeO.ite ?_ ?_ | refine LeO.bind ?_ (fun _ => ?_)
theorem spec_l04Used.mono : ∀ a0 k, LeO (spec_l04Used.f k a0) (spec_l04Used.f (k + 1) a0) := by
 intro a0 k; obtain ⟨ih0, ih1⟩ := spec_l04Used.mono_l k
 unfold spec_l04Used.f
 with_reducible repeat' first | exact ih0 _ _ _ | exact ih1 _ _ _ _ | exact LeO.refl _ | exact LeO.none _ | refine LeO.ite ?_ ?_ | refine LeO.bind ?_ (fun _ => ?_)
set_option maxHeartbeats 8000000 in
set_option maxRecDepth 100000 in
theorem spec_l04Used.calls (k : Nat) (A0 : Option Addr) (c0 : Nat) (l0 : List (S62)) (r : List Int) (w : World) (hr0 : Kd.C k62 w A0 l0.length l0) (hc0 : l0.length ≤ c0) (h : spec_l04Used.f k l0 = some r) :
  Calls Tryz.prog 76 #[.slice A0 l0.length c0] w fun e w' => ∃ v0_ : Value, e = .returned (v0_) ∧ Kd.R (Kd.int .i64) 3 w' w.heap.size (fun _ => True) v0_ r ∧ Below w.heap.size w w' := by
 have HR0 := As.mk hr0; have HC0 := As.mk hc0; clear hr0 hc0; have HB := As.mk (Below.refl w.heap.size w); have H : (if 0 ≤ (l0.length : Int) then (if ((l0.length : Int) : Int).toNat ≤ 35184372088832 then (spec_l04Used.l0 k l0 (List.replicate ((l0.length : Int) : Int).toNat 0) 0) else (none)) else (none)) = some r := h; clear h
 by_cases c2 : 0 ≤ (l0.length : Int)
 rotate_left; · rw [if_neg c2] at H; exact absurd H (by simp)

 rw [if_pos c2] at H; have c2b0 := eq_true c2; have c2b1 := decide_eq_true c2; clear c2; replace H := ie H; obtain ⟨c3b0, c3b1, H⟩ := H
 obtain ⟨y250, hy250⟩ : ∃ y_ : List Int, y_ = (List.replicate ((l0.length : Int) : Int).toNat 0) := ⟨_, rfl⟩
 replace H : (spec_l04Used.l0 k l0 y250 0) = some r := by first | (rw [hy250]; with_reducible exact H) | (have H2_ := (Option.bind_some _ _).symm.trans H; rw [hy250]; with_reducible exact H2_) | (have H2_ := (Option.bind_some _ _).symm.trans H; with_reducible exact H2_) | with_reducible exact H | (rw [hy250]; exact H) | exact H
 have Ny250 := As.mk hy250; clear hy250; have H' := As.mk H; clear H; go_enter Tryz.func76, Tryz.ntmps76
 go_wp2_with (first | ((with_reducible refine gate_dst (N := 8) rfl ?_); refine Kd.R_make (Kd.int .i64) _ 3 rfl (N := 8) rfl 45 _ _ rfl (l0.length : Int) rfl rfl Tryz.underlying45 (.int .i64 0) 8 info3 rfl (by decide) (by omega) 0 (ok := fun _ => True) (okp := fun _ => True) rfl (fun _ hk => hk) trivial (of_decide_eq_true (by first | (with_reducible assumption) | assumption)) (Nat.le_trans (Nat.mul_le_mul_right _ (of_decide_eq_true (by first | (with_reducible assumption) | assumption) : (l0.length : Int).toNat ≤ 35184372088832)) (by omega)) (Below.refl _ _) (Nat.le_refl _) ?_; intro v251 w4 ho5 hb hg_ hnew_; clear hg_ hnew_; (first | rw [← Ny250.out] at ho5 | (simp only [Int.reduceToNat] at ho5; rw [← Ny250.out] at ho5)); have HO252 := As.mk (Kd.R_lower ho5 (below_size (be w))); replace HB := bs w hb; clear hb ho5))
 go_loopg [4] k (fun kq v4 w' => ∃ (x3_1 : List Int) (x4_1 : Int), v4 = .int .i64 x4_1 ∧ As (spec_l04Used.l0 kq l0 x3_1 x4_1 = some r) ∧ As (kq ≤ k) ∧ As (Kd.R (Kd.int .i64) 3 w' w.heap.size (fun _ => True) v251 x3_1) ∧ As (Below w.heap.size w w'))
 case atStart => exact ⟨(y250), (0), (by first | rfl | (simp; done) | (simp [*]; done)), H', ⟨Nat.le_refl _⟩, ⟨by (with_reducible repeat (first | apply Kd.R_alloc | apply Kd.R_drewN | apply Kd.R_drew)); exact HO252.out⟩, ⟨be w⟩⟩
 case round =>
  clear H'; (try clear c2); (try clear c2b0); (try clear c2b1); (try clear c3); (try clear c3b0); (try clear c3b1); obtain ⟨x3_1, x4_1, rfl, HA, HK1, HO_3, HB⟩ := hrel
  cases gk with
  | zero => exact absurd HA.out (by simp [spec_l04Used.l0])
  | succ k1 =>
   have H := HA.out; clear HA
   simp only [spec_l04Used.l0] at H
   by_cases c6 : x4_1 < (l0.length : Int)
   rotate_left
   ·
    rw [if_neg c6] at H; have c6b0 := decide_eq_false c6; clear c6; obtain rfl := sj H
    go_wp2
    go_ret
    exact ⟨_, ez, by (with_reducible repeat (first | apply Kd.R_alloc | apply Kd.R_drewN | apply Kd.R_drew)); exact HO_3.out, be w⟩
   rw [if_pos c6] at H; have c6b0 := decide_eq_true c6; clear c6; have H' := As.mk H; clear H
   go_wp2
   go_loopg [5] k1 (fun kq v5 w' => ∃ (x3_2 : List Int) (x5_2 : Int), v5 = .int .i64 x5_2 ∧ As (spec_l04Used.l1 kq l0 x3_2 x4_1 x5_2 = some r) ∧ As (kq ≤ k1) ∧ As (Kd.R (Kd.int .i64) 3 w' w.heap.size (fun _ => True) v251 x3_2) ∧ As (Below w.heap.size w w'))
   case atStart => exact ⟨(x3_1), (0), (by first | rfl | (simp; done) | (simp [*]; done)), H', ⟨Nat.le_refl _⟩, ⟨by (with_reducible repeat (first | apply Kd.R_alloc | apply Kd.R_drewN | apply Kd.R_drew)); exact HO_3.out⟩, ⟨be w⟩⟩
   case round =>
    clear H'; (try clear c2); (try clear c2b0); (try clear c2b1); (try clear c3); (try clear c3b0); (try clear c3b1); (try clear c6); (try clear c6b0); obtain ⟨x3_2, x5_2, rfl, HA, HK2, HO_3, HB⟩ := hrel
    cases gk with
    | zero => exact absurd HA.out (by simp [spec_l04Used.l1])
    | succ k2 =>
     have H := HA.out; clear HA
     simp only [spec_l04Used.l1] at H
     replace H := ia H; obtain ⟨c7b0, H⟩ := H; replace H := ia H; obtain ⟨c8b0, H⟩ := H
     by_cases c9 : x5_2 < (((rd_T62 l0 x4_1).f3).length : Int)
     rotate_left
     ·
      rw [if_neg c9] at H; have c9b0 := decide_eq_false c9; clear c9; have H' := As.mk H; clear H; obtain ⟨ad253, A253_3, c253_3, e253, p253, q253, x253a, x253b, x253c, x253d, HC253_3, HR253_3⟩ := bt_T62 HB.out HR0.out x4_1 od od; cases e253
      go_wp2
      go_roundg k2
      case measure => have := HK1.out; have := HK2.out; omega
      case rel => exact ⟨(x3_2), (wrap64 (x4_1 + 1)), (by first | rfl | (simp; done) | (simp [*]; done)), H', ⟨by have := HK1.out; have := HK2.out; omega⟩, ⟨by (with_reducible repeat (first | apply Kd.R_alloc | apply Kd.R_drewN | apply Kd.R_drew)); exact HO_3.out⟩, ⟨be w⟩⟩
     rw [if_pos c9] at H; have c9b0 := decide_eq_true c9; clear c9; replace H := ia H; obtain ⟨c10b0, H⟩ := H; replace H := ia H; obtain ⟨c11b0, H⟩ := H; replace H := ia H; obtain ⟨c12b0, H⟩ := H
     obtain ⟨y257, hy257⟩ : ∃ y_ : List Int, y_ = (x3_2.set ((rd ((rd_T62 l0 x4_1).f3) x5_2) : Int).toNat (wrap64 ((rd x3_2 (rd ((rd_T62 l0 x4_1).f3) x5_2)) + 1))) := ⟨_, rfl⟩
     replace H : (spec_l04Used.l1 k2 l0 y257 x4_1 (wrap64 (x5_2 + 1))) = some r := by first | (rw [hy257]; with_reducible exact H) | (have H2_ := (Option.bind_some _ _).symm.trans H; rw [hy257]; with_reducible exact H2_) | (have H2_ := (Option.bind_some _ _).symm.trans H; with_reducible exact H2_) | with_reducible exact H | (rw [hy257]; exact H) | exact H
     have Ny257 := As.mk hy257; clear hy257; have H' := As.mk H; clear H; obtain ⟨ad253, A253_3, c253_3, e253, p253, q253, x253a, x253b, x253c, x253d, HC253_3, HR253_3⟩ := bt_T62 HB.out HR0.out x4_1 od od; cases e253; have p254 : 0 ≤ (x4_1 : Int) := od; have q254 : x4_1 < (l0.length : Int) := od; obtain ⟨ad254, A254_3, c254_3, e254, x254a, x254b, x254c, x254d, hl254_3, hi254_3⟩ := at_T62 HR0.out x4_1 p254 q254; obtain rfl : ad253 = ad254 := (by injection e254); replace x254a := ce HB.out x254a; replace x254b := ce HB.out x254b; replace x254c := ce HB.out x254c; replace x254d := ce HB.out x254d; have HR254_3 := As.mk hi254_3; have HC254_3 := As.mk hl254_3; clear hi254_3 hl254_3; replace p254 := eq_true p254; replace q254 := eq_true q254; have ea_ := Option.some.inj (x253d.symm.trans x254d)
     injection ea_ with ea_ en_ ec_
     subst ea_; subst ec_; clear en_; have p255 : 0 ≤ (x5_2 : Int) := od; have q255 : x5_2 < (((rd_T62 l0 x4_1).f3).length : Int) := od; obtain ⟨ad255, e255, x255a⟩ := Kd.at_int HR254_3.out x5_2 p255 q255; cases e255; replace x255a := ce HB.out x255a; replace p255 := eq_true p255; replace q255 := eq_true q255; obtain ⟨Ao14, co14, eo14⟩ := Kd.R_slice HO_3.out; subst eo14; have p256 : 0 ≤ ((rd ((rd_T62 l0 x4_1).f3) x5_2) : Int) := od; have q256 : (rd ((rd_T62 l0 x4_1).f3) x5_2) < (x3_2.length : Int) := od; obtain ⟨ad256, e256, x256a⟩ := Kd.at_int (Kd.R_reads' HO_3.out).2.2 (rd ((rd_T62 l0 x4_1).f3) x5_2) p256 q256; cases e256; replace p256 := eq_true p256; replace q256 := eq_true q256; have p13 : 0 ≤ ((rd ((rd_T62 l0 x4_1).f3) x5_2) : Int) := od; have q13 : ((rd ((rd_T62 l0 x4_1).f3) x5_2) : Int) < ((x3_2.length : Int) : Int) := od; obtain ⟨go13, co13, eo13, gb13, gl13, cl13, HG13⟩ := Kd.R_form HO_3.out (by omega)
     (first | cases eo13 | (injection eo13 with ea_ en_ ec_; (first | subst ea_ | (injection ea_ with ea_; subst ea_)); subst ec_; clear en_))
     have GB13 := As.mk gb13; have GG13 := As.mk HG13; clear gb13 gl13 HG13
     (first | simp only [add_plain] at x256a | skip)
     obtain ⟨x13a, f13a⟩ := Kd.R_celln 0 HO_3.out ((rd ((rd_T62 l0 x4_1).f3) x5_2) : Int) p13 q13; replace p13 := eq_true p13; replace q13 := eq_true q13; have HP15 := Kd.R_putg HO_3.out ((rd ((rd_T62 l0 x4_1).f3) x5_2) : Int) (wrap64 ((rd x3_2 (rd ((rd_T62 l0 x4_1).f3) x5_2)) + 1))
     go_wp2_with (first | ((with_reducible refine gate_store (t := 3) (p := 37) rfl ?_); refine store_event (t := 3) (p := 37) (v := ?vo_w16) (w1 := (wr.setCell ⟨go13, ((rd ((rd_T62 l0 x4_1).f3) x5_2) : Int).toNat, none⟩ (.int .i64 (wrap64 ((rd x3_2 (rd ((rd_T62 l0 x4_1).f3) x5_2)) + 1))))) ?hg ?ho ?hn ?hr ?_; (case ho => rfl); (case hg => rfl); (case hn => rfl); (case hr => first | (go_simp; done) | (go_simp; rfl)); intro w16 hw; have hg : wr.grownBy w16 (some go13) := (by rw [hw]; exact HP15.2); have hp_ : Kd.R (Kd.int .i64) 3 w16 w.heap.size (fun _ => True) (.slice (some ⟨go13, 0, none⟩) x3_2.length co14) y257 := (by rw [hw, Ny257.out]; exact HP15.1); clear HP15; replace HO_3 := As.mk (hp_); replace HB := As.mk ((by rw [hw]; exact below_set (HB.out) GB13.out : Below w.heap.size w w16)); clear hg hw hp_))
     go_roundg k2
     case measure => have := HK1.out; have := HK2.out; omega
     case rel => exact ⟨(y257), (wrap64 (x5_2 + 1)), (by first | rfl | (simp; done) | (simp [*]; done)), H', ⟨by have := HK1.out; have := HK2.out; omega⟩, ⟨by (with_reducible repeat (first | apply Kd.R_alloc | apply Kd.R_drewN | apply Kd.R_drew)); exact HO_3.out⟩, ⟨be w⟩⟩
/-! ### spec_FnAt: function 104 -/
def spec_FnAt.l0 : Nat → ByteArray → Int → List (S62) → List (S56) → Option (Int)
 | 0, _, _, _, _ => none
 | k + 1, x1, x5, x259000, x259001 => if x5 < (x259001.length : Int) then (if 0 ≤ x5 then (if ((rd_T56 x259001 x5).f0).toList = x1.toList then (some x5) else (spec_FnAt.l0 k x1 (wrap64 (x5 + 1)) x259000 x259001)) else (none)) else (some (-1))
def spec_FnAt.f (k : Nat) (l0_0 : List (S62)) (l0_1 : List (S56)) (a1 : ByteArray) : Option (Int) := spec_FnAt.l0 k a1 0 l0_0 l0_1
theorem spec_FnAt.mono_l : ∀ k, (∀ y0 y1 y2 y3, LeO (spec_FnAt.l0 k y0 y1 y2 y3) (spec_FnAt.l0 (k + 1) y0 y1 y2 y3))
 | 0 => fun _ _ _ _ r h => by simp [spec_FnAt.l0] at h
 | k + 1 => by
  have ih0 := spec_FnAt.mono_l k
  ·
   intro y0 y1 y2 y3
   unfold spec_FnAt.l0
   with_reducible repeat' first | exact ih0 _ _ _ _ | exact LeO.refl _ | exact LeO.none _ | refine LeO.ite ?_ ?_ | refine LeO.bind ?_ (fun _ => ?_)
theorem spec_FnAt.mono : ∀ a0 a1 a2 k, LeO (spec_FnAt.f k a0 a1 a2) (spec_FnAt.f (k + 1) a0 a1 a2) := by
 intro a0 a1 a2 k; have ih0 := spec_FnAt.mono_l k
 unfold spec_FnAt.f
 with_reducible repeat' first | exact ih0 _ _ _ _ | exact LeO.refl _ | exact LeO.none _ | refine LeO.ite ?_ ?_ | refine LeO.bind ?_ (fun _ => ?_)
set_option maxHeartbeats 8000000 in
set_option maxRecDepth 100000 in
theorem spec_FnAt.calls (k : Nat) (A0_0 : Option Addr) (c0_0 : Nat) (l0_0 : List (S62)) (A0_1 : Option Addr) (c0_1 : Nat) (l0_1 : List (S56)) (a1 : ByteArray) (r : Int) (w : World) (hr0_0 : Kd.C k62 w A0_0 l0_0.length l0_0) (hc0_0 : l0_0.length ≤ c0_0) (hr0_1 : Kd.C k56 w A0_1 l0_1.length l0_1) (hc0_1 : l0_1.length ≤ c0_1) (h : spec_FnAt.f k l0_0 l0_1 a1 = some r) :
  Calls Tryz.prog 104 #[.agg #[.slice A0_0 l0_0.length c0_0, .slice A0_1 l0_1.length c0_1], .string a1] w fun e w' => e = .returned (.int .i64 r) ∧ Below w.heap.size w w' := by
 have hu32 := Tryz.underlying32; have HR0_0 := As.mk hr0_0; have HC0_0 := As.mk hc0_0; clear hr0_0 hc0_0; have HR0_1 := As.mk hr0_1; have HC0_1 := As.mk hc0_1; clear hr0_1 hc0_1; have HB := As.mk (Below.refl w.heap.size w); have H : (spec_FnAt.l0 k a1 0 l0_0 l0_1) = some r := h; clear h; have H' := As.mk H; clear H; go_enter Tryz.func104, Tryz.ntmps104
 go_wp2_with (first | ((with_reducible refine gate_dst (N := 2) rfl ?_); refine bxe 2 #[.slice A0_0 l0_0.length c0_0, .slice A0_1 l0_1.length c0_1] 32 ?_; intro gb258 hg w3 BK258 hb; have GW258 := As.mk (gs w hg); replace HB := bs w hb; clear hb hg))
 go_loopg [5] k (fun kq v5 w' => ∃ (x5_1 : Int), v5 = .int .i64 x5_1 ∧ As (spec_FnAt.l0 kq a1 x5_1 l0_0 l0_1 = some r) ∧ As (kq ≤ k) ∧ As (w'.heap[gb258]? = some (.cells #[(.slice A0_0 l0_0.length c0_0), (.slice A0_1 l0_1.length c0_1)] 32 (0, 0))) ∧ As (Below w.heap.size w w'))
 case atStart => exact ⟨(0), (by first | rfl | (simp; done) | (simp [*]; done)), H', ⟨Nat.le_refl _⟩, ⟨bx BK258.out⟩, ⟨be w⟩⟩
 case round =>
  clear H'; obtain ⟨x5_1, rfl, HA, HK1, BK258, HB⟩ := hrel
  cases gk with
  | zero => exact absurd HA.out (by simp [spec_FnAt.l0])
  | succ k1 =>
   have H := HA.out; clear HA
   simp only [spec_FnAt.l0] at H
   by_cases c4 : x5_1 < (l0_1.length : Int)
   rotate_left
   ·
    rw [if_neg c4] at H; have c4b0 := decide_eq_false c4; clear c4; obtain rfl := sj H; obtain ⟨y9a, y9b, v9a, v9b⟩ := cl2 BK258.out
    go_wp2
    go_ret
    exact ⟨ez, be w⟩

   rw [if_pos c4] at H; have c4b0 := decide_eq_true c4; clear c4; replace H := ia H; obtain ⟨c5b0, H⟩ := H
   by_cases c6 : ((rd_T56 l0_1 x5_1).f0).toList = a1.toList
   ·
    rw [if_pos c6] at H; have c6b0 : (((rd_T56 l0_1 x5_1).f0).toList == a1.toList) = true := beq_iff_eq.mpr c6; have c6b1 : (((rd_T56 l0_1 x5_1).f0).toList != a1.toList) = false := bne_eq_false_iff_eq.mpr c6; clear c6; obtain rfl := sj H; obtain ⟨y7a, y7b, v7a, v7b⟩ := cl2 BK258.out; obtain ⟨ad259, A259_1, c259_1, e259, p259, q259, x259a, x259b, x259c, x259d, x259e, HC259_1, HR259_1⟩ := bt_T56 HB.out HR0_1.out x5_1 od od; cases e259
    go_wp2
    go_ret
    exact ⟨ez, be w⟩
   rw [if_neg c6] at H; have c6b0 : (((rd_T56 l0_1 x5_1).f0).toList == a1.toList) = false := beq_eq_false_iff_ne.mpr c6; have c6b1 : (((rd_T56 l0_1 x5_1).f0).toList != a1.toList) = true := bne_iff_ne.mpr c6; have H' := As.mk H; clear H; obtain ⟨y8a, y8b, v8a, v8b⟩ := cl2 BK258.out; obtain ⟨ad259, A259_1, c259_1, e259, p259, q259, x259a, x259b, x259c, x259d, x259e, HC259_1, HR259_1⟩ := bt_T56 HB.out HR0_1.out x5_1 od od; cases e259
   go_wp2
   go_roundg k1
   case measure => have := HK1.out; omega
   case rel => exact ⟨(wrap64 (x5_1 + 1)), (by first | rfl | (simp; done) | (simp [*]; done)), H', ⟨by have := HK1.out; omega⟩, ⟨bx BK258.out⟩, ⟨be w⟩⟩
end Go.Proofs.YtcoapbnbakmkoaaGreatDoor.PFnExactShowProgram
