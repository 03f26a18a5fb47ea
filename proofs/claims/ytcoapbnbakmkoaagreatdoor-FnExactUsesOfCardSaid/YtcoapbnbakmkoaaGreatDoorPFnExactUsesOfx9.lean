/- Written by a program of this session (a turned copy of the kit's print): a contract for each Go function. No condition beside those in each statement. -/
import Derived.Test.YtcoapbnbakmkoaaGreatDoorPFnExactUsesOfx0
import Derived.Test.YtcoapbnbakmkoaaGreatDoorPFnExactUsesOfx4
import Derived.Test.YtcoapbnbakmkoaaGreatDoorPFnExactUsesOfx8
namespace Go.Proofs.YtcoapbnbakmkoaaGreatDoor.PFnExactUsesOf
open Go.RowKit Go.Proofs.YtcoapbnbakmkoaaGreatDoor.Given Go.Proofs.YtcoapbnbakmkoaaGreatDoorW.PrintWords Go.Proofs.YtcoapbnbakmkoaaGreatDoorW.PrintLast Go.Proofs.YtcoapbnbakmkoaaGreatDoorW.PrintMore
attribute [local go_sem] max2_int min2_int max_two min_two max_three min_three max_four min_four   -- for this text's walks alone
set_option linter.unusedVariables false
set_option linter.unusedSimpArgs false

/-! ### spec_l07All: function 60 -/
mutual
def spec_l07All.l0 : Nat → List Int → List Int → List Int → Int → Int → Option (List Int)
 | 0, _, _, _, _, _ => none
 | k + 1, x5, x6, x7, x8, x9 => if x8 < (x6.length : Int) then (spec_l07All.j1 k x5 x6 x7 x8 x9 true) else (spec_l07All.j1 k x5 x6 x7 x8 x9 (decide (x9 < (x7.length : Int))))
def spec_l07All.j1 : Nat → List Int → List Int → List Int → Int → Int → Bool → Option (List Int)
 | 0, _, _, _, _, _, _ => none
 | k + 1, x5, x6, x7, x8, x9, x44 => if x44 = true then (if x9 ≥ (x7.length : Int) then (spec_l07All.j2 k x5 x6 x7 x8 x9 true) else (if x8 < (x6.length : Int) then (if 0 ≤ x8 then (if 0 ≤ x9 then (if x9 < (x7.length : Int) then (spec_l07All.j2 k x5 x6 x7 x8 x9 (decide ((rd x6 x8) < (rd x7 x9)))) else (none)) else (none)) else (none)) else (spec_l07All.j2 k x5 x6 x7 x8 x9 false))) else (some x5)
def spec_l07All.j2 : Nat → List Int → List Int → List Int → Int → Int → Bool → Option (List Int)
 | 0, _, _, _, _, _, _ => none
 | k + 1, x5, x6, x7, x8, x9, x65 => if x65 = true then (if 0 ≤ x8 then (if x8 < (x6.length : Int) then (if x5.length < 17592186044416 then (spec_l07All.l0 k (x5 ++ [rd x6 x8]) x6 x7 (wrap64 (x8 + 1)) x9) else (none)) else (none)) else (none)) else (if x8 < (x6.length : Int) then (if 0 ≤ x8 then (if 0 ≤ x9 then (if x9 < (x7.length : Int) then (if (rd x6 x8) = (rd x7 x9) then (if x5.length < 17592186044416 then (spec_l07All.l0 k (x5 ++ [rd x7 x9]) x6 x7 (wrap64 (x8 + 1)) (wrap64 (x9 + 1))) else (none)) else (if x5.length < 17592186044416 then (spec_l07All.l0 k (x5 ++ [rd x7 x9]) x6 x7 x8 (wrap64 (x9 + 1))) else (none))) else (none)) else (none)) else (none)) else (if 0 ≤ x9 then (if x9 < (x7.length : Int) then (if x5.length < 17592186044416 then (spec_l07All.l0 k (x5 ++ [rd x7 x9]) x6 x7 x8 (wrap64 (x9 + 1))) else (none)) else (none)) else (none)))
end
def spec_l07All.f (k : Nat) (l0_0 : List (S62)) (l0_1 : List (S56)) (a1 : Int) : Option (List Int) := (some (([] : List Int) : List Int)).bind fun y277 => ((spec_l01In.f a1 0 (wrap64 ((l0_1.length : Int) - 1))).bind fun t280 => (if t280 = true then (if 0 ≤ a1 then (if a1 < (l0_1.length : Int) then ((spec_Under.f k l0_0 l0_1 ((rd_T56 l0_1 a1).f3)).bind fun t282 => ((spec_Under.f k l0_0 l0_1 ((rd_T56 l0_1 a1).f4)).bind fun t286 => (spec_l07All.l0 k y277 t282 t286 0 0))) else (none)) else (none)) else (some y277)))
theorem spec_l07All.mono_l : ∀ k, (∀ y0 y1 y2 y3 y4, LeO (spec_l07All.l0 k y0 y1 y2 y3 y4) (spec_l07All.l0 (k + 1) y0 y1 y2 y3 y4)) ∧ (∀ y0 y1 y2 y3 y4 y5, LeO (spec_l07All.j1 k y0 y1 y2 y3 y4 y5) (spec_l07All.j1 (k + 1) y0 y1 y2 y3 y4 y5)) ∧ (∀ y0 y1 y2 y3 y4 y5, LeO (spec_l07All.j2 k y0 y1 y2 y3 y4 y5) (spec_l07All.j2 (k + 1) y0 y1 y2 y3 y4 y5))
 | 0 => ⟨fun _ _ _ _ _ r h => by simp [spec_l07All.l0] at h, fun _ _ _ _ _ _ r h => by simp [spec_l07All.j1] at h, fun _ _ _ _ _ _ r h => by simp [spec_l07All.j2] at h⟩
 | k + 1 => by
  obtain ⟨ih0, ih1, ih2⟩ := spec_l07All.mono_l k
  refine ⟨?_, ?_, ?_⟩
  ·
   intro y0 y1 y2 y3 y4
   unfold spec_l07All.l0
   with_reducible repeat' first | exact ih0 _ _ _ _ _ | exact ih1 _ _ _ _ _ _ | exact ih2 _ _ _ _ _ _ | exact spec_Under.mono _ _ _ _ | exact LeO.refl _ | exact LeO.none _ | refine LeO.ite ?_ ?_ | refine LeO.bind ?_ (fun _ => ?_)
  ·
   intro y0 y1 y2 y3 y4 y5
   unfold spec_l07All.j1
   with_reducible repeat' first | exact ih0 _ _ _ _ _ | exact ih1 _ _ _ _ _ _ | exact ih2 _ _ _ _ _ _ | exact spec_Under.mono _ _ _ _ | exact LeO.refl _ | exact LeO.none _ | refine LeO.ite ?_ ?_ | refine LeO.bind ?_ (fun _ => ?_)
  ·
   intro y0 y1 y2 y3 y4 y5
   unfold spec_l07All.j2
   with_reducible repeat' first | exact ih0 _ _ _ _ _ | exact ih1 _ _ _ _ _ _ | exact ih2 _ _ _ _ _ _ | exact spec_Under.mono _ _ _ _ | exact LeO.refl _ | exact LeO.none _ | refine LeO.ite ?_ ?_ | refine LeO.bind ?_ (fun _ => ?_)
theorem spec_l07All.mono : ∀ a0 a1 a2 k, LeO (spec_l07All.f k a0 a1 a2) (spec_l07All.f (k + 1) a0 a1 a2) := by
 intro a0 a1 a2 k
 obtain ⟨ih0, ih1, ih2⟩ := spec_l07All.mono_l k
 unfold spec_l07All.f
 with_reducible repeat' first | exact ih0 _ _ _ _ _ | exact ih1 _ _ _ _ _ _ | exact ih2 _ _ _ _ _ _ | exact spec_Under.mono _ _ _ _ | exact LeO.refl _ | exact LeO.none _ | refine LeO.ite ?_ ?_ | refine LeO.bind ?_ (fun _ => ?_)
def spec_l07All.T4 : Bool × List (List Nat × List Nat) := (true, [([], []), ([], []), ([1], [1]), ([], []), ([2, 3], [2, 3]), ([4], [4]), ([5], [5]), ([0, 6], [0, 6]), ([7, 7, 0, 1, 2, 3, 4, 5, 6, 7], [7])])
def spec_l07All.B4 : List Nat := [0, 0, 2, 0, 14, 30, 62, 127, 255]
theorem spec_l07All.tab4 : rtab .any (opsOf Tryz.f60 4) = spec_l07All.T4 := by kernel_rfl
theorem spec_l07All.bits4 : waitsOk spec_l07All.T4.2 spec_l07All.B4 = true := by kernel_rfl
def spec_l07All.T5 : Bool × List (List Nat × List Nat) := (true, [([], []), ([], []), ([1], [1]), ([], []), ([2, 3], [2, 3]), ([4], [4]), ([5], [5]), ([0, 6], [0, 6]), ([7, 7, 0, 1, 2, 3, 4, 5, 6, 7], [7])])
def spec_l07All.B5 : List Nat := [0, 0, 2, 0, 14, 30, 62, 127, 255]
theorem spec_l07All.tab5 : rtab .any (opsOf Tryz.f60 5) = spec_l07All.T5 := by kernel_rfl
theorem spec_l07All.bits5 : waitsOk spec_l07All.T5.2 spec_l07All.B5 = true := by kernel_rfl
def spec_l07All.T9 : Bool × List (List Nat × List Nat) := (true, [([], []), ([], []), ([1], [1]), ([0, 2], [0, 2]), ([3], [3]), ([4], [4]), ([4], [4]), ([6, 4], [4, 6]), ([5, 7, 4], [4, 5, 7]), ([8, 4, 4], [4, 8]), ([9], [9]), ([9], [9]), ([10, 11, 9], [9, 10, 11]), ([12, 9], [9, 12]), ([9], [9]), ([9], [9]), ([14, 15, 9], [9, 14, 15]), ([16, 9], [9, 16]), ([13, 17, 9], [9, 13, 17]), ([9, 18, 4], [4, 9, 18]), ([4, 19], [4, 19])])
def spec_l07All.B9 : List Nat := [0, 0, 2, 7, 15, 31, 31, 95, 255, 511, 1023, 1023, 4095, 8191, 1023, 1023, 50175, 115711, 262143, 524287, 1048575]
theorem spec_l07All.tab9 : rtab .any (opsOf Tryz.f60 9) = spec_l07All.T9 := by kernel_rfl
theorem spec_l07All.bits9 : waitsOk spec_l07All.T9.2 spec_l07All.B9 = true := by kernel_rfl
def spec_l07All.T12 : Bool × List (List Nat × List Nat) := (true, [([], []), ([], []), ([1], [1]), ([0, 2], [0, 2]), ([3], [3]), ([4], [4]), ([4], [4]), ([5, 6, 4], [4, 5, 6]), ([7, 4], [4, 7]), ([4], [4]), ([4], [4]), ([9, 10, 4], [4, 9, 10]), ([11, 4], [4, 11]), ([8, 12, 4], [4, 8, 12]), ([4, 13], [4, 13])])
def spec_l07All.B12 : List Nat := [0, 0, 2, 7, 15, 31, 31, 127, 255, 31, 31, 1567, 3615, 8191, 16383]
theorem spec_l07All.tab12 : rtab .any (opsOf Tryz.f60 12) = spec_l07All.T12 := by kernel_rfl
theorem spec_l07All.bits12 : waitsOk spec_l07All.T12.2 spec_l07All.B12 = true := by kernel_rfl
set_option maxHeartbeats 8000000 in
set_option maxRecDepth 100000 in
theorem spec_l07All.calls (k : Nat) (A0_0 : Option Addr) (c0_0 : Nat) (l0_0 : List (S62)) (A0_1 : Option Addr) (c0_1 : Nat) (l0_1 : List (S56)) (a1 : Int) (r : List Int) (w : World) (hr0_0 : Kd.C k62 w A0_0 l0_0.length l0_0) (hc0_0 : l0_0.length ≤ c0_0) (hr0_1 : Kd.C k56 w A0_1 l0_1.length l0_1) (hc0_1 : l0_1.length ≤ c0_1) (h : spec_l07All.f k l0_0 l0_1 a1 = some r) :
  Calls Tryz.prog 60 #[.agg #[.slice A0_0 l0_0.length c0_0, .slice A0_1 l0_1.length c0_1], .int .i64 a1] w fun e w' => ∃ v0_ : Value, e = .returned (v0_) ∧ Kd.R (Kd.int .i64) 3 w' w.heap.size (fun _ => True) v0_ r ∧ Below w.heap.size w w' := by
 have hu32 := Tryz.underlying32
 have HR0_0 := As.mk hr0_0
 have HC0_0 := As.mk hc0_0
 clear hr0_0 hc0_0
 have HR0_1 := As.mk hr0_1
 have HC0_1 := As.mk hc0_1
 clear hr0_1 hc0_1
 have HB := As.mk (Below.refl w.heap.size w)
 have H : ((some (([] : List Int) : List Int)).bind fun y277 => ((spec_l01In.f a1 0 (wrap64 ((l0_1.length : Int) - 1))).bind fun t280 => (if t280 = true then (if 0 ≤ a1 then (if a1 < (l0_1.length : Int) then ((spec_Under.f k l0_0 l0_1 ((rd_T56 l0_1 a1).f3)).bind fun t282 => ((spec_Under.f k l0_0 l0_1 ((rd_T56 l0_1 a1).f4)).bind fun t286 => (spec_l07All.l0 k y277 t282 t286 0 0))) else (none)) else (none)) else (some y277)))) = some r := h
 clear h
 obtain ⟨y277, hy277⟩ : ∃ y_ : List Int, y_ = (([] : List Int)) := ⟨_, rfl⟩
 replace H : ((spec_l01In.f a1 0 (wrap64 ((l0_1.length : Int) - 1))).bind fun t280 => (if t280 = true then (if 0 ≤ a1 then (if a1 < (l0_1.length : Int) then ((spec_Under.f k l0_0 l0_1 ((rd_T56 l0_1 a1).f3)).bind fun t282 => ((spec_Under.f k l0_0 l0_1 ((rd_T56 l0_1 a1).f4)).bind fun t286 => (spec_l07All.l0 k y277 t282 t286 0 0))) else (none)) else (none)) else (some y277))) = some r := by first | (rw [hy277]; with_reducible exact H) | (have H2_ := (Option.bind_some _ _).symm.trans H; rw [hy277]; with_reducible exact H2_) | (have H2_ := (Option.bind_some _ _).symm.trans H; with_reducible exact H2_) | with_reducible exact H | (rw [hy277]; exact H) | exact H
 have Ny277 := As.mk hy277
 clear hy277
 obtain ⟨t280, A30, H⟩ := Option.bind_eq_some_iff.mp H
 try dsimp only at H
 have A3 := As.mk A30
 clear A30
 by_cases c4 : t280 = true
 rotate_left
 ·
  replace c4 := Bool.eq_false_iff.mpr c4
  subst c4
  rw [if_neg (show ¬ (false = true) by decide)] at H
  obtain rfl := Option.some.inj H
  go_enter Tryz.func60, Tryz.ntmps60
  go_wp2_with (first | ((with_reducible refine gate_dst (N := 2) rfl ?_); (try (refine gate_guard (by rfl) ?_; dsimp only)); refine box_event ?hg (N := 2) ?hd (cs := #[.slice A0_0 l0_0.length c0_0, .slice A0_1 l0_1.length c0_1]) (t := 32) ?hr ?_; (case hd => rfl); (case hg => rfl); (case hr => first | (go_simp; done) | (go_simp; rfl)); intro gb276 hg w65 hbox hb; have BK276 := As.mk (hbox); have GW276 := As.mk (gs w hg); have GE276 := As.mk (gs w hg); replace HB := As.mk (below_step (be w) hb); clear hb hbox hg) | ((with_reducible refine gate_dst (N := 10) rfl ?_); (try (refine gate_guard (by rfl) ?_; dsimp only)); refine Kd.R_lit (Kd.int .i64) _ 3 ?hg (N := 10) ?hd (xs := ([] : List Int)) (inner := []) (ok := fun _ => True) (okp := fun _ => True) ?hr ?hp (fun _ hk => hk) trivial (Below.refl _ _) (Nat.le_refl _) (by simp) ?_; (case hd => rfl); (case hg => rfl); (case hr => first | (go_simp; done) | (go_simp; rfl)); (case hp => exact (Reps.none _ _)); intro v278 w66 ho67 hb hg_ hnew_; clear hg_ hnew_; (first | rw [← Ny277.out] at ho67 | (simp only [Int.reduceToNat] at ho67; rw [← Ny277.out] at ho67)); have HO279 := As.mk (Kd.R_lower ho67 (below_size (be w))); replace BK276 := As.mk (blk_below (bx BK276.out) hb); replace HB := As.mk (below_step (be w) hb); clear hb ho67; obtain ⟨hcz68_0, hcz68_1, hfz68_0, hfz68_1⟩ := cl2 BK276.out) | ((with_reducible refine gate_callee (f := 33) rfl ?_); refine goesL_ (some 16) rfl rfl Tryz.func33 (by kernel_rfl) rfl #[.int .i64 a1, .int .i64 0, .int .i64 (wrap64 ((l0_1.length : Int) - 1))] rfl (by (try simp only [lm]); first | done | rfl | (simp only [List.length_drop, List.length_take]; rfl)) ?_; (with_reducible refine (spec_l01In.calls a1 0 (wrap64 ((l0_1.length : Int) - 1)) false _ A3.out).mono ?_); rintro e w' ⟨rfl, ⟨nd, rfl⟩⟩; refine ⟨_, rfl, ?_⟩))
  go_ret
  exact ⟨_, ez, by (with_reducible repeat (first | apply Kd.R_alloc | apply Kd.R_drewN | apply Kd.R_drew)); exact HO279.out, be w⟩

 subst c4
 rw [if_pos rfl] at H
 by_cases c5 : 0 ≤ a1
 rotate_left; · rw [if_neg c5] at H; exact absurd H (by simp)
 rw [if_pos c5] at H
 have c5b0 : decide (0 ≤ a1) = true := decide_eq_true c5
 clear c5
 by_cases c6 : a1 < (l0_1.length : Int)
 rotate_left; · rw [if_neg c6] at H; exact absurd H (by simp)
 rw [if_pos c6] at H
 have c6b0 : decide (a1 < (l0_1.length : Int)) = true := decide_eq_true c6
 clear c6
 obtain ⟨t282, A70, H⟩ := Option.bind_eq_some_iff.mp H
 try dsimp only at H
 have A7 := As.mk A70
 clear A70
 obtain ⟨t286, A80, H⟩ := Option.bind_eq_some_iff.mp H
 try dsimp only at H
 have A8 := As.mk A80
 clear A80
 have H' := As.mk H
 clear H
 go_enter Tryz.func60, Tryz.ntmps60
 try go_wp2_with (first | ((with_reducible refine gate_dst (N := 2) rfl ?_); (try (refine gate_guard (by rfl) ?_; dsimp only)); refine box_event ?hg (N := 2) ?hd (cs := #[.slice A0_0 l0_0.length c0_0, .slice A0_1 l0_1.length c0_1]) (t := 32) ?hr ?_; (case hd => rfl); (case hg => rfl); (case hr => first | (go_simp; done) | (go_simp; rfl)); intro gb276 hg w9 hbox hb; have BK276 := As.mk (hbox); have GW276 := As.mk (gs w hg); have GE276 := As.mk (gs w hg); replace HB := As.mk (below_step (be w) hb); clear hb hbox hg) | ((with_reducible refine gate_dst (N := 10) rfl ?_); (try (refine gate_guard (by rfl) ?_; dsimp only)); refine Kd.R_lit (Kd.int .i64) _ 3 ?hg (N := 10) ?hd (xs := ([] : List Int)) (inner := []) (ok := fun _ => True) (okp := fun _ => True) ?hr ?hp (fun _ hk => hk) trivial (Below.refl _ _) (Nat.le_refl _) (by simp) ?_; (case hd => rfl); (case hg => rfl); (case hr => first | (go_simp; done) | (go_simp; rfl)); (case hp => exact (Reps.none _ _)); intro v278 w10 ho11 hb hg_ hnew_; clear hg_ hnew_; (first | rw [← Ny277.out] at ho11 | (simp only [Int.reduceToNat] at ho11; rw [← Ny277.out] at ho11)); have HO279 := As.mk (Kd.R_lower ho11 (below_size (be w))); replace BK276 := As.mk (blk_below (bx BK276.out) hb); replace HB := As.mk (below_step (be w) hb); clear hb ho11; obtain ⟨hcz12_0, hcz12_1, hfz12_0, hfz12_1⟩ := cl2 BK276.out) | ((with_reducible refine gate_callee (f := 33) rfl ?_); refine goesL_ (some 16) rfl rfl Tryz.func33 (by kernel_rfl) rfl #[.int .i64 a1, .int .i64 0, .int .i64 (wrap64 ((l0_1.length : Int) - 1))] rfl (by (try simp only [lm]); first | done | rfl | (simp only [List.length_drop, List.length_take]; rfl)) ?_; (with_reducible refine (spec_l01In.calls a1 0 (wrap64 ((l0_1.length : Int) - 1)) true _ A3.out).mono ?_); rintro e w' ⟨rfl, ⟨nd, rfl⟩⟩; refine ⟨_, rfl, ?_⟩))
 (try (rw [drewN_self w10]; generalize hq_ : World.drewN w10 _ = w10; have n0_ : As (Kd.R (Kd.int .i64) 3 w10 w.heap.size (fun _ => True) v278 y277) := ⟨by rw [← hq_]; exact (by (with_reducible repeat (first | apply Kd.R_alloc | apply Kd.R_drewN | apply Kd.R_drew)); exact HO279.out)⟩; have n1_ : As (w10.heap[gb276]? = some (.cells #[.slice A0_0 l0_0.length c0_0, .slice A0_1 l0_1.length c0_1] 32 (0, 0))) := ⟨by rw [← hq_]; exact (bx BK276.out)⟩; have n2_ : As (Below w.heap.size w w10) := ⟨by rw [← hq_]; exact (be w)⟩; clear HO279 BK276 HB hq_; have HO279 := n0_; have BK276 := n1_; have HB := n2_; clear n0_ n1_ n2_))
 replace HO279 := As.mk (Kd.R_drew HO279.out)
 replace BK276 := As.mk (blk_drew BK276.out)
 replace HB := As.mk (below_drew1 HB.out)
 have p281 : 0 ≤ (a1 : Int) := od
 have q281 : a1 < (l0_1.length : Int) := od
 obtain ⟨ad281, A281_1, c281_1, e281, hx281_0, hx281_1, hx281_2, hx281_3, hx281_4, hl281_1, hi281_1⟩ := at_T56 HR0_1.out a1 p281 q281
 have hw281_4 := hx281_4
 have hw281_3 := hx281_3
 have hw281_2 := hx281_2
 have hw281_1 := hx281_1
 have hw281_0 := hx281_0
 cases e281
 replace hx281_0 := ce HB.out hx281_0
 replace hx281_1 := ce HB.out hx281_1
 replace hx281_2 := ce HB.out hx281_2
 replace hx281_3 := ce HB.out hx281_3
 replace hx281_4 := ce HB.out hx281_4
 have HR281_1 := As.mk hi281_1
 have HC281_1 := As.mk hl281_1
 clear hi281_1 hl281_1
 replace p281 := eq_true p281
 replace q281 := eq_true q281
 refine start_ (n := 9) (S := fun w' => w'.cell? ⟨gb276, 0, none⟩ = some (.slice A0_0 l0_0.length c0_0) ∧ w'.cell? ⟨gb276, 1, none⟩ = some (.slice (some ad281) l0_1.length c0_1) ∧ w'.cell? (ad281.add ((a1).toNat * 5)) = some (.string ((rd_T56 l0_1 a1).f0)) ∧ w'.cell? ⟨(ad281.add ((a1).toNat * 5)).block, (ad281.add ((a1).toNat * 5)).off + 1, none⟩ = some (.slice A281_1 ((rd_T56 l0_1 a1).f1).length c281_1) ∧ w'.cell? ⟨(ad281.add ((a1).toNat * 5)).block, (ad281.add ((a1).toNat * 5)).off + 2, none⟩ = some (.int .i64 ((rd_T56 l0_1 a1).f2)) ∧ w'.cell? ⟨(ad281.add ((a1).toNat * 5)).block, (ad281.add ((a1).toNat * 5)).off + 3, none⟩ = some (.int .i64 ((rd_T56 l0_1 a1).f3)) ∧ w'.cell? ⟨(ad281.add ((a1).toNat * 5)).block, (ad281.add ((a1).toNat * 5)).off + 4, none⟩ = some (.int .i64 ((rd_T56 l0_1 a1).f4))) (ds := []) #[O, O, O, O, O, O, O, O, O] (by kernel_rfl) rfl rfl ⟨(blk_cell BK276.out 0).trans rfl, (blk_cell BK276.out 1).trans rfl, (ce HB.out hw281_0 :), (ce HB.out hw281_1 :), (ce HB.out hw281_2 :), (ce HB.out hw281_3 :), (ce HB.out hw281_4 :)⟩ (fun hHeld => ?_); refine with_tabW spec_l07All.tab4 spec_l07All.bits4 (fun HT_ HW_ => ?_)
 generalize w10.drew = w13 at HO279 BK276 HB HR281_1 hx281_0 hx281_1 hx281_2 hx281_3 hx281_4 hHeld ⊢
 refine pure_ (i := 1) (N := some 20) (v := ?_) (a' := ?_) #[O, I, O, O, O, O, O, O, O] rfl rfl (any_of HT_.out (by kernel_rfl)) (fun _ _ _ h => h) (Or.inl ⟨by rfl, ?_⟩) ?_ ?_
 rotate_left; · intro w'; go_simp; with_reducible rfl
 rotate_left; · simp only [pk, i64_w, i32_w]; rfl
 refine pure_ (i := 3) (N := some 22) (v := ?_) (a' := ?_) #[O, I, O, I, O, O, O, O, O] rfl rfl (any_of HT_.out (by kernel_rfl)) (fun _ _ _ h => h) (Or.inl ⟨by rfl, ?_⟩) ?_ ?_
 rotate_left; · intro w'; go_simp; with_reducible rfl
 rotate_left; · simp only [pk, i64_w, i32_w]; rfl
 refine take_ (i := 0) (N := some 19) (v := ?_) (a' := ?_) #[I, I, O, I, O, O, O, O, O] rfl rfl (take_ofW HT_.out HW_.out (by kernel_rfl)) (fun _ _ _ h => h) (Or.inl ⟨by rfl, ?_⟩) hHeld ?_ ?_
 rotate_left; · rintro w' ⟨s0, s1, s2, s3, s4, s5, s6⟩; go_simp; with_reducible rfl
 rotate_left; · simp only [pk, i64_w, i32_w]; rfl
 refine take_ (i := 2) (N := some 21) (v := ?_) (a' := ?_) #[I, I, I, I, O, O, O, O, O] rfl rfl (take_ofW HT_.out HW_.out (by kernel_rfl)) (fun _ _ _ h => h) (Or.inl ⟨by rfl, ?_⟩) hHeld ?_ ?_
 rotate_left; · rintro w' ⟨s0, s1, s2, s3, s4, s5, s6⟩; go_simp; with_reducible rfl
 rotate_left; · simp only [pk, i64_w, i32_w]; rfl
 refine pure_ (i := 4) (N := some 23) (v := ?_) (a' := ?_) #[I, I, I, I, I, O, O, O, O] rfl rfl (any_of HT_.out (by kernel_rfl)) (fun _ _ _ h => h) (Or.inl ⟨by rfl, ?_⟩) ?_ ?_
 rotate_left; · intro w'; go_simp; with_reducible rfl
 rotate_left; · simp only [pk, i64_w, i32_w]; rfl
 refine pure_ (i := 5) (N := some 24) (v := ?_) (a' := ?_) #[I, I, I, I, I, I, O, O, O] rfl rfl (any_of HT_.out (by kernel_rfl)) (fun _ _ _ h => h) (Or.inl ⟨by rfl, ?_⟩) ?_ ?_
 rotate_left; · intro w'; go_simp; with_reducible rfl
 rotate_left; · simp only [pk, i64_w, i32_w]; rfl
 refine take_ (i := 6) (N := some 25) (v := ?_) (a' := ?_) #[I, I, I, I, I, I, I, O, O] rfl rfl (take_ofW HT_.out HW_.out (by kernel_rfl)) (fun _ _ _ h => h) (Or.inl ⟨by rfl, ?_⟩) hHeld ?_ ?_
 rotate_left; · rintro w' ⟨s0, s1, s2, s3, s4, s5, s6⟩; go_simp; with_reducible rfl
 rotate_left; · simp only [pk, i64_w, i32_w]; rfl
 refine one_ (i := 7) (N := some 26) #[I, I, I, I, I, I, I, I, O] rfl rfl (one_of HT_.out (by kernel_rfl)) (by decide) (fun K hK => ?_)
 refine goes_ Tryz.func24 (by kernel_rfl) rfl #[.agg #[.slice A0_0 l0_0.length c0_0, .slice (some ad281) l0_1.length c0_1], .int .i64 ((rd_T56 l0_1 a1).f3)] (by rfl) rfl rfl (by (try simp only [lm]); first | done | rfl | (simp only [List.length_drop, List.length_take]; rfl)) ?_
 with_reducible refine (spec_Under.calls k _ _ l0_0 _ _ l0_1 ((rd_T56 l0_1 a1).f3) t282 _ ?side1 ?side2 ?side3 ?side4 A7.out).mono ?_
 (case side1 => exact Kd.C_below HR0_0.out (be w))
 (case side2 => exact HC0_0.out)
 (case side3 => exact Kd.C_below HR0_1.out (be w))
 (case side4 => exact HC0_1.out)
 rintro e w14 ⟨v283, rfl, ho0, hb⟩
 refine ⟨_, rfl, ?_⟩
 have HO284 := As.mk (Kd.R_lower (Kd.R_new' ho0 (Kd.R_lt (by (with_reducible repeat (first | apply Kd.R_alloc | apply Kd.R_drewN | apply Kd.R_drew)); exact HO279.out))) (below_size (be w)))
 replace HO279 := As.mk (Kd.R_elder' (by (with_reducible repeat (first | apply Kd.R_alloc | apply Kd.R_drewN | apply Kd.R_drew)); exact HO279.out) (Kd.R_base ho0) hb)
 replace BK276 := As.mk (blk_below (bx BK276.out) hb)
 replace HB := As.mk (below_step (be w) hb)
 (try clear hb)
 (try clear hb2)
 (try clear hk)
 (try clear hi)
 (try clear ho0)
 refine hK.out _ _ ⟨(blk_cell BK276.out 0).trans rfl, (blk_cell BK276.out 1).trans rfl, (ce HB.out hw281_0 :), (ce HB.out hw281_1 :), (ce HB.out hw281_2 :), (ce HB.out hw281_3 :), (ce HB.out hw281_4 :)⟩ (fun hHeld => ?_)
 clear hK K
 refine norm_ (a' := ?_) ?_ ?_
 rotate_left
 ·
  show Act.put _ (some 26) _ = _
  simp only [pk, i64_w, i32_w]
  rfl
 refine pure_ (i := 8) (N := some 6) (v := ?_) (a' := ?_) #[I, I, I, I, I, I, I, I, I] rfl rfl (any_of HT_.out (by kernel_rfl)) (fun _ _ _ h => h) (Or.inl ⟨by rfl, ?_⟩) ?_ ?_
 rotate_left; · intro w'; go_simp; with_reducible rfl
 rotate_left; · simp only [pk, i64_w, i32_w]; rfl
 refine done_ (done_of HT_.out (by kernel_rfl)) ?_
 try go_wp2
 replace HO279 := As.mk (Kd.R_drew HO279.out)
 replace HO284 := As.mk (Kd.R_drew HO284.out)
 replace BK276 := As.mk (blk_drew BK276.out)
 replace HB := As.mk (below_drew1 HB.out)
 have p285 : 0 ≤ (a1 : Int) := od
 have q285 : a1 < (l0_1.length : Int) := od
 obtain ⟨ad285, A285_1, c285_1, e285, hx285_0, hx285_1, hx285_2, hx285_3, hx285_4, hl285_1, hi285_1⟩ := at_T56 HR0_1.out a1 p285 q285
 have hw285_4 := hx285_4
 have hw285_3 := hx285_3
 have hw285_2 := hx285_2
 have hw285_1 := hx285_1
 have hw285_0 := hx285_0
 obtain rfl : ad281 = ad285 := (by injection e285)
 replace hx285_0 := ce HB.out hx285_0
 replace hx285_1 := ce HB.out hx285_1
 replace hx285_2 := ce HB.out hx285_2
 replace hx285_3 := ce HB.out hx285_3
 replace hx285_4 := ce HB.out hx285_4
 have HR285_1 := As.mk hi285_1
 have HC285_1 := As.mk hl285_1
 clear hi285_1 hl285_1
 replace p285 := eq_true p285
 replace q285 := eq_true q285
 refine start_ (n := 9) (S := fun w' => w'.cell? ⟨gb276, 0, none⟩ = some (.slice A0_0 l0_0.length c0_0) ∧ w'.cell? ⟨gb276, 1, none⟩ = some (.slice (some ad281) l0_1.length c0_1) ∧ w'.cell? (ad281.add ((a1).toNat * 5)) = some (.string ((rd_T56 l0_1 a1).f0)) ∧ w'.cell? ⟨(ad281.add ((a1).toNat * 5)).block, (ad281.add ((a1).toNat * 5)).off + 1, none⟩ = some (.slice A285_1 ((rd_T56 l0_1 a1).f1).length c285_1) ∧ w'.cell? ⟨(ad281.add ((a1).toNat * 5)).block, (ad281.add ((a1).toNat * 5)).off + 2, none⟩ = some (.int .i64 ((rd_T56 l0_1 a1).f2)) ∧ w'.cell? ⟨(ad281.add ((a1).toNat * 5)).block, (ad281.add ((a1).toNat * 5)).off + 3, none⟩ = some (.int .i64 ((rd_T56 l0_1 a1).f3)) ∧ w'.cell? ⟨(ad281.add ((a1).toNat * 5)).block, (ad281.add ((a1).toNat * 5)).off + 4, none⟩ = some (.int .i64 ((rd_T56 l0_1 a1).f4))) (ds := []) #[O, O, O, O, O, O, O, O, O] (by kernel_rfl) rfl rfl ⟨(blk_cell BK276.out 0).trans rfl, (blk_cell BK276.out 1).trans rfl, (ce HB.out hw285_0 :), (ce HB.out hw285_1 :), (ce HB.out hw285_2 :), (ce HB.out hw285_3 :), (ce HB.out hw285_4 :)⟩ (fun hHeld => ?_); refine with_tabW spec_l07All.tab5 spec_l07All.bits5 (fun HT_ HW_ => ?_)
 generalize w14.drew = w15 at HO279 HO284 BK276 HB HR285_1 hx285_0 hx285_1 hx285_2 hx285_3 hx285_4 hHeld ⊢
 refine pure_ (i := 1) (N := some 28) (v := ?_) (a' := ?_) #[O, I, O, O, O, O, O, O, O] rfl rfl (any_of HT_.out (by kernel_rfl)) (fun _ _ _ h => h) (Or.inl ⟨by rfl, ?_⟩) ?_ ?_
 rotate_left; · intro w'; go_simp; with_reducible rfl
 rotate_left; · simp only [pk, i64_w, i32_w]; rfl
 refine pure_ (i := 3) (N := some 30) (v := ?_) (a' := ?_) #[O, I, O, I, O, O, O, O, O] rfl rfl (any_of HT_.out (by kernel_rfl)) (fun _ _ _ h => h) (Or.inl ⟨by rfl, ?_⟩) ?_ ?_
 rotate_left; · intro w'; go_simp; with_reducible rfl
 rotate_left; · simp only [pk, i64_w, i32_w]; rfl
 refine take_ (i := 0) (N := some 27) (v := ?_) (a' := ?_) #[I, I, O, I, O, O, O, O, O] rfl rfl (take_ofW HT_.out HW_.out (by kernel_rfl)) (fun _ _ _ h => h) (Or.inl ⟨by rfl, ?_⟩) hHeld ?_ ?_
 rotate_left; · rintro w' ⟨s0, s1, s2, s3, s4, s5, s6⟩; go_simp; with_reducible rfl
 rotate_left; · simp only [pk, i64_w, i32_w]; rfl
 refine take_ (i := 2) (N := some 29) (v := ?_) (a' := ?_) #[I, I, I, I, O, O, O, O, O] rfl rfl (take_ofW HT_.out HW_.out (by kernel_rfl)) (fun _ _ _ h => h) (Or.inl ⟨by rfl, ?_⟩) hHeld ?_ ?_
 rotate_left; · rintro w' ⟨s0, s1, s2, s3, s4, s5, s6⟩; go_simp; with_reducible rfl
 rotate_left; · simp only [pk, i64_w, i32_w]; rfl
 refine pure_ (i := 4) (N := some 31) (v := ?_) (a' := ?_) #[I, I, I, I, I, O, O, O, O] rfl rfl (any_of HT_.out (by kernel_rfl)) (fun _ _ _ h => h) (Or.inl ⟨by rfl, ?_⟩) ?_ ?_
 rotate_left; · intro w'; go_simp; with_reducible rfl
 rotate_left; · simp only [pk, i64_w, i32_w]; rfl
 refine pure_ (i := 5) (N := some 32) (v := ?_) (a' := ?_) #[I, I, I, I, I, I, O, O, O] rfl rfl (any_of HT_.out (by kernel_rfl)) (fun _ _ _ h => h) (Or.inl ⟨by rfl, ?_⟩) ?_ ?_
 rotate_left; · intro w'; go_simp; with_reducible rfl
 rotate_left; · simp only [pk, i64_w, i32_w]; rfl
 refine take_ (i := 6) (N := some 33) (v := ?_) (a' := ?_) #[I, I, I, I, I, I, I, O, O] rfl rfl (take_ofW HT_.out HW_.out (by kernel_rfl)) (fun _ _ _ h => h) (Or.inl ⟨by rfl, ?_⟩) hHeld ?_ ?_
 rotate_left; · rintro w' ⟨s0, s1, s2, s3, s4, s5, s6⟩; go_simp; with_reducible rfl
 rotate_left; · simp only [pk, i64_w, i32_w]; rfl
 refine one_ (i := 7) (N := some 34) #[I, I, I, I, I, I, I, I, O] rfl rfl (one_of HT_.out (by kernel_rfl)) (by decide) (fun K hK => ?_)
 refine goes_ Tryz.func24 (by kernel_rfl) rfl #[.agg #[.slice A0_0 l0_0.length c0_0, .slice (some ad281) l0_1.length c0_1], .int .i64 ((rd_T56 l0_1 a1).f4)] (by rfl) rfl rfl (by (try simp only [lm]); first | done | rfl | (simp only [List.length_drop, List.length_take]; rfl)) ?_
 with_reducible refine (spec_Under.calls k _ _ l0_0 _ _ l0_1 ((rd_T56 l0_1 a1).f4) t286 _ ?side1 ?side2 ?side3 ?side4 A8.out).mono ?_
 (case side1 => exact Kd.C_below HR0_0.out (be w))
 (case side2 => exact HC0_0.out)
 (case side3 => exact Kd.C_below HR0_1.out (be w))
 (case side4 => exact HC0_1.out)
 rintro e w16 ⟨v287, rfl, ho0, hb⟩
 refine ⟨_, rfl, ?_⟩
 have HO288 := As.mk (Kd.R_lower (Kd.R_new' (Kd.R_new' ho0 (Kd.R_lt (by (with_reducible repeat (first | apply Kd.R_alloc | apply Kd.R_drewN | apply Kd.R_drew)); exact HO279.out))) (Kd.R_lt (by (with_reducible repeat (first | apply Kd.R_alloc | apply Kd.R_drewN | apply Kd.R_drew)); exact HO284.out))) (below_size (be w)))
 replace HO279 := As.mk (Kd.R_elder' (by (with_reducible repeat (first | apply Kd.R_alloc | apply Kd.R_drewN | apply Kd.R_drew)); exact HO279.out) (Kd.R_base ho0) hb)
 replace HO284 := As.mk (Kd.R_elder' (by (with_reducible repeat (first | apply Kd.R_alloc | apply Kd.R_drewN | apply Kd.R_drew)); exact HO284.out) (Kd.R_base ho0) hb)
 replace BK276 := As.mk (blk_below (bx BK276.out) hb)
 replace HB := As.mk (below_step (be w) hb)
 (try clear hb)
 (try clear hb2)
 (try clear hk)
 (try clear hi)
 (try clear ho0)
 refine hK.out _ _ ⟨(blk_cell BK276.out 0).trans rfl, (blk_cell BK276.out 1).trans rfl, (ce HB.out hw285_0 :), (ce HB.out hw285_1 :), (ce HB.out hw285_2 :), (ce HB.out hw285_3 :), (ce HB.out hw285_4 :)⟩ (fun hHeld => ?_)
 clear hK K
 refine norm_ (a' := ?_) ?_ ?_
 rotate_left
 ·
  show Act.put _ (some 34) _ = _
  simp only [pk, i64_w, i32_w]
  rfl
 refine pure_ (i := 8) (N := some 7) (v := ?_) (a' := ?_) #[I, I, I, I, I, I, I, I, I] rfl rfl (any_of HT_.out (by kernel_rfl)) (fun _ _ _ h => h) (Or.inl ⟨by rfl, ?_⟩) ?_ ?_
 rotate_left; · intro w'; go_simp; with_reducible rfl
 rotate_left; · simp only [pk, i64_w, i32_w]; rfl
 refine done_ (done_of HT_.out (by kernel_rfl)) ?_
 try go_wp2
 go_loopg [5, 8, 9] k (fun kq v5 v8 v9 w' => ∃ (x5_1 : List Int) (x8_1 : Int) (x9_1 : Int), v8 = .int .i64 x8_1 ∧ v9 = .int .i64 x9_1 ∧ As (spec_l07All.l0 kq x5_1 t282 t286 x8_1 x9_1 = some r) ∧ As (kq ≤ k) ∧ As (Kd.R (Kd.int .i64) 3 w' w.heap.size (fun k_ => some k_ ≠ (v283 : Value).ownBlock ∧ some k_ ≠ (v287 : Value).ownBlock) v5 x5_1) ∧ As (Kd.R (Kd.int .i64) 3 w' w.heap.size (fun k_ => some k_ ≠ (v5 : Value).ownBlock ∧ some k_ ≠ (v287 : Value).ownBlock) v283 t282) ∧ As (Kd.R (Kd.int .i64) 3 w' w.heap.size (fun k_ => some k_ ≠ (v5 : Value).ownBlock ∧ some k_ ≠ (v283 : Value).ownBlock) v287 t286) ∧ As (w'.heap[gb276]? = some (.cells #[(.slice A0_0 l0_0.length c0_0), (.slice (some ad281) l0_1.length c0_1)] 32 (0, 0))) ∧ As (Below w.heap.size w w'))
 case atStart => exact ⟨(y277), (0), (0), (by first | rfl | (simp; done) | (simp [*]; done)), (by first | rfl | (simp; done) | (simp [*]; done)), H', ⟨Nat.le_refl _⟩, ⟨by (with_reducible repeat (first | apply Kd.R_alloc | apply Kd.R_drewN | apply Kd.R_drew)); exact Kd.R_mono HO279.out (fun _ hk => ⟨hk.1.2, hk.2⟩)⟩, ⟨by (with_reducible repeat (first | apply Kd.R_alloc | apply Kd.R_drewN | apply Kd.R_drew)); exact Kd.R_mono HO284.out (fun _ hk => ⟨hk.1.2, hk.2⟩)⟩, ⟨by (with_reducible repeat (first | apply Kd.R_alloc | apply Kd.R_drewN | apply Kd.R_drew)); exact Kd.R_mono HO288.out (fun _ hk => ⟨hk.1.2, hk.2⟩)⟩, ⟨bx BK276.out⟩, ⟨be w⟩⟩
 case round =>
  clear H'
  (try clear c4); (try clear c5); (try clear c5b0); (try clear c6); (try clear c6b0); (try clear hcz12_0); (try clear hcz12_1); (try clear hfz12_0); (try clear hfz12_1); (try clear hx281_0); (try clear hx281_1); (try clear hx281_2); (try clear hx281_3); (try clear hx281_4); (try clear hx285_0); (try clear hx285_1); (try clear hx285_2); (try clear hx285_3); (try clear hx285_4); (try clear p281); (try clear p285); (try clear q281); (try clear q285)
  obtain ⟨x5_1, x8_1, x9_1, rfl, rfl, HA, HK1, HO_5, HO_6, HO_7, BK276, HB⟩ := hrel
  cases gk with
  | zero => exact absurd HA.out (by simp [spec_l07All.l0])
  | succ k1 =>
   have H := HA.out
   clear HA
   simp only [spec_l07All.l0] at H
   have HC17 := As.mk H
   clear H
   go_upto_region 8 with (fail)
   go_cut [44] (fun v44 wc => ∃ (kq : Nat) (x44_16 : Bool), v44 = .bool x44_16 ∧ As (spec_l07All.j1 kq x5_1 t282 t286 x8_1 x9_1 x44_16 = some r) ∧ As (kq ≤ k1) ∧ As (Kd.R (Kd.int .i64) 3 wc w.heap.size (fun k_ => some k_ ≠ (v283 : Value).ownBlock ∧ some k_ ≠ (v287 : Value).ownBlock) u5 x5_1) ∧ As (Kd.R (Kd.int .i64) 3 wc w.heap.size (fun k_ => some k_ ≠ (u5 : Value).ownBlock ∧ some k_ ≠ (v287 : Value).ownBlock) v283 t282) ∧ As (Kd.R (Kd.int .i64) 3 wc w.heap.size (fun k_ => some k_ ≠ (u5 : Value).ownBlock ∧ some k_ ≠ (v283 : Value).ownBlock) v287 t286) ∧ As (wc.heap[gb276]? = some (.cells #[(.slice A0_0 l0_0.length c0_0), (.slice (some ad281) l0_1.length c0_1)] 32 (0, 0))) ∧ As (Below w.heap.size w wc))
   case first =>
    have H := HC17.out
    clear HC17
    by_cases c18 : x8_1 < (t282.length : Int)
    ·
     rw [if_pos c18] at H
     have c18b0 : decide (x8_1 < (t282.length : Int)) = true := decide_eq_true c18
     clear c18
     (first | rw [c18b0] | (simp only [i64_w, i32_w]; rw [c18b0]) | skip)
     have H' := As.mk H
     clear H
     obtain ⟨Ao19, co19, eo19⟩ := Kd.R_slice HO_6.out
     subst eo19
     go_wp2
     go_meet
     case rel => exact ⟨_, (true), (by first | rfl | (simp; done) | (simp [*]; done)), H', ⟨by have := HK1.out; first | omega | exact Nat.le_refl _⟩, ⟨by (with_reducible repeat (first | apply Kd.R_alloc | apply Kd.R_drewN | apply Kd.R_drew)); exact HO_5.out⟩, ⟨by (with_reducible repeat (first | apply Kd.R_alloc | apply Kd.R_drewN | apply Kd.R_drew)); exact HO_6.out⟩, ⟨by (with_reducible repeat (first | apply Kd.R_alloc | apply Kd.R_drewN | apply Kd.R_drew)); exact HO_7.out⟩, ⟨bx BK276.out⟩, ⟨be w⟩⟩
    rw [if_neg c18] at H
    have c18b0 : decide (x8_1 < (t282.length : Int)) = false := decide_eq_false c18
    clear c18
    (first | rw [c18b0] | (simp only [i64_w, i32_w]; rw [c18b0]) | skip)
    have H' := As.mk H
    clear H
    obtain ⟨Ao20, co20, eo20⟩ := Kd.R_slice HO_6.out
    subst eo20
    obtain ⟨Ao21, co21, eo21⟩ := Kd.R_slice HO_7.out
    subst eo21
    go_wp2
    go_meet
    case rel => exact ⟨_, (decide (x9_1 < (t286.length : Int))), (by first | rfl | (simp; done) | (simp [*]; done)), H', ⟨by have := HK1.out; first | omega | exact Nat.le_refl _⟩, ⟨by (with_reducible repeat (first | apply Kd.R_alloc | apply Kd.R_drewN | apply Kd.R_drew)); exact HO_5.out⟩, ⟨by (with_reducible repeat (first | apply Kd.R_alloc | apply Kd.R_drewN | apply Kd.R_drew)); exact HO_6.out⟩, ⟨by (with_reducible repeat (first | apply Kd.R_alloc | apply Kd.R_drewN | apply Kd.R_drew)); exact HO_7.out⟩, ⟨bx BK276.out⟩, ⟨be w⟩⟩
   case rest =>
    clear HC17
    (try clear c4); (try clear c5); (try clear c5b0); (try clear c6); (try clear c6b0); (try clear hcz12_0); (try clear hcz12_1); (try clear hfz12_0); (try clear hfz12_1); (try clear hx281_0); (try clear hx281_1); (try clear hx281_2); (try clear hx281_3); (try clear hx281_4); (try clear hx285_0); (try clear hx285_1); (try clear hx285_2); (try clear hx285_3); (try clear hx285_4); (try clear p281); (try clear p285); (try clear q281); (try clear q285)
    obtain ⟨kq, x44_16, rfl, HA, HJ16, HO_5, HO_6, HO_7, BK276, HB⟩ := hcut
    cases kq with
    | zero => exact absurd HA.out (by simp [spec_l07All.j1])
    | succ kj16 =>
     have H := HA.out
     clear HA
     simp only [spec_l07All.j1] at H
     by_cases c22 : x44_16 = true
     rotate_left
     ·
      replace c22 := Bool.eq_false_iff.mpr c22
      subst c22
      rw [if_neg (show ¬ (false = true) by decide)] at H
      obtain rfl := Option.some.inj H
      go_wp2
      go_ret
      exact ⟨_, ez, by (with_reducible repeat (first | apply Kd.R_alloc | apply Kd.R_drewN | apply Kd.R_drew)); exact Kd.R_mono HO_5.out (fun _ hk => trivial), be w⟩
     subst c22
     rw [if_pos rfl] at H
     have HC23 := As.mk H
     clear H
     go_upto_region 9 with (fail)
     go_cut [65] (fun v65 wc => ∃ (kq : Nat) (x65_22 : Bool), v65 = .bool x65_22 ∧ As (spec_l07All.j2 kq x5_1 t282 t286 x8_1 x9_1 x65_22 = some r) ∧ As (kq ≤ kj16) ∧ As (Kd.R (Kd.int .i64) 3 wc w.heap.size (fun k_ => some k_ ≠ (v283 : Value).ownBlock ∧ some k_ ≠ (v287 : Value).ownBlock) u5 x5_1) ∧ As (Kd.R (Kd.int .i64) 3 wc w.heap.size (fun k_ => some k_ ≠ (u5 : Value).ownBlock ∧ some k_ ≠ (v287 : Value).ownBlock) v283 t282) ∧ As (Kd.R (Kd.int .i64) 3 wc w.heap.size (fun k_ => some k_ ≠ (u5 : Value).ownBlock ∧ some k_ ≠ (v283 : Value).ownBlock) v287 t286) ∧ As (wc.heap[gb276]? = some (.cells #[(.slice A0_0 l0_0.length c0_0), (.slice (some ad281) l0_1.length c0_1)] 32 (0, 0))) ∧ As (Below w.heap.size w wc))
     case first =>
      have H := HC23.out
      clear HC23
      by_cases c24 : x9_1 ≥ (t286.length : Int)
      ·
       rw [if_pos c24] at H
       have c24b0 : decide ((t286.length : Int) ≤ x9_1) = true := decide_eq_true c24
       clear c24
       (first | rw [c24b0] | (simp only [i64_w, i32_w]; rw [c24b0]) | skip)
       have H' := As.mk H
       clear H
       try go_wp2
       replace HO_5 := As.mk (Kd.R_drew HO_5.out)
       replace HO_6 := As.mk (Kd.R_drew HO_6.out)
       replace HO_7 := As.mk (Kd.R_drew HO_7.out)
       replace BK276 := As.mk (blk_drew BK276.out)
       replace HB := As.mk (below_drew1 HB.out)
       obtain ⟨Ao26, co26, eo26⟩ := Kd.R_slice HO_7.out
       (first | subst eo26 | (injection eo26 with f1_ f2_ f3_; have f4_ := f1_.symm; have f5_ := f3_.symm; clear f1_ f2_ f3_; subst f4_; subst f5_))
       refine start_ (n := 21) (S := fun w' => True) (ds := []) #[O, O, O, O, O, O, O, O, O, O, O, O, O, O, O, O, O, O, O, O, O] (by kernel_rfl) rfl rfl trivial (fun hHeld => ?_); refine with_tabW spec_l07All.tab9 spec_l07All.bits9 (fun HT_ HW_ => ?_)
       generalize wc.drew = w25 at HO_5 HO_6 HO_7 BK276 HB hHeld ⊢
       refine pure_ (i := 0) (N := some 45) (v := ?_) (a' := ?_) #[I, O, O, O, O, O, O, O, O, O, O, O, O, O, O, O, O, O, O, O, O] rfl rfl (any_of HT_.out (by kernel_rfl)) (fun _ _ _ h => h) (Or.inl ⟨by rfl, ?_⟩) ?_ ?_
       rotate_left; · intro w'; go_simp; with_reducible rfl
       rotate_left; · simp only [pk, i64_w, i32_w]; rfl
       refine pure_ (i := 1) (N := some 46) (v := ?_) (a' := ?_) #[I, I, O, O, O, O, O, O, O, O, O, O, O, O, O, O, O, O, O, O, O] rfl rfl (any_of HT_.out (by kernel_rfl)) (fun _ _ _ h => h) (Or.inl ⟨by rfl, ?_⟩) ?_ ?_
       rotate_left; · intro w'; go_simp; with_reducible rfl
       rotate_left; · simp only [pk, i64_w, i32_w]; rfl
       refine pure_ (i := 2) (N := some 47) (v := ?_) (a' := ?_) #[I, I, I, O, O, O, O, O, O, O, O, O, O, O, O, O, O, O, O, O, O] rfl rfl (any_of HT_.out (by kernel_rfl)) (fun _ _ _ h => h) (Or.inl ⟨by rfl, ?_⟩) ?_ ?_
       rotate_left; · intro w'; go_simp; with_reducible rfl
       rotate_left; · simp only [pk, i64_w, i32_w]; rfl
       refine pure_ (i := 3) (N := some 48) (v := ?_) (a' := ?_) #[I, I, I, I, O, O, O, O, O, O, O, O, O, O, O, O, O, O, O, O, O] rfl rfl (any_of HT_.out (by kernel_rfl)) (fun _ _ _ h => h) (Or.inl ⟨by rfl, ?_⟩) ?_ ?_
       rotate_left; · intro w'; go_simp; with_reducible rfl
       rotate_left; · simp only [pk, i64_w, i32_w]; rfl
       refine pure_ (i := 4) (N := some 49) (v := ?_) (a' := ?_) #[I, I, I, I, I, O, O, O, O, O, O, O, O, O, O, O, O, O, O, O, O] rfl rfl (any_of HT_.out (by kernel_rfl)) (fun _ _ _ h => h) (Or.inl ⟨by rfl, ?_⟩) ?_ ?_
       rotate_left; · intro w'; go_simp; with_reducible rfl
       rotate_left; · simp only [pk, i64_w, i32_w]; rfl
       refine pure_ (i := 5) (N := some 50) (v := undef) (a' := ?_) #[I, I, I, I, I, I, O, O, O, O, O, O, O, O, O, O, O, O, O, O, O] rfl rfl (any_of HT_.out (by kernel_rfl)) (fun _ _ _ h => h) (Or.inr ⟨by rfl, rfl⟩) ?_ ?_
       rotate_left; · simp only [pk, i64_w, i32_w]; rfl
       refine pure_ (i := 6) (N := some 51) (v := undef) (a' := ?_) #[I, I, I, I, I, I, I, O, O, O, O, O, O, O, O, O, O, O, O, O, O] rfl rfl (any_of HT_.out (by kernel_rfl)) (fun _ _ _ h => h) (Or.inr ⟨by rfl, rfl⟩) ?_ ?_
       rotate_left; · simp only [pk, i64_w, i32_w]; rfl
       refine pure_ (i := 7) (N := some 52) (v := undef) (a' := ?_) #[I, I, I, I, I, I, I, I, O, O, O, O, O, O, O, O, O, O, O, O, O] rfl rfl (any_of HT_.out (by kernel_rfl)) (fun _ _ _ h => h) (Or.inr ⟨by rfl, rfl⟩) ?_ ?_
       rotate_left; · simp only [pk, i64_w, i32_w]; rfl
       refine pure_ (i := 8) (N := some 53) (v := undef) (a' := ?_) #[I, I, I, I, I, I, I, I, I, O, O, O, O, O, O, O, O, O, O, O, O] rfl rfl (any_of HT_.out (by kernel_rfl)) (fun _ _ _ h => h) (Or.inr ⟨by rfl, rfl⟩) ?_ ?_
       rotate_left; · simp only [pk, i64_w, i32_w]; rfl
       refine pure_ (i := 9) (N := some 54) (v := undef) (a' := ?_) #[I, I, I, I, I, I, I, I, I, I, O, O, O, O, O, O, O, O, O, O, O] rfl rfl (any_of HT_.out (by kernel_rfl)) (fun _ _ _ h => h) (Or.inr ⟨by rfl, rfl⟩) ?_ ?_
       rotate_left; · simp only [pk, i64_w, i32_w]; rfl
       refine pure_ (i := 10) (N := some 55) (v := undef) (a' := ?_) #[I, I, I, I, I, I, I, I, I, I, I, O, O, O, O, O, O, O, O, O, O] rfl rfl (any_of HT_.out (by kernel_rfl)) (fun _ _ _ h => h) (Or.inr ⟨by rfl, rfl⟩) ?_ ?_
       rotate_left; · simp only [pk, i64_w, i32_w]; rfl
       refine pure_ (i := 11) (N := some 56) (v := undef) (a' := ?_) #[I, I, I, I, I, I, I, I, I, I, I, I, O, O, O, O, O, O, O, O, O] rfl rfl (any_of HT_.out (by kernel_rfl)) (fun _ _ _ h => h) (Or.inr ⟨by rfl, rfl⟩) ?_ ?_
       rotate_left; · simp only [pk, i64_w, i32_w]; rfl
       refine pure_ (i := 12) (N := some 57) (v := undef) (a' := ?_) #[I, I, I, I, I, I, I, I, I, I, I, I, I, O, O, O, O, O, O, O, O] rfl rfl (any_of HT_.out (by kernel_rfl)) (fun _ _ _ h => h) (Or.inr ⟨by rfl, rfl⟩) ?_ ?_
       rotate_left; · simp only [pk, i64_w, i32_w]; rfl
       refine pure_ (i := 13) (N := some 58) (v := undef) (a' := ?_) #[I, I, I, I, I, I, I, I, I, I, I, I, I, I, O, O, O, O, O, O, O] rfl rfl (any_of HT_.out (by kernel_rfl)) (fun _ _ _ h => h) (Or.inr ⟨by rfl, rfl⟩) ?_ ?_
       rotate_left; · simp only [pk, i64_w, i32_w]; rfl
       refine pure_ (i := 14) (N := some 59) (v := undef) (a' := ?_) #[I, I, I, I, I, I, I, I, I, I, I, I, I, I, I, O, O, O, O, O, O] rfl rfl (any_of HT_.out (by kernel_rfl)) (fun _ _ _ h => h) (Or.inr ⟨by rfl, rfl⟩) ?_ ?_
       rotate_left; · simp only [pk, i64_w, i32_w]; rfl
       refine pure_ (i := 15) (N := some 60) (v := undef) (a' := ?_) #[I, I, I, I, I, I, I, I, I, I, I, I, I, I, I, I, O, O, O, O, O] rfl rfl (any_of HT_.out (by kernel_rfl)) (fun _ _ _ h => h) (Or.inr ⟨by rfl, rfl⟩) ?_ ?_
       rotate_left; · simp only [pk, i64_w, i32_w]; rfl
       refine pure_ (i := 16) (N := some 61) (v := undef) (a' := ?_) #[I, I, I, I, I, I, I, I, I, I, I, I, I, I, I, I, I, O, O, O, O] rfl rfl (any_of HT_.out (by kernel_rfl)) (fun _ _ _ h => h) (Or.inr ⟨by rfl, rfl⟩) ?_ ?_
       rotate_left; · simp only [pk, i64_w, i32_w]; rfl
       refine pure_ (i := 17) (N := some 62) (v := undef) (a' := ?_) #[I, I, I, I, I, I, I, I, I, I, I, I, I, I, I, I, I, I, O, O, O] rfl rfl (any_of HT_.out (by kernel_rfl)) (fun _ _ _ h => h) (Or.inr ⟨by rfl, rfl⟩) ?_ ?_
       rotate_left; · simp only [pk, i64_w, i32_w]; rfl
       refine pure_ (i := 18) (N := some 63) (v := undef) (a' := ?_) #[I, I, I, I, I, I, I, I, I, I, I, I, I, I, I, I, I, I, I, O, O] rfl rfl (any_of HT_.out (by kernel_rfl)) (fun _ _ _ h => h) (Or.inr ⟨by rfl, rfl⟩) ?_ ?_
       rotate_left; · simp only [pk, i64_w, i32_w]; rfl
       refine pure_ (i := 19) (N := some 64) (v := undef) (a' := ?_) #[I, I, I, I, I, I, I, I, I, I, I, I, I, I, I, I, I, I, I, I, O] rfl rfl (any_of HT_.out (by kernel_rfl)) (fun _ _ _ h => h) (Or.inr ⟨by rfl, rfl⟩) ?_ ?_
       rotate_left; · simp only [pk, i64_w, i32_w]; rfl
       refine pure_ (i := 20) (N := some 65) (v := ?_) (a' := ?_) #[I, I, I, I, I, I, I, I, I, I, I, I, I, I, I, I, I, I, I, I, I] rfl rfl (any_of HT_.out (by kernel_rfl)) (fun _ _ _ h => h) (Or.inl ⟨by rfl, ?_⟩) ?_ ?_
       rotate_left; · intro w'; go_simp; with_reducible rfl
       rotate_left; · simp only [pk, i64_w, i32_w]; rfl
       refine done_ (done_of HT_.out (by kernel_rfl)) ?_
       try go_wp2
       go_meet
       case rel => exact ⟨_, (true), (by first | rfl | (simp; done) | (simp [*]; done)), H', ⟨by have := HK1.out; have := HJ16.out; first | omega | exact Nat.le_refl _⟩, ⟨by (with_reducible repeat (first | apply Kd.R_alloc | apply Kd.R_drewN | apply Kd.R_drew)); exact HO_5.out⟩, ⟨by (with_reducible repeat (first | apply Kd.R_alloc | apply Kd.R_drewN | apply Kd.R_drew)); exact HO_6.out⟩, ⟨by (with_reducible repeat (first | apply Kd.R_alloc | apply Kd.R_drewN | apply Kd.R_drew)); exact HO_7.out⟩, ⟨bx BK276.out⟩, ⟨be w⟩⟩
      rw [if_neg c24] at H
      have c24b0 : decide ((t286.length : Int) ≤ x9_1) = false := decide_eq_false c24
      clear c24
      (first | rw [c24b0] | (simp only [i64_w, i32_w]; rw [c24b0]) | skip)
      by_cases c27 : x8_1 < (t282.length : Int)
      rotate_left
      ·
       rw [if_neg c27] at H
       have c27b0 : decide (x8_1 < (t282.length : Int)) = false := decide_eq_false c27
       clear c27
       have H' := As.mk H
       clear H
       try go_wp2
       replace HO_5 := As.mk (Kd.R_drew HO_5.out)
       replace HO_6 := As.mk (Kd.R_drew HO_6.out)
       replace HO_7 := As.mk (Kd.R_drew HO_7.out)
       replace BK276 := As.mk (blk_drew BK276.out)
       replace HB := As.mk (below_drew1 HB.out)
       obtain ⟨Ao35, co35, eo35⟩ := Kd.R_slice HO_7.out
       (first | subst eo35 | (injection eo35 with f1_ f2_ f3_; have f4_ := f1_.symm; have f5_ := f3_.symm; clear f1_ f2_ f3_; subst f4_; subst f5_))
       obtain ⟨Ao36, co36, eo36⟩ := Kd.R_slice HO_6.out
       (first | subst eo36 | (injection eo36 with f1_ f2_ f3_; have f4_ := f1_.symm; have f5_ := f3_.symm; clear f1_ f2_ f3_; subst f4_; subst f5_))
       refine start_ (n := 21) (S := fun w' => True) (ds := []) #[O, O, O, O, O, O, O, O, O, O, O, O, O, O, O, O, O, O, O, O, O] (by kernel_rfl) rfl rfl trivial (fun hHeld => ?_); refine with_tabW spec_l07All.tab9 spec_l07All.bits9 (fun HT_ HW_ => ?_)
       generalize wc.drew = w34 at HO_5 HO_6 HO_7 BK276 HB hHeld ⊢
       refine pure_ (i := 0) (N := some 45) (v := ?_) (a' := ?_) #[I, O, O, O, O, O, O, O, O, O, O, O, O, O, O, O, O, O, O, O, O] rfl rfl (any_of HT_.out (by kernel_rfl)) (fun _ _ _ h => h) (Or.inl ⟨by rfl, ?_⟩) ?_ ?_
       rotate_left; · intro w'; go_simp; with_reducible rfl
       rotate_left; · simp only [pk, i64_w, i32_w]; rfl
       refine pure_ (i := 1) (N := some 46) (v := ?_) (a' := ?_) #[I, I, O, O, O, O, O, O, O, O, O, O, O, O, O, O, O, O, O, O, O] rfl rfl (any_of HT_.out (by kernel_rfl)) (fun _ _ _ h => h) (Or.inl ⟨by rfl, ?_⟩) ?_ ?_
       rotate_left; · intro w'; go_simp; with_reducible rfl
       rotate_left; · simp only [pk, i64_w, i32_w]; rfl
       refine pure_ (i := 2) (N := some 47) (v := ?_) (a' := ?_) #[I, I, I, O, O, O, O, O, O, O, O, O, O, O, O, O, O, O, O, O, O] rfl rfl (any_of HT_.out (by kernel_rfl)) (fun _ _ _ h => h) (Or.inl ⟨by rfl, ?_⟩) ?_ ?_
       rotate_left; · intro w'; go_simp; with_reducible rfl
       rotate_left; · simp only [pk, i64_w, i32_w]; rfl
       refine pure_ (i := 3) (N := some 48) (v := ?_) (a' := ?_) #[I, I, I, I, O, O, O, O, O, O, O, O, O, O, O, O, O, O, O, O, O] rfl rfl (any_of HT_.out (by kernel_rfl)) (fun _ _ _ h => h) (Or.inl ⟨by rfl, ?_⟩) ?_ ?_
       rotate_left; · intro w'; go_simp; with_reducible rfl
       rotate_left; · simp only [pk, i64_w, i32_w]; rfl
       refine pure_ (i := 4) (N := some 49) (v := ?_) (a' := ?_) #[I, I, I, I, I, O, O, O, O, O, O, O, O, O, O, O, O, O, O, O, O] rfl rfl (any_of HT_.out (by kernel_rfl)) (fun _ _ _ h => h) (Or.inl ⟨by rfl, ?_⟩) ?_ ?_
       rotate_left; · intro w'; go_simp; with_reducible rfl
       rotate_left; · simp only [pk, i64_w, i32_w]; rfl
       refine pure_ (i := 5) (N := some 50) (v := ?_) (a' := ?_) #[I, I, I, I, I, I, O, O, O, O, O, O, O, O, O, O, O, O, O, O, O] rfl rfl (any_of HT_.out (by kernel_rfl)) (fun _ _ _ h => h) (Or.inl ⟨by rfl, ?_⟩) ?_ ?_
       rotate_left; · intro w'; go_simp; with_reducible rfl
       rotate_left; · simp only [pk, i64_w, i32_w]; rfl
       refine pure_ (i := 6) (N := some 51) (v := ?_) (a' := ?_) #[I, I, I, I, I, I, I, O, O, O, O, O, O, O, O, O, O, O, O, O, O] rfl rfl (any_of HT_.out (by kernel_rfl)) (fun _ _ _ h => h) (Or.inl ⟨by rfl, ?_⟩) ?_ ?_
       rotate_left; · intro w'; go_simp; with_reducible rfl
       rotate_left; · simp only [pk, i64_w, i32_w]; rfl
       refine pure_ (i := 7) (N := some 52) (v := ?_) (a' := ?_) #[I, I, I, I, I, I, I, I, O, O, O, O, O, O, O, O, O, O, O, O, O] rfl rfl (any_of HT_.out (by kernel_rfl)) (fun _ _ _ h => h) (Or.inl ⟨by rfl, ?_⟩) ?_ ?_
       rotate_left; · intro w'; go_simp; with_reducible rfl
       rotate_left; · simp only [pk, i64_w, i32_w]; rfl
       refine pure_ (i := 8) (N := some 53) (v := ?_) (a' := ?_) #[I, I, I, I, I, I, I, I, I, O, O, O, O, O, O, O, O, O, O, O, O] rfl rfl (any_of HT_.out (by kernel_rfl)) (fun _ _ _ h => h) (Or.inl ⟨by rfl, ?_⟩) ?_ ?_
       rotate_left; · intro w'; go_simp; with_reducible rfl
       rotate_left; · simp only [pk, i64_w, i32_w]; rfl
       refine pure_ (i := 9) (N := some 54) (v := ?_) (a' := ?_) #[I, I, I, I, I, I, I, I, I, I, O, O, O, O, O, O, O, O, O, O, O] rfl rfl (any_of HT_.out (by kernel_rfl)) (fun _ _ _ h => h) (Or.inl ⟨by rfl, ?_⟩) ?_ ?_
       rotate_left; · intro w'; go_simp; with_reducible rfl
       rotate_left; · simp only [pk, i64_w, i32_w]; rfl
       refine pure_ (i := 10) (N := some 55) (v := undef) (a' := ?_) #[I, I, I, I, I, I, I, I, I, I, I, O, O, O, O, O, O, O, O, O, O] rfl rfl (any_of HT_.out (by kernel_rfl)) (fun _ _ _ h => h) (Or.inr ⟨by rfl, rfl⟩) ?_ ?_
       rotate_left; · simp only [pk, i64_w, i32_w]; rfl
       refine pure_ (i := 11) (N := some 56) (v := undef) (a' := ?_) #[I, I, I, I, I, I, I, I, I, I, I, I, O, O, O, O, O, O, O, O, O] rfl rfl (any_of HT_.out (by kernel_rfl)) (fun _ _ _ h => h) (Or.inr ⟨by rfl, rfl⟩) ?_ ?_
       rotate_left; · simp only [pk, i64_w, i32_w]; rfl
       refine pure_ (i := 12) (N := some 57) (v := undef) (a' := ?_) #[I, I, I, I, I, I, I, I, I, I, I, I, I, O, O, O, O, O, O, O, O] rfl rfl (any_of HT_.out (by kernel_rfl)) (fun _ _ _ h => h) (Or.inr ⟨by rfl, rfl⟩) ?_ ?_
       rotate_left; · simp only [pk, i64_w, i32_w]; rfl
       refine pure_ (i := 13) (N := some 58) (v := undef) (a' := ?_) #[I, I, I, I, I, I, I, I, I, I, I, I, I, I, O, O, O, O, O, O, O] rfl rfl (any_of HT_.out (by kernel_rfl)) (fun _ _ _ h => h) (Or.inr ⟨by rfl, rfl⟩) ?_ ?_
       rotate_left; · simp only [pk, i64_w, i32_w]; rfl
       refine pure_ (i := 14) (N := some 59) (v := undef) (a' := ?_) #[I, I, I, I, I, I, I, I, I, I, I, I, I, I, I, O, O, O, O, O, O] rfl rfl (any_of HT_.out (by kernel_rfl)) (fun _ _ _ h => h) (Or.inr ⟨by rfl, rfl⟩) ?_ ?_
       rotate_left; · simp only [pk, i64_w, i32_w]; rfl
       refine pure_ (i := 15) (N := some 60) (v := undef) (a' := ?_) #[I, I, I, I, I, I, I, I, I, I, I, I, I, I, I, I, O, O, O, O, O] rfl rfl (any_of HT_.out (by kernel_rfl)) (fun _ _ _ h => h) (Or.inr ⟨by rfl, rfl⟩) ?_ ?_
       rotate_left; · simp only [pk, i64_w, i32_w]; rfl
       refine pure_ (i := 16) (N := some 61) (v := undef) (a' := ?_) #[I, I, I, I, I, I, I, I, I, I, I, I, I, I, I, I, I, O, O, O, O] rfl rfl (any_of HT_.out (by kernel_rfl)) (fun _ _ _ h => h) (Or.inr ⟨by rfl, rfl⟩) ?_ ?_
       rotate_left; · simp only [pk, i64_w, i32_w]; rfl
       refine pure_ (i := 17) (N := some 62) (v := undef) (a' := ?_) #[I, I, I, I, I, I, I, I, I, I, I, I, I, I, I, I, I, I, O, O, O] rfl rfl (any_of HT_.out (by kernel_rfl)) (fun _ _ _ h => h) (Or.inr ⟨by rfl, rfl⟩) ?_ ?_
       rotate_left; · simp only [pk, i64_w, i32_w]; rfl
       refine pure_ (i := 18) (N := some 63) (v := undef) (a' := ?_) #[I, I, I, I, I, I, I, I, I, I, I, I, I, I, I, I, I, I, I, O, O] rfl rfl (any_of HT_.out (by kernel_rfl)) (fun _ _ _ h => h) (Or.inr ⟨by rfl, rfl⟩) ?_ ?_
       rotate_left; · simp only [pk, i64_w, i32_w]; rfl
       refine pure_ (i := 19) (N := some 64) (v := ?_) (a' := ?_) #[I, I, I, I, I, I, I, I, I, I, I, I, I, I, I, I, I, I, I, I, O] rfl rfl (any_of HT_.out (by kernel_rfl)) (fun _ _ _ h => h) (Or.inl ⟨by rfl, ?_⟩) ?_ ?_
       rotate_left; · intro w'; go_simp; with_reducible rfl
       rotate_left; · simp only [pk, i64_w, i32_w]; rfl
       refine pure_ (i := 20) (N := some 65) (v := ?_) (a' := ?_) #[I, I, I, I, I, I, I, I, I, I, I, I, I, I, I, I, I, I, I, I, I] rfl rfl (any_of HT_.out (by kernel_rfl)) (fun _ _ _ h => h) (Or.inl ⟨by rfl, ?_⟩) ?_ ?_
       rotate_left; · intro w'; go_simp; with_reducible rfl
       rotate_left; · simp only [pk, i64_w, i32_w]; rfl
       refine done_ (done_of HT_.out (by kernel_rfl)) ?_
       try go_wp2
       go_meet
       case rel => exact ⟨_, (false), (by first | rfl | (simp; done) | (simp [*]; done)), H', ⟨by have := HK1.out; have := HJ16.out; first | omega | exact Nat.le_refl _⟩, ⟨by (with_reducible repeat (first | apply Kd.R_alloc | apply Kd.R_drewN | apply Kd.R_drew)); exact HO_5.out⟩, ⟨by (with_reducible repeat (first | apply Kd.R_alloc | apply Kd.R_drewN | apply Kd.R_drew)); exact HO_6.out⟩, ⟨by (with_reducible repeat (first | apply Kd.R_alloc | apply Kd.R_drewN | apply Kd.R_drew)); exact HO_7.out⟩, ⟨bx BK276.out⟩, ⟨be w⟩⟩
      rw [if_pos c27] at H
      have c27b0 : decide (x8_1 < (t282.length : Int)) = true := decide_eq_true c27
      clear c27
      by_cases c28 : 0 ≤ x8_1
      rotate_left; · rw [if_neg c28] at H; exact absurd H (by simp)
      rw [if_pos c28] at H
      have c28b0 : decide (0 ≤ x8_1) = true := decide_eq_true c28
      clear c28
      by_cases c29 : 0 ≤ x9_1
      rotate_left; · rw [if_neg c29] at H; exact absurd H (by simp)
      rw [if_pos c29] at H
      have c29b0 : decide (0 ≤ x9_1) = true := decide_eq_true c29
      clear c29
      by_cases c30 : x9_1 < (t286.length : Int)
      rotate_left; · rw [if_neg c30] at H; exact absurd H (by simp)
      rw [if_pos c30] at H
      have c30b0 : decide (x9_1 < (t286.length : Int)) = true := decide_eq_true c30
      clear c30
      have H' := As.mk H
      clear H
      try go_wp2
      replace HO_5 := As.mk (Kd.R_drew HO_5.out)
      replace HO_6 := As.mk (Kd.R_drew HO_6.out)
      replace HO_7 := As.mk (Kd.R_drew HO_7.out)
      replace BK276 := As.mk (blk_drew BK276.out)
      replace HB := As.mk (below_drew1 HB.out)
      obtain ⟨Ao32, co32, eo32⟩ := Kd.R_slice HO_7.out
      (first | subst eo32 | (injection eo32 with f1_ f2_ f3_; have f4_ := f1_.symm; have f5_ := f3_.symm; clear f1_ f2_ f3_; subst f4_; subst f5_))
      obtain ⟨Ao33, co33, eo33⟩ := Kd.R_slice HO_6.out
      (first | subst eo33 | (injection eo33 with f1_ f2_ f3_; have f4_ := f1_.symm; have f5_ := f3_.symm; clear f1_ f2_ f3_; subst f4_; subst f5_))
      have p289 : 0 ≤ (x8_1 : Int) := od
      have q289 : x8_1 < (t282.length : Int) := od
      obtain ⟨ad289, e289, hx289_0⟩ := Kd.at_int (Kd.R_reads' HO_6.out).2.2 x8_1 p289 q289
      cases e289
      replace p289 := eq_true p289
      replace q289 := eq_true q289
      have p290 : 0 ≤ (x9_1 : Int) := od
      have q290 : x9_1 < (t286.length : Int) := od
      obtain ⟨ad290, e290, hx290_0⟩ := Kd.at_int (Kd.R_reads' HO_7.out).2.2 x9_1 p290 q290
      cases e290
      replace p290 := eq_true p290
      replace q290 := eq_true q290
      refine start_ (n := 21) (S := fun w' => w'.cell? (ad289.add (x8_1).toNat) = some (.int .i64 (rd t282 x8_1)) ∧ w'.cell? (ad290.add (x9_1).toNat) = some (.int .i64 (rd t286 x9_1))) (ds := []) #[O, O, O, O, O, O, O, O, O, O, O, O, O, O, O, O, O, O, O, O, O] (by kernel_rfl) rfl rfl ⟨hx289_0, hx290_0⟩ (fun hHeld => ?_); refine with_tabW spec_l07All.tab9 spec_l07All.bits9 (fun HT_ HW_ => ?_)
      generalize wc.drew = w31 at HO_5 HO_6 HO_7 BK276 HB hx289_0 hx290_0 hHeld ⊢
      refine pure_ (i := 0) (N := some 45) (v := ?_) (a' := ?_) #[I, O, O, O, O, O, O, O, O, O, O, O, O, O, O, O, O, O, O, O, O] rfl rfl (any_of HT_.out (by kernel_rfl)) (fun _ _ _ h => h) (Or.inl ⟨by rfl, ?_⟩) ?_ ?_
      rotate_left; · intro w'; go_simp; with_reducible rfl
      rotate_left; · simp only [pk, i64_w, i32_w]; rfl
      refine pure_ (i := 1) (N := some 46) (v := ?_) (a' := ?_) #[I, I, O, O, O, O, O, O, O, O, O, O, O, O, O, O, O, O, O, O, O] rfl rfl (any_of HT_.out (by kernel_rfl)) (fun _ _ _ h => h) (Or.inl ⟨by rfl, ?_⟩) ?_ ?_
      rotate_left; · intro w'; go_simp; with_reducible rfl
      rotate_left; · simp only [pk, i64_w, i32_w]; rfl
      refine pure_ (i := 2) (N := some 47) (v := ?_) (a' := ?_) #[I, I, I, O, O, O, O, O, O, O, O, O, O, O, O, O, O, O, O, O, O] rfl rfl (any_of HT_.out (by kernel_rfl)) (fun _ _ _ h => h) (Or.inl ⟨by rfl, ?_⟩) ?_ ?_
      rotate_left; · intro w'; go_simp; with_reducible rfl
      rotate_left; · simp only [pk, i64_w, i32_w]; rfl
      refine pure_ (i := 3) (N := some 48) (v := ?_) (a' := ?_) #[I, I, I, I, O, O, O, O, O, O, O, O, O, O, O, O, O, O, O, O, O] rfl rfl (any_of HT_.out (by kernel_rfl)) (fun _ _ _ h => h) (Or.inl ⟨by rfl, ?_⟩) ?_ ?_
      rotate_left; · intro w'; go_simp; with_reducible rfl
      rotate_left; · simp only [pk, i64_w, i32_w]; rfl
      refine pure_ (i := 4) (N := some 49) (v := ?_) (a' := ?_) #[I, I, I, I, I, O, O, O, O, O, O, O, O, O, O, O, O, O, O, O, O] rfl rfl (any_of HT_.out (by kernel_rfl)) (fun _ _ _ h => h) (Or.inl ⟨by rfl, ?_⟩) ?_ ?_
      rotate_left; · intro w'; go_simp; with_reducible rfl
      rotate_left; · simp only [pk, i64_w, i32_w]; rfl
      refine pure_ (i := 5) (N := some 50) (v := ?_) (a' := ?_) #[I, I, I, I, I, I, O, O, O, O, O, O, O, O, O, O, O, O, O, O, O] rfl rfl (any_of HT_.out (by kernel_rfl)) (fun _ _ _ h => h) (Or.inl ⟨by rfl, ?_⟩) ?_ ?_
      rotate_left; · intro w'; go_simp; with_reducible rfl
      rotate_left; · simp only [pk, i64_w, i32_w]; rfl
      refine pure_ (i := 6) (N := some 51) (v := ?_) (a' := ?_) #[I, I, I, I, I, I, I, O, O, O, O, O, O, O, O, O, O, O, O, O, O] rfl rfl (any_of HT_.out (by kernel_rfl)) (fun _ _ _ h => h) (Or.inl ⟨by rfl, ?_⟩) ?_ ?_
      rotate_left; · intro w'; go_simp; with_reducible rfl
      rotate_left; · simp only [pk, i64_w, i32_w]; rfl
      refine pure_ (i := 7) (N := some 52) (v := ?_) (a' := ?_) #[I, I, I, I, I, I, I, I, O, O, O, O, O, O, O, O, O, O, O, O, O] rfl rfl (any_of HT_.out (by kernel_rfl)) (fun _ _ _ h => h) (Or.inl ⟨by rfl, ?_⟩) ?_ ?_
      rotate_left; · intro w'; go_simp; with_reducible rfl
      rotate_left; · simp only [pk, i64_w, i32_w]; rfl
      refine pure_ (i := 8) (N := some 53) (v := ?_) (a' := ?_) #[I, I, I, I, I, I, I, I, I, O, O, O, O, O, O, O, O, O, O, O, O] rfl rfl (any_of HT_.out (by kernel_rfl)) (fun _ _ _ h => h) (Or.inl ⟨by rfl, ?_⟩) ?_ ?_
      rotate_left; · intro w'; go_simp; with_reducible rfl
      rotate_left; · simp only [pk, i64_w, i32_w]; rfl
      refine pure_ (i := 9) (N := some 54) (v := ?_) (a' := ?_) #[I, I, I, I, I, I, I, I, I, I, O, O, O, O, O, O, O, O, O, O, O] rfl rfl (any_of HT_.out (by kernel_rfl)) (fun _ _ _ h => h) (Or.inl ⟨by rfl, ?_⟩) ?_ ?_
      rotate_left; · intro w'; go_simp; with_reducible rfl
      rotate_left; · simp only [pk, i64_w, i32_w]; rfl
      refine pure_ (i := 10) (N := some 55) (v := ?_) (a' := ?_) #[I, I, I, I, I, I, I, I, I, I, I, O, O, O, O, O, O, O, O, O, O] rfl rfl (any_of HT_.out (by kernel_rfl)) (fun _ _ _ h => h) (Or.inl ⟨by rfl, ?_⟩) ?_ ?_
      rotate_left; · intro w'; go_simp; with_reducible rfl
      rotate_left; · simp only [pk, i64_w, i32_w]; rfl
      refine pure_ (i := 11) (N := some 56) (v := ?_) (a' := ?_) #[I, I, I, I, I, I, I, I, I, I, I, I, O, O, O, O, O, O, O, O, O] rfl rfl (any_of HT_.out (by kernel_rfl)) (fun _ _ _ h => h) (Or.inl ⟨by rfl, ?_⟩) ?_ ?_
      rotate_left; · intro w'; go_simp; with_reducible rfl
      rotate_left; · simp only [pk, i64_w, i32_w]; rfl
      refine pure_ (i := 12) (N := some 57) (v := ?_) (a' := ?_) #[I, I, I, I, I, I, I, I, I, I, I, I, I, O, O, O, O, O, O, O, O] rfl rfl (any_of HT_.out (by kernel_rfl)) (fun _ _ _ h => h) (Or.inl ⟨by rfl, ?_⟩) ?_ ?_
      rotate_left; · intro w'; go_simp; with_reducible rfl
      rotate_left; · simp only [pk, i64_w, i32_w]; rfl
      refine pure_ (i := 14) (N := some 59) (v := ?_) (a' := ?_) #[I, I, I, I, I, I, I, I, I, I, I, I, I, O, I, O, O, O, O, O, O] rfl rfl (any_of HT_.out (by kernel_rfl)) (fun _ _ _ h => h) (Or.inl ⟨by rfl, ?_⟩) ?_ ?_
      rotate_left; · intro w'; go_simp; with_reducible rfl
      rotate_left; · simp only [pk, i64_w, i32_w]; rfl
      refine pure_ (i := 15) (N := some 60) (v := ?_) (a' := ?_) #[I, I, I, I, I, I, I, I, I, I, I, I, I, O, I, I, O, O, O, O, O] rfl rfl (any_of HT_.out (by kernel_rfl)) (fun _ _ _ h => h) (Or.inl ⟨by rfl, ?_⟩) ?_ ?_
      rotate_left; · intro w'; go_simp; with_reducible rfl
      rotate_left; · simp only [pk, i64_w, i32_w]; rfl
      refine pure_ (i := 16) (N := some 61) (v := ?_) (a' := ?_) #[I, I, I, I, I, I, I, I, I, I, I, I, I, O, I, I, I, O, O, O, O] rfl rfl (any_of HT_.out (by kernel_rfl)) (fun _ _ _ h => h) (Or.inl ⟨by rfl, ?_⟩) ?_ ?_
      rotate_left; · intro w'; go_simp; with_reducible rfl
      rotate_left; · simp only [pk, i64_w, i32_w]; rfl
      refine take_ (i := 13) (N := some 58) (v := ?_) (a' := ?_) #[I, I, I, I, I, I, I, I, I, I, I, I, I, I, I, I, I, O, O, O, O] rfl rfl (take_ofW HT_.out HW_.out (by kernel_rfl)) (fun _ _ _ h => h) (Or.inl ⟨by rfl, ?_⟩) hHeld ?_ ?_
      rotate_left; · rintro w' ⟨s0, s1⟩; go_simp; with_reducible rfl
      rotate_left; · simp only [pk, i64_w, i32_w]; rfl
      refine take_ (i := 17) (N := some 62) (v := ?_) (a' := ?_) #[I, I, I, I, I, I, I, I, I, I, I, I, I, I, I, I, I, I, O, O, O] rfl rfl (take_ofW HT_.out HW_.out (by kernel_rfl)) (fun _ _ _ h => h) (Or.inl ⟨by rfl, ?_⟩) hHeld ?_ ?_
      rotate_left; · rintro w' ⟨s0, s1⟩; go_simp; with_reducible rfl
      rotate_left; · simp only [pk, i64_w, i32_w]; rfl
      refine pure_ (i := 18) (N := some 63) (v := ?_) (a' := ?_) #[I, I, I, I, I, I, I, I, I, I, I, I, I, I, I, I, I, I, I, O, O] rfl rfl (any_of HT_.out (by kernel_rfl)) (fun _ _ _ h => h) (Or.inl ⟨by rfl, ?_⟩) ?_ ?_
      rotate_left; · intro w'; go_simp; with_reducible rfl
      rotate_left; · simp only [pk, i64_w, i32_w]; rfl
      refine pure_ (i := 19) (N := some 64) (v := ?_) (a' := ?_) #[I, I, I, I, I, I, I, I, I, I, I, I, I, I, I, I, I, I, I, I, O] rfl rfl (any_of HT_.out (by kernel_rfl)) (fun _ _ _ h => h) (Or.inl ⟨by rfl, ?_⟩) ?_ ?_
      rotate_left; · intro w'; go_simp; with_reducible rfl
      rotate_left; · simp only [pk, i64_w, i32_w]; rfl
      refine pure_ (i := 20) (N := some 65) (v := ?_) (a' := ?_) #[I, I, I, I, I, I, I, I, I, I, I, I, I, I, I, I, I, I, I, I, I] rfl rfl (any_of HT_.out (by kernel_rfl)) (fun _ _ _ h => h) (Or.inl ⟨by rfl, ?_⟩) ?_ ?_
      rotate_left; · intro w'; go_simp; with_reducible rfl
      rotate_left; · simp only [pk, i64_w, i32_w]; rfl
      refine done_ (done_of HT_.out (by kernel_rfl)) ?_
      try go_wp2
      go_meet
      case rel => exact ⟨_, (decide ((rd t282 x8_1) < (rd t286 x9_1))), (by first | rfl | (simp; done) | (simp [*]; done)), H', ⟨by have := HK1.out; have := HJ16.out; first | omega | exact Nat.le_refl _⟩, ⟨by (with_reducible repeat (first | apply Kd.R_alloc | apply Kd.R_drewN | apply Kd.R_drew)); exact HO_5.out⟩, ⟨by (with_reducible repeat (first | apply Kd.R_alloc | apply Kd.R_drewN | apply Kd.R_drew)); exact HO_6.out⟩, ⟨by (with_reducible repeat (first | apply Kd.R_alloc | apply Kd.R_drewN | apply Kd.R_drew)); exact HO_7.out⟩, ⟨bx BK276.out⟩, ⟨be w⟩⟩
     case rest =>
      clear HC23
      (try clear c4); (try clear c5); (try clear c5b0); (try clear c6); (try clear c6b0); (try clear c22); (try clear hcz12_0); (try clear hcz12_1); (try clear hfz12_0); (try clear hfz12_1); (try clear hx281_0); (try clear hx281_1); (try clear hx281_2); (try clear hx281_3); (try clear hx281_4); (try clear hx285_0); (try clear hx285_1); (try clear hx285_2); (try clear hx285_3); (try clear hx285_4); (try clear p281); (try clear p285); (try clear q281); (try clear q285)
      obtain ⟨kq, x65_22, rfl, HA, HJ22, HO_5, HO_6, HO_7, BK276, HB⟩ := hcut
      cases kq with
      | zero => exact absurd HA.out (by simp [spec_l07All.j2])
      | succ kj22 =>
       have H := HA.out
       clear HA
       simp only [spec_l07All.j2] at H
       by_cases c37 : x65_22 = true
       ·
        subst c37
        rw [if_pos rfl] at H
        by_cases c38 : 0 ≤ x8_1
        rotate_left; · rw [if_neg c38] at H; exact absurd H (by simp)
        rw [if_pos c38] at H
        have c38b0 : decide (0 ≤ x8_1) = true := decide_eq_true c38
        clear c38
        by_cases c39 : x8_1 < (t282.length : Int)
        rotate_left; · rw [if_neg c39] at H; exact absurd H (by simp)
        rw [if_pos c39] at H
        have c39b0 : decide (x8_1 < (t282.length : Int)) = true := decide_eq_true c39
        clear c39
        by_cases c40 : x5_1.length < 17592186044416
        rotate_left; · rw [if_neg c40] at H; exact absurd H (by simp)
        rw [if_pos c40] at H
        have LMc40 := As.mk c40
        clear c40
        obtain ⟨y292, hy292⟩ : ∃ y_ : List Int, y_ = (x5_1 ++ [rd t282 x8_1]) := ⟨_, rfl⟩
        replace H : (spec_l07All.l0 kj22 y292 t282 t286 (wrap64 (x8_1 + 1)) x9_1) = some r := by first | (rw [hy292]; with_reducible exact H) | (have H2_ := (Option.bind_some _ _).symm.trans H; rw [hy292]; with_reducible exact H2_) | (have H2_ := (Option.bind_some _ _).symm.trans H; with_reducible exact H2_) | with_reducible exact H | (rw [hy292]; exact H) | exact H
        have Ny292 := As.mk hy292
        clear hy292
        have H' := As.mk H
        clear H
        obtain ⟨Ao41, co41, eo41⟩ := Kd.R_slice HO_6.out
        subst eo41
        have p291 : 0 ≤ (x8_1 : Int) := od
        have q291 : x8_1 < (t282.length : Int) := od
        obtain ⟨ad291, e291, hx291_0⟩ := Kd.at_int (Kd.R_reads' HO_6.out).2.2 x8_1 p291 q291
        cases e291
        replace p291 := eq_true p291
        replace q291 := eq_true q291
        go_wp2_with (first | ((with_reducible refine gate_builtin (b := .append) (xs := #[.tmp 66, .tmp 71]) rfl ?_); (try (refine gate_guard (by rfl) ?_; dsimp only)); at_builtin; refine Kd.R_append (Kd.int .i64) (w0 := w) w.heap.size rfl (.tmp 66) (.tmp 71) 45 3 (.int .i64 0) 8 rfl Tryz.underlying45 info3 rfl (by decide) (by omega) u5 x5_1 (rd t282 x8_1) [.int .i64 (rd t282 x8_1)] (fun k_ => some k_ ≠ (.slice (some ad291) t282.length co41 : Value).ownBlock ∧ some k_ ≠ (v287 : Value).ownBlock) (fun _ => False) rfl rfl ?aP (fun _ hk => hk.elim) ?aF ?aO ?aB ?aS ?aL ?_; (case aP => exact rfl); (case aB => exact (be w)); (case aF => exact (fun k_ hk => ⟨Kd.fresh' (Kd.R_lt (by (with_reducible repeat (first | apply Kd.R_alloc | apply Kd.R_drewN | apply Kd.R_drew)); exact HO_6.out)) k_ hk, Kd.fresh' (Kd.R_lt (by (with_reducible repeat (first | apply Kd.R_alloc | apply Kd.R_drewN | apply Kd.R_drew)); exact HO_7.out)) k_ hk⟩)); (case aO => exact (by (with_reducible repeat (first | apply Kd.R_alloc | apply Kd.R_drewN | apply Kd.R_drew)); exact HO_5.out)); (case aS => exact (below_size (be w))); (case aL => have := LMc40.out; omega); intro v293 w42 ho hb hg hat; rw [← Ny292.out] at ho; replace HO_6 := As.mk (Kd.R_after (ok := (fun k_ => some k_ ≠ (v287 : Value).ownBlock)) (by (with_reducible repeat (first | apply Kd.R_alloc | apply Kd.R_drewN | apply Kd.R_drew)); exact Kd.R_mono HO_6.out (fun _ hk => ⟨hk.2, hk.1⟩)) hg hat); replace HO_7 := As.mk (Kd.R_after (ok := (fun k_ => some k_ ≠ (.slice (some ad291) t282.length co41 : Value).ownBlock)) (by (with_reducible repeat (first | apply Kd.R_alloc | apply Kd.R_drewN | apply Kd.R_drew)); exact Kd.R_mono HO_7.out (fun _ hk => ⟨hk.2, hk.1⟩)) hg hat); replace BK276 := As.mk (blk_grown (g := gb276) (o := .cells #[.slice A0_0 l0_0.length c0_0, .slice (some ad281) l0_1.length c0_1] 32 (0, 0)) (bx BK276.out) hg (Kd.R_ne HO_5.out BK276.out (by decide))); replace HB := As.mk (hb); have HO294 := As.mk (ho); clear HO_5; clear ho hb hg hat))
        go_roundg kj22
        case measure => have := HK1.out; have := HJ16.out; have := HJ22.out; omega
        case rel => exact ⟨(y292), (wrap64 (x8_1 + 1)), (x9_1), (by first | rfl | (simp; done) | (simp [*]; done)), (by first | rfl | (simp; done) | (simp [*]; done)), H', ⟨by have := HK1.out; have := HJ16.out; have := HJ22.out; omega⟩, ⟨by (with_reducible repeat (first | apply Kd.R_alloc | apply Kd.R_drewN | apply Kd.R_drew)); exact HO294.out⟩, ⟨by (with_reducible repeat (first | apply Kd.R_alloc | apply Kd.R_drewN | apply Kd.R_drew)); exact Kd.R_mono HO_6.out (fun _ hk => ⟨hk.2, hk.1⟩)⟩, ⟨by (with_reducible repeat (first | apply Kd.R_alloc | apply Kd.R_drewN | apply Kd.R_drew)); exact Kd.R_mono HO_7.out (fun _ hk => ⟨hk.2, hk.1⟩)⟩, ⟨bx BK276.out⟩, ⟨be w⟩⟩
       replace c37 := Bool.eq_false_iff.mpr c37
       subst c37
       rw [if_neg (show ¬ (false = true) by decide)] at H
       by_cases c43 : x8_1 < (t282.length : Int)
       rotate_left
       ·
        rw [if_neg c43] at H
        have c43b0 : decide (x8_1 < (t282.length : Int)) = false := decide_eq_false c43
        clear c43
        by_cases c58 : 0 ≤ x9_1
        rotate_left; · rw [if_neg c58] at H; exact absurd H (by simp)
        rw [if_pos c58] at H
        have c58b0 : decide (0 ≤ x9_1) = true := decide_eq_true c58
        clear c58
        by_cases c59 : x9_1 < (t286.length : Int)
        rotate_left; · rw [if_neg c59] at H; exact absurd H (by simp)
        rw [if_pos c59] at H
        have c59b0 : decide (x9_1 < (t286.length : Int)) = true := decide_eq_true c59
        clear c59
        by_cases c60 : x5_1.length < 17592186044416
        rotate_left; · rw [if_neg c60] at H; exact absurd H (by simp)
        rw [if_pos c60] at H
        have LMc60 := As.mk c60
        clear c60
        obtain ⟨y306, hy306⟩ : ∃ y_ : List Int, y_ = (x5_1 ++ [rd t286 x9_1]) := ⟨_, rfl⟩
        replace H : (spec_l07All.l0 kj22 y306 t282 t286 x8_1 (wrap64 (x9_1 + 1))) = some r := by first | (rw [hy306]; with_reducible exact H) | (have H2_ := (Option.bind_some _ _).symm.trans H; rw [hy306]; with_reducible exact H2_) | (have H2_ := (Option.bind_some _ _).symm.trans H; with_reducible exact H2_) | with_reducible exact H | (rw [hy306]; exact H) | exact H
        have Ny306 := As.mk hy306
        clear hy306
        have H' := As.mk H
        clear H
        try go_wp2
        replace HO_5 := As.mk (Kd.R_drew HO_5.out)
        replace HO_6 := As.mk (Kd.R_drew HO_6.out)
        replace HO_7 := As.mk (Kd.R_drew HO_7.out)
        replace BK276 := As.mk (blk_drew BK276.out)
        replace HB := As.mk (below_drew1 HB.out)
        obtain ⟨Ao62, co62, eo62⟩ := Kd.R_slice HO_6.out
        (first | subst eo62 | (injection eo62 with f1_ f2_ f3_; have f4_ := f1_.symm; have f5_ := f3_.symm; clear f1_ f2_ f3_; subst f4_; subst f5_))
        refine start_ (n := 15) (S := fun w' => True) (ds := []) #[O, O, O, O, O, O, O, O, O, O, O, O, O, O, O] (by kernel_rfl) rfl rfl trivial (fun hHeld => ?_); refine with_tabW spec_l07All.tab12 spec_l07All.bits12 (fun HT_ HW_ => ?_)
        generalize wc.drew = w61 at HO_5 HO_6 HO_7 BK276 HB hHeld ⊢
        refine pure_ (i := 0) (N := some 75) (v := ?_) (a' := ?_) #[I, O, O, O, O, O, O, O, O, O, O, O, O, O, O] rfl rfl (any_of HT_.out (by kernel_rfl)) (fun _ _ _ h => h) (Or.inl ⟨by rfl, ?_⟩) ?_ ?_
        rotate_left; · intro w'; go_simp; with_reducible rfl
        rotate_left; · simp only [pk, i64_w, i32_w]; rfl
        refine pure_ (i := 1) (N := some 76) (v := ?_) (a' := ?_) #[I, I, O, O, O, O, O, O, O, O, O, O, O, O, O] rfl rfl (any_of HT_.out (by kernel_rfl)) (fun _ _ _ h => h) (Or.inl ⟨by rfl, ?_⟩) ?_ ?_
        rotate_left; · intro w'; go_simp; with_reducible rfl
        rotate_left; · simp only [pk, i64_w, i32_w]; rfl
        refine pure_ (i := 2) (N := some 77) (v := ?_) (a' := ?_) #[I, I, I, O, O, O, O, O, O, O, O, O, O, O, O] rfl rfl (any_of HT_.out (by kernel_rfl)) (fun _ _ _ h => h) (Or.inl ⟨by rfl, ?_⟩) ?_ ?_
        rotate_left; · intro w'; go_simp; with_reducible rfl
        rotate_left; · simp only [pk, i64_w, i32_w]; rfl
        refine pure_ (i := 3) (N := some 78) (v := ?_) (a' := ?_) #[I, I, I, I, O, O, O, O, O, O, O, O, O, O, O] rfl rfl (any_of HT_.out (by kernel_rfl)) (fun _ _ _ h => h) (Or.inl ⟨by rfl, ?_⟩) ?_ ?_
        rotate_left; · intro w'; go_simp; with_reducible rfl
        rotate_left; · simp only [pk, i64_w, i32_w]; rfl
        refine pure_ (i := 4) (N := some 79) (v := ?_) (a' := ?_) #[I, I, I, I, I, O, O, O, O, O, O, O, O, O, O] rfl rfl (any_of HT_.out (by kernel_rfl)) (fun _ _ _ h => h) (Or.inl ⟨by rfl, ?_⟩) ?_ ?_
        rotate_left; · intro w'; go_simp; with_reducible rfl
        rotate_left; · simp only [pk, i64_w, i32_w]; rfl
        refine pure_ (i := 5) (N := some 80) (v := undef) (a' := ?_) #[I, I, I, I, I, I, O, O, O, O, O, O, O, O, O] rfl rfl (any_of HT_.out (by kernel_rfl)) (fun _ _ _ h => h) (Or.inr ⟨by rfl, rfl⟩) ?_ ?_
        rotate_left; · simp only [pk, i64_w, i32_w]; rfl
        refine pure_ (i := 6) (N := some 81) (v := undef) (a' := ?_) #[I, I, I, I, I, I, I, O, O, O, O, O, O, O, O] rfl rfl (any_of HT_.out (by kernel_rfl)) (fun _ _ _ h => h) (Or.inr ⟨by rfl, rfl⟩) ?_ ?_
        rotate_left; · simp only [pk, i64_w, i32_w]; rfl
        refine pure_ (i := 7) (N := some 82) (v := undef) (a' := ?_) #[I, I, I, I, I, I, I, I, O, O, O, O, O, O, O] rfl rfl (any_of HT_.out (by kernel_rfl)) (fun _ _ _ h => h) (Or.inr ⟨by rfl, rfl⟩) ?_ ?_
        rotate_left; · simp only [pk, i64_w, i32_w]; rfl
        refine pure_ (i := 8) (N := some 83) (v := undef) (a' := ?_) #[I, I, I, I, I, I, I, I, I, O, O, O, O, O, O] rfl rfl (any_of HT_.out (by kernel_rfl)) (fun _ _ _ h => h) (Or.inr ⟨by rfl, rfl⟩) ?_ ?_
        rotate_left; · simp only [pk, i64_w, i32_w]; rfl
        refine pure_ (i := 9) (N := some 84) (v := undef) (a' := ?_) #[I, I, I, I, I, I, I, I, I, I, O, O, O, O, O] rfl rfl (any_of HT_.out (by kernel_rfl)) (fun _ _ _ h => h) (Or.inr ⟨by rfl, rfl⟩) ?_ ?_
        rotate_left; · simp only [pk, i64_w, i32_w]; rfl
        refine pure_ (i := 10) (N := some 85) (v := undef) (a' := ?_) #[I, I, I, I, I, I, I, I, I, I, I, O, O, O, O] rfl rfl (any_of HT_.out (by kernel_rfl)) (fun _ _ _ h => h) (Or.inr ⟨by rfl, rfl⟩) ?_ ?_
        rotate_left; · simp only [pk, i64_w, i32_w]; rfl
        refine pure_ (i := 11) (N := some 86) (v := undef) (a' := ?_) #[I, I, I, I, I, I, I, I, I, I, I, I, O, O, O] rfl rfl (any_of HT_.out (by kernel_rfl)) (fun _ _ _ h => h) (Or.inr ⟨by rfl, rfl⟩) ?_ ?_
        rotate_left; · simp only [pk, i64_w, i32_w]; rfl
        refine pure_ (i := 12) (N := some 87) (v := undef) (a' := ?_) #[I, I, I, I, I, I, I, I, I, I, I, I, I, O, O] rfl rfl (any_of HT_.out (by kernel_rfl)) (fun _ _ _ h => h) (Or.inr ⟨by rfl, rfl⟩) ?_ ?_
        rotate_left; · simp only [pk, i64_w, i32_w]; rfl
        refine pure_ (i := 13) (N := some 88) (v := undef) (a' := ?_) #[I, I, I, I, I, I, I, I, I, I, I, I, I, I, O] rfl rfl (any_of HT_.out (by kernel_rfl)) (fun _ _ _ h => h) (Or.inr ⟨by rfl, rfl⟩) ?_ ?_
        rotate_left; · simp only [pk, i64_w, i32_w]; rfl
        refine pure_ (i := 14) (N := some 89) (v := ?_) (a' := ?_) #[I, I, I, I, I, I, I, I, I, I, I, I, I, I, I] rfl rfl (any_of HT_.out (by kernel_rfl)) (fun _ _ _ h => h) (Or.inl ⟨by rfl, ?_⟩) ?_ ?_
        rotate_left; · intro w'; go_simp; with_reducible rfl
        rotate_left; · simp only [pk, i64_w, i32_w]; rfl
        refine done_ (done_of HT_.out (by kernel_rfl)) ?_
        obtain ⟨Ao63, co63, eo63⟩ := Kd.R_slice HO_7.out
        subst eo63
        have p305 : 0 ≤ (x9_1 : Int) := od
        have q305 : x9_1 < (t286.length : Int) := od
        obtain ⟨ad305, e305, hx305_0⟩ := Kd.at_int (Kd.R_reads' HO_7.out).2.2 x9_1 p305 q305
        cases e305
        replace p305 := eq_true p305
        replace q305 := eq_true q305
        try go_wp2_with (first | ((with_reducible refine gate_builtin (b := .append) (xs := #[.tmp 92, .tmp 97]) rfl ?_); (try (refine gate_guard (by rfl) ?_; dsimp only)); at_builtin; refine Kd.R_append (Kd.int .i64) (w0 := w) w.heap.size rfl (.tmp 92) (.tmp 97) 45 3 (.int .i64 0) 8 rfl Tryz.underlying45 info3 rfl (by decide) (by omega) u5 x5_1 (rd t286 x9_1) [.int .i64 (rd t286 x9_1)] (fun k_ => some k_ ≠ (.slice Ao62 t282.length co62 : Value).ownBlock ∧ some k_ ≠ (.slice (some ad305) t286.length co63 : Value).ownBlock) (fun _ => False) rfl rfl ?aP (fun _ hk => hk.elim) ?aF ?aO ?aB ?aS ?aL ?_; (case aP => exact rfl); (case aB => exact (be w)); (case aF => exact (fun k_ hk => ⟨Kd.fresh' (Kd.R_lt (by (with_reducible repeat (first | apply Kd.R_alloc | apply Kd.R_drewN | apply Kd.R_drew)); exact HO_6.out)) k_ hk, Kd.fresh' (Kd.R_lt (by (with_reducible repeat (first | apply Kd.R_alloc | apply Kd.R_drewN | apply Kd.R_drew)); exact HO_7.out)) k_ hk⟩)); (case aO => exact (by (with_reducible repeat (first | apply Kd.R_alloc | apply Kd.R_drewN | apply Kd.R_drew)); exact HO_5.out)); (case aS => exact (below_size (be w))); (case aL => have := LMc60.out; omega); intro v307 w64 ho hb hg hat; rw [← Ny306.out] at ho; replace HO_6 := As.mk (Kd.R_after (ok := (fun k_ => some k_ ≠ (.slice (some ad305) t286.length co63 : Value).ownBlock)) (by (with_reducible repeat (first | apply Kd.R_alloc | apply Kd.R_drewN | apply Kd.R_drew)); exact Kd.R_mono HO_6.out (fun _ hk => ⟨hk.2, hk.1⟩)) hg hat); replace HO_7 := As.mk (Kd.R_after (ok := (fun k_ => some k_ ≠ (.slice Ao62 t282.length co62 : Value).ownBlock)) (by (with_reducible repeat (first | apply Kd.R_alloc | apply Kd.R_drewN | apply Kd.R_drew)); exact Kd.R_mono HO_7.out (fun _ hk => ⟨hk.2, hk.1⟩)) hg hat); replace BK276 := As.mk (blk_grown (g := gb276) (o := .cells #[.slice A0_0 l0_0.length c0_0, .slice (some ad281) l0_1.length c0_1] 32 (0, 0)) (bx BK276.out) hg (Kd.R_ne HO_5.out BK276.out (by decide))); replace HB := As.mk (hb); have HO308 := As.mk (ho); clear HO_5; clear ho hb hg hat))
        go_roundg kj22
        case measure => have := HK1.out; have := HJ16.out; have := HJ22.out; omega
        case rel => exact ⟨(y306), (x8_1), (wrap64 (x9_1 + 1)), (by first | rfl | (simp; done) | (simp [*]; done)), (by first | rfl | (simp; done) | (simp [*]; done)), H', ⟨by have := HK1.out; have := HJ16.out; have := HJ22.out; omega⟩, ⟨by (with_reducible repeat (first | apply Kd.R_alloc | apply Kd.R_drewN | apply Kd.R_drew)); exact HO308.out⟩, ⟨by (with_reducible repeat (first | apply Kd.R_alloc | apply Kd.R_drewN | apply Kd.R_drew)); exact Kd.R_mono HO_6.out (fun _ hk => ⟨hk.2, hk.1⟩)⟩, ⟨by (with_reducible repeat (first | apply Kd.R_alloc | apply Kd.R_drewN | apply Kd.R_drew)); exact Kd.R_mono HO_7.out (fun _ hk => ⟨hk.2, hk.1⟩)⟩, ⟨bx BK276.out⟩, ⟨be w⟩⟩
       rw [if_pos c43] at H
       have c43b0 : decide (x8_1 < (t282.length : Int)) = true := decide_eq_true c43
       clear c43
       by_cases c44 : 0 ≤ x8_1
       rotate_left; · rw [if_neg c44] at H; exact absurd H (by simp)
       rw [if_pos c44] at H
       have c44b0 : decide (0 ≤ x8_1) = true := decide_eq_true c44
       clear c44
       by_cases c45 : 0 ≤ x9_1
       rotate_left; · rw [if_neg c45] at H; exact absurd H (by simp)
       rw [if_pos c45] at H
       have c45b0 : decide (0 ≤ x9_1) = true := decide_eq_true c45
       clear c45
       by_cases c46 : x9_1 < (t286.length : Int)
       rotate_left; · rw [if_neg c46] at H; exact absurd H (by simp)
       rw [if_pos c46] at H
       have c46b0 : decide (x9_1 < (t286.length : Int)) = true := decide_eq_true c46
       clear c46
       by_cases c47 : (rd t282 x8_1) = (rd t286 x9_1)
       rotate_left
       ·
        rw [if_neg c47] at H
        have c47b0 : ((rd t282 x8_1) == (rd t286 x9_1)) = false := beq_eq_false_iff_ne.mpr c47
        have c47b1 : ((rd t282 x8_1) != (rd t286 x9_1)) = true := bne_iff_ne.mpr c47
        by_cases c53 : x5_1.length < 17592186044416
        rotate_left; · rw [if_neg c53] at H; exact absurd H (by simp)
        rw [if_pos c53] at H
        have LMc53 := As.mk c53
        clear c53
        obtain ⟨y302, hy302⟩ : ∃ y_ : List Int, y_ = (x5_1 ++ [rd t286 x9_1]) := ⟨_, rfl⟩
        replace H : (spec_l07All.l0 kj22 y302 t282 t286 x8_1 (wrap64 (x9_1 + 1))) = some r := by first | (rw [hy302]; with_reducible exact H) | (have H2_ := (Option.bind_some _ _).symm.trans H; rw [hy302]; with_reducible exact H2_) | (have H2_ := (Option.bind_some _ _).symm.trans H; with_reducible exact H2_) | with_reducible exact H | (rw [hy302]; exact H) | exact H
        have Ny302 := As.mk hy302
        clear hy302
        have H' := As.mk H
        clear H
        try go_wp2
        replace HO_5 := As.mk (Kd.R_drew HO_5.out)
        replace HO_6 := As.mk (Kd.R_drew HO_6.out)
        replace HO_7 := As.mk (Kd.R_drew HO_7.out)
        replace BK276 := As.mk (blk_drew BK276.out)
        replace HB := As.mk (below_drew1 HB.out)
        obtain ⟨Ao55, co55, eo55⟩ := Kd.R_slice HO_6.out
        (first | subst eo55 | (injection eo55 with f1_ f2_ f3_; have f4_ := f1_.symm; have f5_ := f3_.symm; clear f1_ f2_ f3_; subst f4_; subst f5_))
        have p295 : 0 ≤ (x8_1 : Int) := od
        have q295 : x8_1 < (t282.length : Int) := od
        obtain ⟨ad295, e295, hx295_0⟩ := Kd.at_int (Kd.R_reads' HO_6.out).2.2 x8_1 p295 q295
        cases e295
        replace p295 := eq_true p295
        replace q295 := eq_true q295
        obtain ⟨Ao56, co56, eo56⟩ := Kd.R_slice HO_7.out
        (first | subst eo56 | (injection eo56 with f1_ f2_ f3_; have f4_ := f1_.symm; have f5_ := f3_.symm; clear f1_ f2_ f3_; subst f4_; subst f5_))
        have p296 : 0 ≤ (x9_1 : Int) := od
        have q296 : x9_1 < (t286.length : Int) := od
        obtain ⟨ad296, e296, hx296_0⟩ := Kd.at_int (Kd.R_reads' HO_7.out).2.2 x9_1 p296 q296
        cases e296
        replace p296 := eq_true p296
        replace q296 := eq_true q296
        refine start_ (n := 15) (S := fun w' => w'.cell? (ad295.add (x8_1).toNat) = some (.int .i64 (rd t282 x8_1)) ∧ w'.cell? (ad296.add (x9_1).toNat) = some (.int .i64 (rd t286 x9_1))) (ds := []) #[O, O, O, O, O, O, O, O, O, O, O, O, O, O, O] (by kernel_rfl) rfl rfl ⟨hx295_0, hx296_0⟩ (fun hHeld => ?_); refine with_tabW spec_l07All.tab12 spec_l07All.bits12 (fun HT_ HW_ => ?_)
        generalize wc.drew = w54 at HO_5 HO_6 HO_7 BK276 HB hx295_0 hx296_0 hHeld ⊢
        refine pure_ (i := 0) (N := some 75) (v := ?_) (a' := ?_) #[I, O, O, O, O, O, O, O, O, O, O, O, O, O, O] rfl rfl (any_of HT_.out (by kernel_rfl)) (fun _ _ _ h => h) (Or.inl ⟨by rfl, ?_⟩) ?_ ?_
        rotate_left; · intro w'; go_simp; with_reducible rfl
        rotate_left; · simp only [pk, i64_w, i32_w]; rfl
        refine pure_ (i := 1) (N := some 76) (v := ?_) (a' := ?_) #[I, I, O, O, O, O, O, O, O, O, O, O, O, O, O] rfl rfl (any_of HT_.out (by kernel_rfl)) (fun _ _ _ h => h) (Or.inl ⟨by rfl, ?_⟩) ?_ ?_
        rotate_left; · intro w'; go_simp; with_reducible rfl
        rotate_left; · simp only [pk, i64_w, i32_w]; rfl
        refine pure_ (i := 2) (N := some 77) (v := ?_) (a' := ?_) #[I, I, I, O, O, O, O, O, O, O, O, O, O, O, O] rfl rfl (any_of HT_.out (by kernel_rfl)) (fun _ _ _ h => h) (Or.inl ⟨by rfl, ?_⟩) ?_ ?_
        rotate_left; · intro w'; go_simp; with_reducible rfl
        rotate_left; · simp only [pk, i64_w, i32_w]; rfl
        refine pure_ (i := 3) (N := some 78) (v := ?_) (a' := ?_) #[I, I, I, I, O, O, O, O, O, O, O, O, O, O, O] rfl rfl (any_of HT_.out (by kernel_rfl)) (fun _ _ _ h => h) (Or.inl ⟨by rfl, ?_⟩) ?_ ?_
        rotate_left; · intro w'; go_simp; with_reducible rfl
        rotate_left; · simp only [pk, i64_w, i32_w]; rfl
        refine pure_ (i := 4) (N := some 79) (v := ?_) (a' := ?_) #[I, I, I, I, I, O, O, O, O, O, O, O, O, O, O] rfl rfl (any_of HT_.out (by kernel_rfl)) (fun _ _ _ h => h) (Or.inl ⟨by rfl, ?_⟩) ?_ ?_
        rotate_left; · intro w'; go_simp; with_reducible rfl
        rotate_left; · simp only [pk, i64_w, i32_w]; rfl
        refine pure_ (i := 5) (N := some 80) (v := ?_) (a' := ?_) #[I, I, I, I, I, I, O, O, O, O, O, O, O, O, O] rfl rfl (any_of HT_.out (by kernel_rfl)) (fun _ _ _ h => h) (Or.inl ⟨by rfl, ?_⟩) ?_ ?_
        rotate_left; · intro w'; go_simp; with_reducible rfl
        rotate_left; · simp only [pk, i64_w, i32_w]; rfl
        refine pure_ (i := 6) (N := some 81) (v := ?_) (a' := ?_) #[I, I, I, I, I, I, I, O, O, O, O, O, O, O, O] rfl rfl (any_of HT_.out (by kernel_rfl)) (fun _ _ _ h => h) (Or.inl ⟨by rfl, ?_⟩) ?_ ?_
        rotate_left; · intro w'; go_simp; with_reducible rfl
        rotate_left; · simp only [pk, i64_w, i32_w]; rfl
        refine pure_ (i := 7) (N := some 82) (v := ?_) (a' := ?_) #[I, I, I, I, I, I, I, I, O, O, O, O, O, O, O] rfl rfl (any_of HT_.out (by kernel_rfl)) (fun _ _ _ h => h) (Or.inl ⟨by rfl, ?_⟩) ?_ ?_
        rotate_left; · intro w'; go_simp; with_reducible rfl
        rotate_left; · simp only [pk, i64_w, i32_w]; rfl
        refine pure_ (i := 9) (N := some 84) (v := ?_) (a' := ?_) #[I, I, I, I, I, I, I, I, O, I, O, O, O, O, O] rfl rfl (any_of HT_.out (by kernel_rfl)) (fun _ _ _ h => h) (Or.inl ⟨by rfl, ?_⟩) ?_ ?_
        rotate_left; · intro w'; go_simp; with_reducible rfl
        rotate_left; · simp only [pk, i64_w, i32_w]; rfl
        refine pure_ (i := 10) (N := some 85) (v := ?_) (a' := ?_) #[I, I, I, I, I, I, I, I, O, I, I, O, O, O, O] rfl rfl (any_of HT_.out (by kernel_rfl)) (fun _ _ _ h => h) (Or.inl ⟨by rfl, ?_⟩) ?_ ?_
        rotate_left; · intro w'; go_simp; with_reducible rfl
        rotate_left; · simp only [pk, i64_w, i32_w]; rfl
        refine pure_ (i := 11) (N := some 86) (v := ?_) (a' := ?_) #[I, I, I, I, I, I, I, I, O, I, I, I, O, O, O] rfl rfl (any_of HT_.out (by kernel_rfl)) (fun _ _ _ h => h) (Or.inl ⟨by rfl, ?_⟩) ?_ ?_
        rotate_left; · intro w'; go_simp; with_reducible rfl
        rotate_left; · simp only [pk, i64_w, i32_w]; rfl
        refine take_ (i := 8) (N := some 83) (v := ?_) (a' := ?_) #[I, I, I, I, I, I, I, I, I, I, I, I, O, O, O] rfl rfl (take_ofW HT_.out HW_.out (by kernel_rfl)) (fun _ _ _ h => h) (Or.inl ⟨by rfl, ?_⟩) hHeld ?_ ?_
        rotate_left; · rintro w' ⟨s0, s1⟩; go_simp; with_reducible rfl
        rotate_left; · simp only [pk, i64_w, i32_w]; rfl
        refine take_ (i := 12) (N := some 87) (v := ?_) (a' := ?_) #[I, I, I, I, I, I, I, I, I, I, I, I, I, O, O] rfl rfl (take_ofW HT_.out HW_.out (by kernel_rfl)) (fun _ _ _ h => h) (Or.inl ⟨by rfl, ?_⟩) hHeld ?_ ?_
        rotate_left; · rintro w' ⟨s0, s1⟩; go_simp; with_reducible rfl
        rotate_left; · simp only [pk, i64_w, i32_w]; rfl
        refine pure_ (i := 13) (N := some 88) (v := ?_) (a' := ?_) #[I, I, I, I, I, I, I, I, I, I, I, I, I, I, O] rfl rfl (any_of HT_.out (by kernel_rfl)) (fun _ _ _ h => h) (Or.inl ⟨by rfl, ?_⟩) ?_ ?_
        rotate_left; · intro w'; go_simp; with_reducible rfl
        rotate_left; · simp only [pk, i64_w, i32_w]; rfl
        refine pure_ (i := 14) (N := some 89) (v := ?_) (a' := ?_) #[I, I, I, I, I, I, I, I, I, I, I, I, I, I, I] rfl rfl (any_of HT_.out (by kernel_rfl)) (fun _ _ _ h => h) (Or.inl ⟨by rfl, ?_⟩) ?_ ?_
        rotate_left; · intro w'; go_simp; with_reducible rfl
        rotate_left; · simp only [pk, i64_w, i32_w]; rfl
        refine done_ (done_of HT_.out (by kernel_rfl)) ?_
        have p301 : 0 ≤ (x9_1 : Int) := od
        have q301 : x9_1 < (t286.length : Int) := od
        obtain ⟨ad301, e301, hx301_0⟩ := Kd.at_int (Kd.R_reads' HO_7.out).2.2 x9_1 p301 q301
        obtain rfl : ad296 = ad301 := (by injection e301)
        replace p301 := eq_true p301
        replace q301 := eq_true q301
        try go_wp2_with (first | ((with_reducible refine gate_builtin (b := .append) (xs := #[.tmp 92, .tmp 97]) rfl ?_); (try (refine gate_guard (by rfl) ?_; dsimp only)); at_builtin; refine Kd.R_append (Kd.int .i64) (w0 := w) w.heap.size rfl (.tmp 92) (.tmp 97) 45 3 (.int .i64 0) 8 rfl Tryz.underlying45 info3 rfl (by decide) (by omega) u5 x5_1 (rd t286 x9_1) [.int .i64 (rd t286 x9_1)] (fun k_ => some k_ ≠ (.slice (some ad295) t282.length co55 : Value).ownBlock ∧ some k_ ≠ (.slice (some ad296) t286.length co56 : Value).ownBlock) (fun _ => False) rfl rfl ?aP (fun _ hk => hk.elim) ?aF ?aO ?aB ?aS ?aL ?_; (case aP => exact rfl); (case aB => exact (be w)); (case aF => exact (fun k_ hk => ⟨Kd.fresh' (Kd.R_lt (by (with_reducible repeat (first | apply Kd.R_alloc | apply Kd.R_drewN | apply Kd.R_drew)); exact HO_6.out)) k_ hk, Kd.fresh' (Kd.R_lt (by (with_reducible repeat (first | apply Kd.R_alloc | apply Kd.R_drewN | apply Kd.R_drew)); exact HO_7.out)) k_ hk⟩)); (case aO => exact (by (with_reducible repeat (first | apply Kd.R_alloc | apply Kd.R_drewN | apply Kd.R_drew)); exact HO_5.out)); (case aS => exact (below_size (be w))); (case aL => have := LMc53.out; omega); intro v303 w57 ho hb hg hat; rw [← Ny302.out] at ho; replace HO_6 := As.mk (Kd.R_after (ok := (fun k_ => some k_ ≠ (.slice (some ad296) t286.length co56 : Value).ownBlock)) (by (with_reducible repeat (first | apply Kd.R_alloc | apply Kd.R_drewN | apply Kd.R_drew)); exact Kd.R_mono HO_6.out (fun _ hk => ⟨hk.2, hk.1⟩)) hg hat); replace HO_7 := As.mk (Kd.R_after (ok := (fun k_ => some k_ ≠ (.slice (some ad295) t282.length co55 : Value).ownBlock)) (by (with_reducible repeat (first | apply Kd.R_alloc | apply Kd.R_drewN | apply Kd.R_drew)); exact Kd.R_mono HO_7.out (fun _ hk => ⟨hk.2, hk.1⟩)) hg hat); replace BK276 := As.mk (blk_grown (g := gb276) (o := .cells #[.slice A0_0 l0_0.length c0_0, .slice (some ad281) l0_1.length c0_1] 32 (0, 0)) (bx BK276.out) hg (Kd.R_ne HO_5.out BK276.out (by decide))); replace HB := As.mk (hb); have HO304 := As.mk (ho); clear HO_5; clear ho hb hg hat))
        go_roundg kj22
        case measure => have := HK1.out; have := HJ16.out; have := HJ22.out; omega
        case rel => exact ⟨(y302), (x8_1), (wrap64 (x9_1 + 1)), (by first | rfl | (simp; done) | (simp [*]; done)), (by first | rfl | (simp; done) | (simp [*]; done)), H', ⟨by have := HK1.out; have := HJ16.out; have := HJ22.out; omega⟩, ⟨by (with_reducible repeat (first | apply Kd.R_alloc | apply Kd.R_drewN | apply Kd.R_drew)); exact HO304.out⟩, ⟨by (with_reducible repeat (first | apply Kd.R_alloc | apply Kd.R_drewN | apply Kd.R_drew)); exact Kd.R_mono HO_6.out (fun _ hk => ⟨hk.2, hk.1⟩)⟩, ⟨by (with_reducible repeat (first | apply Kd.R_alloc | apply Kd.R_drewN | apply Kd.R_drew)); exact Kd.R_mono HO_7.out (fun _ hk => ⟨hk.2, hk.1⟩)⟩, ⟨bx BK276.out⟩, ⟨be w⟩⟩
       rw [if_pos c47] at H
       have c47b0 : ((rd t282 x8_1) == (rd t286 x9_1)) = true := beq_iff_eq.mpr c47
       have c47b1 : ((rd t282 x8_1) != (rd t286 x9_1)) = false := bne_eq_false_iff_eq.mpr c47
       clear c47
       by_cases c48 : x5_1.length < 17592186044416
       rotate_left; · rw [if_neg c48] at H; exact absurd H (by simp)
       rw [if_pos c48] at H
       have LMc48 := As.mk c48
       clear c48
       obtain ⟨y298, hy298⟩ : ∃ y_ : List Int, y_ = (x5_1 ++ [rd t286 x9_1]) := ⟨_, rfl⟩
       replace H : (spec_l07All.l0 kj22 y298 t282 t286 (wrap64 (x8_1 + 1)) (wrap64 (x9_1 + 1))) = some r := by first | (rw [hy298]; with_reducible exact H) | (have H2_ := (Option.bind_some _ _).symm.trans H; rw [hy298]; with_reducible exact H2_) | (have H2_ := (Option.bind_some _ _).symm.trans H; with_reducible exact H2_) | with_reducible exact H | (rw [hy298]; exact H) | exact H
       have Ny298 := As.mk hy298
       clear hy298
       have H' := As.mk H
       clear H
       try go_wp2
       replace HO_5 := As.mk (Kd.R_drew HO_5.out)
       replace HO_6 := As.mk (Kd.R_drew HO_6.out)
       replace HO_7 := As.mk (Kd.R_drew HO_7.out)
       replace BK276 := As.mk (blk_drew BK276.out)
       replace HB := As.mk (below_drew1 HB.out)
       obtain ⟨Ao50, co50, eo50⟩ := Kd.R_slice HO_6.out
       (first | subst eo50 | (injection eo50 with f1_ f2_ f3_; have f4_ := f1_.symm; have f5_ := f3_.symm; clear f1_ f2_ f3_; subst f4_; subst f5_))
       have p295 : 0 ≤ (x8_1 : Int) := od
       have q295 : x8_1 < (t282.length : Int) := od
       obtain ⟨ad295, e295, hx295_0⟩ := Kd.at_int (Kd.R_reads' HO_6.out).2.2 x8_1 p295 q295
       cases e295
       replace p295 := eq_true p295
       replace q295 := eq_true q295
       obtain ⟨Ao51, co51, eo51⟩ := Kd.R_slice HO_7.out
       (first | subst eo51 | (injection eo51 with f1_ f2_ f3_; have f4_ := f1_.symm; have f5_ := f3_.symm; clear f1_ f2_ f3_; subst f4_; subst f5_))
       have p296 : 0 ≤ (x9_1 : Int) := od
       have q296 : x9_1 < (t286.length : Int) := od
       obtain ⟨ad296, e296, hx296_0⟩ := Kd.at_int (Kd.R_reads' HO_7.out).2.2 x9_1 p296 q296
       cases e296
       replace p296 := eq_true p296
       replace q296 := eq_true q296
       refine start_ (n := 15) (S := fun w' => w'.cell? (ad295.add (x8_1).toNat) = some (.int .i64 (rd t282 x8_1)) ∧ w'.cell? (ad296.add (x9_1).toNat) = some (.int .i64 (rd t286 x9_1))) (ds := []) #[O, O, O, O, O, O, O, O, O, O, O, O, O, O, O] (by kernel_rfl) rfl rfl ⟨hx295_0, hx296_0⟩ (fun hHeld => ?_); refine with_tabW spec_l07All.tab12 spec_l07All.bits12 (fun HT_ HW_ => ?_)
       generalize wc.drew = w49 at HO_5 HO_6 HO_7 BK276 HB hx295_0 hx296_0 hHeld ⊢
       refine pure_ (i := 0) (N := some 75) (v := ?_) (a' := ?_) #[I, O, O, O, O, O, O, O, O, O, O, O, O, O, O] rfl rfl (any_of HT_.out (by kernel_rfl)) (fun _ _ _ h => h) (Or.inl ⟨by rfl, ?_⟩) ?_ ?_
       rotate_left; · intro w'; go_simp; with_reducible rfl
       rotate_left; · simp only [pk, i64_w, i32_w]; rfl
       refine pure_ (i := 1) (N := some 76) (v := ?_) (a' := ?_) #[I, I, O, O, O, O, O, O, O, O, O, O, O, O, O] rfl rfl (any_of HT_.out (by kernel_rfl)) (fun _ _ _ h => h) (Or.inl ⟨by rfl, ?_⟩) ?_ ?_
       rotate_left; · intro w'; go_simp; with_reducible rfl
       rotate_left; · simp only [pk, i64_w, i32_w]; rfl
       refine pure_ (i := 2) (N := some 77) (v := ?_) (a' := ?_) #[I, I, I, O, O, O, O, O, O, O, O, O, O, O, O] rfl rfl (any_of HT_.out (by kernel_rfl)) (fun _ _ _ h => h) (Or.inl ⟨by rfl, ?_⟩) ?_ ?_
       rotate_left; · intro w'; go_simp; with_reducible rfl
       rotate_left; · simp only [pk, i64_w, i32_w]; rfl
       refine pure_ (i := 3) (N := some 78) (v := ?_) (a' := ?_) #[I, I, I, I, O, O, O, O, O, O, O, O, O, O, O] rfl rfl (any_of HT_.out (by kernel_rfl)) (fun _ _ _ h => h) (Or.inl ⟨by rfl, ?_⟩) ?_ ?_
       rotate_left; · intro w'; go_simp; with_reducible rfl
       rotate_left; · simp only [pk, i64_w, i32_w]; rfl
       refine pure_ (i := 4) (N := some 79) (v := ?_) (a' := ?_) #[I, I, I, I, I, O, O, O, O, O, O, O, O, O, O] rfl rfl (any_of HT_.out (by kernel_rfl)) (fun _ _ _ h => h) (Or.inl ⟨by rfl, ?_⟩) ?_ ?_
       rotate_left; · intro w'; go_simp; with_reducible rfl
       rotate_left; · simp only [pk, i64_w, i32_w]; rfl
       refine pure_ (i := 5) (N := some 80) (v := ?_) (a' := ?_) #[I, I, I, I, I, I, O, O, O, O, O, O, O, O, O] rfl rfl (any_of HT_.out (by kernel_rfl)) (fun _ _ _ h => h) (Or.inl ⟨by rfl, ?_⟩) ?_ ?_
       rotate_left; · intro w'; go_simp; with_reducible rfl
       rotate_left; · simp only [pk, i64_w, i32_w]; rfl
       refine pure_ (i := 6) (N := some 81) (v := ?_) (a' := ?_) #[I, I, I, I, I, I, I, O, O, O, O, O, O, O, O] rfl rfl (any_of HT_.out (by kernel_rfl)) (fun _ _ _ h => h) (Or.inl ⟨by rfl, ?_⟩) ?_ ?_
       rotate_left; · intro w'; go_simp; with_reducible rfl
       rotate_left; · simp only [pk, i64_w, i32_w]; rfl
       refine pure_ (i := 7) (N := some 82) (v := ?_) (a' := ?_) #[I, I, I, I, I, I, I, I, O, O, O, O, O, O, O] rfl rfl (any_of HT_.out (by kernel_rfl)) (fun _ _ _ h => h) (Or.inl ⟨by rfl, ?_⟩) ?_ ?_
       rotate_left; · intro w'; go_simp; with_reducible rfl
       rotate_left; · simp only [pk, i64_w, i32_w]; rfl
       refine pure_ (i := 9) (N := some 84) (v := ?_) (a' := ?_) #[I, I, I, I, I, I, I, I, O, I, O, O, O, O, O] rfl rfl (any_of HT_.out (by kernel_rfl)) (fun _ _ _ h => h) (Or.inl ⟨by rfl, ?_⟩) ?_ ?_
       rotate_left; · intro w'; go_simp; with_reducible rfl
       rotate_left; · simp only [pk, i64_w, i32_w]; rfl
       refine pure_ (i := 10) (N := some 85) (v := ?_) (a' := ?_) #[I, I, I, I, I, I, I, I, O, I, I, O, O, O, O] rfl rfl (any_of HT_.out (by kernel_rfl)) (fun _ _ _ h => h) (Or.inl ⟨by rfl, ?_⟩) ?_ ?_
       rotate_left; · intro w'; go_simp; with_reducible rfl
       rotate_left; · simp only [pk, i64_w, i32_w]; rfl
       refine pure_ (i := 11) (N := some 86) (v := ?_) (a' := ?_) #[I, I, I, I, I, I, I, I, O, I, I, I, O, O, O] rfl rfl (any_of HT_.out (by kernel_rfl)) (fun _ _ _ h => h) (Or.inl ⟨by rfl, ?_⟩) ?_ ?_
       rotate_left; · intro w'; go_simp; with_reducible rfl
       rotate_left; · simp only [pk, i64_w, i32_w]; rfl
       refine take_ (i := 8) (N := some 83) (v := ?_) (a' := ?_) #[I, I, I, I, I, I, I, I, I, I, I, I, O, O, O] rfl rfl (take_ofW HT_.out HW_.out (by kernel_rfl)) (fun _ _ _ h => h) (Or.inl ⟨by rfl, ?_⟩) hHeld ?_ ?_
       rotate_left; · rintro w' ⟨s0, s1⟩; go_simp; with_reducible rfl
       rotate_left; · simp only [pk, i64_w, i32_w]; rfl
       refine take_ (i := 12) (N := some 87) (v := ?_) (a' := ?_) #[I, I, I, I, I, I, I, I, I, I, I, I, I, O, O] rfl rfl (take_ofW HT_.out HW_.out (by kernel_rfl)) (fun _ _ _ h => h) (Or.inl ⟨by rfl, ?_⟩) hHeld ?_ ?_
       rotate_left; · rintro w' ⟨s0, s1⟩; go_simp; with_reducible rfl
       rotate_left; · simp only [pk, i64_w, i32_w]; rfl
       refine pure_ (i := 13) (N := some 88) (v := ?_) (a' := ?_) #[I, I, I, I, I, I, I, I, I, I, I, I, I, I, O] rfl rfl (any_of HT_.out (by kernel_rfl)) (fun _ _ _ h => h) (Or.inl ⟨by rfl, ?_⟩) ?_ ?_
       rotate_left; · intro w'; go_simp; with_reducible rfl
       rotate_left; · simp only [pk, i64_w, i32_w]; rfl
       refine pure_ (i := 14) (N := some 89) (v := ?_) (a' := ?_) #[I, I, I, I, I, I, I, I, I, I, I, I, I, I, I] rfl rfl (any_of HT_.out (by kernel_rfl)) (fun _ _ _ h => h) (Or.inl ⟨by rfl, ?_⟩) ?_ ?_
       rotate_left; · intro w'; go_simp; with_reducible rfl
       rotate_left; · simp only [pk, i64_w, i32_w]; rfl
       refine done_ (done_of HT_.out (by kernel_rfl)) ?_
       have p297 : 0 ≤ (x9_1 : Int) := od
       have q297 : x9_1 < (t286.length : Int) := od
       obtain ⟨ad297, e297, hx297_0⟩ := Kd.at_int (Kd.R_reads' HO_7.out).2.2 x9_1 p297 q297
       obtain rfl : ad296 = ad297 := (by injection e297)
       replace p297 := eq_true p297
       replace q297 := eq_true q297
       try go_wp2_with (first | ((with_reducible refine gate_builtin (b := .append) (xs := #[.tmp 92, .tmp 97]) rfl ?_); (try (refine gate_guard (by rfl) ?_; dsimp only)); at_builtin; refine Kd.R_append (Kd.int .i64) (w0 := w) w.heap.size rfl (.tmp 92) (.tmp 97) 45 3 (.int .i64 0) 8 rfl Tryz.underlying45 info3 rfl (by decide) (by omega) u5 x5_1 (rd t286 x9_1) [.int .i64 (rd t286 x9_1)] (fun k_ => some k_ ≠ (.slice (some ad295) t282.length co50 : Value).ownBlock ∧ some k_ ≠ (.slice (some ad296) t286.length co51 : Value).ownBlock) (fun _ => False) rfl rfl ?aP (fun _ hk => hk.elim) ?aF ?aO ?aB ?aS ?aL ?_; (case aP => exact rfl); (case aB => exact (be w)); (case aF => exact (fun k_ hk => ⟨Kd.fresh' (Kd.R_lt (by (with_reducible repeat (first | apply Kd.R_alloc | apply Kd.R_drewN | apply Kd.R_drew)); exact HO_6.out)) k_ hk, Kd.fresh' (Kd.R_lt (by (with_reducible repeat (first | apply Kd.R_alloc | apply Kd.R_drewN | apply Kd.R_drew)); exact HO_7.out)) k_ hk⟩)); (case aO => exact (by (with_reducible repeat (first | apply Kd.R_alloc | apply Kd.R_drewN | apply Kd.R_drew)); exact HO_5.out)); (case aS => exact (below_size (be w))); (case aL => have := LMc48.out; omega); intro v299 w52 ho hb hg hat; rw [← Ny298.out] at ho; replace HO_6 := As.mk (Kd.R_after (ok := (fun k_ => some k_ ≠ (.slice (some ad296) t286.length co51 : Value).ownBlock)) (by (with_reducible repeat (first | apply Kd.R_alloc | apply Kd.R_drewN | apply Kd.R_drew)); exact Kd.R_mono HO_6.out (fun _ hk => ⟨hk.2, hk.1⟩)) hg hat); replace HO_7 := As.mk (Kd.R_after (ok := (fun k_ => some k_ ≠ (.slice (some ad295) t282.length co50 : Value).ownBlock)) (by (with_reducible repeat (first | apply Kd.R_alloc | apply Kd.R_drewN | apply Kd.R_drew)); exact Kd.R_mono HO_7.out (fun _ hk => ⟨hk.2, hk.1⟩)) hg hat); replace BK276 := As.mk (blk_grown (g := gb276) (o := .cells #[.slice A0_0 l0_0.length c0_0, .slice (some ad281) l0_1.length c0_1] 32 (0, 0)) (bx BK276.out) hg (Kd.R_ne HO_5.out BK276.out (by decide))); replace HB := As.mk (hb); have HO300 := As.mk (ho); clear HO_5; clear ho hb hg hat))
       go_roundg kj22
       case measure => have := HK1.out; have := HJ16.out; have := HJ22.out; omega
       case rel => exact ⟨(y298), (wrap64 (x8_1 + 1)), (wrap64 (x9_1 + 1)), (by first | rfl | (simp; done) | (simp [*]; done)), (by first | rfl | (simp; done) | (simp [*]; done)), H', ⟨by have := HK1.out; have := HJ16.out; have := HJ22.out; omega⟩, ⟨by (with_reducible repeat (first | apply Kd.R_alloc | apply Kd.R_drewN | apply Kd.R_drew)); exact HO300.out⟩, ⟨by (with_reducible repeat (first | apply Kd.R_alloc | apply Kd.R_drewN | apply Kd.R_drew)); exact Kd.R_mono HO_6.out (fun _ hk => ⟨hk.2, hk.1⟩)⟩, ⟨by (with_reducible repeat (first | apply Kd.R_alloc | apply Kd.R_drewN | apply Kd.R_drew)); exact Kd.R_mono HO_7.out (fun _ hk => ⟨hk.2, hk.1⟩)⟩, ⟨bx BK276.out⟩, ⟨be w⟩⟩
end Go.Proofs.YtcoapbnbakmkoaaGreatDoor.PFnExactUsesOf
