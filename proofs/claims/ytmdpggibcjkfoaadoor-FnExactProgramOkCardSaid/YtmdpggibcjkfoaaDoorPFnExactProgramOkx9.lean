/- Written by a program of this session (a turned copy of the kit's print): a contract for each Go function. No condition beside those in each statement. -/
import Derived.Test.YtmdpggibcjkfoaaDoorPFnExactProgramOkx0
import Derived.Test.YtmdpggibcjkfoaaDoorPFnExactProgramOkx4
import Derived.Test.YtmdpggibcjkfoaaDoorPFnExactProgramOkx7
import Derived.Test.YtmdpggibcjkfoaaDoorPFnExactProgramOkx8
namespace Go.Proofs.YtmdpggibcjkfoaaDoor.PFnExactProgramOk
open Go.RowKit Go.Proofs.YtmdpggibcjkfoaaDoor.Given Go.Proofs.YtmdpggibcjkfoaaDoorW.PrintWords Go.Proofs.YtmdpggibcjkfoaaDoorW.PrintLast Go.Proofs.YtmdpggibcjkfoaaDoorW.PrintMore
attribute [local go_sem] max2_int min2_int max_two min_two max_three min_three max_four min_four   -- for this text's walks alone
set_option linter.unusedVariables false
set_option linter.unusedSimpArgs false

/-! ### spec_ProgramOk: function 36 -/
mutual
def spec_ProgramOk.j0 : Nat → Bool → List (S64) → List (S93) → Option (Bool)
 | 0, _, _, _ => none
 | k + 1, x18, x276000, x276001 => if x18 = true then (some false) else ((spec_l04Deeps.f k x276000 (wrap64 ((x276000.length : Int) - 1))).bind fun t278 => (if 0 ≤ (wrap64 ((t278.length : Int) - 1)) then (if (wrap64 ((t278.length : Int) - 1)) < (t278.length : Int) then (if (rd t278 (wrap64 ((t278.length : Int) - 1))) = 0 then (some false) else ((spec_l04Used.f k x276000).bind fun t282 => (spec_ProgramOk.l0 k t282 0 x276000 x276001))) else (none)) else (none)))
def spec_ProgramOk.l0 : Nat → List Int → Int → List (S64) → List (S93) → Option (Bool)
 | 0, _, _, _, _ => none
 | k + 1, x4, x5, x276000, x276001 => if x5 < (x276001.length : Int) then ((spec_l04Fn.f k x276000 x276001 x5).bind fun t285 => (if t285 = true then (if 0 ≤ x5 then (if 0 ≤ ((rd_T93 x276001 x5).f3) then (if ((rd_T93 x276001 x5).f3) < (x4.length : Int) then ((some (x4.set (((rd_T93 x276001 x5).f3) : Int).toNat (wrap64 ((rd x4 ((rd_T93 x276001 x5).f3)) + 1000)) : List Int)).bind fun y289 => (if ((rd_T93 x276001 x5).f4) ≥ 0 then (if 0 ≤ ((rd_T93 x276001 x5).f4) then (if ((rd_T93 x276001 x5).f4) < (x4.length : Int) then (spec_ProgramOk.l0 k (y289.set (((rd_T93 x276001 x5).f4) : Int).toNat (wrap64 ((rd y289 ((rd_T93 x276001 x5).f4)) + 1000))) (wrap64 (x5 + 1)) x276000 x276001) else (none)) else (none)) else (spec_ProgramOk.l0 k y289 (wrap64 (x5 + 1)) x276000 x276001))) else (none)) else (none)) else (none)) else (some false))) else (spec_ProgramOk.l1 k x4 0)
def spec_ProgramOk.l1 : Nat → List Int → Int → Option (Bool)
 | 0, _, _ => none
 | k + 1, x4, x6 => if x6 < (x4.length : Int) then (if 0 ≤ x6 then (if (rd x4 x6) = 1 then (spec_ProgramOk.l1 k x4 (wrap64 (x6 + 1))) else (if (rd x4 x6) = 1000 then (spec_ProgramOk.l1 k x4 (wrap64 (x6 + 1))) else (some false))) else (none)) else (some true)
end
def spec_ProgramOk.f (k : Nat) (l0_0 : List (S64)) (l0_1 : List (S93)) : Option (Bool) := (spec_l01In.f (l0_0.length : Int) 1 300).bind fun t276 => (if t276 = true then ((spec_l01In.f (l0_1.length : Int) 1 8).bind fun t277 => (spec_ProgramOk.j0 k (!t277) l0_0 l0_1)) else (spec_ProgramOk.j0 k true l0_0 l0_1))
theorem spec_ProgramOk.mono_l : ∀ k, (∀ y0 y1 y2, LeO (spec_ProgramOk.j0 k y0 y1 y2) (spec_ProgramOk.j0 (k + 1) y0 y1 y2)) ∧ (∀ y0 y1 y2 y3, LeO (spec_ProgramOk.l0 k y0 y1 y2 y3) (spec_ProgramOk.l0 (k + 1) y0 y1 y2 y3)) ∧ (∀ y0 y1, LeO (spec_ProgramOk.l1 k y0 y1) (spec_ProgramOk.l1 (k + 1) y0 y1))
 | 0 => ⟨fun _ _ _ r h => by simp [spec_ProgramOk.j0] at h, fun _ _ _ _ r h => by simp [spec_ProgramOk.l0] at h, fun _ _ r h => by simp [spec_ProgramOk.l1] at h⟩
 | k + 1 => by
  obtain ⟨ih0, ih1, ih2⟩ := spec_ProgramOk.mono_l k
  refine ⟨?_, ?_, ?_⟩
  ·
   intro y0 y1 y2
   unfold spec_ProgramOk.j0
   with_reducible repeat' first | exact ih0 _ _ _ | exact ih1 _ _ _ _ | exact ih2 _ _ | exact spec_l04Deeps.mono _ _ _ | exact spec_l04Fn.mono _ _ _ _ | exact spec_l04Used.mono _ _ | exact LeO.refl _ | exact LeO.none _ | refine LeO.ite ?_ ?_ | refine LeO.bind ?_ (fun _ => ?_)
  ·
   intro y0 y1 y2 y3
   unfold spec_ProgramOk.l0
   with_reducible repeat' first | exact ih0 _ _ _ | exact ih1 _ _ _ _ | exact ih2 _ _ | exact spec_l04Deeps.mono _ _ _ | exact spec_l04Fn.mono _ _ _ _ | exact spec_l04Used.mono _ _ | exact LeO.refl _ | exact LeO.none _ | refine LeO.ite ?_ ?_ | refine LeO.bind ?_ (fun _ => ?_)
  ·
   intro y0 y1
   unfold spec_ProgramOk.l1
   with_reducible repeat' first | exact ih0 _ _ _ | exact ih1 _ _ _ _ | exact ih2 _ _ | exact spec_l04Deeps.mono _ _ _ | exact spec_l04Fn.mono _ _ _ _ | exact spec_l04Used.mono _ _ | exact LeO.refl _ | exact LeO.none _ | refine LeO.ite ?_ ?_ | refine LeO.bind ?_ (fun _ => ?_)
theorem spec_ProgramOk.mono : ∀ a0 a1 k, LeO (spec_ProgramOk.f k a0 a1) (spec_ProgramOk.f (k + 1) a0 a1) := by
 intro a0 a1 k
 obtain ⟨ih0, ih1, ih2⟩ := spec_ProgramOk.mono_l k
 unfold spec_ProgramOk.f
 with_reducible repeat' first | exact ih0 _ _ _ | exact ih1 _ _ _ _ | exact ih2 _ _ | exact spec_l04Deeps.mono _ _ _ | exact spec_l04Fn.mono _ _ _ _ | exact spec_l04Used.mono _ _ | exact LeO.refl _ | exact LeO.none _ | refine LeO.ite ?_ ?_ | refine LeO.bind ?_ (fun _ => ?_)
def spec_ProgramOk.T12 : Bool × List (List Nat × List Nat) := (true, [([], []), ([], []), ([1], [1]), ([], []), ([2, 3], [2, 3]), ([4], [4]), ([5], [5]), ([], []), ([], []), ([8], [8]), ([], []), ([9, 10], [9, 10]), ([11], [11]), ([12], [12]), ([7, 13], [7, 13]), ([14], [14]), ([15], [15]), ([0, 6, 0, 1, 2, 3, 4, 5, 6, 7, 8, 9, 10, 11, 12, 13, 14, 15, 16], [0, 6]), ([17, 16, 0, 1, 2, 3, 4, 5, 6, 7, 8, 9, 10, 11, 12, 13, 14, 15, 16], [16, 17])])
def spec_ProgramOk.B12 : List Nat := [0, 0, 2, 0, 14, 30, 62, 0, 0, 256, 0, 1792, 3840, 7936, 16256, 32640, 65408, 131071, 262143]
theorem spec_ProgramOk.tab12 : rtab .any (opsOf Tryd.f36 12) = spec_ProgramOk.T12 := by kernel_rfl
theorem spec_ProgramOk.bits12 : waitsOk spec_ProgramOk.T12.2 spec_ProgramOk.B12 = true := by kernel_rfl
def spec_ProgramOk.T14 : Bool × List (List Nat × List Nat) := (true, [([], []), ([], []), ([1], [1]), ([], []), ([2, 3], [2, 3]), ([4], [4]), ([5], [5]), ([], []), ([], []), ([8], [8]), ([], []), ([9, 10], [9, 10]), ([11], [11]), ([12], [12]), ([7, 13], [7, 13]), ([14], [14]), ([15], [15]), ([0, 6, 0, 1, 2, 3, 4, 5, 6, 7, 8, 9, 10, 11, 12, 13, 14, 15, 16], [0, 6]), ([17, 16, 0, 1, 2, 3, 4, 5, 6, 7, 8, 9, 10, 11, 12, 13, 14, 15, 16], [16, 17])])
def spec_ProgramOk.B14 : List Nat := [0, 0, 2, 0, 14, 30, 62, 0, 0, 256, 0, 1792, 3840, 7936, 16256, 32640, 65408, 131071, 262143]
theorem spec_ProgramOk.tab14 : rtab .any (opsOf Tryd.f36 14) = spec_ProgramOk.T14 := by kernel_rfl
theorem spec_ProgramOk.bits14 : waitsOk spec_ProgramOk.T14.2 spec_ProgramOk.B14 = true := by kernel_rfl
set_option maxHeartbeats 8000000 in
set_option maxRecDepth 100000 in
theorem spec_ProgramOk.calls (k : Nat) (A0_0 : Option Addr) (c0_0 : Nat) (l0_0 : List (S64)) (A0_1 : Option Addr) (c0_1 : Nat) (l0_1 : List (S93)) (r : Bool) (w : World) (hr0_0 : Kd.C k64 w A0_0 l0_0.length l0_0) (hc0_0 : l0_0.length ≤ c0_0) (hr0_1 : Kd.C k93 w A0_1 l0_1.length l0_1) (hc0_1 : l0_1.length ≤ c0_1) (h : spec_ProgramOk.f k l0_0 l0_1 = some r) :
  Calls Tryd.prog 36 #[.agg #[.slice A0_0 l0_0.length c0_0, .slice A0_1 l0_1.length c0_1]] w fun e w' => e = .returned (.bool r) ∧ Below w.heap.size w w' := by
 have hu52 := Tryd.underlying52
 have HR0_0 := As.mk hr0_0
 have HC0_0 := As.mk hc0_0
 clear hr0_0 hc0_0
 have HR0_1 := As.mk hr0_1
 have HC0_1 := As.mk hc0_1
 clear hr0_1 hc0_1
 have HB := As.mk (Below.refl w.heap.size w)
 have H : ((spec_l01In.f (l0_0.length : Int) 1 300).bind fun t276 => (if t276 = true then ((spec_l01In.f (l0_1.length : Int) 1 8).bind fun t277 => (spec_ProgramOk.j0 k (!t277) l0_0 l0_1)) else (spec_ProgramOk.j0 k true l0_0 l0_1))) = some r := h
 clear h
 have HC2 := As.mk H
 clear H
 go_enter Tryd.func36, Tryd.ntmps36
 go_upto_region 1 with (first | ((with_reducible refine gate_dst (N := 1) rfl ?_); (try (refine gate_guard (by rfl) ?_; dsimp only)); refine box_event ?hg (N := 1) ?hd (cs := #[.slice A0_0 l0_0.length c0_0, .slice A0_1 l0_1.length c0_1]) (t := 52) ?hr ?_; (case hd => rfl); (case hg => rfl); (case hr => first | (go_simp; done) | (go_simp; rfl)); intro gb275 hg w3 hbox hb; have BK275 := As.mk (hbox); have GW275 := As.mk (gs w hg); have GE275 := As.mk (gs w hg); replace HB := As.mk (below_step (be w) hb); clear hb hbox hg))
 (try simp only [pk])
 go_cut [18] (fun v18 wc => ∃ (kq : Nat) (x18_1 : Bool), v18 = .bool x18_1 ∧ As (spec_ProgramOk.j0 kq x18_1 l0_0 l0_1 = some r) ∧ As (kq ≤ k) ∧ As (wc.heap[gb275]? = some (.cells #[(.slice A0_0 l0_0.length c0_0), (.slice A0_1 l0_1.length c0_1)] 52 (0, 0))) ∧ As (Below w.heap.size w wc))
 case first =>
  have H := HC2.out
  clear HC2
  obtain ⟨t276, A40, H⟩ := Option.bind_eq_some_iff.mp H
  try dsimp only at H
  have A4 := As.mk A40
  clear A40
  by_cases c5 : t276 = true
  rotate_left
  ·
   replace c5 := Bool.eq_false_iff.mpr c5
   subst c5
   rw [if_neg (show ¬ (false = true) by decide)] at H
   have H' := As.mk H
   clear H
   obtain ⟨hcz8_0, hcz8_1, hfz8_0, hfz8_1⟩ := cl2 BK275.out
   go_wp2_with (first | ((with_reducible refine gate_callee (f := 39) rfl ?_); refine goesL_ (some 10) rfl rfl Tryd.func39 (by kernel_rfl) rfl #[.int .i64 (l0_0.length : Int), .int .i64 1, .int .i64 300] rfl (by (try simp only [lm]); first | done | rfl | (simp only [List.length_drop, List.length_take]; rfl)) ?_; (with_reducible refine (spec_l01In.calls (l0_0.length : Int) 1 300 false _ A4.out).mono ?_); rintro e w' ⟨rfl, ⟨nd, rfl⟩⟩; refine ⟨_, rfl, ?_⟩))
   go_meet
   case rel => exact ⟨_, (true), (by first | rfl | (simp; done) | (simp [*]; done)), H', ⟨by first | omega | exact Nat.le_refl _⟩, ⟨bx BK275.out⟩, ⟨be w⟩⟩
  subst c5
  rw [if_pos rfl] at H
  obtain ⟨t277, A60, H⟩ := Option.bind_eq_some_iff.mp H
  try dsimp only at H
  have A6 := As.mk A60
  clear A60
  have H' := As.mk H
  clear H
  obtain ⟨hcz7_0, hcz7_1, hfz7_0, hfz7_1⟩ := cl2 BK275.out
  go_wp2_with (first | ((with_reducible refine gate_callee (f := 39) rfl ?_); refine goesL_ (some 10) rfl rfl Tryd.func39 (by kernel_rfl) rfl #[.int .i64 (l0_0.length : Int), .int .i64 1, .int .i64 300] rfl (by (try simp only [lm]); first | done | rfl | (simp only [List.length_drop, List.length_take]; rfl)) ?_; (with_reducible refine (spec_l01In.calls (l0_0.length : Int) 1 300 true _ A4.out).mono ?_); rintro e w' ⟨rfl, ⟨nd, rfl⟩⟩; refine ⟨_, rfl, ?_⟩) | (go_at_call 39; (with_reducible refine (spec_l01In.calls (l0_1.length : Int) 1 8 t277 _ A6.out).mono ?_); rintro e w' ⟨rfl, ⟨nd, rfl⟩⟩))
  go_meet
  case rel => exact ⟨_, (!t277), (by first | rfl | (simp; done) | (simp [*]; done)), H', ⟨by first | omega | exact Nat.le_refl _⟩, ⟨bx BK275.out⟩, ⟨be w⟩⟩
 case rest =>
  clear HC2
  obtain ⟨kq, x18_1, rfl, HA, HJ1, BK275, HB⟩ := hcut
  cases kq with
  | zero => exact absurd HA.out (by simp [spec_ProgramOk.j0])
  | succ kj1 =>
   have H := HA.out
   clear HA
   simp only [spec_ProgramOk.j0] at H
   by_cases c9 : x18_1 = true
   ·
    subst c9
    rw [if_pos rfl] at H
    obtain rfl := Option.some.inj H
    go_wp2
    go_ret
    exact ⟨by first | rfl | (simp [errW_none, errW_some] <;> rfl) | (simp [*, errW_none, errW_some] <;> rfl), be w⟩
   replace c9 := Bool.eq_false_iff.mpr c9
   subst c9
   rw [if_neg (show ¬ (false = true) by decide)] at H
   obtain ⟨t278, A100, H⟩ := Option.bind_eq_some_iff.mp H
   try dsimp only at H
   have A10 := As.mk A100
   clear A100
   obtain ⟨ji11, hji11⟩ : ∃ j_ : Int, (wrap64 ((t278.length : Int) - 1)) = j_ := ⟨_, rfl⟩
   replace H : (if 0 ≤ (ji11) then (if (ji11) < (t278.length : Int) then (if (rd t278 (ji11)) = 0 then (some false) else ((spec_l04Used.f kj1 l0_0).bind fun t282 => (spec_ProgramOk.l0 kj1 t282 0 l0_0 l0_1))) else (none)) else (none)) = some r := by first | (rw [hji11] at H; exact H) | (simp only [hji11] at H ⊢; exact H)
   (try rw [hji11] at A10)
   have hji11w : (IntKind.i64.wrap ((t278.length : Int) - 1)) = ji11 := (i64_w _).trans hji11
   by_cases c12 : 0 ≤ (ji11)
   rotate_left
   ·
    rw [if_neg c12] at H
    exact absurd H (by simp)

   rw [if_pos c12] at H
   have c12b0 : decide (0 ≤ (ji11)) = true := decide_eq_true c12
   clear c12
   by_cases c13 : (ji11) < (t278.length : Int)
   rotate_left
   ·
    rw [if_neg c13] at H
    exact absurd H (by simp)
   rw [if_pos c13] at H
   have c13b0 : decide ((ji11) < (t278.length : Int)) = true := decide_eq_true c13
   clear c13
   by_cases c14 : (rd t278 (ji11)) = 0
   ·
    rw [if_pos c14] at H
    have c14b0 : ((rd t278 (ji11)) == 0) = true := beq_iff_eq.mpr c14
    have c14b1 : ((rd t278 (ji11)) != 0) = false := bne_eq_false_iff_eq.mpr c14
    clear c14
    obtain rfl := Option.some.inj H
    obtain ⟨hcz15_0, hcz15_1, hfz15_0, hfz15_1⟩ := cl2 BK275.out
    go_wp2_with (first | ((with_reducible refine gate_callee (f := 54) rfl ?_); refine goesL_ (some 25) rfl rfl Tryd.func54 (by kernel_rfl) rfl #[.slice A0_0 l0_0.length c0_0, .int .i64 (wrap64 ((l0_0.length : Int) - 1))] rfl (by (try simp only [lm]); first | done | rfl | (simp only [List.length_drop, List.length_take]; rfl)) ?_; (with_reducible refine (spec_l04Deeps.calls kj1 _ _ l0_0 (wrap64 ((l0_0.length : Int) - 1)) t278 _ ?side1 ?side2 A10.out).mono ?_); (case side1 => exact Kd.C_below HR0_0.out (be w)); (case side2 => exact HC0_0.out); rintro e w16 ⟨v279, rfl, ho0, hb⟩; refine ⟨_, rfl, ?_⟩; have HO280 := As.mk (Kd.R_lower ho0 (below_size (be w))); replace HB := As.mk (below_step (be w) hb); (try clear hb); (try clear hb2); (try clear hk); (try clear hi); (try clear ho0); obtain ⟨Ao17, co17, eo17⟩ := Kd.R_slice HO280.out; subst eo17; have p281 : 0 ≤ ((ji11) : Int) := of_decide_eq_true (by first | (with_reducible assumption) | assumption); have q281 : (ji11) < (t278.length : Int) := of_decide_eq_true (by first | (with_reducible assumption) | assumption); obtain ⟨ad281, e281, hx281_0⟩ := Kd.at_int (Kd.R_reads' HO280.out).2.2 (ji11) p281 q281; cases e281; replace p281 := eq_true p281; replace q281 := eq_true q281))
    go_ret
    exact ⟨by first | rfl | (simp [errW_none, errW_some] <;> rfl) | (simp only [← hji11]; first | rfl | (simp [errW_none, errW_some] <;> rfl)) | (simp [*, errW_none, errW_some] <;> rfl), be w⟩
   rw [if_neg c14] at H
   have c14b0 : ((rd t278 (ji11)) == 0) = false := beq_eq_false_iff_ne.mpr c14
   have c14b1 : ((rd t278 (ji11)) != 0) = true := bne_iff_ne.mpr c14
   obtain ⟨t282, A180, H⟩ := Option.bind_eq_some_iff.mp H
   try dsimp only at H
   have A18 := As.mk A180
   clear A180
   have H' := As.mk H
   clear H
   obtain ⟨hcz19_0, hcz19_1, hfz19_0, hfz19_1⟩ := cl2 BK275.out
   go_wp2_with (first | ((with_reducible refine gate_callee (f := 54) rfl ?_); refine goesL_ (some 25) rfl rfl Tryd.func54 (by kernel_rfl) rfl #[.slice A0_0 l0_0.length c0_0, .int .i64 (wrap64 ((l0_0.length : Int) - 1))] rfl (by (try simp only [lm]); first | done | rfl | (simp only [List.length_drop, List.length_take]; rfl)) ?_; (with_reducible refine (spec_l04Deeps.calls kj1 _ _ l0_0 (wrap64 ((l0_0.length : Int) - 1)) t278 _ ?side1 ?side2 A10.out).mono ?_); (case side1 => exact Kd.C_below HR0_0.out (be w)); (case side2 => exact HC0_0.out); rintro e w20 ⟨v279, rfl, ho0, hb⟩; refine ⟨_, rfl, ?_⟩; have HO280 := As.mk (Kd.R_lower ho0 (below_size (be w))); replace BK275 := As.mk (blk_below (bx BK275.out) hb); replace HB := As.mk (below_step (be w) hb); (try clear hb); (try clear hb2); (try clear hk); (try clear hi); (try clear ho0); obtain ⟨Ao21, co21, eo21⟩ := Kd.R_slice HO280.out; subst eo21; have p281 : 0 ≤ ((ji11) : Int) := of_decide_eq_true (by first | (with_reducible assumption) | assumption); have q281 : (ji11) < (t278.length : Int) := of_decide_eq_true (by first | (with_reducible assumption) | assumption); obtain ⟨ad281, e281, hx281_0⟩ := Kd.at_int (Kd.R_reads' HO280.out).2.2 (ji11) p281 q281; cases e281; replace p281 := eq_true p281; replace q281 := eq_true q281; obtain ⟨hcz22_0, hcz22_1, hfz22_0, hfz22_1⟩ := cl2 BK275.out) | ((with_reducible refine gate_callee (f := 73) rfl ?_); refine goesL_ (some 35) rfl rfl Tryd.func73 (by kernel_rfl) rfl #[.slice A0_0 l0_0.length c0_0] rfl (by (try simp only [lm]); first | done | rfl | (simp only [List.length_drop, List.length_take]; rfl)) ?_; (with_reducible refine (spec_l04Used.calls kj1 _ _ l0_0 t282 _ ?side1 ?side2 A18.out).mono ?_); (case side1 => exact Kd.C_below HR0_0.out (be w)); (case side2 => exact HC0_0.out); rintro e w23 ⟨v283, rfl, ho0, hb⟩; refine ⟨_, rfl, ?_⟩; have HO284 := As.mk (Kd.R_lower (Kd.R_new' ho0 (Kd.R_lt (by (with_reducible repeat (first | apply Kd.R_alloc | apply Kd.R_drewN | apply Kd.R_drew)); exact HO280.out))) (below_size (be w))); replace HO280 := As.mk (Kd.R_elder' (by (with_reducible repeat (first | apply Kd.R_alloc | apply Kd.R_drewN | apply Kd.R_drew)); exact HO280.out) (Kd.R_base ho0) hb); replace BK275 := As.mk (blk_below (bx BK275.out) hb); replace HB := As.mk (below_step (be w) hb); (try clear hb); (try clear hb2); (try clear hk); (try clear hi); (try clear ho0)))
   (try simp only [pk])
   go_loopg [5] kj1 (fun kq v5 w' => ∃ (x4_2 : List Int) (x5_2 : Int), v5 = .int .i64 x5_2 ∧ As (spec_ProgramOk.l0 kq x4_2 x5_2 l0_0 l0_1 = some r) ∧ As (kq ≤ kj1) ∧ As (Kd.R (Kd.int .i64) 3 w' w.heap.size (fun _ => True) v283 x4_2) ∧ As (w'.heap[gb275]? = some (.cells #[(.slice A0_0 l0_0.length c0_0), (.slice A0_1 l0_1.length c0_1)] 52 (0, 0))) ∧ As (Below w.heap.size w w'))
   case atStart => exact ⟨(t282), (0), (by first | rfl | (simp; done) | (simp [*]; done)), H', ⟨Nat.le_refl _⟩, ⟨by (with_reducible repeat (first | apply Kd.R_alloc | apply Kd.R_drewN | apply Kd.R_drew)); exact Kd.R_mono HO284.out (fun _ hk => trivial)⟩, ⟨bx BK275.out⟩, ⟨be w⟩⟩
   case round =>
    clear H'
    (try clear c9); (try clear c12); (try clear c12b0); (try clear c13); (try clear c13b0); (try clear c14); (try clear c14b0); (try clear c14b1); (try clear hcz19_0); (try clear hcz19_1); (try clear hcz22_0); (try clear hcz22_1); (try clear hfz19_0); (try clear hfz19_1); (try clear hfz22_0); (try clear hfz22_1); (try clear hx281_0); (try clear p281); (try clear q281)
    obtain ⟨x4_2, x5_2, rfl, HA, HK2, HO_4, BK275, HB⟩ := hrel
    cases gk with
    | zero => exact absurd HA.out (by simp [spec_ProgramOk.l0])
    | succ k2 =>
     have H := HA.out
     clear HA
     simp only [spec_ProgramOk.l0] at H
     by_cases c24 : x5_2 < (l0_1.length : Int)
     rotate_left
     ·
      rw [if_neg c24] at H
      have c24b0 : decide (x5_2 < (l0_1.length : Int)) = false := decide_eq_false c24
      clear c24
      have H' := As.mk H
      clear H
      obtain ⟨hcz52_0, hcz52_1, hfz52_0, hfz52_1⟩ := cl2 BK275.out
      go_wp2
      go_loopg [6] k2 (fun kq v6 w' => ∃ (x6_3 : Int), v6 = .int .i64 x6_3 ∧ As (spec_ProgramOk.l1 kq x4_2 x6_3 = some r) ∧ As (kq ≤ k2) ∧ As (Kd.R (Kd.int .i64) 3 w' w.heap.size (fun _ => True) v283 x4_2) ∧ As (w'.heap[gb275]? = some (.cells #[(.slice A0_0 l0_0.length c0_0), (.slice A0_1 l0_1.length c0_1)] 52 (0, 0))) ∧ As (Below w.heap.size w w'))
      case atStart => exact ⟨(0), (by first | rfl | (simp; done) | (simp [*]; done)), H', ⟨Nat.le_refl _⟩, ⟨by (with_reducible repeat (first | apply Kd.R_alloc | apply Kd.R_drewN | apply Kd.R_drew)); exact HO_4.out⟩, ⟨bx BK275.out⟩, ⟨be w⟩⟩
      case round =>
       clear H'
       (try clear c24); (try clear c24b0); (try clear hcz52_0); (try clear hcz52_1); (try clear hfz52_0); (try clear hfz52_1)
       obtain ⟨x6_3, rfl, HA, HK3, HO_4, BK275, HB⟩ := hrel
       cases gk with
       | zero => exact absurd HA.out (by simp [spec_ProgramOk.l1])
       | succ k3 =>
        have H := HA.out
        clear HA
        simp only [spec_ProgramOk.l1] at H
        by_cases c53 : x6_3 < (x4_2.length : Int)
        rotate_left
        ·
         rw [if_neg c53] at H
         have c53b0 : decide (x6_3 < (x4_2.length : Int)) = false := decide_eq_false c53
         clear c53
         obtain rfl := Option.some.inj H
         obtain ⟨Ao60, co60, eo60⟩ := Kd.R_slice HO_4.out
         subst eo60
         go_wp2
         go_ret
         exact ⟨by first | rfl | (simp [errW_none, errW_some] <;> rfl) | (simp only [← hji11]; first | rfl | (simp [errW_none, errW_some] <;> rfl)) | (simp [*, errW_none, errW_some] <;> rfl), be w⟩
        rw [if_pos c53] at H
        have c53b0 : decide (x6_3 < (x4_2.length : Int)) = true := decide_eq_true c53
        clear c53
        by_cases c54 : 0 ≤ x6_3
        rotate_left
        ·
         rw [if_neg c54] at H
         exact absurd H (by simp)
        rw [if_pos c54] at H
        have c54b0 : decide (0 ≤ x6_3) = true := decide_eq_true c54
        clear c54
        by_cases c55 : (rd x4_2 x6_3) = 1
        ·
         rw [if_pos c55] at H
         have c55b0 : ((rd x4_2 x6_3) == 1) = true := beq_iff_eq.mpr c55
         have c55b1 : ((rd x4_2 x6_3) != 1) = false := bne_eq_false_iff_eq.mpr c55
         clear c55
         have H' := As.mk H
         clear H
         obtain ⟨Ao56, co56, eo56⟩ := Kd.R_slice HO_4.out
         subst eo56
         have p295 : 0 ≤ (x6_3 : Int) := of_decide_eq_true (by first | (with_reducible assumption) | assumption)
         have q295 : x6_3 < (x4_2.length : Int) := of_decide_eq_true (by first | (with_reducible assumption) | assumption)
         obtain ⟨ad295, e295, hx295_0⟩ := Kd.at_int (Kd.R_reads' HO_4.out).2.2 x6_3 p295 q295
         cases e295
         replace p295 := eq_true p295
         replace q295 := eq_true q295
         go_wp2
         go_roundg k3
         case measure => have := HJ1.out; have := HK2.out; have := HK3.out; omega
         case rel => exact ⟨(wrap64 (x6_3 + 1)), (by first | rfl | (simp; done) | (simp [*]; done)), H', ⟨by have := HJ1.out; have := HK2.out; have := HK3.out; omega⟩, ⟨by (with_reducible repeat (first | apply Kd.R_alloc | apply Kd.R_drewN | apply Kd.R_drew)); exact HO_4.out⟩, ⟨bx BK275.out⟩, ⟨be w⟩⟩
        rw [if_neg c55] at H
        have c55b0 : ((rd x4_2 x6_3) == 1) = false := beq_eq_false_iff_ne.mpr c55
        have c55b1 : ((rd x4_2 x6_3) != 1) = true := bne_iff_ne.mpr c55
        by_cases c57 : (rd x4_2 x6_3) = 1000
        rotate_left
        ·
         rw [if_neg c57] at H
         have c57b0 : ((rd x4_2 x6_3) == 1000) = false := beq_eq_false_iff_ne.mpr c57
         have c57b1 : ((rd x4_2 x6_3) != 1000) = true := bne_iff_ne.mpr c57
         obtain rfl := Option.some.inj H
         obtain ⟨Ao59, co59, eo59⟩ := Kd.R_slice HO_4.out
         subst eo59
         have p295 : 0 ≤ (x6_3 : Int) := of_decide_eq_true (by first | (with_reducible assumption) | assumption)
         have q295 : x6_3 < (x4_2.length : Int) := of_decide_eq_true (by first | (with_reducible assumption) | assumption)
         obtain ⟨ad295, e295, hx295_0⟩ := Kd.at_int (Kd.R_reads' HO_4.out).2.2 x6_3 p295 q295
         cases e295
         replace p295 := eq_true p295
         replace q295 := eq_true q295
         have p296 : 0 ≤ (x6_3 : Int) := of_decide_eq_true (by first | (with_reducible assumption) | assumption)
         have q296 : x6_3 < (x4_2.length : Int) := of_decide_eq_true (by first | (with_reducible assumption) | assumption)
         obtain ⟨ad296, e296, hx296_0⟩ := Kd.at_int (Kd.R_reads' HO_4.out).2.2 x6_3 p296 q296
         obtain rfl : ad295 = ad296 := (by injection e296)
         replace p296 := eq_true p296
         replace q296 := eq_true q296
         go_wp2
         go_ret
         exact ⟨by first | rfl | (simp [errW_none, errW_some] <;> rfl) | (simp only [← hji11]; first | rfl | (simp [errW_none, errW_some] <;> rfl)) | (simp [*, errW_none, errW_some] <;> rfl), be w⟩
        rw [if_pos c57] at H
        have c57b0 : ((rd x4_2 x6_3) == 1000) = true := beq_iff_eq.mpr c57
        have c57b1 : ((rd x4_2 x6_3) != 1000) = false := bne_eq_false_iff_eq.mpr c57
        clear c57
        have H' := As.mk H
        clear H
        obtain ⟨Ao58, co58, eo58⟩ := Kd.R_slice HO_4.out
        subst eo58
        have p295 : 0 ≤ (x6_3 : Int) := of_decide_eq_true (by first | (with_reducible assumption) | assumption)
        have q295 : x6_3 < (x4_2.length : Int) := of_decide_eq_true (by first | (with_reducible assumption) | assumption)
        obtain ⟨ad295, e295, hx295_0⟩ := Kd.at_int (Kd.R_reads' HO_4.out).2.2 x6_3 p295 q295
        cases e295
        replace p295 := eq_true p295
        replace q295 := eq_true q295
        have p296 : 0 ≤ (x6_3 : Int) := of_decide_eq_true (by first | (with_reducible assumption) | assumption)
        have q296 : x6_3 < (x4_2.length : Int) := of_decide_eq_true (by first | (with_reducible assumption) | assumption)
        obtain ⟨ad296, e296, hx296_0⟩ := Kd.at_int (Kd.R_reads' HO_4.out).2.2 x6_3 p296 q296
        obtain rfl : ad295 = ad296 := (by injection e296)
        replace p296 := eq_true p296
        replace q296 := eq_true q296
        go_wp2
        go_roundg k3
        case measure => have := HJ1.out; have := HK2.out; have := HK3.out; omega
        case rel => exact ⟨(wrap64 (x6_3 + 1)), (by first | rfl | (simp; done) | (simp [*]; done)), H', ⟨by have := HJ1.out; have := HK2.out; have := HK3.out; omega⟩, ⟨by (with_reducible repeat (first | apply Kd.R_alloc | apply Kd.R_drewN | apply Kd.R_drew)); exact HO_4.out⟩, ⟨bx BK275.out⟩, ⟨be w⟩⟩
     rw [if_pos c24] at H
     have c24b0 : decide (x5_2 < (l0_1.length : Int)) = true := decide_eq_true c24
     clear c24
     obtain ⟨t285, A250, H⟩ := Option.bind_eq_some_iff.mp H
     try dsimp only at H
     have A25 := As.mk A250
     clear A250
     by_cases c26 : t285 = true
     rotate_left
     ·
      replace c26 := Bool.eq_false_iff.mpr c26
      subst c26
      rw [if_neg (show ¬ (false = true) by decide)] at H
      obtain rfl := Option.some.inj H
      obtain ⟨hcz50_0, hcz50_1, hfz50_0, hfz50_1⟩ := cl2 BK275.out
      go_wp2_with (first | ((with_reducible refine gate_callee (f := 74) rfl ?_); refine goesL_ (some 45) rfl rfl Tryd.func74 (by kernel_rfl) rfl #[.agg #[.slice A0_0 l0_0.length c0_0, .slice A0_1 l0_1.length c0_1], .int .i64 x5_2] rfl (by (try simp only [lm]); first | done | rfl | (simp only [List.length_drop, List.length_take]; rfl)) ?_; (with_reducible refine (spec_l04Fn.calls k2 _ _ l0_0 _ _ l0_1 x5_2 false _ ?side1 ?side2 ?side3 ?side4 A25.out).mono ?_); (case side1 => exact Kd.C_below HR0_0.out (be w)); (case side2 => exact HC0_0.out); (case side3 => exact Kd.C_below HR0_1.out (be w)); (case side4 => exact HC0_1.out); rintro e w51 ⟨rfl, hb⟩; refine ⟨_, rfl, ?_⟩; replace HB := As.mk (below_step (be w) hb); (try clear hb); (try clear hb2); (try clear hk); (try clear hi)))
      go_ret
      exact ⟨by first | rfl | (simp [errW_none, errW_some] <;> rfl) | (simp only [← hji11]; first | rfl | (simp [errW_none, errW_some] <;> rfl)) | (simp [*, errW_none, errW_some] <;> rfl), be w⟩
     subst c26
     rw [if_pos rfl] at H
     by_cases c27 : 0 ≤ x5_2
     rotate_left
     ·
      rw [if_neg c27] at H
      exact absurd H (by simp)
     rw [if_pos c27] at H
     have c27b0 : decide (0 ≤ x5_2) = true := decide_eq_true c27
     clear c27
     by_cases c28 : 0 ≤ ((rd_T93 l0_1 x5_2).f3)
     rotate_left
     ·
      rw [if_neg c28] at H
      exact absurd H (by simp)
     rw [if_pos c28] at H
     have c28b0 : decide (0 ≤ ((rd_T93 l0_1 x5_2).f3)) = true := decide_eq_true c28
     clear c28
     by_cases c29 : ((rd_T93 l0_1 x5_2).f3) < (x4_2.length : Int)
     rotate_left
     ·
      rw [if_neg c29] at H
      exact absurd H (by simp)
     rw [if_pos c29] at H
     have c29b0 : decide (((rd_T93 l0_1 x5_2).f3) < (x4_2.length : Int)) = true := decide_eq_true c29
     clear c29
     obtain ⟨y289, hy289⟩ : ∃ y_ : List Int, y_ = (x4_2.set (((rd_T93 l0_1 x5_2).f3) : Int).toNat (wrap64 ((rd x4_2 ((rd_T93 l0_1 x5_2).f3)) + 1000))) := ⟨_, rfl⟩
     replace H : (if ((rd_T93 l0_1 x5_2).f4) ≥ 0 then (if 0 ≤ ((rd_T93 l0_1 x5_2).f4) then (if ((rd_T93 l0_1 x5_2).f4) < (x4_2.length : Int) then (spec_ProgramOk.l0 k2 (y289.set (((rd_T93 l0_1 x5_2).f4) : Int).toNat (wrap64 ((rd y289 ((rd_T93 l0_1 x5_2).f4)) + 1000))) (wrap64 (x5_2 + 1)) l0_0 l0_1) else (none)) else (none)) else (spec_ProgramOk.l0 k2 y289 (wrap64 (x5_2 + 1)) l0_0 l0_1)) = some r := by first | (rw [hy289]; with_reducible exact H) | (have H2_ := (Option.bind_some _ _).symm.trans H; rw [hy289]; with_reducible exact H2_) | (have H2_ := (Option.bind_some _ _).symm.trans H; with_reducible exact H2_) | with_reducible exact H | (rw [hy289]; exact H) | exact H
     have Ny289 := As.mk hy289
     clear hy289
     by_cases c31 : ((rd_T93 l0_1 x5_2).f4) ≥ 0
     rotate_left
     ·
      rw [if_neg c31] at H
      have c31b0 : decide (0 ≤ ((rd_T93 l0_1 x5_2).f4)) = false := decide_eq_false c31
      clear c31
      have H' := As.mk H
      clear H
      obtain ⟨hcz44_0, hcz44_1, hfz44_0, hfz44_1⟩ := cl2 BK275.out
      try go_wp2_with (first | ((with_reducible refine gate_callee (f := 74) rfl ?_); refine goesL_ (some 45) rfl rfl Tryd.func74 (by kernel_rfl) rfl #[.agg #[.slice A0_0 l0_0.length c0_0, .slice A0_1 l0_1.length c0_1], .int .i64 x5_2] rfl (by (try simp only [lm]); first | done | rfl | (simp only [List.length_drop, List.length_take]; rfl)) ?_; (with_reducible refine (spec_l04Fn.calls k2 _ _ l0_0 _ _ l0_1 x5_2 true _ ?side1 ?side2 ?side3 ?side4 A25.out).mono ?_); (case side1 => exact Kd.C_below HR0_0.out (be w)); (case side2 => exact HC0_0.out); (case side3 => exact Kd.C_below HR0_1.out (be w)); (case side4 => exact HC0_1.out); rintro e w45 ⟨rfl, hb⟩; refine ⟨_, rfl, ?_⟩; replace HO_4 := As.mk (Kd.R_below (by (with_reducible repeat (first | apply Kd.R_alloc | apply Kd.R_drewN | apply Kd.R_drew)); exact HO_4.out) hb); replace BK275 := As.mk (blk_below (bx BK275.out) hb); replace HB := As.mk (below_step (be w) hb); (try clear hb); (try clear hb2); (try clear hk); (try clear hi)))
      replace HO_4 := As.mk (Kd.R_drew HO_4.out)
      replace BK275 := As.mk (blk_drew BK275.out)
      replace HB := As.mk (below_drew1 HB.out)
      have p286 : 0 ≤ (x5_2 : Int) := of_decide_eq_true (by first | (with_reducible assumption) | assumption)
      have q286 : x5_2 < (l0_1.length : Int) := of_decide_eq_true (by first | (with_reducible assumption) | assumption)
      obtain ⟨ad286, A286_1, c286_1, e286, hx286_0, hx286_1, hx286_2, hx286_3, hx286_4, hl286_1, hi286_1⟩ := at_T93 HR0_1.out x5_2 p286 q286
      have hw286_4 := hx286_4
      have hw286_3 := hx286_3
      have hw286_2 := hx286_2
      have hw286_1 := hx286_1
      have hw286_0 := hx286_0
      cases e286
      replace hx286_0 := ce HB.out hx286_0
      replace hx286_1 := ce HB.out hx286_1
      replace hx286_2 := ce HB.out hx286_2
      replace hx286_3 := ce HB.out hx286_3
      replace hx286_4 := ce HB.out hx286_4
      have HR286_1 := As.mk hi286_1
      have HC286_1 := As.mk hl286_1
      clear hi286_1 hl286_1
      replace p286 := eq_true p286
      replace q286 := eq_true q286
      have p287 : 0 ≤ (x5_2 : Int) := of_decide_eq_true (by first | (with_reducible assumption) | assumption)
      have q287 : x5_2 < (l0_1.length : Int) := of_decide_eq_true (by first | (with_reducible assumption) | assumption)
      obtain ⟨ad287, A287_1, c287_1, e287, hx287_0, hx287_1, hx287_2, hx287_3, hx287_4, hl287_1, hi287_1⟩ := at_T93 HR0_1.out x5_2 p287 q287
      have hw287_4 := hx287_4
      have hw287_3 := hx287_3
      have hw287_2 := hx287_2
      have hw287_1 := hx287_1
      have hw287_0 := hx287_0
      obtain rfl : ad286 = ad287 := (by injection e287)
      replace hx287_0 := ce HB.out hx287_0
      replace hx287_1 := ce HB.out hx287_1
      replace hx287_2 := ce HB.out hx287_2
      replace hx287_3 := ce HB.out hx287_3
      replace hx287_4 := ce HB.out hx287_4
      have HR287_1 := As.mk hi287_1
      have HC287_1 := As.mk hl287_1
      clear hi287_1 hl287_1
      replace p287 := eq_true p287
      replace q287 := eq_true q287
      have ea_ := Option.some.inj (hx286_1.symm.trans hx287_1)
      injection ea_ with ea_ en_ ec_
      subst ea_
      subst ec_
      clear en_
      obtain ⟨Ao47, co47, eo47⟩ := Kd.R_slice HO_4.out
      (first | subst eo47 | (injection eo47 with f1_ f2_ f3_; have f4_ := f1_.symm; have f5_ := f3_.symm; clear f1_ f2_ f3_; subst f4_; subst f5_))
      have p288 : 0 ≤ (((rd_T93 l0_1 x5_2).f3) : Int) := of_decide_eq_true (by first | (with_reducible assumption) | assumption)
      have q288 : ((rd_T93 l0_1 x5_2).f3) < (x4_2.length : Int) := of_decide_eq_true (by first | (with_reducible assumption) | assumption)
      obtain ⟨ad288, e288, hx288_0⟩ := Kd.at_int (Kd.R_reads' HO_4.out).2.2 ((rd_T93 l0_1 x5_2).f3) p288 q288
      cases e288
      replace p288 := eq_true p288
      replace q288 := eq_true q288
      have p30 : 0 ≤ (((rd_T93 l0_1 x5_2).f3) : Int) := of_decide_eq_true (by first | (with_reducible assumption) | assumption)
      have q30 : (((rd_T93 l0_1 x5_2).f3) : Int) < ((x4_2.length : Int) : Int) := of_decide_eq_true (by first | (with_reducible assumption) | assumption)
      obtain ⟨go30, co30, eo30, gb30, gl30, cl30, HG30⟩ := Kd.R_form HO_4.out (by omega)
      (first | cases eo30 | (injection eo30 with ea_ en_ ec_; (first | subst ea_ | (injection ea_ with ea_; subst ea_)); subst ec_; clear en_))
      have GB30 := As.mk gb30
      have GG30 := As.mk HG30
      clear gb30 gl30 HG30
      (first | simp only [add_plain] at hx288_0 | skip)
      obtain ⟨hx30_0, hf30_0⟩ := Kd.R_celln 0 HO_4.out (((rd_T93 l0_1 x5_2).f3) : Int) p30 q30
      replace p30 := eq_true p30
      replace q30 := eq_true q30
      have HP48 := Kd.R_putn HO_4.out (((rd_T93 l0_1 x5_2).f3) : Int) (wrap64 ((rd x4_2 ((rd_T93 l0_1 x5_2).f3)) + 1000))
      rw [← Ny289.out] at HP48
      have HQ48 := As.mk HP48
      clear HP48
      refine start_ (n := 19) (S := fun w' => w'.cell? ⟨gb275, 0, none⟩ = some (.slice A0_0 l0_0.length c0_0) ∧ w'.cell? ⟨gb275, 1, none⟩ = some (.slice (some ad286) l0_1.length c0_1) ∧ w'.cell? (ad286.add ((x5_2).toNat * 5)) = some (.string ((rd_T93 l0_1 x5_2).f0)) ∧ w'.cell? ⟨(ad286.add ((x5_2).toNat * 5)).block, (ad286.add ((x5_2).toNat * 5)).off + 1, none⟩ = some (.slice A286_1 ((rd_T93 l0_1 x5_2).f1).length c286_1) ∧ w'.cell? ⟨(ad286.add ((x5_2).toNat * 5)).block, (ad286.add ((x5_2).toNat * 5)).off + 2, none⟩ = some (.int .i64 ((rd_T93 l0_1 x5_2).f2)) ∧ w'.cell? ⟨(ad286.add ((x5_2).toNat * 5)).block, (ad286.add ((x5_2).toNat * 5)).off + 3, none⟩ = some (.int .i64 ((rd_T93 l0_1 x5_2).f3)) ∧ w'.cell? ⟨(ad286.add ((x5_2).toNat * 5)).block, (ad286.add ((x5_2).toNat * 5)).off + 4, none⟩ = some (.int .i64 ((rd_T93 l0_1 x5_2).f4)) ∧ w'.cell? (ad286.add ((x5_2).toNat * 5)) = some (.string ((rd_T93 l0_1 x5_2).f0)) ∧ w'.cell? ⟨(ad286.add ((x5_2).toNat * 5)).block, (ad286.add ((x5_2).toNat * 5)).off + 1, none⟩ = some (.slice A286_1 ((rd_T93 l0_1 x5_2).f1).length c286_1) ∧ w'.cell? ⟨(ad286.add ((x5_2).toNat * 5)).block, (ad286.add ((x5_2).toNat * 5)).off + 2, none⟩ = some (.int .i64 ((rd_T93 l0_1 x5_2).f2)) ∧ w'.cell? ⟨(ad286.add ((x5_2).toNat * 5)).block, (ad286.add ((x5_2).toNat * 5)).off + 3, none⟩ = some (.int .i64 ((rd_T93 l0_1 x5_2).f3)) ∧ w'.cell? ⟨(ad286.add ((x5_2).toNat * 5)).block, (ad286.add ((x5_2).toNat * 5)).off + 4, none⟩ = some (.int .i64 ((rd_T93 l0_1 x5_2).f4)) ∧ w'.cell? ⟨go30, (((rd_T93 l0_1 x5_2).f3)).toNat, none⟩ = some (.int .i64 (rd x4_2 ((rd_T93 l0_1 x5_2).f3)))) (ds := [18]) #[O, O, O, O, O, O, O, O, O, O, O, O, O, O, O, O, O, O, O] (by kernel_rfl) rfl rfl ⟨(blk_cell BK275.out 0).trans rfl, (blk_cell BK275.out 1).trans rfl, (ce HB.out hw286_0 :), (ce HB.out hw286_1 :), (ce HB.out hw286_2 :), (ce HB.out hw286_3 :), (ce HB.out hw286_4 :), (ce HB.out hw287_0 :), (ce HB.out hw287_1 :), (ce HB.out hw287_2 :), (ce HB.out hw287_3 :), (ce HB.out hw287_4 :), hx288_0⟩ (fun hHeld => ?_); refine with_tabW spec_ProgramOk.tab12 spec_ProgramOk.bits12 (fun HT_ HW_ => ?_)
      generalize w45.drew = w46 at HO_4 BK275 HB GG30 HQ48 HR286_1 HR287_1 hf30_0 hx286_0 hx286_1 hx286_2 hx286_3 hx286_4 hx287_0 hx287_1 hx287_2 hx287_3 hx287_4 hx288_0 hx30_0 hHeld ⊢
      refine pure_ (i := 0) (N := some 47) (v := ?_) (a' := ?_) #[I, O, O, O, O, O, O, O, O, O, O, O, O, O, O, O, O, O, O] rfl rfl (any_of HT_.out (by kernel_rfl)) (fun _ _ _ h => h) (Or.inl ⟨by rfl, ?_⟩) ?_ ?_
      rotate_left
      ·
       intro w'
       go_simp
       with_reducible rfl
      rotate_left
      ·
       simp only [pk, i64_w, i32_w]
       rfl
      refine pure_ (i := 1) (N := some 48) (v := ?_) (a' := ?_) #[I, I, O, O, O, O, O, O, O, O, O, O, O, O, O, O, O, O, O] rfl rfl (any_of HT_.out (by kernel_rfl)) (fun _ _ _ h => h) (Or.inl ⟨by rfl, ?_⟩) ?_ ?_
      rotate_left
      ·
       intro w'
       go_simp
       with_reducible rfl
      rotate_left
      ·
       simp only [pk, i64_w, i32_w]
       rfl
      refine pure_ (i := 3) (N := some 50) (v := ?_) (a' := ?_) #[I, I, O, I, O, O, O, O, O, O, O, O, O, O, O, O, O, O, O] rfl rfl (any_of HT_.out (by kernel_rfl)) (fun _ _ _ h => h) (Or.inl ⟨by rfl, ?_⟩) ?_ ?_
      rotate_left
      ·
       intro w'
       go_simp
       with_reducible rfl
      rotate_left
      ·
       simp only [pk, i64_w, i32_w]
       rfl
      refine pure_ (i := 7) (N := some 54) (v := ?_) (a' := ?_) #[I, I, O, I, O, O, O, I, O, O, O, O, O, O, O, O, O, O, O] rfl rfl (any_of HT_.out (by kernel_rfl)) (fun _ _ _ h => h) (Or.inl ⟨by rfl, ?_⟩) ?_ ?_
      rotate_left
      ·
       intro w'
       go_simp
       with_reducible rfl
      rotate_left
      ·
       simp only [pk, i64_w, i32_w]
       rfl
      refine pure_ (i := 8) (N := some 55) (v := ?_) (a' := ?_) #[I, I, O, I, O, O, O, I, I, O, O, O, O, O, O, O, O, O, O] rfl rfl (any_of HT_.out (by kernel_rfl)) (fun _ _ _ h => h) (Or.inl ⟨by rfl, ?_⟩) ?_ ?_
      rotate_left
      ·
       intro w'
       go_simp
       with_reducible rfl
      rotate_left
      ·
       simp only [pk, i64_w, i32_w]
       rfl
      refine pure_ (i := 10) (N := some 57) (v := ?_) (a' := ?_) #[I, I, O, I, O, O, O, I, I, O, I, O, O, O, O, O, O, O, O] rfl rfl (any_of HT_.out (by kernel_rfl)) (fun _ _ _ h => h) (Or.inl ⟨by rfl, ?_⟩) ?_ ?_
      rotate_left
      ·
       intro w'
       go_simp
       with_reducible rfl
      rotate_left
      ·
       simp only [pk, i64_w, i32_w]
       rfl
      refine take_ (i := 2) (N := some 49) (v := ?_) (a' := ?_) #[I, I, I, I, O, O, O, I, I, O, I, O, O, O, O, O, O, O, O] rfl rfl (take_ofW HT_.out HW_.out (by kernel_rfl)) (fun _ _ _ h => h) (Or.inl ⟨by rfl, ?_⟩) hHeld ?_ ?_
      rotate_left
      ·
       rintro w' ⟨s0, s1, s2, s3, s4, s5, s6, s7, s8, s9, s10, s11, s12⟩
       go_simp
       with_reducible rfl
      rotate_left
      ·
       simp only [pk, i64_w, i32_w]
       rfl
      refine pure_ (i := 4) (N := some 51) (v := ?_) (a' := ?_) #[I, I, I, I, I, O, O, I, I, O, I, O, O, O, O, O, O, O, O] rfl rfl (any_of HT_.out (by kernel_rfl)) (fun _ _ _ h => h) (Or.inl ⟨by rfl, ?_⟩) ?_ ?_
      rotate_left
      ·
       intro w'
       go_simp
       with_reducible rfl
      rotate_left
      ·
       simp only [pk, i64_w, i32_w]
       rfl
      refine pure_ (i := 5) (N := some 52) (v := ?_) (a' := ?_) #[I, I, I, I, I, I, O, I, I, O, I, O, O, O, O, O, O, O, O] rfl rfl (any_of HT_.out (by kernel_rfl)) (fun _ _ _ h => h) (Or.inl ⟨by rfl, ?_⟩) ?_ ?_
      rotate_left
      ·
       intro w'
       go_simp
       with_reducible rfl
      rotate_left
      ·
       simp only [pk, i64_w, i32_w]
       rfl
      refine take_ (i := 6) (N := some 53) (v := ?_) (a' := ?_) #[I, I, I, I, I, I, I, I, I, O, I, O, O, O, O, O, O, O, O] rfl rfl (take_ofW HT_.out HW_.out (by kernel_rfl)) (fun _ _ _ h => h) (Or.inl ⟨by rfl, ?_⟩) hHeld ?_ ?_
      rotate_left
      ·
       rintro w' ⟨s0, s1, s2, s3, s4, s5, s6, s7, s8, s9, s10, s11, s12⟩
       go_simp
       with_reducible rfl
      rotate_left
      ·
       simp only [pk, i64_w, i32_w]
       rfl
      refine take_ (i := 9) (N := some 56) (v := ?_) (a' := ?_) #[I, I, I, I, I, I, I, I, I, I, I, O, O, O, O, O, O, O, O] rfl rfl (take_ofW HT_.out HW_.out (by kernel_rfl)) (fun _ _ _ h => h) (Or.inl ⟨by rfl, ?_⟩) hHeld ?_ ?_
      rotate_left
      ·
       rintro w' ⟨s0, s1, s2, s3, s4, s5, s6, s7, s8, s9, s10, s11, s12⟩
       go_simp
       with_reducible rfl
      rotate_left
      ·
       simp only [pk, i64_w, i32_w]
       rfl
      refine pure_ (i := 11) (N := some 58) (v := ?_) (a' := ?_) #[I, I, I, I, I, I, I, I, I, I, I, I, O, O, O, O, O, O, O] rfl rfl (any_of HT_.out (by kernel_rfl)) (fun _ _ _ h => h) (Or.inl ⟨by rfl, ?_⟩) ?_ ?_
      rotate_left
      ·
       intro w'
       go_simp
       with_reducible rfl
      rotate_left
      ·
       simp only [pk, i64_w, i32_w]
       rfl
      refine pure_ (i := 12) (N := some 59) (v := ?_) (a' := ?_) #[I, I, I, I, I, I, I, I, I, I, I, I, I, O, O, O, O, O, O] rfl rfl (any_of HT_.out (by kernel_rfl)) (fun _ _ _ h => h) (Or.inl ⟨by rfl, ?_⟩) ?_ ?_
      rotate_left
      ·
       intro w'
       go_simp
       with_reducible rfl
      rotate_left
      ·
       simp only [pk, i64_w, i32_w]
       rfl
      refine take_ (i := 13) (N := some 60) (v := ?_) (a' := ?_) #[I, I, I, I, I, I, I, I, I, I, I, I, I, I, O, O, O, O, O] rfl rfl (take_ofW HT_.out HW_.out (by kernel_rfl)) (fun _ _ _ h => h) (Or.inl ⟨by rfl, ?_⟩) hHeld ?_ ?_
      rotate_left
      ·
       rintro w' ⟨s0, s1, s2, s3, s4, s5, s6, s7, s8, s9, s10, s11, s12⟩
       go_simp
       with_reducible rfl
      rotate_left
      ·
       simp only [pk, i64_w, i32_w]
       rfl
      refine pure_ (i := 14) (N := some 61) (v := ?_) (a' := ?_) #[I, I, I, I, I, I, I, I, I, I, I, I, I, I, I, O, O, O, O] rfl rfl (any_of HT_.out (by kernel_rfl)) (fun _ _ _ h => h) (Or.inl ⟨by rfl, ?_⟩) ?_ ?_
      rotate_left
      ·
       intro w'
       go_simp
       with_reducible rfl
      rotate_left
      ·
       simp only [pk, i64_w, i32_w]
       rfl
      refine take_ (i := 15) (N := some 62) (v := ?_) (a' := ?_) #[I, I, I, I, I, I, I, I, I, I, I, I, I, I, I, I, O, O, O] rfl rfl (take_ofW HT_.out HW_.out (by kernel_rfl)) (fun _ _ _ h => h) (Or.inl ⟨by rfl, ?_⟩) hHeld ?_ ?_
      rotate_left
      ·
       rintro w' ⟨s0, s1, s2, s3, s4, s5, s6, s7, s8, s9, s10, s11, s12⟩
       go_simp
       with_reducible rfl
      rotate_left
      ·
       simp only [pk, i64_w, i32_w]
       rfl
      refine pure_ (i := 16) (N := some 63) (v := ?_) (a' := ?_) #[I, I, I, I, I, I, I, I, I, I, I, I, I, I, I, I, I, O, O] rfl rfl (any_of HT_.out (by kernel_rfl)) (fun _ _ _ h => h) (Or.inl ⟨by rfl, ?_⟩) ?_ ?_
      rotate_left
      ·
       intro w'
       go_simp
       with_reducible rfl
      rotate_left
      ·
       simp only [pk, i64_w, i32_w]
       rfl
      refine pure_ (i := 17) (N := some 64) (v := ?_) (a' := ?_) #[I, I, I, I, I, I, I, I, I, I, I, I, I, I, I, I, I, I, O] rfl rfl (any_of HT_.out (by kernel_rfl)) (fun _ _ _ h => h) (Or.inl ⟨by rfl, ?_⟩) ?_ ?_
      rotate_left
      ·
       intro w'
       go_simp
       with_reducible rfl
      rotate_left
      ·
       simp only [pk, i64_w, i32_w]
       rfl
      refine last_ (i := 18) (N := none) #[I, I, I, I, I, I, I, I, I, I, I, I, I, I, I, I, I, I, I] rfl rfl (one_of HT_.out (by kernel_rfl)) (by decide) (fun K hK => ?_)
      refine skip_ (w1 := ?_) (by rfl) rfl ?_ ?_
      rotate_left
      ·
       go_simp
       rfl
      refine hK.out _ _ ?_
      clear hK K
      refine done_ (done_of HT_.out (by kernel_rfl)) ?_
      obtain ⟨hcz49_0, hcz49_1, hfz49_0, hfz49_1⟩ := cl2 BK275.out
      have p290 : 0 ≤ (x5_2 : Int) := of_decide_eq_true (by first | (with_reducible assumption) | assumption)
      have q290 : x5_2 < (l0_1.length : Int) := of_decide_eq_true (by first | (with_reducible assumption) | assumption)
      obtain ⟨ad290, A290_1, c290_1, e290, hx290_0, hx290_1, hx290_2, hx290_3, hx290_4, hl290_1, hi290_1⟩ := at_T93 HR0_1.out x5_2 p290 q290
      obtain rfl : ad286 = ad290 := (by injection e290)
      have hn290_0 : ad286.block ≠ go30 := (by first | exact nb2 hx290_0 GB30.out | exact nb1 hx290_0 GB30.out)
      replace hx290_0 := ce HB.out hx290_0
      replace hx290_1 := ce HB.out hx290_1
      replace hx290_2 := ce HB.out hx290_2
      replace hx290_3 := ce HB.out hx290_3
      replace hx290_4 := ce HB.out hx290_4
      have HR290_1 := As.mk hi290_1
      have HC290_1 := As.mk hl290_1
      clear hi290_1 hl290_1
      replace hx290_0 := cf0 (j := (((rd_T93 l0_1 x5_2).f3) : Int).toNat) (.int .i64 (wrap64 ((rd x4_2 ((rd_T93 l0_1 x5_2).f3)) + 1000))) hx290_0 hn290_0
      replace hx290_1 := cf1 (j := (((rd_T93 l0_1 x5_2).f3) : Int).toNat) (.int .i64 (wrap64 ((rd x4_2 ((rd_T93 l0_1 x5_2).f3)) + 1000))) hx290_1 hn290_0
      replace hx290_2 := cf1 (j := (((rd_T93 l0_1 x5_2).f3) : Int).toNat) (.int .i64 (wrap64 ((rd x4_2 ((rd_T93 l0_1 x5_2).f3)) + 1000))) hx290_2 hn290_0
      replace hx290_3 := cf1 (j := (((rd_T93 l0_1 x5_2).f3) : Int).toNat) (.int .i64 (wrap64 ((rd x4_2 ((rd_T93 l0_1 x5_2).f3)) + 1000))) hx290_3 hn290_0
      replace hx290_4 := cf1 (j := (((rd_T93 l0_1 x5_2).f3) : Int).toNat) (.int .i64 (wrap64 ((rd x4_2 ((rd_T93 l0_1 x5_2).f3)) + 1000))) hx290_4 hn290_0
      clear hn290_0
      replace p290 := eq_true p290
      replace q290 := eq_true q290
      have hny275_ : gb275 ≠ go30 := (by have h_ := Kd.R_ne HO_4.out BK275.out (by decide); intro e_; exact h_ (by rw [e_]; rfl))
      have hnz275_ := Ne.symm hny275_
      try go_wp2
      go_roundg k2
      case measure => have := HJ1.out; have := HK2.out; omega
      case rel => exact ⟨(y289), (wrap64 (x5_2 + 1)), (by first | rfl | (simp; done) | (simp [*]; done)), H', ⟨by have := HJ1.out; have := HK2.out; omega⟩, ⟨by (with_reducible repeat (first | apply Kd.R_alloc | apply Kd.R_drewN | apply Kd.R_drew)); exact HQ48.out⟩, ⟨by refine pl ?_; refine blk_far ?_ (by have h_ := Kd.R_ne HO_4.out BK275.out (by decide); intro e_; exact h_ (by rw [e_]; rfl)) _; exact bx BK275.out⟩, ⟨be w⟩⟩
     rw [if_pos c31] at H
     have c31b0 : decide (0 ≤ ((rd_T93 l0_1 x5_2).f4)) = true := decide_eq_true c31
     clear c31
     by_cases c32 : 0 ≤ ((rd_T93 l0_1 x5_2).f4)
     rotate_left
     ·
      rw [if_neg c32] at H
      exact absurd H (by simp)
     rw [if_pos c32] at H
     have c32b0 : decide (0 ≤ ((rd_T93 l0_1 x5_2).f4)) = true := decide_eq_true c32
     clear c32
     by_cases c33 : ((rd_T93 l0_1 x5_2).f4) < (x4_2.length : Int)
     rotate_left
     ·
      rw [if_neg c33] at H
      exact absurd H (by simp)
     rw [if_pos c33] at H
     have c33b0 : decide (((rd_T93 l0_1 x5_2).f4) < (x4_2.length : Int)) = true := decide_eq_true c33
     clear c33
     obtain ⟨y294, hy294⟩ : ∃ y_ : List Int, y_ = (y289.set (((rd_T93 l0_1 x5_2).f4) : Int).toNat (wrap64 ((rd y289 ((rd_T93 l0_1 x5_2).f4)) + 1000))) := ⟨_, rfl⟩
     replace H : (spec_ProgramOk.l0 k2 y294 (wrap64 (x5_2 + 1)) l0_0 l0_1) = some r := by first | (rw [hy294]; with_reducible exact H) | (have H2_ := (Option.bind_some _ _).symm.trans H; rw [hy294]; with_reducible exact H2_) | (have H2_ := (Option.bind_some _ _).symm.trans H; with_reducible exact H2_) | with_reducible exact H | (rw [hy294]; exact H) | exact H
     have Ny294 := As.mk hy294
     clear hy294
     have H' := As.mk H
     clear H
     obtain ⟨hcz35_0, hcz35_1, hfz35_0, hfz35_1⟩ := cl2 BK275.out
     try go_wp2_with (first | ((with_reducible refine gate_callee (f := 74) rfl ?_); refine goesL_ (some 45) rfl rfl Tryd.func74 (by kernel_rfl) rfl #[.agg #[.slice A0_0 l0_0.length c0_0, .slice A0_1 l0_1.length c0_1], .int .i64 x5_2] rfl (by (try simp only [lm]); first | done | rfl | (simp only [List.length_drop, List.length_take]; rfl)) ?_; (with_reducible refine (spec_l04Fn.calls k2 _ _ l0_0 _ _ l0_1 x5_2 true _ ?side1 ?side2 ?side3 ?side4 A25.out).mono ?_); (case side1 => exact Kd.C_below HR0_0.out (be w)); (case side2 => exact HC0_0.out); (case side3 => exact Kd.C_below HR0_1.out (be w)); (case side4 => exact HC0_1.out); rintro e w36 ⟨rfl, hb⟩; refine ⟨_, rfl, ?_⟩; replace HO_4 := As.mk (Kd.R_below (by (with_reducible repeat (first | apply Kd.R_alloc | apply Kd.R_drewN | apply Kd.R_drew)); exact HO_4.out) hb); replace BK275 := As.mk (blk_below (bx BK275.out) hb); replace HB := As.mk (below_step (be w) hb); (try clear hb); (try clear hb2); (try clear hk); (try clear hi)))
     replace HO_4 := As.mk (Kd.R_drew HO_4.out)
     replace BK275 := As.mk (blk_drew BK275.out)
     replace HB := As.mk (below_drew1 HB.out)
     have p286 : 0 ≤ (x5_2 : Int) := of_decide_eq_true (by first | (with_reducible assumption) | assumption)
     have q286 : x5_2 < (l0_1.length : Int) := of_decide_eq_true (by first | (with_reducible assumption) | assumption)
     obtain ⟨ad286, A286_1, c286_1, e286, hx286_0, hx286_1, hx286_2, hx286_3, hx286_4, hl286_1, hi286_1⟩ := at_T93 HR0_1.out x5_2 p286 q286
     have hw286_4 := hx286_4
     have hw286_3 := hx286_3
     have hw286_2 := hx286_2
     have hw286_1 := hx286_1
     have hw286_0 := hx286_0
     cases e286
     replace hx286_0 := ce HB.out hx286_0
     replace hx286_1 := ce HB.out hx286_1
     replace hx286_2 := ce HB.out hx286_2
     replace hx286_3 := ce HB.out hx286_3
     replace hx286_4 := ce HB.out hx286_4
     have HR286_1 := As.mk hi286_1
     have HC286_1 := As.mk hl286_1
     clear hi286_1 hl286_1
     replace p286 := eq_true p286
     replace q286 := eq_true q286
     have p287 : 0 ≤ (x5_2 : Int) := of_decide_eq_true (by first | (with_reducible assumption) | assumption)
     have q287 : x5_2 < (l0_1.length : Int) := of_decide_eq_true (by first | (with_reducible assumption) | assumption)
     obtain ⟨ad287, A287_1, c287_1, e287, hx287_0, hx287_1, hx287_2, hx287_3, hx287_4, hl287_1, hi287_1⟩ := at_T93 HR0_1.out x5_2 p287 q287
     have hw287_4 := hx287_4
     have hw287_3 := hx287_3
     have hw287_2 := hx287_2
     have hw287_1 := hx287_1
     have hw287_0 := hx287_0
     obtain rfl : ad286 = ad287 := (by injection e287)
     replace hx287_0 := ce HB.out hx287_0
     replace hx287_1 := ce HB.out hx287_1
     replace hx287_2 := ce HB.out hx287_2
     replace hx287_3 := ce HB.out hx287_3
     replace hx287_4 := ce HB.out hx287_4
     have HR287_1 := As.mk hi287_1
     have HC287_1 := As.mk hl287_1
     clear hi287_1 hl287_1
     replace p287 := eq_true p287
     replace q287 := eq_true q287
     have ea_ := Option.some.inj (hx286_1.symm.trans hx287_1)
     injection ea_ with ea_ en_ ec_
     subst ea_
     subst ec_
     clear en_
     obtain ⟨Ao38, co38, eo38⟩ := Kd.R_slice HO_4.out
     (first | subst eo38 | (injection eo38 with f1_ f2_ f3_; have f4_ := f1_.symm; have f5_ := f3_.symm; clear f1_ f2_ f3_; subst f4_; subst f5_))
     have p288 : 0 ≤ (((rd_T93 l0_1 x5_2).f3) : Int) := of_decide_eq_true (by first | (with_reducible assumption) | assumption)
     have q288 : ((rd_T93 l0_1 x5_2).f3) < (x4_2.length : Int) := of_decide_eq_true (by first | (with_reducible assumption) | assumption)
     obtain ⟨ad288, e288, hx288_0⟩ := Kd.at_int (Kd.R_reads' HO_4.out).2.2 ((rd_T93 l0_1 x5_2).f3) p288 q288
     cases e288
     replace p288 := eq_true p288
     replace q288 := eq_true q288
     have p30 : 0 ≤ (((rd_T93 l0_1 x5_2).f3) : Int) := of_decide_eq_true (by first | (with_reducible assumption) | assumption)
     have q30 : (((rd_T93 l0_1 x5_2).f3) : Int) < ((x4_2.length : Int) : Int) := of_decide_eq_true (by first | (with_reducible assumption) | assumption)
     obtain ⟨go30, co30, eo30, gb30, gl30, cl30, HG30⟩ := Kd.R_form HO_4.out (by omega)
     (first | cases eo30 | (injection eo30 with ea_ en_ ec_; (first | subst ea_ | (injection ea_ with ea_; subst ea_)); subst ec_; clear en_))
     have GB30 := As.mk gb30
     have GG30 := As.mk HG30
     clear gb30 gl30 HG30
     (first | simp only [add_plain] at hx288_0 | skip)
     obtain ⟨hx30_0, hf30_0⟩ := Kd.R_celln 0 HO_4.out (((rd_T93 l0_1 x5_2).f3) : Int) p30 q30
     replace p30 := eq_true p30
     replace q30 := eq_true q30
     have HP39 := Kd.R_putn HO_4.out (((rd_T93 l0_1 x5_2).f3) : Int) (wrap64 ((rd x4_2 ((rd_T93 l0_1 x5_2).f3)) + 1000))
     rw [← Ny289.out] at HP39
     have HQ39 := As.mk HP39
     clear HP39
     refine start_ (n := 19) (S := fun w' => w'.cell? ⟨gb275, 0, none⟩ = some (.slice A0_0 l0_0.length c0_0) ∧ w'.cell? ⟨gb275, 1, none⟩ = some (.slice (some ad286) l0_1.length c0_1) ∧ w'.cell? (ad286.add ((x5_2).toNat * 5)) = some (.string ((rd_T93 l0_1 x5_2).f0)) ∧ w'.cell? ⟨(ad286.add ((x5_2).toNat * 5)).block, (ad286.add ((x5_2).toNat * 5)).off + 1, none⟩ = some (.slice A286_1 ((rd_T93 l0_1 x5_2).f1).length c286_1) ∧ w'.cell? ⟨(ad286.add ((x5_2).toNat * 5)).block, (ad286.add ((x5_2).toNat * 5)).off + 2, none⟩ = some (.int .i64 ((rd_T93 l0_1 x5_2).f2)) ∧ w'.cell? ⟨(ad286.add ((x5_2).toNat * 5)).block, (ad286.add ((x5_2).toNat * 5)).off + 3, none⟩ = some (.int .i64 ((rd_T93 l0_1 x5_2).f3)) ∧ w'.cell? ⟨(ad286.add ((x5_2).toNat * 5)).block, (ad286.add ((x5_2).toNat * 5)).off + 4, none⟩ = some (.int .i64 ((rd_T93 l0_1 x5_2).f4)) ∧ w'.cell? (ad286.add ((x5_2).toNat * 5)) = some (.string ((rd_T93 l0_1 x5_2).f0)) ∧ w'.cell? ⟨(ad286.add ((x5_2).toNat * 5)).block, (ad286.add ((x5_2).toNat * 5)).off + 1, none⟩ = some (.slice A286_1 ((rd_T93 l0_1 x5_2).f1).length c286_1) ∧ w'.cell? ⟨(ad286.add ((x5_2).toNat * 5)).block, (ad286.add ((x5_2).toNat * 5)).off + 2, none⟩ = some (.int .i64 ((rd_T93 l0_1 x5_2).f2)) ∧ w'.cell? ⟨(ad286.add ((x5_2).toNat * 5)).block, (ad286.add ((x5_2).toNat * 5)).off + 3, none⟩ = some (.int .i64 ((rd_T93 l0_1 x5_2).f3)) ∧ w'.cell? ⟨(ad286.add ((x5_2).toNat * 5)).block, (ad286.add ((x5_2).toNat * 5)).off + 4, none⟩ = some (.int .i64 ((rd_T93 l0_1 x5_2).f4)) ∧ w'.cell? ⟨go30, (((rd_T93 l0_1 x5_2).f3)).toNat, none⟩ = some (.int .i64 (rd x4_2 ((rd_T93 l0_1 x5_2).f3)))) (ds := [18]) #[O, O, O, O, O, O, O, O, O, O, O, O, O, O, O, O, O, O, O] (by kernel_rfl) rfl rfl ⟨(blk_cell BK275.out 0).trans rfl, (blk_cell BK275.out 1).trans rfl, (ce HB.out hw286_0 :), (ce HB.out hw286_1 :), (ce HB.out hw286_2 :), (ce HB.out hw286_3 :), (ce HB.out hw286_4 :), (ce HB.out hw287_0 :), (ce HB.out hw287_1 :), (ce HB.out hw287_2 :), (ce HB.out hw287_3 :), (ce HB.out hw287_4 :), hx288_0⟩ (fun hHeld => ?_); refine with_tabW spec_ProgramOk.tab12 spec_ProgramOk.bits12 (fun HT_ HW_ => ?_)
     generalize w36.drew = w37 at HO_4 BK275 HB GG30 HQ39 HR286_1 HR287_1 hf30_0 hx286_0 hx286_1 hx286_2 hx286_3 hx286_4 hx287_0 hx287_1 hx287_2 hx287_3 hx287_4 hx288_0 hx30_0 hHeld ⊢
     refine pure_ (i := 0) (N := some 47) (v := ?_) (a' := ?_) #[I, O, O, O, O, O, O, O, O, O, O, O, O, O, O, O, O, O, O] rfl rfl (any_of HT_.out (by kernel_rfl)) (fun _ _ _ h => h) (Or.inl ⟨by rfl, ?_⟩) ?_ ?_
     rotate_left
     ·
      intro w'
      go_simp
      with_reducible rfl
     rotate_left
     ·
      simp only [pk, i64_w, i32_w]
      rfl
     refine pure_ (i := 1) (N := some 48) (v := ?_) (a' := ?_) #[I, I, O, O, O, O, O, O, O, O, O, O, O, O, O, O, O, O, O] rfl rfl (any_of HT_.out (by kernel_rfl)) (fun _ _ _ h => h) (Or.inl ⟨by rfl, ?_⟩) ?_ ?_
     rotate_left
     ·
      intro w'
      go_simp
      with_reducible rfl
     rotate_left
     ·
      simp only [pk, i64_w, i32_w]
      rfl
     refine pure_ (i := 3) (N := some 50) (v := ?_) (a' := ?_) #[I, I, O, I, O, O, O, O, O, O, O, O, O, O, O, O, O, O, O] rfl rfl (any_of HT_.out (by kernel_rfl)) (fun _ _ _ h => h) (Or.inl ⟨by rfl, ?_⟩) ?_ ?_
     rotate_left
     ·
      intro w'
      go_simp
      with_reducible rfl
     rotate_left
     ·
      simp only [pk, i64_w, i32_w]
      rfl
     refine pure_ (i := 7) (N := some 54) (v := ?_) (a' := ?_) #[I, I, O, I, O, O, O, I, O, O, O, O, O, O, O, O, O, O, O] rfl rfl (any_of HT_.out (by kernel_rfl)) (fun _ _ _ h => h) (Or.inl ⟨by rfl, ?_⟩) ?_ ?_
     rotate_left
     ·
      intro w'
      go_simp
      with_reducible rfl
     rotate_left
     ·
      simp only [pk, i64_w, i32_w]
      rfl
     refine pure_ (i := 8) (N := some 55) (v := ?_) (a' := ?_) #[I, I, O, I, O, O, O, I, I, O, O, O, O, O, O, O, O, O, O] rfl rfl (any_of HT_.out (by kernel_rfl)) (fun _ _ _ h => h) (Or.inl ⟨by rfl, ?_⟩) ?_ ?_
     rotate_left
     ·
      intro w'
      go_simp
      with_reducible rfl
     rotate_left
     ·
      simp only [pk, i64_w, i32_w]
      rfl
     refine pure_ (i := 10) (N := some 57) (v := ?_) (a' := ?_) #[I, I, O, I, O, O, O, I, I, O, I, O, O, O, O, O, O, O, O] rfl rfl (any_of HT_.out (by kernel_rfl)) (fun _ _ _ h => h) (Or.inl ⟨by rfl, ?_⟩) ?_ ?_
     rotate_left
     ·
      intro w'
      go_simp
      with_reducible rfl
     rotate_left
     ·
      simp only [pk, i64_w, i32_w]
      rfl
     refine take_ (i := 2) (N := some 49) (v := ?_) (a' := ?_) #[I, I, I, I, O, O, O, I, I, O, I, O, O, O, O, O, O, O, O] rfl rfl (take_ofW HT_.out HW_.out (by kernel_rfl)) (fun _ _ _ h => h) (Or.inl ⟨by rfl, ?_⟩) hHeld ?_ ?_
     rotate_left
     ·
      rintro w' ⟨s0, s1, s2, s3, s4, s5, s6, s7, s8, s9, s10, s11, s12⟩
      go_simp
      with_reducible rfl
     rotate_left
     ·
      simp only [pk, i64_w, i32_w]
      rfl
     refine pure_ (i := 4) (N := some 51) (v := ?_) (a' := ?_) #[I, I, I, I, I, O, O, I, I, O, I, O, O, O, O, O, O, O, O] rfl rfl (any_of HT_.out (by kernel_rfl)) (fun _ _ _ h => h) (Or.inl ⟨by rfl, ?_⟩) ?_ ?_
     rotate_left
     ·
      intro w'
      go_simp
      with_reducible rfl
     rotate_left
     ·
      simp only [pk, i64_w, i32_w]
      rfl
     refine pure_ (i := 5) (N := some 52) (v := ?_) (a' := ?_) #[I, I, I, I, I, I, O, I, I, O, I, O, O, O, O, O, O, O, O] rfl rfl (any_of HT_.out (by kernel_rfl)) (fun _ _ _ h => h) (Or.inl ⟨by rfl, ?_⟩) ?_ ?_
     rotate_left
     ·
      intro w'
      go_simp
      with_reducible rfl
     rotate_left
     ·
      simp only [pk, i64_w, i32_w]
      rfl
     refine take_ (i := 6) (N := some 53) (v := ?_) (a' := ?_) #[I, I, I, I, I, I, I, I, I, O, I, O, O, O, O, O, O, O, O] rfl rfl (take_ofW HT_.out HW_.out (by kernel_rfl)) (fun _ _ _ h => h) (Or.inl ⟨by rfl, ?_⟩) hHeld ?_ ?_
     rotate_left
     ·
      rintro w' ⟨s0, s1, s2, s3, s4, s5, s6, s7, s8, s9, s10, s11, s12⟩
      go_simp
      with_reducible rfl
     rotate_left
     ·
      simp only [pk, i64_w, i32_w]
      rfl
     refine take_ (i := 9) (N := some 56) (v := ?_) (a' := ?_) #[I, I, I, I, I, I, I, I, I, I, I, O, O, O, O, O, O, O, O] rfl rfl (take_ofW HT_.out HW_.out (by kernel_rfl)) (fun _ _ _ h => h) (Or.inl ⟨by rfl, ?_⟩) hHeld ?_ ?_
     rotate_left
     ·
      rintro w' ⟨s0, s1, s2, s3, s4, s5, s6, s7, s8, s9, s10, s11, s12⟩
      go_simp
      with_reducible rfl
     rotate_left
     ·
      simp only [pk, i64_w, i32_w]
      rfl
     refine pure_ (i := 11) (N := some 58) (v := ?_) (a' := ?_) #[I, I, I, I, I, I, I, I, I, I, I, I, O, O, O, O, O, O, O] rfl rfl (any_of HT_.out (by kernel_rfl)) (fun _ _ _ h => h) (Or.inl ⟨by rfl, ?_⟩) ?_ ?_
     rotate_left
     ·
      intro w'
      go_simp
      with_reducible rfl
     rotate_left
     ·
      simp only [pk, i64_w, i32_w]
      rfl
     refine pure_ (i := 12) (N := some 59) (v := ?_) (a' := ?_) #[I, I, I, I, I, I, I, I, I, I, I, I, I, O, O, O, O, O, O] rfl rfl (any_of HT_.out (by kernel_rfl)) (fun _ _ _ h => h) (Or.inl ⟨by rfl, ?_⟩) ?_ ?_
     rotate_left
     ·
      intro w'
      go_simp
      with_reducible rfl
     rotate_left
     ·
      simp only [pk, i64_w, i32_w]
      rfl
     refine take_ (i := 13) (N := some 60) (v := ?_) (a' := ?_) #[I, I, I, I, I, I, I, I, I, I, I, I, I, I, O, O, O, O, O] rfl rfl (take_ofW HT_.out HW_.out (by kernel_rfl)) (fun _ _ _ h => h) (Or.inl ⟨by rfl, ?_⟩) hHeld ?_ ?_
     rotate_left
     ·
      rintro w' ⟨s0, s1, s2, s3, s4, s5, s6, s7, s8, s9, s10, s11, s12⟩
      go_simp
      with_reducible rfl
     rotate_left
     ·
      simp only [pk, i64_w, i32_w]
      rfl
     refine pure_ (i := 14) (N := some 61) (v := ?_) (a' := ?_) #[I, I, I, I, I, I, I, I, I, I, I, I, I, I, I, O, O, O, O] rfl rfl (any_of HT_.out (by kernel_rfl)) (fun _ _ _ h => h) (Or.inl ⟨by rfl, ?_⟩) ?_ ?_
     rotate_left
     ·
      intro w'
      go_simp
      with_reducible rfl
     rotate_left
     ·
      simp only [pk, i64_w, i32_w]
      rfl
     refine take_ (i := 15) (N := some 62) (v := ?_) (a' := ?_) #[I, I, I, I, I, I, I, I, I, I, I, I, I, I, I, I, O, O, O] rfl rfl (take_ofW HT_.out HW_.out (by kernel_rfl)) (fun _ _ _ h => h) (Or.inl ⟨by rfl, ?_⟩) hHeld ?_ ?_
     rotate_left
     ·
      rintro w' ⟨s0, s1, s2, s3, s4, s5, s6, s7, s8, s9, s10, s11, s12⟩
      go_simp
      with_reducible rfl
     rotate_left
     ·
      simp only [pk, i64_w, i32_w]
      rfl
     refine pure_ (i := 16) (N := some 63) (v := ?_) (a' := ?_) #[I, I, I, I, I, I, I, I, I, I, I, I, I, I, I, I, I, O, O] rfl rfl (any_of HT_.out (by kernel_rfl)) (fun _ _ _ h => h) (Or.inl ⟨by rfl, ?_⟩) ?_ ?_
     rotate_left
     ·
      intro w'
      go_simp
      with_reducible rfl
     rotate_left
     ·
      simp only [pk, i64_w, i32_w]
      rfl
     refine pure_ (i := 17) (N := some 64) (v := ?_) (a' := ?_) #[I, I, I, I, I, I, I, I, I, I, I, I, I, I, I, I, I, I, O] rfl rfl (any_of HT_.out (by kernel_rfl)) (fun _ _ _ h => h) (Or.inl ⟨by rfl, ?_⟩) ?_ ?_
     rotate_left
     ·
      intro w'
      go_simp
      with_reducible rfl
     rotate_left
     ·
      simp only [pk, i64_w, i32_w]
      rfl
     refine last_ (i := 18) (N := none) #[I, I, I, I, I, I, I, I, I, I, I, I, I, I, I, I, I, I, I] rfl rfl (one_of HT_.out (by kernel_rfl)) (by decide) (fun K hK => ?_)
     refine skip_ (w1 := ?_) (by rfl) rfl ?_ ?_
     rotate_left
     ·
      go_simp
      rfl
     refine hK.out _ _ ?_
     clear hK K
     refine done_ (done_of HT_.out (by kernel_rfl)) ?_
     obtain ⟨hcz40_0, hcz40_1, hfz40_0, hfz40_1⟩ := cl2 BK275.out
     have p290 : 0 ≤ (x5_2 : Int) := of_decide_eq_true (by first | (with_reducible assumption) | assumption)
     have q290 : x5_2 < (l0_1.length : Int) := of_decide_eq_true (by first | (with_reducible assumption) | assumption)
     obtain ⟨ad290, A290_1, c290_1, e290, hx290_0, hx290_1, hx290_2, hx290_3, hx290_4, hl290_1, hi290_1⟩ := at_T93 HR0_1.out x5_2 p290 q290
     obtain rfl : ad286 = ad290 := (by injection e290)
     have hn290_0 : ad286.block ≠ go30 := (by first | exact nb2 hx290_0 GB30.out | exact nb1 hx290_0 GB30.out)
     replace hx290_0 := ce HB.out hx290_0
     replace hx290_1 := ce HB.out hx290_1
     replace hx290_2 := ce HB.out hx290_2
     replace hx290_3 := ce HB.out hx290_3
     replace hx290_4 := ce HB.out hx290_4
     have HR290_1 := As.mk hi290_1
     have HC290_1 := As.mk hl290_1
     clear hi290_1 hl290_1
     replace hx290_0 := cf0 (j := (((rd_T93 l0_1 x5_2).f3) : Int).toNat) (.int .i64 (wrap64 ((rd x4_2 ((rd_T93 l0_1 x5_2).f3)) + 1000))) hx290_0 hn290_0
     replace hx290_1 := cf1 (j := (((rd_T93 l0_1 x5_2).f3) : Int).toNat) (.int .i64 (wrap64 ((rd x4_2 ((rd_T93 l0_1 x5_2).f3)) + 1000))) hx290_1 hn290_0
     replace hx290_2 := cf1 (j := (((rd_T93 l0_1 x5_2).f3) : Int).toNat) (.int .i64 (wrap64 ((rd x4_2 ((rd_T93 l0_1 x5_2).f3)) + 1000))) hx290_2 hn290_0
     replace hx290_3 := cf1 (j := (((rd_T93 l0_1 x5_2).f3) : Int).toNat) (.int .i64 (wrap64 ((rd x4_2 ((rd_T93 l0_1 x5_2).f3)) + 1000))) hx290_3 hn290_0
     replace hx290_4 := cf1 (j := (((rd_T93 l0_1 x5_2).f3) : Int).toNat) (.int .i64 (wrap64 ((rd x4_2 ((rd_T93 l0_1 x5_2).f3)) + 1000))) hx290_4 hn290_0
     clear hn290_0
     replace p290 := eq_true p290
     replace q290 := eq_true q290
     have hny275_ : gb275 ≠ go30 := (by have h_ := Kd.R_ne HO_4.out BK275.out (by decide); intro e_; exact h_ (by rw [e_]; rfl))
     have hnz275_ := Ne.symm hny275_
     try go_wp2
     have n0_ : As (Kd.R (Kd.int .i64) 3 (w37.setCell ⟨go30, (((rd_T93 l0_1 x5_2).f3) : Int).toNat, none⟩ (.int .i64 (wrap64 ((rd x4_2 ((rd_T93 l0_1 x5_2).f3)) + 1000)))) w.heap.size (fun _ => True) (.slice (some ⟨go30, 0, none⟩) x4_2.length co38) y289) := ⟨by (with_reducible repeat (first | apply Kd.R_alloc | apply Kd.R_drewN | apply Kd.R_drew)); exact HQ39.out⟩
     have n1_ : As ((w37.setCell ⟨go30, (((rd_T93 l0_1 x5_2).f3) : Int).toNat, none⟩ (.int .i64 (wrap64 ((rd x4_2 ((rd_T93 l0_1 x5_2).f3)) + 1000)))).heap[gb275]? = some (.cells #[.slice A0_0 l0_0.length c0_0, .slice (some ad286) l0_1.length c0_1] 52 (0, 0))) := ⟨by refine pl ?_; refine blk_far ?_ (by have h_ := Kd.R_ne HO_4.out BK275.out (by decide); intro e_; exact h_ (by rw [e_]; rfl)) _; exact bx BK275.out⟩
     have n2_ : As (Below w.heap.size w (w37.setCell ⟨go30, (((rd_T93 l0_1 x5_2).f3) : Int).toNat, none⟩ (.int .i64 (wrap64 ((rd x4_2 ((rd_T93 l0_1 x5_2).f3)) + 1000))))) := ⟨be w⟩
     (try clear HO_4)
     (try clear BK275)
     (try clear HB)
     generalize (w37.setCell ⟨go30, (((rd_T93 l0_1 x5_2).f3) : Int).toNat, none⟩ (.int .i64 (wrap64 ((rd x4_2 ((rd_T93 l0_1 x5_2).f3)) + 1000)))) = w41 at n0_ n1_ n2_ ⊢
     have HO_4 := n0_
     have BK275 := n1_
     have HB := n2_
     clear n0_ n1_ n2_
     replace HO_4 := As.mk (Kd.R_drew HO_4.out)
     replace BK275 := As.mk (blk_drew BK275.out)
     replace HB := As.mk (below_drew1 HB.out)
     have p291 : 0 ≤ (x5_2 : Int) := of_decide_eq_true (by first | (with_reducible assumption) | assumption)
     have q291 : x5_2 < (l0_1.length : Int) := of_decide_eq_true (by first | (with_reducible assumption) | assumption)
     obtain ⟨ad291, A291_1, c291_1, e291, hx291_0, hx291_1, hx291_2, hx291_3, hx291_4, hl291_1, hi291_1⟩ := at_T93 HR0_1.out x5_2 p291 q291
     have hw291_4 := hx291_4
     have hw291_3 := hx291_3
     have hw291_2 := hx291_2
     have hw291_1 := hx291_1
     have hw291_0 := hx291_0
     obtain rfl : ad286 = ad291 := (by injection e291)
     replace hx291_0 := ce HB.out hx291_0
     replace hx291_1 := ce HB.out hx291_1
     replace hx291_2 := ce HB.out hx291_2
     replace hx291_3 := ce HB.out hx291_3
     replace hx291_4 := ce HB.out hx291_4
     have HR291_1 := As.mk hi291_1
     have HC291_1 := As.mk hl291_1
     clear hi291_1 hl291_1
     replace p291 := eq_true p291
     replace q291 := eq_true q291
     have p292 : 0 ≤ (x5_2 : Int) := of_decide_eq_true (by first | (with_reducible assumption) | assumption)
     have q292 : x5_2 < (l0_1.length : Int) := of_decide_eq_true (by first | (with_reducible assumption) | assumption)
     obtain ⟨ad292, A292_1, c292_1, e292, hx292_0, hx292_1, hx292_2, hx292_3, hx292_4, hl292_1, hi292_1⟩ := at_T93 HR0_1.out x5_2 p292 q292
     have hw292_4 := hx292_4
     have hw292_3 := hx292_3
     have hw292_2 := hx292_2
     have hw292_1 := hx292_1
     have hw292_0 := hx292_0
     obtain rfl : ad286 = ad292 := (by injection e292)
     replace hx292_0 := ce HB.out hx292_0
     replace hx292_1 := ce HB.out hx292_1
     replace hx292_2 := ce HB.out hx292_2
     replace hx292_3 := ce HB.out hx292_3
     replace hx292_4 := ce HB.out hx292_4
     have HR292_1 := As.mk hi292_1
     have HC292_1 := As.mk hl292_1
     clear hi292_1 hl292_1
     replace p292 := eq_true p292
     replace q292 := eq_true q292
     have ea_ := Option.some.inj (hx291_1.symm.trans hx292_1)
     injection ea_ with ea_ en_ ec_
     subst ea_
     subst ec_
     clear en_
     have p293 : 0 ≤ (((rd_T93 l0_1 x5_2).f4) : Int) := of_decide_eq_true (by first | (with_reducible assumption) | assumption)
     have q293 : ((rd_T93 l0_1 x5_2).f4) < (y289.length : Int) := (by have h_ : (((rd_T93 l0_1 x5_2).f4) : Int) < ((x4_2.length : Int) : Int) := of_decide_eq_true (by first | (with_reducible assumption) | assumption); first | (have e_ := (Kd.R_reads' HO_4.out).1; omega) | simpa only [Ny289.out, List.length_set] using h_)
     have ql293 : ((((rd_T93 l0_1 x5_2).f4) : Int) < ((x4_2.length : Int) : Int)) = True := eq_true (of_decide_eq_true (by first | (with_reducible assumption) | assumption))
     obtain ⟨ad293, e293, hx293_0⟩ := Kd.at_int (Kd.R_reads' HO_4.out).2.2 ((rd_T93 l0_1 x5_2).f4) p293 q293
     obtain rfl : (⟨go30, 0, none⟩ : Addr) = ad293 := (by injection e293)
     (first | simp only [add_plain] at hx293_0 | simp only [add_at] at hx293_0 | simp only [Addr.add, Nat.zero_add] at hx293_0 | skip)
     replace p293 := eq_true p293
     replace q293 := eq_true q293
     have p34 : 0 ≤ (((rd_T93 l0_1 x5_2).f4) : Int) := of_decide_eq_true (by first | (with_reducible assumption) | assumption)
     have q34 : (((rd_T93 l0_1 x5_2).f4) : Int) < ((x4_2.length : Int) : Int) := of_decide_eq_true (by first | (with_reducible assumption) | assumption)
     obtain ⟨hx34_0, hf34_0⟩ := Kd.R_celln 0 HO_4.out (((rd_T93 l0_1 x5_2).f4) : Int) p34 q34
     replace p34 := eq_true p34
     replace q34 := eq_true q34
     have HP43 := Kd.R_putn HO_4.out (((rd_T93 l0_1 x5_2).f4) : Int) (wrap64 ((rd y289 ((rd_T93 l0_1 x5_2).f4)) + 1000))
     rw [← Ny294.out] at HP43
     have HQ43 := As.mk HP43
     clear HP43
     refine start_ (n := 19) (S := fun w' => w'.cell? ⟨gb275, 0, none⟩ = some (.slice A0_0 l0_0.length c0_0) ∧ w'.cell? ⟨gb275, 1, none⟩ = some (.slice (some ad286) l0_1.length c0_1) ∧ w'.cell? (ad286.add ((x5_2).toNat * 5)) = some (.string ((rd_T93 l0_1 x5_2).f0)) ∧ w'.cell? ⟨(ad286.add ((x5_2).toNat * 5)).block, (ad286.add ((x5_2).toNat * 5)).off + 1, none⟩ = some (.slice A291_1 ((rd_T93 l0_1 x5_2).f1).length c291_1) ∧ w'.cell? ⟨(ad286.add ((x5_2).toNat * 5)).block, (ad286.add ((x5_2).toNat * 5)).off + 2, none⟩ = some (.int .i64 ((rd_T93 l0_1 x5_2).f2)) ∧ w'.cell? ⟨(ad286.add ((x5_2).toNat * 5)).block, (ad286.add ((x5_2).toNat * 5)).off + 3, none⟩ = some (.int .i64 ((rd_T93 l0_1 x5_2).f3)) ∧ w'.cell? ⟨(ad286.add ((x5_2).toNat * 5)).block, (ad286.add ((x5_2).toNat * 5)).off + 4, none⟩ = some (.int .i64 ((rd_T93 l0_1 x5_2).f4)) ∧ w'.cell? (ad286.add ((x5_2).toNat * 5)) = some (.string ((rd_T93 l0_1 x5_2).f0)) ∧ w'.cell? ⟨(ad286.add ((x5_2).toNat * 5)).block, (ad286.add ((x5_2).toNat * 5)).off + 1, none⟩ = some (.slice A291_1 ((rd_T93 l0_1 x5_2).f1).length c291_1) ∧ w'.cell? ⟨(ad286.add ((x5_2).toNat * 5)).block, (ad286.add ((x5_2).toNat * 5)).off + 2, none⟩ = some (.int .i64 ((rd_T93 l0_1 x5_2).f2)) ∧ w'.cell? ⟨(ad286.add ((x5_2).toNat * 5)).block, (ad286.add ((x5_2).toNat * 5)).off + 3, none⟩ = some (.int .i64 ((rd_T93 l0_1 x5_2).f3)) ∧ w'.cell? ⟨(ad286.add ((x5_2).toNat * 5)).block, (ad286.add ((x5_2).toNat * 5)).off + 4, none⟩ = some (.int .i64 ((rd_T93 l0_1 x5_2).f4)) ∧ w'.cell? ⟨go30, (((rd_T93 l0_1 x5_2).f4)).toNat, none⟩ = some (.int .i64 (rd y289 ((rd_T93 l0_1 x5_2).f4)))) (ds := [18]) #[O, O, O, O, O, O, O, O, O, O, O, O, O, O, O, O, O, O, O] (by kernel_rfl) rfl rfl ⟨(blk_cell BK275.out 0).trans rfl, (blk_cell BK275.out 1).trans rfl, (ce HB.out hw291_0 :), (ce HB.out hw291_1 :), (ce HB.out hw291_2 :), (ce HB.out hw291_3 :), (ce HB.out hw291_4 :), (ce HB.out hw292_0 :), (ce HB.out hw292_1 :), (ce HB.out hw292_2 :), (ce HB.out hw292_3 :), (ce HB.out hw292_4 :), hx293_0⟩ (fun hHeld => ?_); refine with_tabW spec_ProgramOk.tab14 spec_ProgramOk.bits14 (fun HT_ HW_ => ?_)
     generalize w41.drew = w42 at HO_4 BK275 HB HQ39 HQ43 HR291_1 HR292_1 hf34_0 hx291_0 hx291_1 hx291_2 hx291_3 hx291_4 hx292_0 hx292_1 hx292_2 hx292_3 hx292_4 hx293_0 hx34_0 hHeld ⊢
     refine pure_ (i := 0) (N := some 72) (v := ?_) (a' := ?_) #[I, O, O, O, O, O, O, O, O, O, O, O, O, O, O, O, O, O, O] rfl rfl (any_of HT_.out (by kernel_rfl)) (fun _ _ _ h => h) (Or.inl ⟨by rfl, ?_⟩) ?_ ?_
     rotate_left
     ·
      intro w'
      go_simp
      with_reducible rfl
     rotate_left
     ·
      simp only [pk, i64_w, i32_w]
      rfl
     refine pure_ (i := 1) (N := some 73) (v := ?_) (a' := ?_) #[I, I, O, O, O, O, O, O, O, O, O, O, O, O, O, O, O, O, O] rfl rfl (any_of HT_.out (by kernel_rfl)) (fun _ _ _ h => h) (Or.inl ⟨by rfl, ?_⟩) ?_ ?_
     rotate_left
     ·
      intro w'
      go_simp
      with_reducible rfl
     rotate_left
     ·
      simp only [pk, i64_w, i32_w]
      rfl
     refine pure_ (i := 3) (N := some 75) (v := ?_) (a' := ?_) #[I, I, O, I, O, O, O, O, O, O, O, O, O, O, O, O, O, O, O] rfl rfl (any_of HT_.out (by kernel_rfl)) (fun _ _ _ h => h) (Or.inl ⟨by rfl, ?_⟩) ?_ ?_
     rotate_left
     ·
      intro w'
      go_simp
      with_reducible rfl
     rotate_left
     ·
      simp only [pk, i64_w, i32_w]
      rfl
     refine pure_ (i := 7) (N := some 79) (v := ?_) (a' := ?_) #[I, I, O, I, O, O, O, I, O, O, O, O, O, O, O, O, O, O, O] rfl rfl (any_of HT_.out (by kernel_rfl)) (fun _ _ _ h => h) (Or.inl ⟨by rfl, ?_⟩) ?_ ?_
     rotate_left
     ·
      intro w'
      go_simp
      with_reducible rfl
     rotate_left
     ·
      simp only [pk, i64_w, i32_w]
      rfl
     refine pure_ (i := 8) (N := some 80) (v := ?_) (a' := ?_) #[I, I, O, I, O, O, O, I, I, O, O, O, O, O, O, O, O, O, O] rfl rfl (any_of HT_.out (by kernel_rfl)) (fun _ _ _ h => h) (Or.inl ⟨by rfl, ?_⟩) ?_ ?_
     rotate_left
     ·
      intro w'
      go_simp
      with_reducible rfl
     rotate_left
     ·
      simp only [pk, i64_w, i32_w]
      rfl
     refine pure_ (i := 10) (N := some 82) (v := ?_) (a' := ?_) #[I, I, O, I, O, O, O, I, I, O, I, O, O, O, O, O, O, O, O] rfl rfl (any_of HT_.out (by kernel_rfl)) (fun _ _ _ h => h) (Or.inl ⟨by rfl, ?_⟩) ?_ ?_
     rotate_left
     ·
      intro w'
      go_simp
      with_reducible rfl
     rotate_left
     ·
      simp only [pk, i64_w, i32_w]
      rfl
     refine take_ (i := 2) (N := some 74) (v := ?_) (a' := ?_) #[I, I, I, I, O, O, O, I, I, O, I, O, O, O, O, O, O, O, O] rfl rfl (take_ofW HT_.out HW_.out (by kernel_rfl)) (fun _ _ _ h => h) (Or.inl ⟨by rfl, ?_⟩) hHeld ?_ ?_
     rotate_left
     ·
      rintro w' ⟨s0, s1, s2, s3, s4, s5, s6, s7, s8, s9, s10, s11, s12⟩
      go_simp
      with_reducible rfl
     rotate_left
     ·
      simp only [pk, i64_w, i32_w]
      rfl
     refine pure_ (i := 4) (N := some 76) (v := ?_) (a' := ?_) #[I, I, I, I, I, O, O, I, I, O, I, O, O, O, O, O, O, O, O] rfl rfl (any_of HT_.out (by kernel_rfl)) (fun _ _ _ h => h) (Or.inl ⟨by rfl, ?_⟩) ?_ ?_
     rotate_left
     ·
      intro w'
      go_simp
      with_reducible rfl
     rotate_left
     ·
      simp only [pk, i64_w, i32_w]
      rfl
     refine pure_ (i := 5) (N := some 77) (v := ?_) (a' := ?_) #[I, I, I, I, I, I, O, I, I, O, I, O, O, O, O, O, O, O, O] rfl rfl (any_of HT_.out (by kernel_rfl)) (fun _ _ _ h => h) (Or.inl ⟨by rfl, ?_⟩) ?_ ?_
     rotate_left
     ·
      intro w'
      go_simp
      with_reducible rfl
     rotate_left
     ·
      simp only [pk, i64_w, i32_w]
      rfl
     refine take_ (i := 6) (N := some 78) (v := ?_) (a' := ?_) #[I, I, I, I, I, I, I, I, I, O, I, O, O, O, O, O, O, O, O] rfl rfl (take_ofW HT_.out HW_.out (by kernel_rfl)) (fun _ _ _ h => h) (Or.inl ⟨by rfl, ?_⟩) hHeld ?_ ?_
     rotate_left
     ·
      rintro w' ⟨s0, s1, s2, s3, s4, s5, s6, s7, s8, s9, s10, s11, s12⟩
      go_simp
      with_reducible rfl
     rotate_left
     ·
      simp only [pk, i64_w, i32_w]
      rfl
     refine take_ (i := 9) (N := some 81) (v := ?_) (a' := ?_) #[I, I, I, I, I, I, I, I, I, I, I, O, O, O, O, O, O, O, O] rfl rfl (take_ofW HT_.out HW_.out (by kernel_rfl)) (fun _ _ _ h => h) (Or.inl ⟨by rfl, ?_⟩) hHeld ?_ ?_
     rotate_left
     ·
      rintro w' ⟨s0, s1, s2, s3, s4, s5, s6, s7, s8, s9, s10, s11, s12⟩
      go_simp
      with_reducible rfl
     rotate_left
     ·
      simp only [pk, i64_w, i32_w]
      rfl
     refine pure_ (i := 11) (N := some 83) (v := ?_) (a' := ?_) #[I, I, I, I, I, I, I, I, I, I, I, I, O, O, O, O, O, O, O] rfl rfl (any_of HT_.out (by kernel_rfl)) (fun _ _ _ h => h) (Or.inl ⟨by rfl, ?_⟩) ?_ ?_
     rotate_left
     ·
      intro w'
      go_simp
      with_reducible rfl
     rotate_left
     ·
      simp only [pk, i64_w, i32_w]
      rfl
     refine pure_ (i := 12) (N := some 84) (v := ?_) (a' := ?_) #[I, I, I, I, I, I, I, I, I, I, I, I, I, O, O, O, O, O, O] rfl rfl (any_of HT_.out (by kernel_rfl)) (fun _ _ _ h => h) (Or.inl ⟨by rfl, ?_⟩) ?_ ?_
     rotate_left
     ·
      intro w'
      go_simp
      with_reducible rfl
     rotate_left
     ·
      simp only [pk, i64_w, i32_w]
      rfl
     refine take_ (i := 13) (N := some 85) (v := ?_) (a' := ?_) #[I, I, I, I, I, I, I, I, I, I, I, I, I, I, O, O, O, O, O] rfl rfl (take_ofW HT_.out HW_.out (by kernel_rfl)) (fun _ _ _ h => h) (Or.inl ⟨by rfl, ?_⟩) hHeld ?_ ?_
     rotate_left
     ·
      rintro w' ⟨s0, s1, s2, s3, s4, s5, s6, s7, s8, s9, s10, s11, s12⟩
      go_simp
      with_reducible rfl
     rotate_left
     ·
      simp only [pk, i64_w, i32_w]
      rfl
     refine pure_ (i := 14) (N := some 86) (v := ?_) (a' := ?_) #[I, I, I, I, I, I, I, I, I, I, I, I, I, I, I, O, O, O, O] rfl rfl (any_of HT_.out (by kernel_rfl)) (fun _ _ _ h => h) (Or.inl ⟨by rfl, ?_⟩) ?_ ?_
     rotate_left
     ·
      intro w'
      go_simp
      with_reducible rfl
     rotate_left
     ·
      simp only [pk, i64_w, i32_w]
      rfl
     refine take_ (i := 15) (N := some 87) (v := ?_) (a' := ?_) #[I, I, I, I, I, I, I, I, I, I, I, I, I, I, I, I, O, O, O] rfl rfl (take_ofW HT_.out HW_.out (by kernel_rfl)) (fun _ _ _ h => h) (Or.inl ⟨by rfl, ?_⟩) hHeld ?_ ?_
     rotate_left
     ·
      rintro w' ⟨s0, s1, s2, s3, s4, s5, s6, s7, s8, s9, s10, s11, s12⟩
      go_simp
      with_reducible rfl
     rotate_left
     ·
      simp only [pk, i64_w, i32_w]
      rfl
     refine pure_ (i := 16) (N := some 88) (v := ?_) (a' := ?_) #[I, I, I, I, I, I, I, I, I, I, I, I, I, I, I, I, I, O, O] rfl rfl (any_of HT_.out (by kernel_rfl)) (fun _ _ _ h => h) (Or.inl ⟨by rfl, ?_⟩) ?_ ?_
     rotate_left
     ·
      intro w'
      go_simp
      with_reducible rfl
     rotate_left
     ·
      simp only [pk, i64_w, i32_w]
      rfl
     refine pure_ (i := 17) (N := some 89) (v := ?_) (a' := ?_) #[I, I, I, I, I, I, I, I, I, I, I, I, I, I, I, I, I, I, O] rfl rfl (any_of HT_.out (by kernel_rfl)) (fun _ _ _ h => h) (Or.inl ⟨by rfl, ?_⟩) ?_ ?_
     rotate_left
     ·
      intro w'
      go_simp
      with_reducible rfl
     rotate_left
     ·
      simp only [pk, i64_w, i32_w]
      rfl
     refine last_ (i := 18) (N := none) #[I, I, I, I, I, I, I, I, I, I, I, I, I, I, I, I, I, I, I] rfl rfl (one_of HT_.out (by kernel_rfl)) (by decide) (fun K hK => ?_)
     refine skip_ (w1 := ?_) (by rfl) rfl ?_ ?_
     rotate_left
     ·
      go_simp
      rfl
     refine hK.out _ _ ?_
     clear hK K
     refine done_ (done_of HT_.out (by kernel_rfl)) ?_
     have hny275_ : gb275 ≠ go30 := (by have h_ := Kd.R_ne HO_4.out BK275.out (by decide); intro e_; exact h_ (by rw [e_]; rfl))
     have hnz275_ := Ne.symm hny275_
     try go_wp2
     go_roundg k2
     case measure => have := HJ1.out; have := HK2.out; omega
     case rel => exact ⟨(y294), (wrap64 (x5_2 + 1)), (by first | rfl | (simp; done) | (simp [*]; done)), H', ⟨by have := HJ1.out; have := HK2.out; omega⟩, ⟨by (with_reducible repeat (first | apply Kd.R_alloc | apply Kd.R_drewN | apply Kd.R_drew)); exact HQ43.out⟩, ⟨by refine pl ?_; refine blk_far ?_ (by have h_ := Kd.R_ne HO_4.out BK275.out (by decide); intro e_; exact h_ (by rw [e_]; rfl)) _; exact bx BK275.out⟩, ⟨be w⟩⟩
end Go.Proofs.YtmdpggibcjkfoaaDoor.PFnExactProgramOk
