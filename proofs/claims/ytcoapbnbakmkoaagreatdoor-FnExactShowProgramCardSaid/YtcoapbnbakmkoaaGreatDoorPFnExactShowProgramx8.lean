/- Written by a program of this session (a turned copy of the kit's print): a contract for each Go function. No condition beside those in each statement. -/
import Derived.Test.YtcoapbnbakmkoaaGreatDoorPFnExactShowProgramx0
import Derived.Test.YtcoapbnbakmkoaaGreatDoorPFnExactShowProgramx3
import Derived.Test.YtcoapbnbakmkoaaGreatDoorPFnExactShowProgramx6
import Derived.Test.YtcoapbnbakmkoaaGreatDoorPFnExactShowProgramx7
namespace Go.Proofs.YtcoapbnbakmkoaaGreatDoor.PFnExactShowProgram
open Go.RowKit Go.Proofs.YtcoapbnbakmkoaaGreatDoor.Given Go.Proofs.YtcoapbnbakmkoaaGreatDoorW.PrintWords Go.Proofs.YtcoapbnbakmkoaaGreatDoorW.PrintLast Go.Proofs.YtcoapbnbakmkoaaGreatDoorW.PrintMore
attribute [local go_sem] max2_int min2_int max_two min_two max_three min_three max_four min_four   -- for this text's walks alone
set_option linter.unusedVariables false
set_option linter.unusedSimpArgs false

/-! ### spec_ProgramOk: function 49 -/
mutual
def spec_ProgramOk.j0 : Nat → Bool → List (S62) → List (S56) → Option (Bool)
 | 0, _, _, _ => none
 | k + 1, x18, x276000, x276001 => if x18 = true then (some false) else ((spec_l04Deeps.f k x276000 (wrap64 ((x276000.length : Int) - 1))).bind fun t278 => (if 0 ≤ (wrap64 ((t278.length : Int) - 1)) then (if (wrap64 ((t278.length : Int) - 1)) < (t278.length : Int) then (if (rd t278 (wrap64 ((t278.length : Int) - 1))) = 0 then (some false) else ((spec_l04Used.f k x276000).bind fun t282 => (spec_ProgramOk.l0 k t282 0 x276000 x276001))) else (none)) else (none)))
def spec_ProgramOk.l0 : Nat → List Int → Int → List (S62) → List (S56) → Option (Bool)
 | 0, _, _, _, _ => none
 | k + 1, x4, x5, x276000, x276001 => if x5 < (x276001.length : Int) then ((spec_l04Fn.f k x276000 x276001 x5).bind fun t285 => (if t285 = true then (if 0 ≤ x5 then (if 0 ≤ ((rd_T56 x276001 x5).f3) then (if ((rd_T56 x276001 x5).f3) < (x4.length : Int) then ((some (x4.set (((rd_T56 x276001 x5).f3) : Int).toNat (wrap64 ((rd x4 ((rd_T56 x276001 x5).f3)) + 1000)) : List Int)).bind fun y289 => (if ((rd_T56 x276001 x5).f4) ≥ 0 then (if 0 ≤ ((rd_T56 x276001 x5).f4) then (if ((rd_T56 x276001 x5).f4) < (x4.length : Int) then (spec_ProgramOk.l0 k (y289.set (((rd_T56 x276001 x5).f4) : Int).toNat (wrap64 ((rd y289 ((rd_T56 x276001 x5).f4)) + 1000))) (wrap64 (x5 + 1)) x276000 x276001) else (none)) else (none)) else (spec_ProgramOk.l0 k y289 (wrap64 (x5 + 1)) x276000 x276001))) else (none)) else (none)) else (none)) else (some false))) else (spec_ProgramOk.l1 k x4 0)
def spec_ProgramOk.l1 : Nat → List Int → Int → Option (Bool)
 | 0, _, _ => none
 | k + 1, x4, x6 => if x6 < (x4.length : Int) then (if 0 ≤ x6 then (if (rd x4 x6) = 1 then (spec_ProgramOk.l1 k x4 (wrap64 (x6 + 1))) else (if (rd x4 x6) = 1000 then (spec_ProgramOk.l1 k x4 (wrap64 (x6 + 1))) else (some false))) else (none)) else (some true)
end
def spec_ProgramOk.f (k : Nat) (l0_0 : List (S62)) (l0_1 : List (S56)) : Option (Bool) := (spec_l01In.f (l0_0.length : Int) 1 300).bind fun t276 => (if t276 = true then ((spec_l01In.f (l0_1.length : Int) 1 8).bind fun t277 => (spec_ProgramOk.j0 k (!t277) l0_0 l0_1)) else (spec_ProgramOk.j0 k true l0_0 l0_1))
theorem spec_ProgramOk.mono_l : ∀ k, (∀ y0 y1 y2, LeO (spec_ProgramOk.j0 k y0 y1 y2) (spec_ProgramOk.j0 (k + 1) y0 y1 y2)) ∧ (∀ y0 y1 y2 y3, LeO (spec_ProgramOk.l0 k y0 y1 y2 y3) (spec_ProgramOk.l0 (k + 1) y0 y1 y2 y3)) ∧ (∀ y0 y1, LeO (spec_ProgramOk.l1 k y0 y1) (spec_ProgramOk.l1 (k + 1) y0 y1))
 | 0 => ⟨fun _ _ _ r h => by simp [spec_ProgramOk.j0] at h, fun _ _ _ _ r h => by simp [spec_ProgramOk.l0] at h, fun _ _ r h => by simp [spec_ProgramOk.l1] at h⟩
 | k + 1 => by
  obtain ⟨ih0, ih1, ih2⟩ := spec_ProgramOk.mono_l k
  refine ⟨?_, ?_, ?_⟩
  ·
   intro y0 y1 y2
   unfold spec_ProgramOk.j0
   with_reducible repeat' first | exact ih0 _ _ _ | exact ih1 _ _ _ _ | exact ih2 _ _ | exact spec_l04Deeps.mono _ _ _ | exact spec_l04Fn.mono _ _ _ _ | exact spec_l04Used.mono _ _ | exact LeO.refl _ | exact LeO.none _ | refine LeO.ite ?_ ?_ | refine LeO.bind ?_ (fun _ => ?_)
  ·
   intro y0 y1 y2 y3
   unfold spec_ProgramOk.l0
   with_reducible repeat' first | exact ih0 _ _ _ | exact ih1 _ _ _ _ | exact ih2 _ _ | exact spec_l04Deeps.mono _ _ _ | exact spec_l04Fn.mono _ _ _ _ | exact spec_l04Used.mono _ _ | exact LeO.refl _ | exact LeO.none _ | refine LeO.ite ?_ ?_ | refine LeO.bind ?_ (fun _ => ?_)
  ·
   intro y0 y1
   unfold spec_ProgramOk.l1
   with_reducible repeat' first | exact ih0 _ _ _ | exact ih1 _ _ _ _ | exact ih2 _ _ | exact spec_l04Deeps.mono _ _ _ | exact spec_l04Fn.mono _ _ _ _ | exact spec_l04Used.mono _ _ | exact LeO.refl _ | exact LeO.none _ | refine LeO.ite ?_ ?_ | refine LeO.bind ?_ (fun _ => ?_)
theorem spec_ProgramOk.mono : ∀ a0 a1 k, LeO (spec_ProgramOk.f k a0 a1) (spec_ProgramOk.f (k + 1) a0 a1) := by
 intro a0 a1 k; obtain ⟨ih0, ih1, ih2⟩ := spec_ProgramOk.mono_l k
 unfold spec_ProgramOk.f
 with_reducible repeat' first | exact ih0 _ _ _ | exact ih1 _ _ _ _ | exact ih2 _ _ | exact spec_l04Deeps.mono _ _ _ | exact spec_l04Fn.mono _ _ _ _ | exact spec_l04Used.mono _ _ | exact LeO.refl _ | exact LeO.none _ | refine LeO.ite ?_ ?_ | refine LeO.bind ?_ (fun _ => ?_)
def spec_ProgramOk.T12 : Bool × List (List Nat × List Nat) := (true, [([], []), ([], []), ([1], [1]), ([], []), ([2, 3], [2, 3]), ([4], [4]), ([5], [5]), ([], []), ([], []), ([8], [8]), ([], []), ([9, 10], [9, 10]), ([11], [11]), ([12], [12]), ([7, 13], [7, 13]), ([14], [14]), ([15], [15]), ([0, 6, 0, 1, 2, 3, 4, 5, 6, 7, 8, 9, 10, 11, 12, 13, 14, 15, 16], [0, 6]), ([17, 16, 0, 1, 2, 3, 4, 5, 6, 7, 8, 9, 10, 11, 12, 13, 14, 15, 16], [16, 17])])
def spec_ProgramOk.B12 : List Nat := [0, 0, 2, 0, 14, 30, 62, 0, 0, 256, 0, 1792, 3840, 7936, 16256, 32640, 65408, 131071, 262143]
theorem spec_ProgramOk.tab12 : rtab .any (opsOf Tryz.f49 12) = spec_ProgramOk.T12 := by kernel_rfl
theorem spec_ProgramOk.bits12 : waitsOk spec_ProgramOk.T12.2 spec_ProgramOk.B12 = true := by kernel_rfl
def spec_ProgramOk.T14 : Bool × List (List Nat × List Nat) := (true, [([], []), ([], []), ([1], [1]), ([], []), ([2, 3], [2, 3]), ([4], [4]), ([5], [5]), ([], []), ([], []), ([8], [8]), ([], []), ([9, 10], [9, 10]), ([11], [11]), ([12], [12]), ([7, 13], [7, 13]), ([14], [14]), ([15], [15]), ([0, 6, 0, 1, 2, 3, 4, 5, 6, 7, 8, 9, 10, 11, 12, 13, 14, 15, 16], [0, 6]), ([17, 16, 0, 1, 2, 3, 4, 5, 6, 7, 8, 9, 10, 11, 12, 13, 14, 15, 16], [16, 17])])
def spec_ProgramOk.B14 : List Nat := [0, 0, 2, 0, 14, 30, 62, 0, 0, 256, 0, 1792, 3840, 7936, 16256, 32640, 65408, 131071, 262143]
theorem spec_ProgramOk.tab14 : rtab .any (opsOf Tryz.f49 14) = spec_ProgramOk.T14 := by kernel_rfl
theorem spec_ProgramOk.bits14 : waitsOk spec_ProgramOk.T14.2 spec_ProgramOk.B14 = true := by kernel_rfl
set_option maxHeartbeats 8000000 in
set_option maxRecDepth 100000 in
theorem spec_ProgramOk.calls (k : Nat) (A0_0 : Option Addr) (c0_0 : Nat) (l0_0 : List (S62)) (A0_1 : Option Addr) (c0_1 : Nat) (l0_1 : List (S56)) (r : Bool) (w : World) (hr0_0 : Kd.C k62 w A0_0 l0_0.length l0_0) (hc0_0 : l0_0.length ≤ c0_0) (hr0_1 : Kd.C k56 w A0_1 l0_1.length l0_1) (hc0_1 : l0_1.length ≤ c0_1) (h : spec_ProgramOk.f k l0_0 l0_1 = some r) :
  Calls Tryz.prog 49 #[.agg #[.slice A0_0 l0_0.length c0_0, .slice A0_1 l0_1.length c0_1]] w fun e w' => e = .returned (.bool r) ∧ Below w.heap.size w w' := by
 have hu32 := Tryz.underlying32; have HR0_0 := As.mk hr0_0; have HC0_0 := As.mk hc0_0; clear hr0_0 hc0_0; have HR0_1 := As.mk hr0_1; have HC0_1 := As.mk hc0_1; clear hr0_1 hc0_1; have HB := As.mk (Below.refl w.heap.size w); have H : ((spec_l01In.f (l0_0.length : Int) 1 300).bind fun t276 => (if t276 = true then ((spec_l01In.f (l0_1.length : Int) 1 8).bind fun t277 => (spec_ProgramOk.j0 k (!t277) l0_0 l0_1)) else (spec_ProgramOk.j0 k true l0_0 l0_1))) = some r := h; clear h; have HC2 := As.mk H; clear H; go_enter Tryz.func49, Tryz.ntmps49
 go_upto_region 1 with (first | ((with_reducible refine gate_dst (N := 1) rfl ?_); (try (refine gate_guard (by rfl) ?_; dsimp only)); refine bxe 1 #[.slice A0_0 l0_0.length c0_0, .slice A0_1 l0_1.length c0_1] 32 ?_; intro gb275 hg w3 BK275 hb; have GW275 := As.mk (gs w hg); replace HB := bs w hb; clear hb hg))
 (try simp only [pk])
 go_cut [18] (fun v18 wc => ∃ (kq : Nat) (x18_1 : Bool), v18 = .bool x18_1 ∧ As (spec_ProgramOk.j0 kq x18_1 l0_0 l0_1 = some r) ∧ As (kq ≤ k) ∧ As (wc.heap[gb275]? = some (.cells #[(.slice A0_0 l0_0.length c0_0), (.slice A0_1 l0_1.length c0_1)] 32 (0, 0))) ∧ As (Below w.heap.size w wc))
 case first =>
  have H := HC2.out; clear HC2; replace H := bo H; obtain ⟨t276, A4, H⟩ := H
  by_cases c5 : t276 = true
  rotate_left
  ·
   replace c5 := Bool.eq_false_iff.mpr c5; subst c5; rw [if_neg ft] at H; have H' := As.mk H; clear H; obtain ⟨y8a, y8b, v8a, v8b⟩ := cl2 BK275.out
   go_wp2_with (first | ((with_reducible refine gate_callee (f := 33) rfl ?_); refine goL (some 10) Tryz.func33 #[.int .i64 (l0_0.length : Int), .int .i64 1, .int .i64 300] ?_; (with_reducible refine (spec_l01In.calls (l0_0.length : Int) 1 300 false _ A4.out).mono ?_); rintro e w' ⟨rfl, ⟨nd, rfl⟩⟩; refine ⟨_, rfl, ?_⟩))
   go_meet
   case rel => exact ⟨_, (true), (by first | rfl | (simp; done) | (simp [*]; done)), H', ⟨by first | omega | exact Nat.le_refl _⟩, ⟨bx BK275.out⟩, ⟨be w⟩⟩
  subst c5; rw [if_pos rfl] at H; replace H := bo H; obtain ⟨t277, A6, H⟩ := H; have H' := As.mk H; clear H; obtain ⟨y7a, y7b, v7a, v7b⟩ := cl2 BK275.out
  go_wp2_with (first | ((with_reducible refine gate_callee (f := 33) rfl ?_); refine goL (some 10) Tryz.func33 #[.int .i64 (l0_0.length : Int), .int .i64 1, .int .i64 300] ?_; (with_reducible refine (spec_l01In.calls (l0_0.length : Int) 1 300 true _ A4.out).mono ?_); rintro e w' ⟨rfl, ⟨nd, rfl⟩⟩; refine ⟨_, rfl, ?_⟩) | (go_at_call 33; (with_reducible refine (spec_l01In.calls (l0_1.length : Int) 1 8 t277 _ A6.out).mono ?_); rintro e w' ⟨rfl, ⟨nd, rfl⟩⟩))
  go_meet
  case rel => exact ⟨_, (!t277), (by first | rfl | (simp; done) | (simp [*]; done)), H', ⟨by first | omega | exact Nat.le_refl _⟩, ⟨bx BK275.out⟩, ⟨be w⟩⟩
 case rest =>
  clear HC2; obtain ⟨kq, x18_1, rfl, HA, HJ1, BK275, HB⟩ := hcut
  cases kq with
  | zero => exact absurd HA.out (by simp [spec_ProgramOk.j0])
  | succ kj1 =>
   have H := HA.out; clear HA
   simp only [spec_ProgramOk.j0] at H
   by_cases c9 : x18_1 = true
   ·
    subst c9; rw [if_pos rfl] at H; obtain rfl := sj H
    go_wp2
    go_ret
    exact ⟨ez, be w⟩
   replace c9 := Bool.eq_false_iff.mpr c9; subst c9; rw [if_neg ft] at H; replace H := bo H; obtain ⟨t278, A10, H⟩ := H
   obtain ⟨ji11, hji11⟩ : ∃ j_ : Int, (wrap64 ((t278.length : Int) - 1)) = j_ := ⟨_, rfl⟩
   replace H : (if 0 ≤ (ji11) then (if (ji11) < (t278.length : Int) then (if (rd t278 (ji11)) = 0 then (some false) else ((spec_l04Used.f kj1 l0_0).bind fun t282 => (spec_ProgramOk.l0 kj1 t282 0 l0_0 l0_1))) else (none)) else (none)) = some r := by first | (rw [hji11] at H; exact H) | (simp only [hji11] at H ⊢; exact H)
   (try rw [hji11] at A10); have hji11w : (IntKind.i64.wrap ((t278.length : Int) - 1)) = ji11 := (i64_w _).trans hji11
   by_cases c12 : 0 ≤ (ji11)
   rotate_left; · rw [if_neg c12] at H; exact absurd H (by simp)

   rw [if_pos c12] at H; have c12b0 := decide_eq_true c12; clear c12; replace H := ia H; obtain ⟨c13b0, H⟩ := H
   by_cases c14 : (rd t278 (ji11)) = 0
   ·
    rw [if_pos c14] at H; have c14b0 : ((rd t278 (ji11)) == 0) = true := beq_iff_eq.mpr c14; have c14b1 : ((rd t278 (ji11)) != 0) = false := bne_eq_false_iff_eq.mpr c14; clear c14; obtain rfl := sj H; obtain ⟨y15a, y15b, v15a, v15b⟩ := cl2 BK275.out
    go_wp2_with (first | ((with_reducible refine gate_callee (f := 71) rfl ?_); refine goL (some 25) Tryz.func71 #[.slice A0_0 l0_0.length c0_0, .int .i64 (wrap64 ((l0_0.length : Int) - 1))] ?_; (with_reducible refine (spec_l04Deeps.calls kj1 _ _ l0_0 (wrap64 ((l0_0.length : Int) - 1)) t278 _ (cb HR0_0) HC0_0.out A10.out).mono ?_); rintro e w16 ⟨v279, rfl, ho0, hb⟩; refine ⟨_, rfl, ?_⟩; have HO280 := As.mk (Kd.R_lower ho0 (below_size (be w))); replace HB := bs w hb; (try clear hb); (try clear ho0); obtain ⟨Ao17, co17, eo17⟩ := Kd.R_slice HO280.out; subst eo17; have p281 : 0 ≤ ((ji11) : Int) := od; have q281 : (ji11) < (t278.length : Int) := od; obtain ⟨ad281, e281, x281a⟩ := Kd.at_int (Kd.R_reads' HO280.out).2.2 (ji11) p281 q281; cases e281; replace p281 := eq_true p281; replace q281 := eq_true q281))
    go_ret
    exact ⟨by first | rfl | (simp [errW_none, errW_some] <;> rfl) | (simp only [← hji11]; first | rfl | (simp [errW_none, errW_some] <;> rfl)) | (simp [*, errW_none, errW_some] <;> rfl), be w⟩
   rw [if_neg c14] at H; have c14b0 : ((rd t278 (ji11)) == 0) = false := beq_eq_false_iff_ne.mpr c14; have c14b1 : ((rd t278 (ji11)) != 0) = true := bne_iff_ne.mpr c14; replace H := bo H; obtain ⟨t282, A18, H⟩ := H; have H' := As.mk H; clear H; obtain ⟨y19a, y19b, v19a, v19b⟩ := cl2 BK275.out
   go_wp2_with (first | ((with_reducible refine gate_callee (f := 71) rfl ?_); refine goL (some 25) Tryz.func71 #[.slice A0_0 l0_0.length c0_0, .int .i64 (wrap64 ((l0_0.length : Int) - 1))] ?_; (with_reducible refine (spec_l04Deeps.calls kj1 _ _ l0_0 (wrap64 ((l0_0.length : Int) - 1)) t278 _ (cb HR0_0) HC0_0.out A10.out).mono ?_); rintro e w20 ⟨v279, rfl, ho0, hb⟩; refine ⟨_, rfl, ?_⟩; have HO280 := As.mk (Kd.R_lower ho0 (below_size (be w))); replace BK275 := bb BK275 hb; replace HB := bs w hb; (try clear hb); (try clear ho0); obtain ⟨Ao21, co21, eo21⟩ := Kd.R_slice HO280.out; subst eo21; have p281 : 0 ≤ ((ji11) : Int) := od; have q281 : (ji11) < (t278.length : Int) := od; obtain ⟨ad281, e281, x281a⟩ := Kd.at_int (Kd.R_reads' HO280.out).2.2 (ji11) p281 q281; cases e281; replace p281 := eq_true p281; replace q281 := eq_true q281; obtain ⟨y22a, y22b, v22a, v22b⟩ := cl2 BK275.out) | ((with_reducible refine gate_callee (f := 76) rfl ?_); refine goL (some 35) Tryz.func76 #[.slice A0_0 l0_0.length c0_0] ?_; (with_reducible refine (spec_l04Used.calls kj1 _ _ l0_0 t282 _ (cb HR0_0) HC0_0.out A18.out).mono ?_); rintro e w23 ⟨v283, rfl, ho0, hb⟩; refine ⟨_, rfl, ?_⟩; have HO284 := As.mk (Kd.R_lower (Kd.R_new' ho0 (Kd.R_lt (by (with_reducible repeat (first | apply Kd.R_alloc | apply Kd.R_drewN | apply Kd.R_drew)); exact HO280.out))) (below_size (be w))); replace HO280 := As.mk (Kd.R_elder' (by (with_reducible repeat (first | apply Kd.R_alloc | apply Kd.R_drewN | apply Kd.R_drew)); exact HO280.out) (Kd.R_base ho0) hb); replace BK275 := bb BK275 hb; replace HB := bs w hb; (try clear hb); (try clear ho0)))
   (try simp only [pk])
   go_loopg [5] kj1 (fun kq v5 w' => ∃ (x4_2 : List Int) (x5_2 : Int), v5 = .int .i64 x5_2 ∧ As (spec_ProgramOk.l0 kq x4_2 x5_2 l0_0 l0_1 = some r) ∧ As (kq ≤ kj1) ∧ As (Kd.R (Kd.int .i64) 3 w' w.heap.size (fun _ => True) v283 x4_2) ∧ As (w'.heap[gb275]? = some (.cells #[(.slice A0_0 l0_0.length c0_0), (.slice A0_1 l0_1.length c0_1)] 32 (0, 0))) ∧ As (Below w.heap.size w w'))
   case atStart => exact ⟨(t282), (0), (by first | rfl | (simp; done) | (simp [*]; done)), H', ⟨Nat.le_refl _⟩, ⟨by (with_reducible repeat (first | apply Kd.R_alloc | apply Kd.R_drewN | apply Kd.R_drew)); exact Kd.R_mono HO284.out (fun _ hk => trivial)⟩, ⟨bx BK275.out⟩, ⟨be w⟩⟩
   case round =>
    clear H'; (try clear c9); (try clear c12); (try clear c12b0); (try clear c13); (try clear c13b0); (try clear c14); (try clear c14b0); (try clear c14b1); (try clear y19a); (try clear y19b); (try clear y22a); (try clear y22b); (try clear v19a); (try clear v19b); (try clear v22a); (try clear v22b); (try clear x281a); (try clear p281); (try clear q281); obtain ⟨x4_2, x5_2, rfl, HA, HK2, HO_4, BK275, HB⟩ := hrel
    cases gk with
    | zero => exact absurd HA.out (by simp [spec_ProgramOk.l0])
    | succ k2 =>
     have H := HA.out; clear HA
     simp only [spec_ProgramOk.l0] at H
     by_cases c24 : x5_2 < (l0_1.length : Int)
     rotate_left
     ·
      rw [if_neg c24] at H; have c24b0 := decide_eq_false c24; clear c24; have H' := As.mk H; clear H; obtain ⟨y52a, y52b, v52a, v52b⟩ := cl2 BK275.out
      go_wp2
      go_loopg [6] k2 (fun kq v6 w' => ∃ (x6_3 : Int), v6 = .int .i64 x6_3 ∧ As (spec_ProgramOk.l1 kq x4_2 x6_3 = some r) ∧ As (kq ≤ k2) ∧ As (Kd.R (Kd.int .i64) 3 w' w.heap.size (fun _ => True) v283 x4_2) ∧ As (w'.heap[gb275]? = some (.cells #[(.slice A0_0 l0_0.length c0_0), (.slice A0_1 l0_1.length c0_1)] 32 (0, 0))) ∧ As (Below w.heap.size w w'))
      case atStart => exact ⟨(0), (by first | rfl | (simp; done) | (simp [*]; done)), H', ⟨Nat.le_refl _⟩, ⟨by (with_reducible repeat (first | apply Kd.R_alloc | apply Kd.R_drewN | apply Kd.R_drew)); exact HO_4.out⟩, ⟨bx BK275.out⟩, ⟨be w⟩⟩
      case round =>
       clear H'; (try clear c24); (try clear c24b0); (try clear y52a); (try clear y52b); (try clear v52a); (try clear v52b); obtain ⟨x6_3, rfl, HA, HK3, HO_4, BK275, HB⟩ := hrel
       cases gk with
       | zero => exact absurd HA.out (by simp [spec_ProgramOk.l1])
       | succ k3 =>
        have H := HA.out; clear HA
        simp only [spec_ProgramOk.l1] at H
        by_cases c53 : x6_3 < (x4_2.length : Int)
        rotate_left
        ·
         rw [if_neg c53] at H; have c53b0 := decide_eq_false c53; clear c53; obtain rfl := sj H; obtain ⟨Ao60, co60, eo60⟩ := Kd.R_slice HO_4.out; subst eo60
         go_wp2
         go_ret
         exact ⟨by first | rfl | (simp [errW_none, errW_some] <;> rfl) | (simp only [← hji11]; first | rfl | (simp [errW_none, errW_some] <;> rfl)) | (simp [*, errW_none, errW_some] <;> rfl), be w⟩
        rw [if_pos c53] at H; have c53b0 := decide_eq_true c53; clear c53; replace H := ia H; obtain ⟨c54b0, H⟩ := H
        by_cases c55 : (rd x4_2 x6_3) = 1
        ·
         rw [if_pos c55] at H; have c55b0 : ((rd x4_2 x6_3) == 1) = true := beq_iff_eq.mpr c55; have c55b1 : ((rd x4_2 x6_3) != 1) = false := bne_eq_false_iff_eq.mpr c55; clear c55; have H' := As.mk H; clear H; obtain ⟨Ao56, co56, eo56⟩ := Kd.R_slice HO_4.out; subst eo56; have p295 : 0 ≤ (x6_3 : Int) := od; have q295 : x6_3 < (x4_2.length : Int) := od; obtain ⟨ad295, e295, x295a⟩ := Kd.at_int (Kd.R_reads' HO_4.out).2.2 x6_3 p295 q295; cases e295; replace p295 := eq_true p295; replace q295 := eq_true q295
         go_wp2
         go_roundg k3
         case measure => have := HJ1.out; have := HK2.out; have := HK3.out; omega
         case rel => exact ⟨(wrap64 (x6_3 + 1)), (by first | rfl | (simp; done) | (simp [*]; done)), H', ⟨by have := HJ1.out; have := HK2.out; have := HK3.out; omega⟩, ⟨by (with_reducible repeat (first | apply Kd.R_alloc | apply Kd.R_drewN | apply Kd.R_drew)); exact HO_4.out⟩, ⟨bx BK275.out⟩, ⟨be w⟩⟩
        rw [if_neg c55] at H; have c55b0 : ((rd x4_2 x6_3) == 1) = false := beq_eq_false_iff_ne.mpr c55; have c55b1 : ((rd x4_2 x6_3) != 1) = true := bne_iff_ne.mpr c55
        by_cases c57 : (rd x4_2 x6_3) = 1000
        rotate_left
        ·
         rw [if_neg c57] at H; have c57b0 : ((rd x4_2 x6_3) == 1000) = false := beq_eq_false_iff_ne.mpr c57; have c57b1 : ((rd x4_2 x6_3) != 1000) = true := bne_iff_ne.mpr c57; obtain rfl := sj H; obtain ⟨Ao59, co59, eo59⟩ := Kd.R_slice HO_4.out; subst eo59; have p295 : 0 ≤ (x6_3 : Int) := od; have q295 : x6_3 < (x4_2.length : Int) := od; obtain ⟨ad295, e295, x295a⟩ := Kd.at_int (Kd.R_reads' HO_4.out).2.2 x6_3 p295 q295; cases e295; replace p295 := eq_true p295; replace q295 := eq_true q295; have p296 : 0 ≤ (x6_3 : Int) := od; have q296 : x6_3 < (x4_2.length : Int) := od; obtain ⟨ad296, e296, x296a⟩ := Kd.at_int (Kd.R_reads' HO_4.out).2.2 x6_3 p296 q296; obtain rfl : ad295 = ad296 := (by injection e296); replace p296 := eq_true p296; replace q296 := eq_true q296
         go_wp2
         go_ret
         exact ⟨by first | rfl | (simp [errW_none, errW_some] <;> rfl) | (simp only [← hji11]; first | rfl | (simp [errW_none, errW_some] <;> rfl)) | (simp [*, errW_none, errW_some] <;> rfl), be w⟩
        rw [if_pos c57] at H; have c57b0 : ((rd x4_2 x6_3) == 1000) = true := beq_iff_eq.mpr c57; have c57b1 : ((rd x4_2 x6_3) != 1000) = false := bne_eq_false_iff_eq.mpr c57; clear c57; have H' := As.mk H; clear H; obtain ⟨Ao58, co58, eo58⟩ := Kd.R_slice HO_4.out; subst eo58; have p295 : 0 ≤ (x6_3 : Int) := od; have q295 : x6_3 < (x4_2.length : Int) := od; obtain ⟨ad295, e295, x295a⟩ := Kd.at_int (Kd.R_reads' HO_4.out).2.2 x6_3 p295 q295; cases e295; replace p295 := eq_true p295; replace q295 := eq_true q295; have p296 : 0 ≤ (x6_3 : Int) := od; have q296 : x6_3 < (x4_2.length : Int) := od; obtain ⟨ad296, e296, x296a⟩ := Kd.at_int (Kd.R_reads' HO_4.out).2.2 x6_3 p296 q296; obtain rfl : ad295 = ad296 := (by injection e296); replace p296 := eq_true p296; replace q296 := eq_true q296
        go_wp2
        go_roundg k3
        case measure => have := HJ1.out; have := HK2.out; have := HK3.out; omega
        case rel => exact ⟨(wrap64 (x6_3 + 1)), (by first | rfl | (simp; done) | (simp [*]; done)), H', ⟨by have := HJ1.out; have := HK2.out; have := HK3.out; omega⟩, ⟨by (with_reducible repeat (first | apply Kd.R_alloc | apply Kd.R_drewN | apply Kd.R_drew)); exact HO_4.out⟩, ⟨bx BK275.out⟩, ⟨be w⟩⟩
     rw [if_pos c24] at H; have c24b0 := decide_eq_true c24; clear c24; replace H := bo H; obtain ⟨t285, A25, H⟩ := H
     by_cases c26 : t285 = true
     rotate_left
     ·
      replace c26 := Bool.eq_false_iff.mpr c26; subst c26; rw [if_neg ft] at H; obtain rfl := sj H; obtain ⟨y50a, y50b, v50a, v50b⟩ := cl2 BK275.out
      go_wp2_with (first | ((with_reducible refine gate_callee (f := 77) rfl ?_); refine goL (some 45) Tryz.func77 #[.agg #[.slice A0_0 l0_0.length c0_0, .slice A0_1 l0_1.length c0_1], .int .i64 x5_2] ?_; (with_reducible refine (spec_l04Fn.calls k2 _ _ l0_0 _ _ l0_1 x5_2 false _ (cb HR0_0) HC0_0.out (cb HR0_1) HC0_1.out A25.out).mono ?_); rintro e w51 ⟨rfl, hb⟩; refine ⟨_, rfl, ?_⟩; replace HB := bs w hb; (try clear hb)))
      go_ret
      exact ⟨by first | rfl | (simp [errW_none, errW_some] <;> rfl) | (simp only [← hji11]; first | rfl | (simp [errW_none, errW_some] <;> rfl)) | (simp [*, errW_none, errW_some] <;> rfl), be w⟩
     subst c26; rw [if_pos rfl] at H; replace H := ia H; obtain ⟨c27b0, H⟩ := H; replace H := ia H; obtain ⟨c28b0, H⟩ := H; replace H := ia H; obtain ⟨c29b0, H⟩ := H
     obtain ⟨y289, hy289⟩ : ∃ y_ : List Int, y_ = (x4_2.set (((rd_T56 l0_1 x5_2).f3) : Int).toNat (wrap64 ((rd x4_2 ((rd_T56 l0_1 x5_2).f3)) + 1000))) := ⟨_, rfl⟩
     replace H : (if ((rd_T56 l0_1 x5_2).f4) ≥ 0 then (if 0 ≤ ((rd_T56 l0_1 x5_2).f4) then (if ((rd_T56 l0_1 x5_2).f4) < (x4_2.length : Int) then (spec_ProgramOk.l0 k2 (y289.set (((rd_T56 l0_1 x5_2).f4) : Int).toNat (wrap64 ((rd y289 ((rd_T56 l0_1 x5_2).f4)) + 1000))) (wrap64 (x5_2 + 1)) l0_0 l0_1) else (none)) else (none)) else (spec_ProgramOk.l0 k2 y289 (wrap64 (x5_2 + 1)) l0_0 l0_1)) = some r := by first | (rw [hy289]; with_reducible exact H) | (have H2_ := (Option.bind_some _ _).symm.trans H; rw [hy289]; with_reducible exact H2_) | (have H2_ := (Option.bind_some _ _).symm.trans H; with_reducible exact H2_) | with_reducible exact H | (rw [hy289]; exact H) | exact H
     have Ny289 := As.mk hy289; clear hy289
     by_cases c31 : ((rd_T56 l0_1 x5_2).f4) ≥ 0
     rotate_left
     ·
      rw [if_neg c31] at H; have c31b0 : decide (0 ≤ ((rd_T56 l0_1 x5_2).f4)) = false := decide_eq_false c31; clear c31; have H' := As.mk H; clear H; obtain ⟨y44a, y44b, v44a, v44b⟩ := cl2 BK275.out
      try go_wp2_with (first | ((with_reducible refine gate_callee (f := 77) rfl ?_); refine goL (some 45) Tryz.func77 #[.agg #[.slice A0_0 l0_0.length c0_0, .slice A0_1 l0_1.length c0_1], .int .i64 x5_2] ?_; (with_reducible refine (spec_l04Fn.calls k2 _ _ l0_0 _ _ l0_1 x5_2 true _ (cb HR0_0) HC0_0.out (cb HR0_1) HC0_1.out A25.out).mono ?_); rintro e w45 ⟨rfl, hb⟩; refine ⟨_, rfl, ?_⟩; replace HO_4 := As.mk (Kd.R_below (by (with_reducible repeat (first | apply Kd.R_alloc | apply Kd.R_drewN | apply Kd.R_drew)); exact HO_4.out) hb); replace BK275 := bb BK275 hb; replace HB := bs w hb; (try clear hb)))
      replace HO_4 := As.mk (Kd.R_drew HO_4.out); replace BK275 := As.mk (blk_drew BK275.out); replace HB := As.mk (below_drew1 HB.out); have p286 : 0 ≤ (x5_2 : Int) := od; have q286 : x5_2 < (l0_1.length : Int) := od; obtain ⟨ad286, A286_1, c286_1, e286, x286a, x286b, x286c, x286d, x286e, hl286_1, hi286_1⟩ := at_T56 HR0_1.out x5_2 p286 q286; have hw286_4 := x286e; have hw286_3 := x286d; have hw286_2 := x286c; have hw286_1 := x286b; have hw286_0 := x286a; cases e286; replace x286a := ce HB.out x286a; replace x286b := ce HB.out x286b; replace x286c := ce HB.out x286c; replace x286d := ce HB.out x286d; replace x286e := ce HB.out x286e; have HR286_1 := As.mk hi286_1; have HC286_1 := As.mk hl286_1; clear hi286_1 hl286_1; replace p286 := eq_true p286; replace q286 := eq_true q286; have p287 : 0 ≤ (x5_2 : Int) := od; have q287 : x5_2 < (l0_1.length : Int) := od; obtain ⟨ad287, A287_1, c287_1, e287, x287a, x287b, x287c, x287d, x287e, hl287_1, hi287_1⟩ := at_T56 HR0_1.out x5_2 p287 q287; have hw287_4 := x287e; have hw287_3 := x287d; have hw287_2 := x287c; have hw287_1 := x287b; have hw287_0 := x287a; obtain rfl : ad286 = ad287 := (by injection e287); replace x287a := ce HB.out x287a; replace x287b := ce HB.out x287b; replace x287c := ce HB.out x287c; replace x287d := ce HB.out x287d; replace x287e := ce HB.out x287e; have HR287_1 := As.mk hi287_1; have HC287_1 := As.mk hl287_1; clear hi287_1 hl287_1; replace p287 := eq_true p287; replace q287 := eq_true q287; have ea_ := Option.some.inj (x286b.symm.trans x287b)
      injection ea_ with ea_ en_ ec_
      subst ea_; subst ec_; clear en_; obtain ⟨Ao47, co47, eo47⟩ := Kd.R_slice HO_4.out
      (first | subst eo47 | (injection eo47 with f1_ f2_ f3_; have f4_ := f1_.symm; have f5_ := f3_.symm; clear f1_ f2_ f3_; subst f4_; subst f5_))
      have p288 : 0 ≤ (((rd_T56 l0_1 x5_2).f3) : Int) := od; have q288 : ((rd_T56 l0_1 x5_2).f3) < (x4_2.length : Int) := od; obtain ⟨ad288, e288, x288a⟩ := Kd.at_int (Kd.R_reads' HO_4.out).2.2 ((rd_T56 l0_1 x5_2).f3) p288 q288; cases e288; replace p288 := eq_true p288; replace q288 := eq_true q288; have p30 : 0 ≤ (((rd_T56 l0_1 x5_2).f3) : Int) := od; have q30 : (((rd_T56 l0_1 x5_2).f3) : Int) < ((x4_2.length : Int) : Int) := od; obtain ⟨go30, co30, eo30, gb30, gl30, cl30, HG30⟩ := Kd.R_form HO_4.out (by omega)
      (first | cases eo30 | (injection eo30 with ea_ en_ ec_; (first | subst ea_ | (injection ea_ with ea_; subst ea_)); subst ec_; clear en_))
      have GB30 := As.mk gb30; have GG30 := As.mk HG30; clear gb30 gl30 HG30
      (first | simp only [add_plain] at x288a | skip)
      obtain ⟨x30a, f30a⟩ := Kd.R_celln 0 HO_4.out (((rd_T56 l0_1 x5_2).f3) : Int) p30 q30; replace p30 := eq_true p30; replace q30 := eq_true q30; have HP48 := Kd.R_putn HO_4.out (((rd_T56 l0_1 x5_2).f3) : Int) (wrap64 ((rd x4_2 ((rd_T56 l0_1 x5_2).f3)) + 1000)); rw [← Ny289.out] at HP48; have HQ48 := As.mk HP48; clear HP48
      refine start_ (n := 19) (S := fun w' => w'.cell? ⟨gb275, 0, none⟩ = some (.slice A0_0 l0_0.length c0_0) ∧ w'.cell? ⟨gb275, 1, none⟩ = some (.slice (some ad286) l0_1.length c0_1) ∧ w'.cell? (ad286.add ((x5_2).toNat * 5)) = some (.string ((rd_T56 l0_1 x5_2).f0)) ∧ w'.cell? ⟨(ad286.add ((x5_2).toNat * 5)).block, (ad286.add ((x5_2).toNat * 5)).off + 1, none⟩ = some (.slice A286_1 ((rd_T56 l0_1 x5_2).f1).length c286_1) ∧ w'.cell? ⟨(ad286.add ((x5_2).toNat * 5)).block, (ad286.add ((x5_2).toNat * 5)).off + 2, none⟩ = some (.int .i64 ((rd_T56 l0_1 x5_2).f2)) ∧ w'.cell? ⟨(ad286.add ((x5_2).toNat * 5)).block, (ad286.add ((x5_2).toNat * 5)).off + 3, none⟩ = some (.int .i64 ((rd_T56 l0_1 x5_2).f3)) ∧ w'.cell? ⟨(ad286.add ((x5_2).toNat * 5)).block, (ad286.add ((x5_2).toNat * 5)).off + 4, none⟩ = some (.int .i64 ((rd_T56 l0_1 x5_2).f4)) ∧ w'.cell? (ad286.add ((x5_2).toNat * 5)) = some (.string ((rd_T56 l0_1 x5_2).f0)) ∧ w'.cell? ⟨(ad286.add ((x5_2).toNat * 5)).block, (ad286.add ((x5_2).toNat * 5)).off + 1, none⟩ = some (.slice A286_1 ((rd_T56 l0_1 x5_2).f1).length c286_1) ∧ w'.cell? ⟨(ad286.add ((x5_2).toNat * 5)).block, (ad286.add ((x5_2).toNat * 5)).off + 2, none⟩ = some (.int .i64 ((rd_T56 l0_1 x5_2).f2)) ∧ w'.cell? ⟨(ad286.add ((x5_2).toNat * 5)).block, (ad286.add ((x5_2).toNat * 5)).off + 3, none⟩ = some (.int .i64 ((rd_T56 l0_1 x5_2).f3)) ∧ w'.cell? ⟨(ad286.add ((x5_2).toNat * 5)).block, (ad286.add ((x5_2).toNat * 5)).off + 4, none⟩ = some (.int .i64 ((rd_T56 l0_1 x5_2).f4)) ∧ w'.cell? ⟨go30, (((rd_T56 l0_1 x5_2).f3)).toNat, none⟩ = some (.int .i64 (rd x4_2 ((rd_T56 l0_1 x5_2).f3)))) (ds := [18]) #[O,O,O,O,O,O,O,O,O,O,O,O,O,O,O,O,O,O,O] (by kernel_rfl) rfl rfl ⟨(blk_cell BK275.out 0).trans rfl, (blk_cell BK275.out 1).trans rfl, (ce HB.out hw286_0 :), (ce HB.out hw286_1 :), (ce HB.out hw286_2 :), (ce HB.out hw286_3 :), (ce HB.out hw286_4 :), (ce HB.out hw287_0 :), (ce HB.out hw287_1 :), (ce HB.out hw287_2 :), (ce HB.out hw287_3 :), (ce HB.out hw287_4 :), x288a⟩ (fun hHeld => ?_); refine with_tabW spec_ProgramOk.tab12 spec_ProgramOk.bits12 (fun HT_ HW_ => ?_)
      generalize w45.drew = w46 at HO_4 BK275 HB GG30 HQ48 HR286_1 HR287_1 f30a x286a x286b x286c x286d x286e x287a x287b x287c x287d x287e x288a x30a hHeld ⊢
      refine pq 0 47 HT_ _ _ ?_; refine pq 1 48 HT_ _ _ ?_; refine pq 3 50 HT_ _ _ ?_; refine pq 7 54 HT_ _ _ ?_; refine pq 8 55 HT_ _ _ ?_; refine pq 10 57 HT_ _ _ ?_; refine tq13 2 49 HT_ HW_.out hHeld _ _ ?_; refine pq 4 51 HT_ _ _ ?_; refine pq 5 52 HT_ _ _ ?_; refine tq13 6 53 HT_ HW_.out hHeld _ _ ?_; refine tq13 9 56 HT_ HW_.out hHeld _ _ ?_; refine pq 11 58 HT_ _ _ ?_; refine pq 12 59 HT_ _ _ ?_; refine tq13 13 60 HT_ HW_.out hHeld _ _ ?_; refine pq 14 61 HT_ _ _ ?_; refine tq13 15 62 HT_ HW_.out hHeld _ _ ?_; refine pq 16 63 HT_ _ _ ?_; refine pq 17 64 HT_ _ _ ?_
      refine last_ (i := 18) (N := none) #[I,I,I,I,I,I,I,I,I,I,I,I,I,I,I,I,I,I,I] rfl rfl (one_of HT_.out (by kernel_rfl)) (by decide) (fun K hK => ?_)
      refine skip_ (w1 := ?_) (by rfl) rfl ?_ ?_
      rotate_left; · go_simp; rfl
      refine hK.out _ _ ?_
      clear hK K
      refine done_ (done_of HT_.out (by kernel_rfl)) ?_
      obtain ⟨y49a, y49b, v49a, v49b⟩ := cl2 BK275.out; have p290 : 0 ≤ (x5_2 : Int) := od; have q290 : x5_2 < (l0_1.length : Int) := od; obtain ⟨ad290, A290_1, c290_1, e290, x290a, x290b, x290c, x290d, x290e, hl290_1, hi290_1⟩ := at_T56 HR0_1.out x5_2 p290 q290; obtain rfl : ad286 = ad290 := (by injection e290); have hn290_0 : ad286.block ≠ go30 := (by first | exact nb2 x290a GB30.out | exact nb1 x290a GB30.out); replace x290a := ce HB.out x290a; replace x290b := ce HB.out x290b; replace x290c := ce HB.out x290c; replace x290d := ce HB.out x290d; replace x290e := ce HB.out x290e; have HR290_1 := As.mk hi290_1; have HC290_1 := As.mk hl290_1; clear hi290_1 hl290_1; replace x290a := cf0 (j := (((rd_T56 l0_1 x5_2).f3) : Int).toNat) (.int .i64 (wrap64 ((rd x4_2 ((rd_T56 l0_1 x5_2).f3)) + 1000))) x290a hn290_0; replace x290b := cf1 (j := (((rd_T56 l0_1 x5_2).f3) : Int).toNat) (.int .i64 (wrap64 ((rd x4_2 ((rd_T56 l0_1 x5_2).f3)) + 1000))) x290b hn290_0; replace x290c := cf1 (j := (((rd_T56 l0_1 x5_2).f3) : Int).toNat) (.int .i64 (wrap64 ((rd x4_2 ((rd_T56 l0_1 x5_2).f3)) + 1000))) x290c hn290_0; replace x290d := cf1 (j := (((rd_T56 l0_1 x5_2).f3) : Int).toNat) (.int .i64 (wrap64 ((rd x4_2 ((rd_T56 l0_1 x5_2).f3)) + 1000))) x290d hn290_0; replace x290e := cf1 (j := (((rd_T56 l0_1 x5_2).f3) : Int).toNat) (.int .i64 (wrap64 ((rd x4_2 ((rd_T56 l0_1 x5_2).f3)) + 1000))) x290e hn290_0; clear hn290_0; replace p290 := eq_true p290; replace q290 := eq_true q290; have hny275_ : gb275 ≠ go30 := (by have h_ := Kd.R_ne HO_4.out BK275.out (by decide); intro e_; exact h_ (by rw [e_]; rfl)); have hnz275_ := Ne.symm hny275_
      try go_wp2
      go_roundg k2
      case measure => have := HJ1.out; have := HK2.out; omega
      case rel => exact ⟨(y289), (wrap64 (x5_2 + 1)), (by first | rfl | (simp; done) | (simp [*]; done)), H', ⟨by have := HJ1.out; have := HK2.out; omega⟩, ⟨by (with_reducible repeat (first | apply Kd.R_alloc | apply Kd.R_drewN | apply Kd.R_drew)); exact HQ48.out⟩, ⟨by refine pl ?_; refine blk_far ?_ (by have h_ := Kd.R_ne HO_4.out BK275.out (by decide); intro e_; exact h_ (by rw [e_]; rfl)) _; exact bx BK275.out⟩, ⟨be w⟩⟩
     rw [if_pos c31] at H; have c31b0 : decide (0 ≤ ((rd_T56 l0_1 x5_2).f4)) = true := decide_eq_true c31; clear c31; replace H := ia H; obtain ⟨c32b0, H⟩ := H; replace H := ia H; obtain ⟨c33b0, H⟩ := H
     obtain ⟨y294, hy294⟩ : ∃ y_ : List Int, y_ = (y289.set (((rd_T56 l0_1 x5_2).f4) : Int).toNat (wrap64 ((rd y289 ((rd_T56 l0_1 x5_2).f4)) + 1000))) := ⟨_, rfl⟩
     replace H : (spec_ProgramOk.l0 k2 y294 (wrap64 (x5_2 + 1)) l0_0 l0_1) = some r := by first | (rw [hy294]; with_reducible exact H) | (have H2_ := (Option.bind_some _ _).symm.trans H; rw [hy294]; with_reducible exact H2_) | (have H2_ := (Option.bind_some _ _).symm.trans H; with_reducible exact H2_) | with_reducible exact H | (rw [hy294]; exact H) | exact H
     have Ny294 := As.mk hy294; clear hy294; have H' := As.mk H; clear H; obtain ⟨y35a, y35b, v35a, v35b⟩ := cl2 BK275.out
     try go_wp2_with (first | ((with_reducible refine gate_callee (f := 77) rfl ?_); refine goL (some 45) Tryz.func77 #[.agg #[.slice A0_0 l0_0.length c0_0, .slice A0_1 l0_1.length c0_1], .int .i64 x5_2] ?_; (with_reducible refine (spec_l04Fn.calls k2 _ _ l0_0 _ _ l0_1 x5_2 true _ (cb HR0_0) HC0_0.out (cb HR0_1) HC0_1.out A25.out).mono ?_); rintro e w36 ⟨rfl, hb⟩; refine ⟨_, rfl, ?_⟩; replace HO_4 := As.mk (Kd.R_below (by (with_reducible repeat (first | apply Kd.R_alloc | apply Kd.R_drewN | apply Kd.R_drew)); exact HO_4.out) hb); replace BK275 := bb BK275 hb; replace HB := bs w hb; (try clear hb)))
     replace HO_4 := As.mk (Kd.R_drew HO_4.out); replace BK275 := As.mk (blk_drew BK275.out); replace HB := As.mk (below_drew1 HB.out); have p286 : 0 ≤ (x5_2 : Int) := od; have q286 : x5_2 < (l0_1.length : Int) := od; obtain ⟨ad286, A286_1, c286_1, e286, x286a, x286b, x286c, x286d, x286e, hl286_1, hi286_1⟩ := at_T56 HR0_1.out x5_2 p286 q286; have hw286_4 := x286e; have hw286_3 := x286d; have hw286_2 := x286c; have hw286_1 := x286b; have hw286_0 := x286a; cases e286; replace x286a := ce HB.out x286a; replace x286b := ce HB.out x286b; replace x286c := ce HB.out x286c; replace x286d := ce HB.out x286d; replace x286e := ce HB.out x286e; have HR286_1 := As.mk hi286_1; have HC286_1 := As.mk hl286_1; clear hi286_1 hl286_1; replace p286 := eq_true p286; replace q286 := eq_true q286; have p287 : 0 ≤ (x5_2 : Int) := od; have q287 : x5_2 < (l0_1.length : Int) := od; obtain ⟨ad287, A287_1, c287_1, e287, x287a, x287b, x287c, x287d, x287e, hl287_1, hi287_1⟩ := at_T56 HR0_1.out x5_2 p287 q287; have hw287_4 := x287e; have hw287_3 := x287d; have hw287_2 := x287c; have hw287_1 := x287b; have hw287_0 := x287a; obtain rfl : ad286 = ad287 := (by injection e287); replace x287a := ce HB.out x287a; replace x287b := ce HB.out x287b; replace x287c := ce HB.out x287c; replace x287d := ce HB.out x287d; replace x287e := ce HB.out x287e; have HR287_1 := As.mk hi287_1; have HC287_1 := As.mk hl287_1; clear hi287_1 hl287_1; replace p287 := eq_true p287; replace q287 := eq_true q287; have ea_ := Option.some.inj (x286b.symm.trans x287b)
     injection ea_ with ea_ en_ ec_
     subst ea_; subst ec_; clear en_; obtain ⟨Ao38, co38, eo38⟩ := Kd.R_slice HO_4.out
     (first | subst eo38 | (injection eo38 with f1_ f2_ f3_; have f4_ := f1_.symm; have f5_ := f3_.symm; clear f1_ f2_ f3_; subst f4_; subst f5_))
     have p288 : 0 ≤ (((rd_T56 l0_1 x5_2).f3) : Int) := od; have q288 : ((rd_T56 l0_1 x5_2).f3) < (x4_2.length : Int) := od; obtain ⟨ad288, e288, x288a⟩ := Kd.at_int (Kd.R_reads' HO_4.out).2.2 ((rd_T56 l0_1 x5_2).f3) p288 q288; cases e288; replace p288 := eq_true p288; replace q288 := eq_true q288; have p30 : 0 ≤ (((rd_T56 l0_1 x5_2).f3) : Int) := od; have q30 : (((rd_T56 l0_1 x5_2).f3) : Int) < ((x4_2.length : Int) : Int) := od; obtain ⟨go30, co30, eo30, gb30, gl30, cl30, HG30⟩ := Kd.R_form HO_4.out (by omega)
     (first | cases eo30 | (injection eo30 with ea_ en_ ec_; (first | subst ea_ | (injection ea_ with ea_; subst ea_)); subst ec_; clear en_))
     have GB30 := As.mk gb30; have GG30 := As.mk HG30; clear gb30 gl30 HG30
     (first | simp only [add_plain] at x288a | skip)
     obtain ⟨x30a, f30a⟩ := Kd.R_celln 0 HO_4.out (((rd_T56 l0_1 x5_2).f3) : Int) p30 q30; replace p30 := eq_true p30; replace q30 := eq_true q30; have HP39 := Kd.R_putn HO_4.out (((rd_T56 l0_1 x5_2).f3) : Int) (wrap64 ((rd x4_2 ((rd_T56 l0_1 x5_2).f3)) + 1000)); rw [← Ny289.out] at HP39; have HQ39 := As.mk HP39; clear HP39
     refine start_ (n := 19) (S := fun w' => w'.cell? ⟨gb275, 0, none⟩ = some (.slice A0_0 l0_0.length c0_0) ∧ w'.cell? ⟨gb275, 1, none⟩ = some (.slice (some ad286) l0_1.length c0_1) ∧ w'.cell? (ad286.add ((x5_2).toNat * 5)) = some (.string ((rd_T56 l0_1 x5_2).f0)) ∧ w'.cell? ⟨(ad286.add ((x5_2).toNat * 5)).block, (ad286.add ((x5_2).toNat * 5)).off + 1, none⟩ = some (.slice A286_1 ((rd_T56 l0_1 x5_2).f1).length c286_1) ∧ w'.cell? ⟨(ad286.add ((x5_2).toNat * 5)).block, (ad286.add ((x5_2).toNat * 5)).off + 2, none⟩ = some (.int .i64 ((rd_T56 l0_1 x5_2).f2)) ∧ w'.cell? ⟨(ad286.add ((x5_2).toNat * 5)).block, (ad286.add ((x5_2).toNat * 5)).off + 3, none⟩ = some (.int .i64 ((rd_T56 l0_1 x5_2).f3)) ∧ w'.cell? ⟨(ad286.add ((x5_2).toNat * 5)).block, (ad286.add ((x5_2).toNat * 5)).off + 4, none⟩ = some (.int .i64 ((rd_T56 l0_1 x5_2).f4)) ∧ w'.cell? (ad286.add ((x5_2).toNat * 5)) = some (.string ((rd_T56 l0_1 x5_2).f0)) ∧ w'.cell? ⟨(ad286.add ((x5_2).toNat * 5)).block, (ad286.add ((x5_2).toNat * 5)).off + 1, none⟩ = some (.slice A286_1 ((rd_T56 l0_1 x5_2).f1).length c286_1) ∧ w'.cell? ⟨(ad286.add ((x5_2).toNat * 5)).block, (ad286.add ((x5_2).toNat * 5)).off + 2, none⟩ = some (.int .i64 ((rd_T56 l0_1 x5_2).f2)) ∧ w'.cell? ⟨(ad286.add ((x5_2).toNat * 5)).block, (ad286.add ((x5_2).toNat * 5)).off + 3, none⟩ = some (.int .i64 ((rd_T56 l0_1 x5_2).f3)) ∧ w'.cell? ⟨(ad286.add ((x5_2).toNat * 5)).block, (ad286.add ((x5_2).toNat * 5)).off + 4, none⟩ = some (.int .i64 ((rd_T56 l0_1 x5_2).f4)) ∧ w'.cell? ⟨go30, (((rd_T56 l0_1 x5_2).f3)).toNat, none⟩ = some (.int .i64 (rd x4_2 ((rd_T56 l0_1 x5_2).f3)))) (ds := [18]) #[O,O,O,O,O,O,O,O,O,O,O,O,O,O,O,O,O,O,O] (by kernel_rfl) rfl rfl ⟨(blk_cell BK275.out 0).trans rfl, (blk_cell BK275.out 1).trans rfl, (ce HB.out hw286_0 :), (ce HB.out hw286_1 :), (ce HB.out hw286_2 :), (ce HB.out hw286_3 :), (ce HB.out hw286_4 :), (ce HB.out hw287_0 :), (ce HB.out hw287_1 :), (ce HB.out hw287_2 :), (ce HB.out hw287_3 :), (ce HB.out hw287_4 :), x288a⟩ (fun hHeld => ?_); refine with_tabW spec_ProgramOk.tab12 spec_ProgramOk.bits12 (fun HT_ HW_ => ?_)
     generalize w36.drew = w37 at HO_4 BK275 HB GG30 HQ39 HR286_1 HR287_1 f30a x286a x286b x286c x286d x286e x287a x287b x287c x287d x287e x288a x30a hHeld ⊢
     refine pq 0 47 HT_ _ _ ?_; refine pq 1 48 HT_ _ _ ?_; refine pq 3 50 HT_ _ _ ?_; refine pq 7 54 HT_ _ _ ?_; refine pq 8 55 HT_ _ _ ?_; refine pq 10 57 HT_ _ _ ?_; refine tq13 2 49 HT_ HW_.out hHeld _ _ ?_; refine pq 4 51 HT_ _ _ ?_; refine pq 5 52 HT_ _ _ ?_; refine tq13 6 53 HT_ HW_.out hHeld _ _ ?_; refine tq13 9 56 HT_ HW_.out hHeld _ _ ?_; refine pq 11 58 HT_ _ _ ?_; refine pq 12 59 HT_ _ _ ?_; refine tq13 13 60 HT_ HW_.out hHeld _ _ ?_; refine pq 14 61 HT_ _ _ ?_; refine tq13 15 62 HT_ HW_.out hHeld _ _ ?_; refine pq 16 63 HT_ _ _ ?_; refine pq 17 64 HT_ _ _ ?_
     refine last_ (i := 18) (N := none) #[I,I,I,I,I,I,I,I,I,I,I,I,I,I,I,I,I,I,I] rfl rfl (one_of HT_.out (by kernel_rfl)) (by decide) (fun K hK => ?_)
     refine skip_ (w1 := ?_) (by rfl) rfl ?_ ?_
     rotate_left; · go_simp; rfl
     refine hK.out _ _ ?_
     clear hK K
     refine done_ (done_of HT_.out (by kernel_rfl)) ?_
     obtain ⟨y40a, y40b, v40a, v40b⟩ := cl2 BK275.out; have p290 : 0 ≤ (x5_2 : Int) := od; have q290 : x5_2 < (l0_1.length : Int) := od; obtain ⟨ad290, A290_1, c290_1, e290, x290a, x290b, x290c, x290d, x290e, hl290_1, hi290_1⟩ := at_T56 HR0_1.out x5_2 p290 q290; obtain rfl : ad286 = ad290 := (by injection e290); have hn290_0 : ad286.block ≠ go30 := (by first | exact nb2 x290a GB30.out | exact nb1 x290a GB30.out); replace x290a := ce HB.out x290a; replace x290b := ce HB.out x290b; replace x290c := ce HB.out x290c; replace x290d := ce HB.out x290d; replace x290e := ce HB.out x290e; have HR290_1 := As.mk hi290_1; have HC290_1 := As.mk hl290_1; clear hi290_1 hl290_1; replace x290a := cf0 (j := (((rd_T56 l0_1 x5_2).f3) : Int).toNat) (.int .i64 (wrap64 ((rd x4_2 ((rd_T56 l0_1 x5_2).f3)) + 1000))) x290a hn290_0; replace x290b := cf1 (j := (((rd_T56 l0_1 x5_2).f3) : Int).toNat) (.int .i64 (wrap64 ((rd x4_2 ((rd_T56 l0_1 x5_2).f3)) + 1000))) x290b hn290_0; replace x290c := cf1 (j := (((rd_T56 l0_1 x5_2).f3) : Int).toNat) (.int .i64 (wrap64 ((rd x4_2 ((rd_T56 l0_1 x5_2).f3)) + 1000))) x290c hn290_0; replace x290d := cf1 (j := (((rd_T56 l0_1 x5_2).f3) : Int).toNat) (.int .i64 (wrap64 ((rd x4_2 ((rd_T56 l0_1 x5_2).f3)) + 1000))) x290d hn290_0; replace x290e := cf1 (j := (((rd_T56 l0_1 x5_2).f3) : Int).toNat) (.int .i64 (wrap64 ((rd x4_2 ((rd_T56 l0_1 x5_2).f3)) + 1000))) x290e hn290_0; clear hn290_0; replace p290 := eq_true p290; replace q290 := eq_true q290; have hny275_ : gb275 ≠ go30 := (by have h_ := Kd.R_ne HO_4.out BK275.out (by decide); intro e_; exact h_ (by rw [e_]; rfl)); have hnz275_ := Ne.symm hny275_
     try go_wp2
     generalize hW_ : (w37.setCell ⟨go30, (((rd_T56 l0_1 x5_2).f3) : Int).toNat, none⟩ (.int .i64 (wrap64 ((rd x4_2 ((rd_T56 l0_1 x5_2).f3)) + 1000)))) = w41
     have n0_ : As (Kd.R (Kd.int .i64) 3 w41 w.heap.size (fun _ => True) (.slice (some ⟨go30, 0, none⟩) x4_2.length co38) y289) := ⟨by rw [← hW_]; (with_reducible repeat (first | apply Kd.R_alloc | apply Kd.R_drewN | apply Kd.R_drew)); exact HQ39.out⟩; have n1_ : As (w41.heap[gb275]? = some (.cells #[.slice A0_0 l0_0.length c0_0, .slice (some ad286) l0_1.length c0_1] 32 (0, 0))) := ⟨by rw [← hW_]; refine pl ?_; refine blk_far ?_ (by have h_ := Kd.R_ne HO_4.out BK275.out (by decide); intro e_; exact h_ (by rw [e_]; rfl)) _; exact bx BK275.out⟩; have n2_ : As (Below w.heap.size w w41) := ⟨by rw [← hW_]; exact be w⟩; (try clear HO_4); (try clear BK275); (try clear HB); clear hW_; have HO_4 := n0_; have BK275 := n1_; have HB := n2_; clear n0_ n1_ n2_; replace HO_4 := As.mk (Kd.R_drew HO_4.out); replace BK275 := As.mk (blk_drew BK275.out); replace HB := As.mk (below_drew1 HB.out); have p291 : 0 ≤ (x5_2 : Int) := od; have q291 : x5_2 < (l0_1.length : Int) := od; obtain ⟨ad291, A291_1, c291_1, e291, x291a, x291b, x291c, x291d, x291e, hl291_1, hi291_1⟩ := at_T56 HR0_1.out x5_2 p291 q291; have hw291_4 := x291e; have hw291_3 := x291d; have hw291_2 := x291c; have hw291_1 := x291b; have hw291_0 := x291a; obtain rfl : ad286 = ad291 := (by injection e291); replace x291a := ce HB.out x291a; replace x291b := ce HB.out x291b; replace x291c := ce HB.out x291c; replace x291d := ce HB.out x291d; replace x291e := ce HB.out x291e; have HR291_1 := As.mk hi291_1; have HC291_1 := As.mk hl291_1; clear hi291_1 hl291_1; replace p291 := eq_true p291; replace q291 := eq_true q291; have p292 : 0 ≤ (x5_2 : Int) := od; have q292 : x5_2 < (l0_1.length : Int) := od; obtain ⟨ad292, A292_1, c292_1, e292, x292a, x292b, x292c, x292d, x292e, hl292_1, hi292_1⟩ := at_T56 HR0_1.out x5_2 p292 q292; have hw292_4 := x292e; have hw292_3 := x292d; have hw292_2 := x292c; have hw292_1 := x292b; have hw292_0 := x292a; obtain rfl : ad286 = ad292 := (by injection e292); replace x292a := ce HB.out x292a; replace x292b := ce HB.out x292b; replace x292c := ce HB.out x292c; replace x292d := ce HB.out x292d; replace x292e := ce HB.out x292e; have HR292_1 := As.mk hi292_1; have HC292_1 := As.mk hl292_1; clear hi292_1 hl292_1; replace p292 := eq_true p292; replace q292 := eq_true q292; have ea_ := Option.some.inj (x291b.symm.trans x292b)
     injection ea_ with ea_ en_ ec_
     subst ea_; subst ec_; clear en_; have p293 : 0 ≤ (((rd_T56 l0_1 x5_2).f4) : Int) := od; have q293 : ((rd_T56 l0_1 x5_2).f4) < (y289.length : Int) := (by have h_ : (((rd_T56 l0_1 x5_2).f4) : Int) < ((x4_2.length : Int) : Int) := od; first | (have e_ := (Kd.R_reads' HO_4.out).1; omega) | simpa only [Ny289.out, List.length_set] using h_); have ql293 : ((((rd_T56 l0_1 x5_2).f4) : Int) < ((x4_2.length : Int) : Int)) = True := eq_true (of_decide_eq_true (by first | (with_reducible assumption) | assumption)); obtain ⟨ad293, e293, x293a⟩ := Kd.at_int (Kd.R_reads' HO_4.out).2.2 ((rd_T56 l0_1 x5_2).f4) p293 q293; obtain rfl : (⟨go30, 0, none⟩ : Addr) = ad293 := (by injection e293)
     (first | simp only [add_plain] at x293a | simp only [add_at] at x293a | simp only [Addr.add, Nat.zero_add] at x293a | skip)
     replace p293 := eq_true p293; replace q293 := eq_true q293; have p34 : 0 ≤ (((rd_T56 l0_1 x5_2).f4) : Int) := od; have q34 : (((rd_T56 l0_1 x5_2).f4) : Int) < ((x4_2.length : Int) : Int) := od; obtain ⟨x34a, f34a⟩ := Kd.R_celln 0 HO_4.out (((rd_T56 l0_1 x5_2).f4) : Int) p34 q34; replace p34 := eq_true p34; replace q34 := eq_true q34; have HP43 := Kd.R_putn HO_4.out (((rd_T56 l0_1 x5_2).f4) : Int) (wrap64 ((rd y289 ((rd_T56 l0_1 x5_2).f4)) + 1000)); rw [← Ny294.out] at HP43; have HQ43 := As.mk HP43; clear HP43
     refine start_ (n := 19) (S := fun w' => w'.cell? ⟨gb275, 0, none⟩ = some (.slice A0_0 l0_0.length c0_0) ∧ w'.cell? ⟨gb275, 1, none⟩ = some (.slice (some ad286) l0_1.length c0_1) ∧ w'.cell? (ad286.add ((x5_2).toNat * 5)) = some (.string ((rd_T56 l0_1 x5_2).f0)) ∧ w'.cell? ⟨(ad286.add ((x5_2).toNat * 5)).block, (ad286.add ((x5_2).toNat * 5)).off + 1, none⟩ = some (.slice A291_1 ((rd_T56 l0_1 x5_2).f1).length c291_1) ∧ w'.cell? ⟨(ad286.add ((x5_2).toNat * 5)).block, (ad286.add ((x5_2).toNat * 5)).off + 2, none⟩ = some (.int .i64 ((rd_T56 l0_1 x5_2).f2)) ∧ w'.cell? ⟨(ad286.add ((x5_2).toNat * 5)).block, (ad286.add ((x5_2).toNat * 5)).off + 3, none⟩ = some (.int .i64 ((rd_T56 l0_1 x5_2).f3)) ∧ w'.cell? ⟨(ad286.add ((x5_2).toNat * 5)).block, (ad286.add ((x5_2).toNat * 5)).off + 4, none⟩ = some (.int .i64 ((rd_T56 l0_1 x5_2).f4)) ∧ w'.cell? (ad286.add ((x5_2).toNat * 5)) = some (.string ((rd_T56 l0_1 x5_2).f0)) ∧ w'.cell? ⟨(ad286.add ((x5_2).toNat * 5)).block, (ad286.add ((x5_2).toNat * 5)).off + 1, none⟩ = some (.slice A291_1 ((rd_T56 l0_1 x5_2).f1).length c291_1) ∧ w'.cell? ⟨(ad286.add ((x5_2).toNat * 5)).block, (ad286.add ((x5_2).toNat * 5)).off + 2, none⟩ = some (.int .i64 ((rd_T56 l0_1 x5_2).f2)) ∧ w'.cell? ⟨(ad286.add ((x5_2).toNat * 5)).block, (ad286.add ((x5_2).toNat * 5)).off + 3, none⟩ = some (.int .i64 ((rd_T56 l0_1 x5_2).f3)) ∧ w'.cell? ⟨(ad286.add ((x5_2).toNat * 5)).block, (ad286.add ((x5_2).toNat * 5)).off + 4, none⟩ = some (.int .i64 ((rd_T56 l0_1 x5_2).f4)) ∧ w'.cell? ⟨go30, (((rd_T56 l0_1 x5_2).f4)).toNat, none⟩ = some (.int .i64 (rd y289 ((rd_T56 l0_1 x5_2).f4)))) (ds := [18]) #[O,O,O,O,O,O,O,O,O,O,O,O,O,O,O,O,O,O,O] (by kernel_rfl) rfl rfl ⟨(blk_cell BK275.out 0).trans rfl, (blk_cell BK275.out 1).trans rfl, (ce HB.out hw291_0 :), (ce HB.out hw291_1 :), (ce HB.out hw291_2 :), (ce HB.out hw291_3 :), (ce HB.out hw291_4 :), (ce HB.out hw292_0 :), (ce HB.out hw292_1 :), (ce HB.out hw292_2 :), (ce HB.out hw292_3 :), (ce HB.out hw292_4 :), x293a⟩ (fun hHeld => ?_); refine with_tabW spec_ProgramOk.tab14 spec_ProgramOk.bits14 (fun HT_ HW_ => ?_)
     generalize w41.drew = w42 at HO_4 BK275 HB HQ39 HQ43 HR291_1 HR292_1 f34a x291a x291b x291c x291d x291e x292a x292b x292c x292d x292e x293a x34a hHeld ⊢
     refine pq 0 72 HT_ _ _ ?_; refine pq 1 73 HT_ _ _ ?_; refine pq 3 75 HT_ _ _ ?_; refine pq 7 79 HT_ _ _ ?_; refine pq 8 80 HT_ _ _ ?_; refine pq 10 82 HT_ _ _ ?_; refine tq13 2 74 HT_ HW_.out hHeld _ _ ?_; refine pq 4 76 HT_ _ _ ?_; refine pq 5 77 HT_ _ _ ?_; refine tq13 6 78 HT_ HW_.out hHeld _ _ ?_; refine tq13 9 81 HT_ HW_.out hHeld _ _ ?_; refine pq 11 83 HT_ _ _ ?_; refine pq 12 84 HT_ _ _ ?_; refine tq13 13 85 HT_ HW_.out hHeld _ _ ?_; refine pq 14 86 HT_ _ _ ?_; refine tq13 15 87 HT_ HW_.out hHeld _ _ ?_; refine pq 16 88 HT_ _ _ ?_; refine pq 17 89 HT_ _ _ ?_
     refine last_ (i := 18) (N := none) #[I,I,I,I,I,I,I,I,I,I,I,I,I,I,I,I,I,I,I] rfl rfl (one_of HT_.out (by kernel_rfl)) (by decide) (fun K hK => ?_)
     refine skip_ (w1 := ?_) (by rfl) rfl ?_ ?_
     rotate_left; · go_simp; rfl
     refine hK.out _ _ ?_
     clear hK K
     refine done_ (done_of HT_.out (by kernel_rfl)) ?_
     have hny275_ : gb275 ≠ go30 := (by have h_ := Kd.R_ne HO_4.out BK275.out (by decide); intro e_; exact h_ (by rw [e_]; rfl)); have hnz275_ := Ne.symm hny275_
     try go_wp2
     go_roundg k2
     case measure => have := HJ1.out; have := HK2.out; omega
     case rel => exact ⟨(y294), (wrap64 (x5_2 + 1)), (by first | rfl | (simp; done) | (simp [*]; done)), H', ⟨by have := HJ1.out; have := HK2.out; omega⟩, ⟨by (with_reducible repeat (first | apply Kd.R_alloc | apply Kd.R_drewN | apply Kd.R_drew)); exact HQ43.out⟩, ⟨by refine pl ?_; refine blk_far ?_ (by have h_ := Kd.R_ne HO_4.out BK275.out (by decide); intro e_; exact h_ (by rw [e_]; rfl)) _; exact bx BK275.out⟩, ⟨be w⟩⟩
/-! ### spec_l06Type: function 50 -/
def spec_l06Type.f (a0 : Int) : Option (ByteArray) := if a0 = 1 then (some (⟨#[105, 110, 116]⟩ : ByteArray)) else (if a0 = 2 then (some (⟨#[98, 111, 120]⟩ : ByteArray)) else (if a0 = 3 then (some (⟨#[38, 98, 111, 120]⟩ : ByteArray)) else (some (⟨#[38, 109, 117, 116, 32, 98, 111, 120]⟩ : ByteArray))))
set_option maxHeartbeats 8000000 in
set_option maxRecDepth 100000 in
theorem spec_l06Type.calls (a0 : Int) (r : ByteArray) (w : World) (h : spec_l06Type.f a0 = some r) :
  Calls Tryz.prog 50 #[.int .i64 a0] w fun e w' => e = .returned (.string r) ∧ Drawn0 w w' := by
 have H : (if a0 = 1 then (some (⟨#[105, 110, 116]⟩ : ByteArray)) else (if a0 = 2 then (some (⟨#[98, 111, 120]⟩ : ByteArray)) else (if a0 = 3 then (some (⟨#[38, 98, 111, 120]⟩ : ByteArray)) else (some (⟨#[38, 109, 117, 116, 32, 98, 111, 120]⟩ : ByteArray))))) = some r := h; clear h
 by_cases c2 : a0 = 1
 ·
  rw [if_pos c2] at H; have c2b0 : (a0 == 1) = true := beq_iff_eq.mpr c2; have c2b1 : (a0 != 1) = false := bne_eq_false_iff_eq.mpr c2; clear c2; obtain rfl := sj H; go_enter Tryz.func50, Tryz.ntmps50
  go_wp2
  go_ret
  exact dw
 rw [if_neg c2] at H; have c2b0 : (a0 == 1) = false := beq_eq_false_iff_ne.mpr c2; have c2b1 : (a0 != 1) = true := bne_iff_ne.mpr c2
 by_cases c3 : a0 = 2
 ·
  rw [if_pos c3] at H; have c3b0 : (a0 == 2) = true := beq_iff_eq.mpr c3; have c3b1 : (a0 != 2) = false := bne_eq_false_iff_eq.mpr c3; clear c3; obtain rfl := sj H; go_enter Tryz.func50, Tryz.ntmps50
  go_wp2
  go_ret
  exact dw
 rw [if_neg c3] at H; have c3b0 : (a0 == 2) = false := beq_eq_false_iff_ne.mpr c3; have c3b1 : (a0 != 2) = true := bne_iff_ne.mpr c3
 by_cases c4 : a0 = 3
 rotate_left
 ·
  rw [if_neg c4] at H; have c4b0 : (a0 == 3) = false := beq_eq_false_iff_ne.mpr c4; have c4b1 : (a0 != 3) = true := bne_iff_ne.mpr c4; obtain rfl := sj H; go_enter Tryz.func50, Tryz.ntmps50
  go_wp2
  go_ret
  exact dw

 rw [if_pos c4] at H; have c4b0 : (a0 == 3) = true := beq_iff_eq.mpr c4; have c4b1 : (a0 != 3) = false := bne_eq_false_iff_eq.mpr c4; clear c4; obtain rfl := sj H; go_enter Tryz.func50, Tryz.ntmps50
 go_wp2
 go_ret
 exact dw
/-! ### spec_l01Figure: function 105 -/
def spec_l01Figure.f (a0 : Int) : Option (Int) := if a0 < 10 then (some ((wrap64 (48 + a0)) % 256)) else (some ((wrap64 ((wrap64 (97 + a0)) - 10)) % 256))
set_option maxHeartbeats 8000000 in
set_option maxRecDepth 100000 in
theorem spec_l01Figure.calls (a0 : Int) (r : Int) (w : World) (h : spec_l01Figure.f a0 = some r) :
  Calls Tryz.prog 105 #[.int .i64 a0] w fun e w' => e = .returned (.int .u8 r) ∧ Drawn0 w w' := by
 have H : (if a0 < 10 then (some ((wrap64 (48 + a0)) % 256)) else (some ((wrap64 ((wrap64 (97 + a0)) - 10)) % 256))) = some r := h; clear h
 by_cases c2 : a0 < 10
 ·
  rw [if_pos c2] at H; have c2b0 := decide_eq_true c2; clear c2; obtain rfl := sj H; go_enter Tryz.func105, Tryz.ntmps105
  go_wp2
  go_ret
  exact dw
 rw [if_neg c2] at H; have c2b0 := decide_eq_false c2; clear c2; obtain rfl := sj H; go_enter Tryz.func105, Tryz.ntmps105
 go_wp2
 go_ret
 exact dw

end Go.Proofs.YtcoapbnbakmkoaaGreatDoor.PFnExactShowProgram
