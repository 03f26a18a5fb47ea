/- Written by a program of this session (a turned copy of the kit's print): a contract for each Go function. No condition beside those in each statement. -/
import Derived.Test.YtnlhjblfemgggaaPFnExactFreedx0
import Derived.Test.YtnlhjblfemgggaaPFnExactFreedx2
import Derived.Test.YtnlhjblfemgggaaPFnExactFreedx5
import Derived.Test.YtnlhjblfemgggaaPFnExactFreedx6
import Derived.Test.YtnlhjblfemgggaaPFnExactFreedx7
namespace Go.Proofs.Ytnlhjblfemgggaa.PFnExactFreed
open Go.RowKit Go.Proofs.YtnlhjblfemgggaaW.PrintWords Go.Proofs.YtnlhjblfemgggaaW.PrintLast Go.Proofs.YtnlhjblfemgggaaW.PrintMore
attribute [local go_sem] max2_int min2_int max_two min_two max_three min_three max_four min_four   -- for this text's walks alone
set_option linter.unusedVariables false
set_option linter.unusedSimpArgs false

set_option maxHeartbeats 8000000 in
set_option maxRecDepth 100000 in
theorem laws_FnExactFreed.calls (k : Nat) (A0_0 : Option Addr) (c0_0 : Nat) (l0_0 : List (S98)) (A0_1 : Option Addr) (c0_1 : Nat) (l0_1 : List Int) (A0_2 : Option Addr) (c0_2 : Nat) (l0_2 : List Int) (a0_3 : Int) (a0_4 : Int) (a1_0 : Int) (a1_1 : Int) (r : Bool) (w : World) (hr0_0 : Kd.C k98 w A0_0 l0_0.length l0_0) (hc0_0 : l0_0.length ≤ c0_0) (hr0_1 : Kd.C (Kd.int .i64) w A0_1 l0_1.length l0_1) (hc0_1 : l0_1.length ≤ c0_1) (hr0_2 : Kd.C (Kd.int .i64) w A0_2 l0_2.length l0_2) (hc0_2 : l0_2.length ≤ c0_2) (hrt : As (r = true)) (h : laws_FnExactFreed.f k l0_0 l0_1 l0_2 a0_3 a0_4 a1_0 a1_1 = some r) :
  Calls Try.prog 5 #[.agg #[.slice A0_0 l0_0.length c0_0, .slice A0_1 l0_1.length c0_1, .slice A0_2 l0_2.length c0_2, .int .i64 a0_3, .int .i64 a0_4], .agg #[.int .i64 a1_0, .int .i64 a1_1]] w fun e w' => e = .returned (.bool r) ∧ Below w.heap.size w w' := by
 refine laws_FnExactFreed.callsP0.2 ⟨?_⟩ k A0_0 c0_0 l0_0 A0_1 c0_1 l0_1 A0_2 c0_2 l0_2 a0_3 a0_4 a1_0 a1_1 r w hr0_0 hc0_0 hr0_1 hc0_1 hr0_2 hc0_2 hrt h
 clear h hrt hc0_2 hr0_2 hc0_1 hr0_1 hc0_0 hr0_0 w r a1_1 a1_0 a0_4 a0_3 l0_2 c0_2 A0_2 l0_1 c0_1 A0_1 l0_0 c0_0 A0_0 k
 delta laws_FnExactFreed.callsP0
 dsimp only
 (set_option tactic.hygienic false in intros)
 (try rename World => wc)
 clear HC115
 (try clear hcz110_0); (try clear hcz110_1); (try clear hcz110_2); (try clear hcz110_3); (try clear hcz110_4); (try clear hcz112_0); (try clear hcz112_1); (try clear hcz112_2); (try clear hcz112_3); (try clear hcz112_4); (try clear hcz66_0); (try clear hcz66_1); (try clear hcz66_2); (try clear hcz66_3); (try clear hcz66_4); (try clear hcz68_0); (try clear hcz68_1); (try clear hcz68_2); (try clear hcz68_3); (try clear hcz68_4); (try clear hcz87_0); (try clear hcz87_1); (try clear hcz87_2); (try clear hcz87_3); (try clear hcz87_4); (try clear hfz110_0); (try clear hfz110_1); (try clear hfz110_2); (try clear hfz110_3); (try clear hfz110_4); (try clear hfz112_0); (try clear hfz112_1); (try clear hfz112_2); (try clear hfz112_3); (try clear hfz112_4); (try clear hfz66_0); (try clear hfz66_1); (try clear hfz66_2); (try clear hfz66_3); (try clear hfz66_4); (try clear hfz68_0); (try clear hfz68_1); (try clear hfz68_2); (try clear hfz68_3); (try clear hfz68_4); (try clear hfz87_0); (try clear hfz87_1); (try clear hfz87_2); (try clear hfz87_3); (try clear hfz87_4)
 obtain ⟨kq, HA, HJ114, HO_267000, HO_267001, HO_267002, HO_279000, HO_279001, HO_279002, HO_293000, HO_293001, HO_293002, BK239, BK240, BK266, BK278, BK292, HB⟩ := hcut
 cases kq with
 | zero => exact absurd HA.out (by simp [laws_FnExactFreed.j6])
 | succ kj114 =>
  have H := HA.out
  clear HA
  simp only [laws_FnExactFreed.j6] at H
  obtain ⟨⟨t316, t319, t322, t325, t326⟩, A1170, H⟩ := Option.bind_eq_some_iff.mp H
  try dsimp only at H
  have A117 := As.mk A1170
  clear A1170
  obtain ⟨⟨t327, t328⟩, A1180, H⟩ := Option.bind_eq_some_iff.mp H
  try dsimp only at H
  have A118 := As.mk A1180
  clear A1180
  obtain ⟨⟨t329, t332, t335, t338, t339⟩, A1190, H⟩ := Option.bind_eq_some_iff.mp H
  try dsimp only at H
  have A119 := As.mk A1190
  clear A1190
  obtain ⟨t341, A1200, H⟩ := Option.bind_eq_some_iff.mp H
  try dsimp only at H
  have A120 := As.mk A1200
  clear A1200
  have HC121 := As.mk H
  clear H
  try go_wp2
  replace HO_267000 := As.mk (Kd.R_drew HO_267000.out)
  replace HO_267001 := As.mk (Kd.R_drew HO_267001.out)
  replace HO_267002 := As.mk (Kd.R_drew HO_267002.out)
  replace HO_293000 := As.mk (Kd.R_drew HO_293000.out)
  replace HO_293001 := As.mk (Kd.R_drew HO_293001.out)
  replace HO_293002 := As.mk (Kd.R_drew HO_293002.out)
  replace BK239 := As.mk (blk_drew BK239.out)
  replace BK240 := As.mk (blk_drew BK240.out)
  replace BK266 := As.mk (blk_drew BK266.out)
  replace BK278 := As.mk (blk_drew BK278.out)
  replace BK292 := As.mk (blk_drew BK292.out)
  replace HB := As.mk (below_drew1 HB.out)
  refine start_ (n := 7) (S := fun w' => w'.cell? ⟨gb239, 0, none⟩ = some (.slice A0_0 l0_0.length c0_0) ∧ w'.cell? ⟨gb239, 1, none⟩ = some (.slice A0_1 l0_1.length c0_1) ∧ w'.cell? ⟨gb239, 2, none⟩ = some (.slice A0_2 l0_2.length c0_2) ∧ w'.cell? ⟨gb239, 3, none⟩ = some (.int .i64 a0_3) ∧ w'.cell? ⟨gb239, 4, none⟩ = some (.int .i64 a0_4) ∧ w'.cell? ⟨gb240, 0, none⟩ = some (.int .i64 a1_0) ∧ w'.cell? ⟨gb240, 1, none⟩ = some (.int .i64 a1_1)) (ds := []) #[O, O, O, O, O, O, O] (by kernel_rfl) rfl rfl ⟨(blk_cell BK239.out 0).trans rfl, (blk_cell BK239.out 1).trans rfl, (blk_cell BK239.out 2).trans rfl, (blk_cell BK239.out 3).trans rfl, (blk_cell BK239.out 4).trans rfl, (blk_cell BK240.out 0).trans rfl, (blk_cell BK240.out 1).trans rfl⟩ (fun hHeld => ?_)
  generalize wc.drew = w122 at HO_267000 HO_267001 HO_267002 HO_293000 HO_293001 HO_293002 BK239 BK240 BK266 BK278 BK292 HB hHeld ⊢
  refine take_ (i := 0) (N := some 60) (v := ?_) (a' := ?_) #[I, O, O, O, O, O, O] rfl rfl (by kernel_rfl) (fun _ _ _ h => h) (Or.inl ⟨by rfl, ?_⟩) hHeld ?_ ?_
  rotate_left
  ·
   rintro w' ⟨s0, s1, s2, s3, s4, s5, s6⟩
   go_simp
   with_reducible rfl
  rotate_left
  ·
   simp only [pk, i64_w, i32_w]
   rfl
  refine take_ (i := 2) (N := some 62) (v := ?_) (a' := ?_) #[I, O, I, O, O, O, O] rfl rfl (by kernel_rfl) (fun _ _ _ h => h) (Or.inl ⟨by rfl, ?_⟩) hHeld ?_ ?_
  rotate_left
  ·
   rintro w' ⟨s0, s1, s2, s3, s4, s5, s6⟩
   go_simp
   with_reducible rfl
  rotate_left
  ·
   simp only [pk, i64_w, i32_w]
   rfl
  refine join_ (σ := Value × Value × Value × Value × Value × Value × Nat) 1 #[true, true, true, true, true, true, false] (fun s_ => [(61, .agg #[s_.1, s_.2.1, s_.2.2.1, .int .i64 t325, .int .i64 t326]), (63, .agg #[.int .i64 t327, .int .i64 t328]), (64, .agg #[s_.2.2.2.1, s_.2.2.2.2.1, s_.2.2.2.2.2.1, .int .i64 t338, .int .i64 t339]), (12, .pointer (some ⟨s_.2.2.2.2.2.2, 0, none⟩))]) (fun s_ w' => (w'.cell? ⟨gb239, 0, none⟩ = some (.slice A0_0 l0_0.length c0_0) ∧ w'.cell? ⟨gb239, 1, none⟩ = some (.slice A0_1 l0_1.length c0_1) ∧ w'.cell? ⟨gb239, 2, none⟩ = some (.slice A0_2 l0_2.length c0_2) ∧ w'.cell? ⟨gb239, 3, none⟩ = some (.int .i64 a0_3) ∧ w'.cell? ⟨gb239, 4, none⟩ = some (.int .i64 a0_4) ∧ w'.cell? ⟨gb240, 0, none⟩ = some (.int .i64 a1_0) ∧ w'.cell? ⟨gb240, 1, none⟩ = some (.int .i64 a1_1)) ∧ (Kd.R k93 93 w' w.heap.size (fun k_ => some k_ ≠ (s_.2.2.2.1 : Value).ownBlock ∧ some k_ ≠ (.slice Ao28 t255.length co28 : Value).ownBlock ∧ some k_ ≠ (.slice Ao54 t312.length co54 : Value).ownBlock) s_.1 t316) ∧ (Kd.R (Kd.int .i64) 3 w' w.heap.size (fun k_ => some k_ ≠ (s_.2.2.1 : Value).ownBlock ∧ some k_ ≠ (s_.2.2.2.2.1 : Value).ownBlock ∧ some k_ ≠ (s_.2.2.2.2.2.1 : Value).ownBlock ∧ some k_ ≠ (.slice Ao30 t258.length co30 : Value).ownBlock ∧ some k_ ≠ (.slice Ao32 t261.length co32 : Value).ownBlock ∧ some k_ ≠ (.slice Ao56 t313.length co56 : Value).ownBlock ∧ some k_ ≠ (.slice Ao58 t314.length co58 : Value).ownBlock) s_.2.1 t319) ∧ (Kd.R (Kd.int .i64) 3 w' w.heap.size (fun k_ => some k_ ≠ (s_.2.1 : Value).ownBlock ∧ some k_ ≠ (s_.2.2.2.2.1 : Value).ownBlock ∧ some k_ ≠ (s_.2.2.2.2.2.1 : Value).ownBlock ∧ some k_ ≠ (.slice Ao30 t258.length co30 : Value).ownBlock ∧ some k_ ≠ (.slice Ao32 t261.length co32 : Value).ownBlock ∧ some k_ ≠ (.slice Ao56 t313.length co56 : Value).ownBlock ∧ some k_ ≠ (.slice Ao58 t314.length co58 : Value).ownBlock) s_.2.2.1 t322) ∧ (Kd.R k93 93 w' w.heap.size (fun k_ => some k_ ≠ (s_.1 : Value).ownBlock ∧ some k_ ≠ (.slice Ao28 t255.length co28 : Value).ownBlock ∧ some k_ ≠ (.slice Ao54 t312.length co54 : Value).ownBlock) s_.2.2.2.1 t329) ∧ (Kd.R (Kd.int .i64) 3 w' w.heap.size (fun k_ => some k_ ≠ (s_.2.1 : Value).ownBlock ∧ some k_ ≠ (s_.2.2.1 : Value).ownBlock ∧ some k_ ≠ (s_.2.2.2.2.2.1 : Value).ownBlock ∧ some k_ ≠ (.slice Ao30 t258.length co30 : Value).ownBlock ∧ some k_ ≠ (.slice Ao32 t261.length co32 : Value).ownBlock ∧ some k_ ≠ (.slice Ao56 t313.length co56 : Value).ownBlock ∧ some k_ ≠ (.slice Ao58 t314.length co58 : Value).ownBlock) s_.2.2.2.2.1 t332) ∧ (Kd.R (Kd.int .i64) 3 w' w.heap.size (fun k_ => some k_ ≠ (s_.2.1 : Value).ownBlock ∧ some k_ ≠ (s_.2.2.1 : Value).ownBlock ∧ some k_ ≠ (s_.2.2.2.2.1 : Value).ownBlock ∧ some k_ ≠ (.slice Ao30 t258.length co30 : Value).ownBlock ∧ some k_ ≠ (.slice Ao32 t261.length co32 : Value).ownBlock ∧ some k_ ≠ (.slice Ao56 t313.length co56 : Value).ownBlock ∧ some k_ ≠ (.slice Ao58 t314.length co58 : Value).ownBlock) s_.2.2.2.2.2.1 t335) ∧ (Kd.R k93 93 w' w.heap.size (fun k_ => some k_ ≠ (s_.1 : Value).ownBlock ∧ some k_ ≠ (s_.2.2.2.1 : Value).ownBlock ∧ some k_ ≠ (.slice Ao54 t312.length co54 : Value).ownBlock) (.slice Ao28 t255.length co28) t255) ∧ (Kd.R (Kd.int .i64) 3 w' w.heap.size (fun k_ => some k_ ≠ (s_.2.1 : Value).ownBlock ∧ some k_ ≠ (s_.2.2.1 : Value).ownBlock ∧ some k_ ≠ (s_.2.2.2.2.1 : Value).ownBlock ∧ some k_ ≠ (s_.2.2.2.2.2.1 : Value).ownBlock ∧ some k_ ≠ (.slice Ao32 t261.length co32 : Value).ownBlock ∧ some k_ ≠ (.slice Ao56 t313.length co56 : Value).ownBlock ∧ some k_ ≠ (.slice Ao58 t314.length co58 : Value).ownBlock) (.slice Ao30 t258.length co30) t258) ∧ (Kd.R (Kd.int .i64) 3 w' w.heap.size (fun k_ => some k_ ≠ (s_.2.1 : Value).ownBlock ∧ some k_ ≠ (s_.2.2.1 : Value).ownBlock ∧ some k_ ≠ (s_.2.2.2.2.1 : Value).ownBlock ∧ some k_ ≠ (s_.2.2.2.2.2.1 : Value).ownBlock ∧ some k_ ≠ (.slice Ao30 t258.length co30 : Value).ownBlock ∧ some k_ ≠ (.slice Ao56 t313.length co56 : Value).ownBlock ∧ some k_ ≠ (.slice Ao58 t314.length co58 : Value).ownBlock) (.slice Ao32 t261.length co32) t261) ∧ (Kd.R k93 93 w' w.heap.size (fun k_ => some k_ ≠ (s_.1 : Value).ownBlock ∧ some k_ ≠ (s_.2.2.2.1 : Value).ownBlock ∧ some k_ ≠ (.slice Ao28 t255.length co28 : Value).ownBlock) (.slice Ao54 t312.length co54) t312) ∧ (Kd.R (Kd.int .i64) 3 w' w.heap.size (fun k_ => some k_ ≠ (s_.2.1 : Value).ownBlock ∧ some k_ ≠ (s_.2.2.1 : Value).ownBlock ∧ some k_ ≠ (s_.2.2.2.2.1 : Value).ownBlock ∧ some k_ ≠ (s_.2.2.2.2.2.1 : Value).ownBlock ∧ some k_ ≠ (.slice Ao30 t258.length co30 : Value).ownBlock ∧ some k_ ≠ (.slice Ao32 t261.length co32 : Value).ownBlock ∧ some k_ ≠ (.slice Ao58 t314.length co58 : Value).ownBlock) (.slice Ao56 t313.length co56) t313) ∧ (Kd.R (Kd.int .i64) 3 w' w.heap.size (fun k_ => some k_ ≠ (s_.2.1 : Value).ownBlock ∧ some k_ ≠ (s_.2.2.1 : Value).ownBlock ∧ some k_ ≠ (s_.2.2.2.2.1 : Value).ownBlock ∧ some k_ ≠ (s_.2.2.2.2.2.1 : Value).ownBlock ∧ some k_ ≠ (.slice Ao30 t258.length co30 : Value).ownBlock ∧ some k_ ≠ (.slice Ao32 t261.length co32 : Value).ownBlock ∧ some k_ ≠ (.slice Ao56 t313.length co56 : Value).ownBlock) (.slice Ao58 t314.length co58) t314) ∧ (w'.heap[gb239]? = some (.cells #[.slice A0_0 l0_0.length c0_0, .slice A0_1 l0_1.length c0_1, .slice A0_2 l0_2.length c0_2, .int .i64 a0_3, .int .i64 a0_4] 47 (0, 0))) ∧ (w'.heap[gb240]? = some (.cells #[.int .i64 a1_0, .int .i64 a1_1] 48 (0, 0))) ∧ (w'.heap[gb266]? = some (.cells #[.slice Ao28 t255.length co28, .slice Ao30 t258.length co30, .slice Ao32 t261.length co32, .int .i64 t264, .int .i64 t265] 34 (0, 0))) ∧ (w'.heap[gb278]? = some (.cells #[.slice Ao41 t307.length co41, .slice Ao46 t308.length co46, .slice Ao47 t309.length co47, .int .i64 t276, .int .i64 t277] 34 (0, 0))) ∧ (w'.heap[gb292]? = some (.cells #[.slice Ao54 t312.length co54, .slice Ao56 t313.length co56, .slice Ao58 t314.length co58, .int .i64 t290, .int .i64 t291] 34 (0, 0))) ∧ (w'.heap[s_.2.2.2.2.2.2]? = some (.cells #[.slice none 0 0, .slice none 0 0, .slice none 0 0, .int .i64 0, .int .i64 0] 34 (0, 0))) ∧ (w.heap.size ≤ s_.2.2.2.2.2.2) ∧ (w.heap.size ≤ s_.2.2.2.2.2.2) ∧ (gb239 ≠ s_.2.2.2.2.2.2) ∧ (s_.2.2.2.2.2.2 ≠ gb239) ∧ (gb240 ≠ s_.2.2.2.2.2.2) ∧ (s_.2.2.2.2.2.2 ≠ gb240) ∧ (gb266 ≠ s_.2.2.2.2.2.2) ∧ (s_.2.2.2.2.2.2 ≠ gb266) ∧ (gb278 ≠ s_.2.2.2.2.2.2) ∧ (s_.2.2.2.2.2.2 ≠ gb278) ∧ (gb292 ≠ s_.2.2.2.2.2.2) ∧ (s_.2.2.2.2.2.2 ≠ gb292) ∧ (Below w.heap.size w w')) ?_ ?_
  rotate_left
  ·
   intro hCont
   refine two_ (i := 1) (j := 5) (Ni := some 61) (Nj := some 12) #[true, true, true, false, false, false, false] #[true, false, true, false, false, true, false] rfl rfl rfl rfl (by kernel_rfl) (by decide) (by decide) (fun K hK => ?_) (fun K hK => ?_)
   ·
    skip
    refine goes_ Try.func25 (by kernel_rfl) rfl #[.agg #[.slice A0_0 l0_0.length c0_0, .slice A0_1 l0_1.length c0_1, .slice A0_2 l0_2.length c0_2, .int .i64 a0_3, .int .i64 a0_4]] (by rfl) rfl rfl (by (try simp only [lm]); first | done | rfl | (simp only [List.length_drop, List.length_take]; rfl)) ?_
    with_reducible refine (laws_toMemory.calls kj114 _ _ l0_0 _ _ l0_1 _ _ l0_2 a0_3 a0_4 t316 t319 t322 t325 t326 _ ?side1 ?side2 ?side3 ?side4 ?side5 ?side6 A117.out).mono ?_
    (case side1 => exact Kd.C_below HR0_0.out (be w))
    (case side2 => exact HC0_0.out)
    (case side3 => exact Kd.C_below HR0_1.out (be w))
    (case side4 => exact HC0_1.out)
    (case side5 => exact Kd.C_below HR0_2.out (be w))
    (case side6 => exact HC0_2.out)
    rintro e w123 ⟨v317, v320, v323, rfl, ho0, ho1, ho2, hb⟩
    refine ⟨_, rfl, ?_⟩
    have HO318 := As.mk (Kd.R_lower (Kd.R_new' (Kd.R_new' ho0 (Kd.R_lt (by (with_reducible repeat (first | apply Kd.R_alloc | apply Kd.R_drewN | apply Kd.R_drew)); exact HO_267000.out))) (Kd.R_lt (by (with_reducible repeat (first | apply Kd.R_alloc | apply Kd.R_drewN | apply Kd.R_drew)); exact HO_293000.out))) (below_size (be w)))
    replace HO_267000 := As.mk (Kd.R_elder' (by (with_reducible repeat (first | apply Kd.R_alloc | apply Kd.R_drewN | apply Kd.R_drew)); exact HO_267000.out) (Kd.R_base ho0) hb)
    replace HO_293000 := As.mk (Kd.R_elder' (by (with_reducible repeat (first | apply Kd.R_alloc | apply Kd.R_drewN | apply Kd.R_drew)); exact HO_293000.out) (Kd.R_base ho0) hb)
    have HO321 := As.mk (Kd.R_lower (Kd.R_new' (Kd.R_new' (Kd.R_new' (Kd.R_new' ho1 (Kd.R_lt (by (with_reducible repeat (first | apply Kd.R_alloc | apply Kd.R_drewN | apply Kd.R_drew)); exact HO_267001.out))) (Kd.R_lt (by (with_reducible repeat (first | apply Kd.R_alloc | apply Kd.R_drewN | apply Kd.R_drew)); exact HO_267002.out))) (Kd.R_lt (by (with_reducible repeat (first | apply Kd.R_alloc | apply Kd.R_drewN | apply Kd.R_drew)); exact HO_293001.out))) (Kd.R_lt (by (with_reducible repeat (first | apply Kd.R_alloc | apply Kd.R_drewN | apply Kd.R_drew)); exact HO_293002.out))) (below_size (be w)))
    have HO324 := As.mk (Kd.R_lower (Kd.R_new' (Kd.R_new' (Kd.R_new' (Kd.R_new' ho2 (Kd.R_lt (by (with_reducible repeat (first | apply Kd.R_alloc | apply Kd.R_drewN | apply Kd.R_drew)); exact HO_267001.out))) (Kd.R_lt (by (with_reducible repeat (first | apply Kd.R_alloc | apply Kd.R_drewN | apply Kd.R_drew)); exact HO_267002.out))) (Kd.R_lt (by (with_reducible repeat (first | apply Kd.R_alloc | apply Kd.R_drewN | apply Kd.R_drew)); exact HO_293001.out))) (Kd.R_lt (by (with_reducible repeat (first | apply Kd.R_alloc | apply Kd.R_drewN | apply Kd.R_drew)); exact HO_293002.out))) (below_size (be w)))
    replace HO_267001 := As.mk (Kd.R_mono (Kd.R_told (Kd.R_told (Kd.R_old (by (with_reducible repeat (first | apply Kd.R_alloc | apply Kd.R_drewN | apply Kd.R_drew)); exact HO_267001.out) hb) (Kd.R_base ho1)) (Kd.R_base ho2)) (fun _ h_ => h_.1))
    replace HO_267002 := As.mk (Kd.R_mono (Kd.R_told (Kd.R_told (Kd.R_old (by (with_reducible repeat (first | apply Kd.R_alloc | apply Kd.R_drewN | apply Kd.R_drew)); exact HO_267002.out) hb) (Kd.R_base ho1)) (Kd.R_base ho2)) (fun _ h_ => h_.1))
    replace HO_293001 := As.mk (Kd.R_mono (Kd.R_told (Kd.R_told (Kd.R_old (by (with_reducible repeat (first | apply Kd.R_alloc | apply Kd.R_drewN | apply Kd.R_drew)); exact HO_293001.out) hb) (Kd.R_base ho1)) (Kd.R_base ho2)) (fun _ h_ => h_.1))
    replace HO_293002 := As.mk (Kd.R_mono (Kd.R_told (Kd.R_told (Kd.R_old (by (with_reducible repeat (first | apply Kd.R_alloc | apply Kd.R_drewN | apply Kd.R_drew)); exact HO_293002.out) hb) (Kd.R_base ho1)) (Kd.R_base ho2)) (fun _ h_ => h_.1))
    replace BK239 := As.mk (blk_below (bx BK239.out) hb)
    replace BK240 := As.mk (blk_below (bx BK240.out) hb)
    replace BK266 := As.mk (blk_below (bx BK266.out) hb)
    replace BK278 := As.mk (blk_below (bx BK278.out) hb)
    replace BK292 := As.mk (blk_below (bx BK292.out) hb)
    replace HB := As.mk (below_step (be w) hb)
    (try clear hb)
    (try clear hb2)
    (try clear hk)
    (try clear hi)
    (try clear ho0)
    (try clear ho1)
    (try clear ho2)
    refine hK.out _ _ ⟨(blk_cell BK239.out 0).trans rfl, (blk_cell BK239.out 1).trans rfl, (blk_cell BK239.out 2).trans rfl, (blk_cell BK239.out 3).trans rfl, (blk_cell BK239.out 4).trans rfl, (blk_cell BK240.out 0).trans rfl, (blk_cell BK240.out 1).trans rfl⟩ (fun hHeld => ?_)
    clear hK K
    refine norm_ (a' := ?_) ?_ ?_
    rotate_left
    ·
     show Act.put _ (some 61) _ = _
     simp only [pk, i64_w, i32_w]
     rfl
    refine two_ (i := 3) (j := 5) (Ni := some 63) (Nj := some 12) #[true, true, true, true, false, false, false] #[true, true, true, false, false, true, false] rfl rfl rfl rfl (by kernel_rfl) (by decide) (by decide) (fun K hK => ?_) (fun K hK => ?_)
    ·
     skip
     refine goes_ Try.func26 (by kernel_rfl) rfl #[.agg #[.int .i64 a1_0, .int .i64 a1_1]] (by rfl) rfl rfl (by (try simp only [lm]); first | done | rfl | (simp only [List.length_drop, List.length_take]; rfl)) ?_
     with_reducible refine (laws_toValue.calls a1_0 a1_1 t327 t328 _ A118.out).mono ?_
     rintro e w124 ⟨rfl, hb⟩
     refine ⟨_, rfl, ?_⟩
     replace HO_267000 := As.mk (Kd.R_below (by (with_reducible repeat (first | apply Kd.R_alloc | apply Kd.R_drewN | apply Kd.R_drew)); exact HO_267000.out) hb)
     replace HO_267001 := As.mk (Kd.R_below (by (with_reducible repeat (first | apply Kd.R_alloc | apply Kd.R_drewN | apply Kd.R_drew)); exact HO_267001.out) hb)
     replace HO_267002 := As.mk (Kd.R_below (by (with_reducible repeat (first | apply Kd.R_alloc | apply Kd.R_drewN | apply Kd.R_drew)); exact HO_267002.out) hb)
     replace HO_293000 := As.mk (Kd.R_below (by (with_reducible repeat (first | apply Kd.R_alloc | apply Kd.R_drewN | apply Kd.R_drew)); exact HO_293000.out) hb)
     replace HO_293001 := As.mk (Kd.R_below (by (with_reducible repeat (first | apply Kd.R_alloc | apply Kd.R_drewN | apply Kd.R_drew)); exact HO_293001.out) hb)
     replace HO_293002 := As.mk (Kd.R_below (by (with_reducible repeat (first | apply Kd.R_alloc | apply Kd.R_drewN | apply Kd.R_drew)); exact HO_293002.out) hb)
     replace HO318 := As.mk (Kd.R_below (by (with_reducible repeat (first | apply Kd.R_alloc | apply Kd.R_drewN | apply Kd.R_drew)); exact HO318.out) hb)
     replace HO321 := As.mk (Kd.R_below (by (with_reducible repeat (first | apply Kd.R_alloc | apply Kd.R_drewN | apply Kd.R_drew)); exact HO321.out) hb)
     replace HO324 := As.mk (Kd.R_below (by (with_reducible repeat (first | apply Kd.R_alloc | apply Kd.R_drewN | apply Kd.R_drew)); exact HO324.out) hb)
     replace BK239 := As.mk (blk_below (bx BK239.out) hb)
     replace BK240 := As.mk (blk_below (bx BK240.out) hb)
     replace BK266 := As.mk (blk_below (bx BK266.out) hb)
     replace BK278 := As.mk (blk_below (bx BK278.out) hb)
     replace BK292 := As.mk (blk_below (bx BK292.out) hb)
     replace HB := As.mk (below_step (be w) hb)
     (try clear hb)
     (try clear hb2)
     (try clear hk)
     (try clear hi)
     obtain ⟨Ao125, co125, eo125⟩ := Kd.R_slice HO318.out
     (first | subst eo125 | (injection eo125 with f1_ f2_ f3_; have f4_ := f1_.symm; have f5_ := f3_.symm; clear f1_ f2_ f3_; subst f4_; subst f5_))
     obtain ⟨Ao126, co126, eo126⟩ := Kd.R_slice HO321.out
     (first | subst eo126 | (injection eo126 with f1_ f2_ f3_; have f4_ := f1_.symm; have f5_ := f3_.symm; clear f1_ f2_ f3_; subst f4_; subst f5_))
     obtain ⟨Ao127, co127, eo127⟩ := Kd.R_slice HO324.out
     (first | subst eo127 | (injection eo127 with f1_ f2_ f3_; have f4_ := f1_.symm; have f5_ := f3_.symm; clear f1_ f2_ f3_; subst f4_; subst f5_))
     refine hK.out _ _ ⟨(blk_cell BK239.out 0).trans rfl, (blk_cell BK239.out 1).trans rfl, (blk_cell BK239.out 2).trans rfl, (blk_cell BK239.out 3).trans rfl, (blk_cell BK239.out 4).trans rfl, (blk_cell BK240.out 0).trans rfl, (blk_cell BK240.out 1).trans rfl⟩ (fun hHeld => ?_)
     clear hK K
     refine norm_ (a' := ?_) ?_ ?_
     rotate_left
     ·
      show Act.put _ (some 63) _ = _
      simp only [pk, i64_w, i32_w]
      rfl
     refine two_ (i := 4) (j := 5) (Ni := some 64) (Nj := some 12) #[true, true, true, true, true, false, false] #[true, true, true, true, false, true, false] rfl rfl rfl rfl (by kernel_rfl) (by decide) (by decide) (fun K hK => ?_) (fun K hK => ?_)
     ·
      skip
      refine goes_ Try.func22 (by kernel_rfl) rfl #[.agg #[.slice Ao125 t316.length co125, .slice Ao126 t319.length co126, .slice Ao127 t322.length co127, .int .i64 t325, .int .i64 t326], .agg #[.int .i64 t327, .int .i64 t328]] (by rfl) rfl rfl (by (try simp only [lm]); first | done | rfl | (simp only [List.length_drop, List.length_take]; rfl)) ?_
      with_reducible refine (impl_Freed.calls _ _ t316 _ _ t319 _ _ t322 t325 t326 t327 t328 t329 t332 t335 t338 t339 _ ?side1 ?side2 ?side3 ?side4 ?side5 ?side6 A119.out).mono ?_
      (case side1 => repeat (first | exact (Kd.R_reads' HO318.out).2.2 | (with_reducible refine Kd.C_alloc ?_ _) | (with_reducible refine Kd.C_drewN ?_ _) | (with_reducible refine Kd.C_drew ?_)))
      (case side2 => exact (Kd.R_reads' HO318.out).2.1)
      (case side3 => repeat (first | exact (Kd.R_reads' HO321.out).2.2 | (with_reducible refine Kd.C_alloc ?_ _) | (with_reducible refine Kd.C_drewN ?_ _) | (with_reducible refine Kd.C_drew ?_)))
      (case side4 => exact (Kd.R_reads' HO321.out).2.1)
      (case side5 => repeat (first | exact (Kd.R_reads' HO324.out).2.2 | (with_reducible refine Kd.C_alloc ?_ _) | (with_reducible refine Kd.C_drewN ?_ _) | (with_reducible refine Kd.C_drew ?_)))
      (case side6 => exact (Kd.R_reads' HO324.out).2.1)
      rintro e w128 ⟨v330, v333, v336, rfl, ho0, ho1, ho2, hb⟩
      refine ⟨_, rfl, ?_⟩
      have HO331 := As.mk (Kd.R_lower (Kd.R_new' (Kd.R_new' (Kd.R_new' ho0 (Kd.R_lt (by (with_reducible repeat (first | apply Kd.R_alloc | apply Kd.R_drewN | apply Kd.R_drew)); exact HO_267000.out))) (Kd.R_lt (by (with_reducible repeat (first | apply Kd.R_alloc | apply Kd.R_drewN | apply Kd.R_drew)); exact HO_293000.out))) (Kd.R_lt (by (with_reducible repeat (first | apply Kd.R_alloc | apply Kd.R_drewN | apply Kd.R_drew)); exact HO318.out))) (below_size (be w)))
      replace HO_267000 := As.mk (Kd.R_elder' (by (with_reducible repeat (first | apply Kd.R_alloc | apply Kd.R_drewN | apply Kd.R_drew)); exact HO_267000.out) (Kd.R_base ho0) hb)
      replace HO_293000 := As.mk (Kd.R_elder' (by (with_reducible repeat (first | apply Kd.R_alloc | apply Kd.R_drewN | apply Kd.R_drew)); exact HO_293000.out) (Kd.R_base ho0) hb)
      replace HO318 := As.mk (Kd.R_elder' (by (with_reducible repeat (first | apply Kd.R_alloc | apply Kd.R_drewN | apply Kd.R_drew)); exact HO318.out) (Kd.R_base ho0) hb)
      have HO334 := As.mk (Kd.R_lower (Kd.R_new' (Kd.R_new' (Kd.R_new' (Kd.R_new' (Kd.R_new' (Kd.R_new' ho1 (Kd.R_lt (by (with_reducible repeat (first | apply Kd.R_alloc | apply Kd.R_drewN | apply Kd.R_drew)); exact HO_267001.out))) (Kd.R_lt (by (with_reducible repeat (first | apply Kd.R_alloc | apply Kd.R_drewN | apply Kd.R_drew)); exact HO_267002.out))) (Kd.R_lt (by (with_reducible repeat (first | apply Kd.R_alloc | apply Kd.R_drewN | apply Kd.R_drew)); exact HO_293001.out))) (Kd.R_lt (by (with_reducible repeat (first | apply Kd.R_alloc | apply Kd.R_drewN | apply Kd.R_drew)); exact HO_293002.out))) (Kd.R_lt (by (with_reducible repeat (first | apply Kd.R_alloc | apply Kd.R_drewN | apply Kd.R_drew)); exact HO321.out))) (Kd.R_lt (by (with_reducible repeat (first | apply Kd.R_alloc | apply Kd.R_drewN | apply Kd.R_drew)); exact HO324.out))) (below_size (be w)))
      have HO337 := As.mk (Kd.R_lower (Kd.R_new' (Kd.R_new' (Kd.R_new' (Kd.R_new' (Kd.R_new' (Kd.R_new' ho2 (Kd.R_lt (by (with_reducible repeat (first | apply Kd.R_alloc | apply Kd.R_drewN | apply Kd.R_drew)); exact HO_267001.out))) (Kd.R_lt (by (with_reducible repeat (first | apply Kd.R_alloc | apply Kd.R_drewN | apply Kd.R_drew)); exact HO_267002.out))) (Kd.R_lt (by (with_reducible repeat (first | apply Kd.R_alloc | apply Kd.R_drewN | apply Kd.R_drew)); exact HO_293001.out))) (Kd.R_lt (by (with_reducible repeat (first | apply Kd.R_alloc | apply Kd.R_drewN | apply Kd.R_drew)); exact HO_293002.out))) (Kd.R_lt (by (with_reducible repeat (first | apply Kd.R_alloc | apply Kd.R_drewN | apply Kd.R_drew)); exact HO321.out))) (Kd.R_lt (by (with_reducible repeat (first | apply Kd.R_alloc | apply Kd.R_drewN | apply Kd.R_drew)); exact HO324.out))) (below_size (be w)))
      replace HO_267001 := As.mk (Kd.R_mono (Kd.R_told (Kd.R_told (Kd.R_old (by (with_reducible repeat (first | apply Kd.R_alloc | apply Kd.R_drewN | apply Kd.R_drew)); exact HO_267001.out) hb) (Kd.R_base ho1)) (Kd.R_base ho2)) (fun _ h_ => h_.1))
      replace HO_267002 := As.mk (Kd.R_mono (Kd.R_told (Kd.R_told (Kd.R_old (by (with_reducible repeat (first | apply Kd.R_alloc | apply Kd.R_drewN | apply Kd.R_drew)); exact HO_267002.out) hb) (Kd.R_base ho1)) (Kd.R_base ho2)) (fun _ h_ => h_.1))
      replace HO_293001 := As.mk (Kd.R_mono (Kd.R_told (Kd.R_told (Kd.R_old (by (with_reducible repeat (first | apply Kd.R_alloc | apply Kd.R_drewN | apply Kd.R_drew)); exact HO_293001.out) hb) (Kd.R_base ho1)) (Kd.R_base ho2)) (fun _ h_ => h_.1))
      replace HO_293002 := As.mk (Kd.R_mono (Kd.R_told (Kd.R_told (Kd.R_old (by (with_reducible repeat (first | apply Kd.R_alloc | apply Kd.R_drewN | apply Kd.R_drew)); exact HO_293002.out) hb) (Kd.R_base ho1)) (Kd.R_base ho2)) (fun _ h_ => h_.1))
      replace HO321 := As.mk (Kd.R_mono (Kd.R_told (Kd.R_told (Kd.R_old (by (with_reducible repeat (first | apply Kd.R_alloc | apply Kd.R_drewN | apply Kd.R_drew)); exact HO321.out) hb) (Kd.R_base ho1)) (Kd.R_base ho2)) (fun _ h_ => h_.1))
      replace HO324 := As.mk (Kd.R_mono (Kd.R_told (Kd.R_told (Kd.R_old (by (with_reducible repeat (first | apply Kd.R_alloc | apply Kd.R_drewN | apply Kd.R_drew)); exact HO324.out) hb) (Kd.R_base ho1)) (Kd.R_base ho2)) (fun _ h_ => h_.1))
      replace BK239 := As.mk (blk_below (bx BK239.out) hb)
      replace BK240 := As.mk (blk_below (bx BK240.out) hb)
      replace BK266 := As.mk (blk_below (bx BK266.out) hb)
      replace BK278 := As.mk (blk_below (bx BK278.out) hb)
      replace BK292 := As.mk (blk_below (bx BK292.out) hb)
      replace HB := As.mk (below_step (be w) hb)
      (try clear hb)
      (try clear hb2)
      (try clear hk)
      (try clear hi)
      (try clear ho0)
      (try clear ho1)
      (try clear ho2)
      refine hK.out _ _ ⟨(blk_cell BK239.out 0).trans rfl, (blk_cell BK239.out 1).trans rfl, (blk_cell BK239.out 2).trans rfl, (blk_cell BK239.out 3).trans rfl, (blk_cell BK239.out 4).trans rfl, (blk_cell BK240.out 0).trans rfl, (blk_cell BK240.out 1).trans rfl⟩ (fun hHeld => ?_)
      clear hK K
      refine norm_ (a' := ?_) ?_ ?_
      rotate_left
      ·
       show Act.put _ (some 64) _ = _
       simp only [pk, i64_w, i32_w]
       rfl
      refine one_ (i := 5) (N := some 12) #[I, I, I, I, I, I, O] rfl rfl (by kernel_rfl) (by decide) (fun K hK => ?_)
      refine box_step ?hg (N := 12) ?hd (cs := #[.slice none 0 0, .slice none 0 0, .slice none 0 0, .int .i64 0, .int .i64 0]) (t := 34) ?hr ?_; (case hd => rfl); (case hg => rfl); (case hr => first | (go_simp; done) | (go_simp; rfl))
      intro gb340 hg w129 hbox hb
      replace HO_267000 := As.mk (Kd.R_below (by (with_reducible repeat (first | apply Kd.R_alloc | apply Kd.R_drewN | apply Kd.R_drew)); exact HO_267000.out) hb)
      replace HO_267001 := As.mk (Kd.R_below (by (with_reducible repeat (first | apply Kd.R_alloc | apply Kd.R_drewN | apply Kd.R_drew)); exact HO_267001.out) hb)
      replace HO_267002 := As.mk (Kd.R_below (by (with_reducible repeat (first | apply Kd.R_alloc | apply Kd.R_drewN | apply Kd.R_drew)); exact HO_267002.out) hb)
      replace HO_293000 := As.mk (Kd.R_below (by (with_reducible repeat (first | apply Kd.R_alloc | apply Kd.R_drewN | apply Kd.R_drew)); exact HO_293000.out) hb)
      replace HO_293001 := As.mk (Kd.R_below (by (with_reducible repeat (first | apply Kd.R_alloc | apply Kd.R_drewN | apply Kd.R_drew)); exact HO_293001.out) hb)
      replace HO_293002 := As.mk (Kd.R_below (by (with_reducible repeat (first | apply Kd.R_alloc | apply Kd.R_drewN | apply Kd.R_drew)); exact HO_293002.out) hb)
      replace HO318 := As.mk (Kd.R_below (by (with_reducible repeat (first | apply Kd.R_alloc | apply Kd.R_drewN | apply Kd.R_drew)); exact HO318.out) hb)
      replace HO321 := As.mk (Kd.R_below (by (with_reducible repeat (first | apply Kd.R_alloc | apply Kd.R_drewN | apply Kd.R_drew)); exact HO321.out) hb)
      replace HO324 := As.mk (Kd.R_below (by (with_reducible repeat (first | apply Kd.R_alloc | apply Kd.R_drewN | apply Kd.R_drew)); exact HO324.out) hb)
      replace HO331 := As.mk (Kd.R_below (by (with_reducible repeat (first | apply Kd.R_alloc | apply Kd.R_drewN | apply Kd.R_drew)); exact HO331.out) hb)
      replace HO334 := As.mk (Kd.R_below (by (with_reducible repeat (first | apply Kd.R_alloc | apply Kd.R_drewN | apply Kd.R_drew)); exact HO334.out) hb)
      replace HO337 := As.mk (Kd.R_below (by (with_reducible repeat (first | apply Kd.R_alloc | apply Kd.R_drewN | apply Kd.R_drew)); exact HO337.out) hb)
      have BK340 := As.mk (hbox)
      have GW340 := As.mk (gs w hg)
      have GE340 := As.mk (gs w hg)
      replace HB := As.mk (below_step (be w) hb)
      have NB239_340 := As.mk (nl hg (bx BK239.out))
      have NB340_239 := As.mk (ng hg (bx BK239.out))
      replace BK239 := As.mk (blk_below (bx BK239.out) hb)
      have NB240_340 := As.mk (nl hg (bx BK240.out))
      have NB340_240 := As.mk (ng hg (bx BK240.out))
      replace BK240 := As.mk (blk_below (bx BK240.out) hb)
      have NB266_340 := As.mk (nl hg (bx BK266.out))
      have NB340_266 := As.mk (ng hg (bx BK266.out))
      replace BK266 := As.mk (blk_below (bx BK266.out) hb)
      have NB278_340 := As.mk (nl hg (bx BK278.out))
      have NB340_278 := As.mk (ng hg (bx BK278.out))
      replace BK278 := As.mk (blk_below (bx BK278.out) hb)
      have NB292_340 := As.mk (nl hg (bx BK292.out))
      have NB340_292 := As.mk (ng hg (bx BK292.out))
      replace BK292 := As.mk (blk_below (bx BK292.out) hb)
      clear hb hbox hg
      refine hK.out _ _ ⟨(blk_cell BK239.out 0).trans rfl, (blk_cell BK239.out 1).trans rfl, (blk_cell BK239.out 2).trans rfl, (blk_cell BK239.out 3).trans rfl, (blk_cell BK239.out 4).trans rfl, (blk_cell BK240.out 0).trans rfl, (blk_cell BK240.out 1).trans rfl⟩ (fun hHeld => ?_)
      clear hK K
      refine norm_ (a' := ?_) ?_ ?_
      rotate_left
      ·
       show Act.put _ (some 12) _ = _
       simp only [pk, i64_w, i32_w]
       rfl
      exact norm_ (by simp only [putAll, Act.put, List.setIfInBounds_toArray, List.set_cons_zero, List.set_cons_succ]) (hCont (.slice Ao125 t316.length co125, .slice Ao126 t319.length co126, .slice Ao127 t322.length co127, v330, v333, v336, gb340) _ ⟨hHeld, (by (with_reducible repeat (first | apply Kd.R_alloc | apply Kd.R_drewN | apply Kd.R_drew)); exact Kd.R_mono HO318.out (fun _ hk => ⟨hk.2, ⟨hk.1.1.2, hk.1.2⟩⟩)), (by (with_reducible repeat (first | apply Kd.R_alloc | apply Kd.R_drewN | apply Kd.R_drew)); exact Kd.R_mono HO321.out (fun _ hk => ⟨hk.1.1.1.1.1.1, ⟨hk.1.2, ⟨hk.2, ⟨hk.1.1.1.1.1.2, ⟨hk.1.1.1.1.2, ⟨hk.1.1.1.2, hk.1.1.2⟩⟩⟩⟩⟩⟩)), (by (with_reducible repeat (first | apply Kd.R_alloc | apply Kd.R_drewN | apply Kd.R_drew)); exact Kd.R_mono HO324.out (fun _ hk => ⟨hk.1.1.1.1.1.1, ⟨hk.1.2, ⟨hk.2, ⟨hk.1.1.1.1.1.2, ⟨hk.1.1.1.1.2, ⟨hk.1.1.1.2, hk.1.1.2⟩⟩⟩⟩⟩⟩)), (by (with_reducible repeat (first | apply Kd.R_alloc | apply Kd.R_drewN | apply Kd.R_drew)); exact Kd.R_mono HO331.out (fun _ hk => ⟨hk.2, ⟨hk.1.1.2, hk.1.2⟩⟩)), (by (with_reducible repeat (first | apply Kd.R_alloc | apply Kd.R_drewN | apply Kd.R_drew)); exact Kd.R_mono HO334.out (fun _ hk => ⟨hk.1.2, ⟨hk.2, ⟨hk.1.1.1.1.1.1, ⟨hk.1.1.1.1.1.2, ⟨hk.1.1.1.1.2, ⟨hk.1.1.1.2, hk.1.1.2⟩⟩⟩⟩⟩⟩)), (by (with_reducible repeat (first | apply Kd.R_alloc | apply Kd.R_drewN | apply Kd.R_drew)); exact Kd.R_mono HO337.out (fun _ hk => ⟨hk.1.2, ⟨hk.2, ⟨hk.1.1.1.1.1.1, ⟨hk.1.1.1.1.1.2, ⟨hk.1.1.1.1.2, ⟨hk.1.1.1.2, hk.1.1.2⟩⟩⟩⟩⟩⟩)), (by (with_reducible repeat (first | apply Kd.R_alloc | apply Kd.R_drewN | apply Kd.R_drew)); exact Kd.R_mono HO_267000.out (fun _ hk => ⟨hk.1.2, ⟨hk.2, hk.1.1.2⟩⟩)), (by (with_reducible repeat (first | apply Kd.R_alloc | apply Kd.R_drewN | apply Kd.R_drew)); exact Kd.R_mono HO_267001.out (fun _ hk => ⟨hk.1.1.1.2, ⟨hk.1.1.2, ⟨hk.1.2, ⟨hk.2, ⟨hk.1.1.1.1.1, ⟨hk.1.1.1.1.2.2.2.1, hk.1.1.1.1.2.2.2.2⟩⟩⟩⟩⟩⟩)), (by (with_reducible repeat (first | apply Kd.R_alloc | apply Kd.R_drewN | apply Kd.R_drew)); exact Kd.R_mono HO_267002.out (fun _ hk => ⟨hk.1.1.1.2, ⟨hk.1.1.2, ⟨hk.1.2, ⟨hk.2, ⟨hk.1.1.1.1.1, ⟨hk.1.1.1.1.2.2.2.1, hk.1.1.1.1.2.2.2.2⟩⟩⟩⟩⟩⟩)), (by (with_reducible repeat (first | apply Kd.R_alloc | apply Kd.R_drewN | apply Kd.R_drew)); exact Kd.R_mono HO_293000.out (fun _ hk => ⟨hk.1.2, ⟨hk.2, hk.1.1.1⟩⟩)), (by (with_reducible repeat (first | apply Kd.R_alloc | apply Kd.R_drewN | apply Kd.R_drew)); exact Kd.R_mono HO_293001.out (fun _ hk => ⟨hk.1.1.1.2, ⟨hk.1.1.2, ⟨hk.1.2, ⟨hk.2, ⟨hk.1.1.1.1.1, ⟨hk.1.1.1.1.2.1, hk.1.1.1.1.2.2.2.2⟩⟩⟩⟩⟩⟩)), (by (with_reducible repeat (first | apply Kd.R_alloc | apply Kd.R_drewN | apply Kd.R_drew)); exact Kd.R_mono HO_293002.out (fun _ hk => ⟨hk.1.1.1.2, ⟨hk.1.1.2, ⟨hk.1.2, ⟨hk.2, ⟨hk.1.1.1.1.1, ⟨hk.1.1.1.1.2.1, hk.1.1.1.1.2.2.2.2⟩⟩⟩⟩⟩⟩)), (bx BK239.out), (bx BK240.out), (bx BK266.out), (bx BK278.out), (bx BK292.out), (bx BK340.out), GW340.out, GE340.out, NB239_340.out, NB340_239.out, NB240_340.out, NB340_240.out, NB266_340.out, NB340_266.out, NB278_340.out, NB340_278.out, NB292_340.out, NB340_292.out, (be w)⟩)
     ·
      skip
      refine box_step ?hg (N := 12) ?hd (cs := #[.slice none 0 0, .slice none 0 0, .slice none 0 0, .int .i64 0, .int .i64 0]) (t := 34) ?hr ?_; (case hd => rfl); (case hg => rfl); (case hr => first | (go_simp; done) | (go_simp; rfl))
      intro gb340 hg w125 hbox hb
      replace HO_267000 := As.mk (Kd.R_below (by (with_reducible repeat (first | apply Kd.R_alloc | apply Kd.R_drewN | apply Kd.R_drew)); exact HO_267000.out) hb)
      replace HO_267001 := As.mk (Kd.R_below (by (with_reducible repeat (first | apply Kd.R_alloc | apply Kd.R_drewN | apply Kd.R_drew)); exact HO_267001.out) hb)
      replace HO_267002 := As.mk (Kd.R_below (by (with_reducible repeat (first | apply Kd.R_alloc | apply Kd.R_drewN | apply Kd.R_drew)); exact HO_267002.out) hb)
      replace HO_293000 := As.mk (Kd.R_below (by (with_reducible repeat (first | apply Kd.R_alloc | apply Kd.R_drewN | apply Kd.R_drew)); exact HO_293000.out) hb)
      replace HO_293001 := As.mk (Kd.R_below (by (with_reducible repeat (first | apply Kd.R_alloc | apply Kd.R_drewN | apply Kd.R_drew)); exact HO_293001.out) hb)
      replace HO_293002 := As.mk (Kd.R_below (by (with_reducible repeat (first | apply Kd.R_alloc | apply Kd.R_drewN | apply Kd.R_drew)); exact HO_293002.out) hb)
      replace HO318 := As.mk (Kd.R_below (by (with_reducible repeat (first | apply Kd.R_alloc | apply Kd.R_drewN | apply Kd.R_drew)); exact HO318.out) hb)
      replace HO321 := As.mk (Kd.R_below (by (with_reducible repeat (first | apply Kd.R_alloc | apply Kd.R_drewN | apply Kd.R_drew)); exact HO321.out) hb)
      replace HO324 := As.mk (Kd.R_below (by (with_reducible repeat (first | apply Kd.R_alloc | apply Kd.R_drewN | apply Kd.R_drew)); exact HO324.out) hb)
      have BK340 := As.mk (hbox)
      have GW340 := As.mk (gs w hg)
      have GE340 := As.mk (gs w hg)
      replace HB := As.mk (below_step (be w) hb)
      have NB239_340 := As.mk (nl hg (bx BK239.out))
      have NB340_239 := As.mk (ng hg (bx BK239.out))
      replace BK239 := As.mk (blk_below (bx BK239.out) hb)
      have NB240_340 := As.mk (nl hg (bx BK240.out))
      have NB340_240 := As.mk (ng hg (bx BK240.out))
      replace BK240 := As.mk (blk_below (bx BK240.out) hb)
      have NB266_340 := As.mk (nl hg (bx BK266.out))
      have NB340_266 := As.mk (ng hg (bx BK266.out))
      replace BK266 := As.mk (blk_below (bx BK266.out) hb)
      have NB278_340 := As.mk (nl hg (bx BK278.out))
      have NB340_278 := As.mk (ng hg (bx BK278.out))
      replace BK278 := As.mk (blk_below (bx BK278.out) hb)
      have NB292_340 := As.mk (nl hg (bx BK292.out))
      have NB340_292 := As.mk (ng hg (bx BK292.out))
      replace BK292 := As.mk (blk_below (bx BK292.out) hb)
      clear hb hbox hg
      obtain ⟨Ao126, co126, eo126⟩ := Kd.R_slice HO318.out
      (first | subst eo126 | (injection eo126 with f1_ f2_ f3_; have f4_ := f1_.symm; have f5_ := f3_.symm; clear f1_ f2_ f3_; subst f4_; subst f5_))
      obtain ⟨Ao127, co127, eo127⟩ := Kd.R_slice HO321.out
      (first | subst eo127 | (injection eo127 with f1_ f2_ f3_; have f4_ := f1_.symm; have f5_ := f3_.symm; clear f1_ f2_ f3_; subst f4_; subst f5_))
      obtain ⟨Ao128, co128, eo128⟩ := Kd.R_slice HO324.out
      (first | subst eo128 | (injection eo128 with f1_ f2_ f3_; have f4_ := f1_.symm; have f5_ := f3_.symm; clear f1_ f2_ f3_; subst f4_; subst f5_))
      refine hK.out _ _ ⟨(blk_cell BK239.out 0).trans rfl, (blk_cell BK239.out 1).trans rfl, (blk_cell BK239.out 2).trans rfl, (blk_cell BK239.out 3).trans rfl, (blk_cell BK239.out 4).trans rfl, (blk_cell BK240.out 0).trans rfl, (blk_cell BK240.out 1).trans rfl⟩ (fun hHeld => ?_)
      clear hK K
      refine norm_ (a' := ?_) ?_ ?_
      rotate_left
      ·
       show Act.put _ (some 12) _ = _
       simp only [pk, i64_w, i32_w]
       rfl
      refine one_ (i := 4) (N := some 64) #[I, I, I, I, I, I, O] rfl rfl (by kernel_rfl) (by decide) (fun K hK => ?_)
      refine goes_ Try.func22 (by kernel_rfl) rfl #[.agg #[.slice Ao126 t316.length co126, .slice Ao127 t319.length co127, .slice Ao128 t322.length co128, .int .i64 t325, .int .i64 t326], .agg #[.int .i64 t327, .int .i64 t328]] (by rfl) rfl rfl (by (try simp only [lm]); first | done | rfl | (simp only [List.length_drop, List.length_take]; rfl)) ?_
      with_reducible refine (impl_Freed.calls _ _ t316 _ _ t319 _ _ t322 t325 t326 t327 t328 t329 t332 t335 t338 t339 _ ?side1 ?side2 ?side3 ?side4 ?side5 ?side6 A119.out).mono ?_
      (case side1 => repeat (first | exact (Kd.R_reads' HO318.out).2.2 | (with_reducible refine Kd.C_alloc ?_ _) | (with_reducible refine Kd.C_drewN ?_ _) | (with_reducible refine Kd.C_drew ?_)))
      (case side2 => exact (Kd.R_reads' HO318.out).2.1)
      (case side3 => repeat (first | exact (Kd.R_reads' HO321.out).2.2 | (with_reducible refine Kd.C_alloc ?_ _) | (with_reducible refine Kd.C_drewN ?_ _) | (with_reducible refine Kd.C_drew ?_)))
      (case side4 => exact (Kd.R_reads' HO321.out).2.1)
      (case side5 => repeat (first | exact (Kd.R_reads' HO324.out).2.2 | (with_reducible refine Kd.C_alloc ?_ _) | (with_reducible refine Kd.C_drewN ?_ _) | (with_reducible refine Kd.C_drew ?_)))
      (case side6 => exact (Kd.R_reads' HO324.out).2.1)
      rintro e w129 ⟨v330, v333, v336, rfl, ho0, ho1, ho2, hb⟩
      refine ⟨_, rfl, ?_⟩
      have HO331 := As.mk (Kd.R_lower (Kd.R_new' (Kd.R_new' (Kd.R_new' ho0 (Kd.R_lt (by (with_reducible repeat (first | apply Kd.R_alloc | apply Kd.R_drewN | apply Kd.R_drew)); exact HO_267000.out))) (Kd.R_lt (by (with_reducible repeat (first | apply Kd.R_alloc | apply Kd.R_drewN | apply Kd.R_drew)); exact HO_293000.out))) (Kd.R_lt (by (with_reducible repeat (first | apply Kd.R_alloc | apply Kd.R_drewN | apply Kd.R_drew)); exact HO318.out))) (below_size (be w)))
      replace HO_267000 := As.mk (Kd.R_elder' (by (with_reducible repeat (first | apply Kd.R_alloc | apply Kd.R_drewN | apply Kd.R_drew)); exact HO_267000.out) (Kd.R_base ho0) hb)
      replace HO_293000 := As.mk (Kd.R_elder' (by (with_reducible repeat (first | apply Kd.R_alloc | apply Kd.R_drewN | apply Kd.R_drew)); exact HO_293000.out) (Kd.R_base ho0) hb)
      replace HO318 := As.mk (Kd.R_elder' (by (with_reducible repeat (first | apply Kd.R_alloc | apply Kd.R_drewN | apply Kd.R_drew)); exact HO318.out) (Kd.R_base ho0) hb)
      have HO334 := As.mk (Kd.R_lower (Kd.R_new' (Kd.R_new' (Kd.R_new' (Kd.R_new' (Kd.R_new' (Kd.R_new' ho1 (Kd.R_lt (by (with_reducible repeat (first | apply Kd.R_alloc | apply Kd.R_drewN | apply Kd.R_drew)); exact HO_267001.out))) (Kd.R_lt (by (with_reducible repeat (first | apply Kd.R_alloc | apply Kd.R_drewN | apply Kd.R_drew)); exact HO_267002.out))) (Kd.R_lt (by (with_reducible repeat (first | apply Kd.R_alloc | apply Kd.R_drewN | apply Kd.R_drew)); exact HO_293001.out))) (Kd.R_lt (by (with_reducible repeat (first | apply Kd.R_alloc | apply Kd.R_drewN | apply Kd.R_drew)); exact HO_293002.out))) (Kd.R_lt (by (with_reducible repeat (first | apply Kd.R_alloc | apply Kd.R_drewN | apply Kd.R_drew)); exact HO321.out))) (Kd.R_lt (by (with_reducible repeat (first | apply Kd.R_alloc | apply Kd.R_drewN | apply Kd.R_drew)); exact HO324.out))) (below_size (be w)))
      have HO337 := As.mk (Kd.R_lower (Kd.R_new' (Kd.R_new' (Kd.R_new' (Kd.R_new' (Kd.R_new' (Kd.R_new' ho2 (Kd.R_lt (by (with_reducible repeat (first | apply Kd.R_alloc | apply Kd.R_drewN | apply Kd.R_drew)); exact HO_267001.out))) (Kd.R_lt (by (with_reducible repeat (first | apply Kd.R_alloc | apply Kd.R_drewN | apply Kd.R_drew)); exact HO_267002.out))) (Kd.R_lt (by (with_reducible repeat (first | apply Kd.R_alloc | apply Kd.R_drewN | apply Kd.R_drew)); exact HO_293001.out))) (Kd.R_lt (by (with_reducible repeat (first | apply Kd.R_alloc | apply Kd.R_drewN | apply Kd.R_drew)); exact HO_293002.out))) (Kd.R_lt (by (with_reducible repeat (first | apply Kd.R_alloc | apply Kd.R_drewN | apply Kd.R_drew)); exact HO321.out))) (Kd.R_lt (by (with_reducible repeat (first | apply Kd.R_alloc | apply Kd.R_drewN | apply Kd.R_drew)); exact HO324.out))) (below_size (be w)))
      replace HO_267001 := As.mk (Kd.R_mono (Kd.R_told (Kd.R_told (Kd.R_old (by (with_reducible repeat (first | apply Kd.R_alloc | apply Kd.R_drewN | apply Kd.R_drew)); exact HO_267001.out) hb) (Kd.R_base ho1)) (Kd.R_base ho2)) (fun _ h_ => h_.1))
      replace HO_267002 := As.mk (Kd.R_mono (Kd.R_told (Kd.R_told (Kd.R_old (by (with_reducible repeat (first | apply Kd.R_alloc | apply Kd.R_drewN | apply Kd.R_drew)); exact HO_267002.out) hb) (Kd.R_base ho1)) (Kd.R_base ho2)) (fun _ h_ => h_.1))
      replace HO_293001 := As.mk (Kd.R_mono (Kd.R_told (Kd.R_told (Kd.R_old (by (with_reducible repeat (first | apply Kd.R_alloc | apply Kd.R_drewN | apply Kd.R_drew)); exact HO_293001.out) hb) (Kd.R_base ho1)) (Kd.R_base ho2)) (fun _ h_ => h_.1))
      replace HO_293002 := As.mk (Kd.R_mono (Kd.R_told (Kd.R_told (Kd.R_old (by (with_reducible repeat (first | apply Kd.R_alloc | apply Kd.R_drewN | apply Kd.R_drew)); exact HO_293002.out) hb) (Kd.R_base ho1)) (Kd.R_base ho2)) (fun _ h_ => h_.1))
      replace HO321 := As.mk (Kd.R_mono (Kd.R_told (Kd.R_told (Kd.R_old (by (with_reducible repeat (first | apply Kd.R_alloc | apply Kd.R_drewN | apply Kd.R_drew)); exact HO321.out) hb) (Kd.R_base ho1)) (Kd.R_base ho2)) (fun _ h_ => h_.1))
      replace HO324 := As.mk (Kd.R_mono (Kd.R_told (Kd.R_told (Kd.R_old (by (with_reducible repeat (first | apply Kd.R_alloc | apply Kd.R_drewN | apply Kd.R_drew)); exact HO324.out) hb) (Kd.R_base ho1)) (Kd.R_base ho2)) (fun _ h_ => h_.1))
      replace BK239 := As.mk (blk_below (bx BK239.out) hb)
      replace BK240 := As.mk (blk_below (bx BK240.out) hb)
      replace BK266 := As.mk (blk_below (bx BK266.out) hb)
      replace BK278 := As.mk (blk_below (bx BK278.out) hb)
      replace BK292 := As.mk (blk_below (bx BK292.out) hb)
      replace BK340 := As.mk (blk_below (bx BK340.out) hb)
      replace HB := As.mk (below_step (be w) hb)
      (try clear hb)
      (try clear hb2)
      (try clear hk)
      (try clear hi)
      (try clear ho0)
      (try clear ho1)
      (try clear ho2)
      refine hK.out _ _ ⟨(blk_cell BK239.out 0).trans rfl, (blk_cell BK239.out 1).trans rfl, (blk_cell BK239.out 2).trans rfl, (blk_cell BK239.out 3).trans rfl, (blk_cell BK239.out 4).trans rfl, (blk_cell BK240.out 0).trans rfl, (blk_cell BK240.out 1).trans rfl⟩ (fun hHeld => ?_)
      clear hK K
      refine norm_ (a' := ?_) ?_ ?_
      rotate_left
      ·
       show Act.put _ (some 64) _ = _
       simp only [pk, i64_w, i32_w]
       rfl
      exact norm_ (by simp only [putAll, Act.put, List.setIfInBounds_toArray, List.set_cons_zero, List.set_cons_succ]) (hCont (.slice Ao126 t316.length co126, .slice Ao127 t319.length co127, .slice Ao128 t322.length co128, v330, v333, v336, gb340) _ ⟨hHeld, (by (with_reducible repeat (first | apply Kd.R_alloc | apply Kd.R_drewN | apply Kd.R_drew)); exact Kd.R_mono HO318.out (fun _ hk => ⟨hk.2, ⟨hk.1.1.2, hk.1.2⟩⟩)), (by (with_reducible repeat (first | apply Kd.R_alloc | apply Kd.R_drewN | apply Kd.R_drew)); exact Kd.R_mono HO321.out (fun _ hk => ⟨hk.1.1.1.1.1.1, ⟨hk.1.2, ⟨hk.2, ⟨hk.1.1.1.1.1.2, ⟨hk.1.1.1.1.2, ⟨hk.1.1.1.2, hk.1.1.2⟩⟩⟩⟩⟩⟩)), (by (with_reducible repeat (first | apply Kd.R_alloc | apply Kd.R_drewN | apply Kd.R_drew)); exact Kd.R_mono HO324.out (fun _ hk => ⟨hk.1.1.1.1.1.1, ⟨hk.1.2, ⟨hk.2, ⟨hk.1.1.1.1.1.2, ⟨hk.1.1.1.1.2, ⟨hk.1.1.1.2, hk.1.1.2⟩⟩⟩⟩⟩⟩)), (by (with_reducible repeat (first | apply Kd.R_alloc | apply Kd.R_drewN | apply Kd.R_drew)); exact Kd.R_mono HO331.out (fun _ hk => ⟨hk.2, ⟨hk.1.1.2, hk.1.2⟩⟩)), (by (with_reducible repeat (first | apply Kd.R_alloc | apply Kd.R_drewN | apply Kd.R_drew)); exact Kd.R_mono HO334.out (fun _ hk => ⟨hk.1.2, ⟨hk.2, ⟨hk.1.1.1.1.1.1, ⟨hk.1.1.1.1.1.2, ⟨hk.1.1.1.1.2, ⟨hk.1.1.1.2, hk.1.1.2⟩⟩⟩⟩⟩⟩)), (by (with_reducible repeat (first | apply Kd.R_alloc | apply Kd.R_drewN | apply Kd.R_drew)); exact Kd.R_mono HO337.out (fun _ hk => ⟨hk.1.2, ⟨hk.2, ⟨hk.1.1.1.1.1.1, ⟨hk.1.1.1.1.1.2, ⟨hk.1.1.1.1.2, ⟨hk.1.1.1.2, hk.1.1.2⟩⟩⟩⟩⟩⟩)), (by (with_reducible repeat (first | apply Kd.R_alloc | apply Kd.R_drewN | apply Kd.R_drew)); exact Kd.R_mono HO_267000.out (fun _ hk => ⟨hk.1.2, ⟨hk.2, hk.1.1.2⟩⟩)), (by (with_reducible repeat (first | apply Kd.R_alloc | apply Kd.R_drewN | apply Kd.R_drew)); exact Kd.R_mono HO_267001.out (fun _ hk => ⟨hk.1.1.1.2, ⟨hk.1.1.2, ⟨hk.1.2, ⟨hk.2, ⟨hk.1.1.1.1.1, ⟨hk.1.1.1.1.2.2.2.1, hk.1.1.1.1.2.2.2.2⟩⟩⟩⟩⟩⟩)), (by (with_reducible repeat (first | apply Kd.R_alloc | apply Kd.R_drewN | apply Kd.R_drew)); exact Kd.R_mono HO_267002.out (fun _ hk => ⟨hk.1.1.1.2, ⟨hk.1.1.2, ⟨hk.1.2, ⟨hk.2, ⟨hk.1.1.1.1.1, ⟨hk.1.1.1.1.2.2.2.1, hk.1.1.1.1.2.2.2.2⟩⟩⟩⟩⟩⟩)), (by (with_reducible repeat (first | apply Kd.R_alloc | apply Kd.R_drewN | apply Kd.R_drew)); exact Kd.R_mono HO_293000.out (fun _ hk => ⟨hk.1.2, ⟨hk.2, hk.1.1.1⟩⟩)), (by (with_reducible repeat (first | apply Kd.R_alloc | apply Kd.R_drewN | apply Kd.R_drew)); exact Kd.R_mono HO_293001.out (fun _ hk => ⟨hk.1.1.1.2, ⟨hk.1.1.2, ⟨hk.1.2, ⟨hk.2, ⟨hk.1.1.1.1.1, ⟨hk.1.1.1.1.2.1, hk.1.1.1.1.2.2.2.2⟩⟩⟩⟩⟩⟩)), (by (with_reducible repeat (first | apply Kd.R_alloc | apply Kd.R_drewN | apply Kd.R_drew)); exact Kd.R_mono HO_293002.out (fun _ hk => ⟨hk.1.1.1.2, ⟨hk.1.1.2, ⟨hk.1.2, ⟨hk.2, ⟨hk.1.1.1.1.1, ⟨hk.1.1.1.1.2.1, hk.1.1.1.1.2.2.2.2⟩⟩⟩⟩⟩⟩)), (bx BK239.out), (bx BK240.out), (bx BK266.out), (bx BK278.out), (bx BK292.out), (bx BK340.out), GW340.out, GE340.out, NB239_340.out, NB340_239.out, NB240_340.out, NB340_240.out, NB266_340.out, NB340_266.out, NB278_340.out, NB340_278.out, NB292_340.out, NB340_292.out, (be w)⟩)
    ·
     skip
     refine box_step ?hg (N := 12) ?hd (cs := #[.slice none 0 0, .slice none 0 0, .slice none 0 0, .int .i64 0, .int .i64 0]) (t := 34) ?hr ?_; (case hd => rfl); (case hg => rfl); (case hr => first | (go_simp; done) | (go_simp; rfl))
     intro gb340 hg w124 hbox hb
     replace HO_267000 := As.mk (Kd.R_below (by (with_reducible repeat (first | apply Kd.R_alloc | apply Kd.R_drewN | apply Kd.R_drew)); exact HO_267000.out) hb)
     replace HO_267001 := As.mk (Kd.R_below (by (with_reducible repeat (first | apply Kd.R_alloc | apply Kd.R_drewN | apply Kd.R_drew)); exact HO_267001.out) hb)
     replace HO_267002 := As.mk (Kd.R_below (by (with_reducible repeat (first | apply Kd.R_alloc | apply Kd.R_drewN | apply Kd.R_drew)); exact HO_267002.out) hb)
     replace HO_293000 := As.mk (Kd.R_below (by (with_reducible repeat (first | apply Kd.R_alloc | apply Kd.R_drewN | apply Kd.R_drew)); exact HO_293000.out) hb)
     replace HO_293001 := As.mk (Kd.R_below (by (with_reducible repeat (first | apply Kd.R_alloc | apply Kd.R_drewN | apply Kd.R_drew)); exact HO_293001.out) hb)
     replace HO_293002 := As.mk (Kd.R_below (by (with_reducible repeat (first | apply Kd.R_alloc | apply Kd.R_drewN | apply Kd.R_drew)); exact HO_293002.out) hb)
     replace HO318 := As.mk (Kd.R_below (by (with_reducible repeat (first | apply Kd.R_alloc | apply Kd.R_drewN | apply Kd.R_drew)); exact HO318.out) hb)
     replace HO321 := As.mk (Kd.R_below (by (with_reducible repeat (first | apply Kd.R_alloc | apply Kd.R_drewN | apply Kd.R_drew)); exact HO321.out) hb)
     replace HO324 := As.mk (Kd.R_below (by (with_reducible repeat (first | apply Kd.R_alloc | apply Kd.R_drewN | apply Kd.R_drew)); exact HO324.out) hb)
     have BK340 := As.mk (hbox)
     have GW340 := As.mk (gs w hg)
     have GE340 := As.mk (gs w hg)
     replace HB := As.mk (below_step (be w) hb)
     have NB239_340 := As.mk (nl hg (bx BK239.out))
     have NB340_239 := As.mk (ng hg (bx BK239.out))
     replace BK239 := As.mk (blk_below (bx BK239.out) hb)
     have NB240_340 := As.mk (nl hg (bx BK240.out))
     have NB340_240 := As.mk (ng hg (bx BK240.out))
     replace BK240 := As.mk (blk_below (bx BK240.out) hb)
     have NB266_340 := As.mk (nl hg (bx BK266.out))
     have NB340_266 := As.mk (ng hg (bx BK266.out))
     replace BK266 := As.mk (blk_below (bx BK266.out) hb)
     have NB278_340 := As.mk (nl hg (bx BK278.out))
     have NB340_278 := As.mk (ng hg (bx BK278.out))
     replace BK278 := As.mk (blk_below (bx BK278.out) hb)
     have NB292_340 := As.mk (nl hg (bx BK292.out))
     have NB340_292 := As.mk (ng hg (bx BK292.out))
     replace BK292 := As.mk (blk_below (bx BK292.out) hb)
     clear hb hbox hg
     refine hK.out _ _ ⟨(blk_cell BK239.out 0).trans rfl, (blk_cell BK239.out 1).trans rfl, (blk_cell BK239.out 2).trans rfl, (blk_cell BK239.out 3).trans rfl, (blk_cell BK239.out 4).trans rfl, (blk_cell BK240.out 0).trans rfl, (blk_cell BK240.out 1).trans rfl⟩ (fun hHeld => ?_)
     clear hK K
     refine norm_ (a' := ?_) ?_ ?_
     rotate_left
     ·
      show Act.put _ (some 12) _ = _
      simp only [pk, i64_w, i32_w]
      rfl
     refine one_ (i := 3) (N := some 63) #[I, I, I, I, O, I, O] rfl rfl (by kernel_rfl) (by decide) (fun K hK => ?_)
     refine goes_ Try.func26 (by kernel_rfl) rfl #[.agg #[.int .i64 a1_0, .int .i64 a1_1]] (by rfl) rfl rfl (by (try simp only [lm]); first | done | rfl | (simp only [List.length_drop, List.length_take]; rfl)) ?_
     with_reducible refine (laws_toValue.calls a1_0 a1_1 t327 t328 _ A118.out).mono ?_
     rintro e w125 ⟨rfl, hb⟩
     refine ⟨_, rfl, ?_⟩
     replace HO_267000 := As.mk (Kd.R_below (by (with_reducible repeat (first | apply Kd.R_alloc | apply Kd.R_drewN | apply Kd.R_drew)); exact HO_267000.out) hb)
     replace HO_267001 := As.mk (Kd.R_below (by (with_reducible repeat (first | apply Kd.R_alloc | apply Kd.R_drewN | apply Kd.R_drew)); exact HO_267001.out) hb)
     replace HO_267002 := As.mk (Kd.R_below (by (with_reducible repeat (first | apply Kd.R_alloc | apply Kd.R_drewN | apply Kd.R_drew)); exact HO_267002.out) hb)
     replace HO_293000 := As.mk (Kd.R_below (by (with_reducible repeat (first | apply Kd.R_alloc | apply Kd.R_drewN | apply Kd.R_drew)); exact HO_293000.out) hb)
     replace HO_293001 := As.mk (Kd.R_below (by (with_reducible repeat (first | apply Kd.R_alloc | apply Kd.R_drewN | apply Kd.R_drew)); exact HO_293001.out) hb)
     replace HO_293002 := As.mk (Kd.R_below (by (with_reducible repeat (first | apply Kd.R_alloc | apply Kd.R_drewN | apply Kd.R_drew)); exact HO_293002.out) hb)
     replace HO318 := As.mk (Kd.R_below (by (with_reducible repeat (first | apply Kd.R_alloc | apply Kd.R_drewN | apply Kd.R_drew)); exact HO318.out) hb)
     replace HO321 := As.mk (Kd.R_below (by (with_reducible repeat (first | apply Kd.R_alloc | apply Kd.R_drewN | apply Kd.R_drew)); exact HO321.out) hb)
     replace HO324 := As.mk (Kd.R_below (by (with_reducible repeat (first | apply Kd.R_alloc | apply Kd.R_drewN | apply Kd.R_drew)); exact HO324.out) hb)
     replace BK239 := As.mk (blk_below (bx BK239.out) hb)
     replace BK240 := As.mk (blk_below (bx BK240.out) hb)
     replace BK266 := As.mk (blk_below (bx BK266.out) hb)
     replace BK278 := As.mk (blk_below (bx BK278.out) hb)
     replace BK292 := As.mk (blk_below (bx BK292.out) hb)
     replace BK340 := As.mk (blk_below (bx BK340.out) hb)
     replace HB := As.mk (below_step (be w) hb)
     (try clear hb)
     (try clear hb2)
     (try clear hk)
     (try clear hi)
     obtain ⟨Ao126, co126, eo126⟩ := Kd.R_slice HO318.out
     (first | subst eo126 | (injection eo126 with f1_ f2_ f3_; have f4_ := f1_.symm; have f5_ := f3_.symm; clear f1_ f2_ f3_; subst f4_; subst f5_))
     obtain ⟨Ao127, co127, eo127⟩ := Kd.R_slice HO321.out
     (first | subst eo127 | (injection eo127 with f1_ f2_ f3_; have f4_ := f1_.symm; have f5_ := f3_.symm; clear f1_ f2_ f3_; subst f4_; subst f5_))
     obtain ⟨Ao128, co128, eo128⟩ := Kd.R_slice HO324.out
     (first | subst eo128 | (injection eo128 with f1_ f2_ f3_; have f4_ := f1_.symm; have f5_ := f3_.symm; clear f1_ f2_ f3_; subst f4_; subst f5_))
     refine hK.out _ _ ⟨(blk_cell BK239.out 0).trans rfl, (blk_cell BK239.out 1).trans rfl, (blk_cell BK239.out 2).trans rfl, (blk_cell BK239.out 3).trans rfl, (blk_cell BK239.out 4).trans rfl, (blk_cell BK240.out 0).trans rfl, (blk_cell BK240.out 1).trans rfl⟩ (fun hHeld => ?_)
     clear hK K
     refine norm_ (a' := ?_) ?_ ?_
     rotate_left
     ·
      show Act.put _ (some 63) _ = _
      simp only [pk, i64_w, i32_w]
      rfl
     refine one_ (i := 4) (N := some 64) #[I, I, I, I, I, I, O] rfl rfl (by kernel_rfl) (by decide) (fun K hK => ?_)
     refine goes_ Try.func22 (by kernel_rfl) rfl #[.agg #[.slice Ao126 t316.length co126, .slice Ao127 t319.length co127, .slice Ao128 t322.length co128, .int .i64 t325, .int .i64 t326], .agg #[.int .i64 t327, .int .i64 t328]] (by rfl) rfl rfl (by (try simp only [lm]); first | done | rfl | (simp only [List.length_drop, List.length_take]; rfl)) ?_
     with_reducible refine (impl_Freed.calls _ _ t316 _ _ t319 _ _ t322 t325 t326 t327 t328 t329 t332 t335 t338 t339 _ ?side1 ?side2 ?side3 ?side4 ?side5 ?side6 A119.out).mono ?_
     (case side1 => repeat (first | exact (Kd.R_reads' HO318.out).2.2 | (with_reducible refine Kd.C_alloc ?_ _) | (with_reducible refine Kd.C_drewN ?_ _) | (with_reducible refine Kd.C_drew ?_)))
     (case side2 => exact (Kd.R_reads' HO318.out).2.1)
     (case side3 => repeat (first | exact (Kd.R_reads' HO321.out).2.2 | (with_reducible refine Kd.C_alloc ?_ _) | (with_reducible refine Kd.C_drewN ?_ _) | (with_reducible refine Kd.C_drew ?_)))
     (case side4 => exact (Kd.R_reads' HO321.out).2.1)
     (case side5 => repeat (first | exact (Kd.R_reads' HO324.out).2.2 | (with_reducible refine Kd.C_alloc ?_ _) | (with_reducible refine Kd.C_drewN ?_ _) | (with_reducible refine Kd.C_drew ?_)))
     (case side6 => exact (Kd.R_reads' HO324.out).2.1)
     rintro e w129 ⟨v330, v333, v336, rfl, ho0, ho1, ho2, hb⟩
     refine ⟨_, rfl, ?_⟩
     have HO331 := As.mk (Kd.R_lower (Kd.R_new' (Kd.R_new' (Kd.R_new' ho0 (Kd.R_lt (by (with_reducible repeat (first | apply Kd.R_alloc | apply Kd.R_drewN | apply Kd.R_drew)); exact HO_267000.out))) (Kd.R_lt (by (with_reducible repeat (first | apply Kd.R_alloc | apply Kd.R_drewN | apply Kd.R_drew)); exact HO_293000.out))) (Kd.R_lt (by (with_reducible repeat (first | apply Kd.R_alloc | apply Kd.R_drewN | apply Kd.R_drew)); exact HO318.out))) (below_size (be w)))
     replace HO_267000 := As.mk (Kd.R_elder' (by (with_reducible repeat (first | apply Kd.R_alloc | apply Kd.R_drewN | apply Kd.R_drew)); exact HO_267000.out) (Kd.R_base ho0) hb)
     replace HO_293000 := As.mk (Kd.R_elder' (by (with_reducible repeat (first | apply Kd.R_alloc | apply Kd.R_drewN | apply Kd.R_drew)); exact HO_293000.out) (Kd.R_base ho0) hb)
     replace HO318 := As.mk (Kd.R_elder' (by (with_reducible repeat (first | apply Kd.R_alloc | apply Kd.R_drewN | apply Kd.R_drew)); exact HO318.out) (Kd.R_base ho0) hb)
     have HO334 := As.mk (Kd.R_lower (Kd.R_new' (Kd.R_new' (Kd.R_new' (Kd.R_new' (Kd.R_new' (Kd.R_new' ho1 (Kd.R_lt (by (with_reducible repeat (first | apply Kd.R_alloc | apply Kd.R_drewN | apply Kd.R_drew)); exact HO_267001.out))) (Kd.R_lt (by (with_reducible repeat (first | apply Kd.R_alloc | apply Kd.R_drewN | apply Kd.R_drew)); exact HO_267002.out))) (Kd.R_lt (by (with_reducible repeat (first | apply Kd.R_alloc | apply Kd.R_drewN | apply Kd.R_drew)); exact HO_293001.out))) (Kd.R_lt (by (with_reducible repeat (first | apply Kd.R_alloc | apply Kd.R_drewN | apply Kd.R_drew)); exact HO_293002.out))) (Kd.R_lt (by (with_reducible repeat (first | apply Kd.R_alloc | apply Kd.R_drewN | apply Kd.R_drew)); exact HO321.out))) (Kd.R_lt (by (with_reducible repeat (first | apply Kd.R_alloc | apply Kd.R_drewN | apply Kd.R_drew)); exact HO324.out))) (below_size (be w)))
     have HO337 := As.mk (Kd.R_lower (Kd.R_new' (Kd.R_new' (Kd.R_new' (Kd.R_new' (Kd.R_new' (Kd.R_new' ho2 (Kd.R_lt (by (with_reducible repeat (first | apply Kd.R_alloc | apply Kd.R_drewN | apply Kd.R_drew)); exact HO_267001.out))) (Kd.R_lt (by (with_reducible repeat (first | apply Kd.R_alloc | apply Kd.R_drewN | apply Kd.R_drew)); exact HO_267002.out))) (Kd.R_lt (by (with_reducible repeat (first | apply Kd.R_alloc | apply Kd.R_drewN | apply Kd.R_drew)); exact HO_293001.out))) (Kd.R_lt (by (with_reducible repeat (first | apply Kd.R_alloc | apply Kd.R_drewN | apply Kd.R_drew)); exact HO_293002.out))) (Kd.R_lt (by (with_reducible repeat (first | apply Kd.R_alloc | apply Kd.R_drewN | apply Kd.R_drew)); exact HO321.out))) (Kd.R_lt (by (with_reducible repeat (first | apply Kd.R_alloc | apply Kd.R_drewN | apply Kd.R_drew)); exact HO324.out))) (below_size (be w)))
     replace HO_267001 := As.mk (Kd.R_mono (Kd.R_told (Kd.R_told (Kd.R_old (by (with_reducible repeat (first | apply Kd.R_alloc | apply Kd.R_drewN | apply Kd.R_drew)); exact HO_267001.out) hb) (Kd.R_base ho1)) (Kd.R_base ho2)) (fun _ h_ => h_.1))
     replace HO_267002 := As.mk (Kd.R_mono (Kd.R_told (Kd.R_told (Kd.R_old (by (with_reducible repeat (first | apply Kd.R_alloc | apply Kd.R_drewN | apply Kd.R_drew)); exact HO_267002.out) hb) (Kd.R_base ho1)) (Kd.R_base ho2)) (fun _ h_ => h_.1))
     replace HO_293001 := As.mk (Kd.R_mono (Kd.R_told (Kd.R_told (Kd.R_old (by (with_reducible repeat (first | apply Kd.R_alloc | apply Kd.R_drewN | apply Kd.R_drew)); exact HO_293001.out) hb) (Kd.R_base ho1)) (Kd.R_base ho2)) (fun _ h_ => h_.1))
     replace HO_293002 := As.mk (Kd.R_mono (Kd.R_told (Kd.R_told (Kd.R_old (by (with_reducible repeat (first | apply Kd.R_alloc | apply Kd.R_drewN | apply Kd.R_drew)); exact HO_293002.out) hb) (Kd.R_base ho1)) (Kd.R_base ho2)) (fun _ h_ => h_.1))
     replace HO321 := As.mk (Kd.R_mono (Kd.R_told (Kd.R_told (Kd.R_old (by (with_reducible repeat (first | apply Kd.R_alloc | apply Kd.R_drewN | apply Kd.R_drew)); exact HO321.out) hb) (Kd.R_base ho1)) (Kd.R_base ho2)) (fun _ h_ => h_.1))
     replace HO324 := As.mk (Kd.R_mono (Kd.R_told (Kd.R_told (Kd.R_old (by (with_reducible repeat (first | apply Kd.R_alloc | apply Kd.R_drewN | apply Kd.R_drew)); exact HO324.out) hb) (Kd.R_base ho1)) (Kd.R_base ho2)) (fun _ h_ => h_.1))
     replace BK239 := As.mk (blk_below (bx BK239.out) hb)
     replace BK240 := As.mk (blk_below (bx BK240.out) hb)
     replace BK266 := As.mk (blk_below (bx BK266.out) hb)
     replace BK278 := As.mk (blk_below (bx BK278.out) hb)
     replace BK292 := As.mk (blk_below (bx BK292.out) hb)
     replace BK340 := As.mk (blk_below (bx BK340.out) hb)
     replace HB := As.mk (below_step (be w) hb)
     (try clear hb)
     (try clear hb2)
     (try clear hk)
     (try clear hi)
     (try clear ho0)
     (try clear ho1)
     (try clear ho2)
     refine hK.out _ _ ⟨(blk_cell BK239.out 0).trans rfl, (blk_cell BK239.out 1).trans rfl, (blk_cell BK239.out 2).trans rfl, (blk_cell BK239.out 3).trans rfl, (blk_cell BK239.out 4).trans rfl, (blk_cell BK240.out 0).trans rfl, (blk_cell BK240.out 1).trans rfl⟩ (fun hHeld => ?_)
     clear hK K
     refine norm_ (a' := ?_) ?_ ?_
     rotate_left
     ·
      show Act.put _ (some 64) _ = _
      simp only [pk, i64_w, i32_w]
      rfl
     exact norm_ (by simp only [putAll, Act.put, List.setIfInBounds_toArray, List.set_cons_zero, List.set_cons_succ]) (hCont (.slice Ao126 t316.length co126, .slice Ao127 t319.length co127, .slice Ao128 t322.length co128, v330, v333, v336, gb340) _ ⟨hHeld, (by (with_reducible repeat (first | apply Kd.R_alloc | apply Kd.R_drewN | apply Kd.R_drew)); exact Kd.R_mono HO318.out (fun _ hk => ⟨hk.2, ⟨hk.1.1.2, hk.1.2⟩⟩)), (by (with_reducible repeat (first | apply Kd.R_alloc | apply Kd.R_drewN | apply Kd.R_drew)); exact Kd.R_mono HO321.out (fun _ hk => ⟨hk.1.1.1.1.1.1, ⟨hk.1.2, ⟨hk.2, ⟨hk.1.1.1.1.1.2, ⟨hk.1.1.1.1.2, ⟨hk.1.1.1.2, hk.1.1.2⟩⟩⟩⟩⟩⟩)), (by (with_reducible repeat (first | apply Kd.R_alloc | apply Kd.R_drewN | apply Kd.R_drew)); exact Kd.R_mono HO324.out (fun _ hk => ⟨hk.1.1.1.1.1.1, ⟨hk.1.2, ⟨hk.2, ⟨hk.1.1.1.1.1.2, ⟨hk.1.1.1.1.2, ⟨hk.1.1.1.2, hk.1.1.2⟩⟩⟩⟩⟩⟩)), (by (with_reducible repeat (first | apply Kd.R_alloc | apply Kd.R_drewN | apply Kd.R_drew)); exact Kd.R_mono HO331.out (fun _ hk => ⟨hk.2, ⟨hk.1.1.2, hk.1.2⟩⟩)), (by (with_reducible repeat (first | apply Kd.R_alloc | apply Kd.R_drewN | apply Kd.R_drew)); exact Kd.R_mono HO334.out (fun _ hk => ⟨hk.1.2, ⟨hk.2, ⟨hk.1.1.1.1.1.1, ⟨hk.1.1.1.1.1.2, ⟨hk.1.1.1.1.2, ⟨hk.1.1.1.2, hk.1.1.2⟩⟩⟩⟩⟩⟩)), (by (with_reducible repeat (first | apply Kd.R_alloc | apply Kd.R_drewN | apply Kd.R_drew)); exact Kd.R_mono HO337.out (fun _ hk => ⟨hk.1.2, ⟨hk.2, ⟨hk.1.1.1.1.1.1, ⟨hk.1.1.1.1.1.2, ⟨hk.1.1.1.1.2, ⟨hk.1.1.1.2, hk.1.1.2⟩⟩⟩⟩⟩⟩)), (by (with_reducible repeat (first | apply Kd.R_alloc | apply Kd.R_drewN | apply Kd.R_drew)); exact Kd.R_mono HO_267000.out (fun _ hk => ⟨hk.1.2, ⟨hk.2, hk.1.1.2⟩⟩)), (by (with_reducible repeat (first | apply Kd.R_alloc | apply Kd.R_drewN | apply Kd.R_drew)); exact Kd.R_mono HO_267001.out (fun _ hk => ⟨hk.1.1.1.2, ⟨hk.1.1.2, ⟨hk.1.2, ⟨hk.2, ⟨hk.1.1.1.1.1, ⟨hk.1.1.1.1.2.2.2.1, hk.1.1.1.1.2.2.2.2⟩⟩⟩⟩⟩⟩)), (by (with_reducible repeat (first | apply Kd.R_alloc | apply Kd.R_drewN | apply Kd.R_drew)); exact Kd.R_mono HO_267002.out (fun _ hk => ⟨hk.1.1.1.2, ⟨hk.1.1.2, ⟨hk.1.2, ⟨hk.2, ⟨hk.1.1.1.1.1, ⟨hk.1.1.1.1.2.2.2.1, hk.1.1.1.1.2.2.2.2⟩⟩⟩⟩⟩⟩)), (by (with_reducible repeat (first | apply Kd.R_alloc | apply Kd.R_drewN | apply Kd.R_drew)); exact Kd.R_mono HO_293000.out (fun _ hk => ⟨hk.1.2, ⟨hk.2, hk.1.1.1⟩⟩)), (by (with_reducible repeat (first | apply Kd.R_alloc | apply Kd.R_drewN | apply Kd.R_drew)); exact Kd.R_mono HO_293001.out (fun _ hk => ⟨hk.1.1.1.2, ⟨hk.1.1.2, ⟨hk.1.2, ⟨hk.2, ⟨hk.1.1.1.1.1, ⟨hk.1.1.1.1.2.1, hk.1.1.1.1.2.2.2.2⟩⟩⟩⟩⟩⟩)), (by (with_reducible repeat (first | apply Kd.R_alloc | apply Kd.R_drewN | apply Kd.R_drew)); exact Kd.R_mono HO_293002.out (fun _ hk => ⟨hk.1.1.1.2, ⟨hk.1.1.2, ⟨hk.1.2, ⟨hk.2, ⟨hk.1.1.1.1.1, ⟨hk.1.1.1.1.2.1, hk.1.1.1.1.2.2.2.2⟩⟩⟩⟩⟩⟩)), (bx BK239.out), (bx BK240.out), (bx BK266.out), (bx BK278.out), (bx BK292.out), (bx BK340.out), GW340.out, GE340.out, NB239_340.out, NB340_239.out, NB240_340.out, NB340_240.out, NB266_340.out, NB340_266.out, NB278_340.out, NB340_278.out, NB292_340.out, NB340_292.out, (be w)⟩)
   ·
    skip
    refine box_step ?hg (N := 12) ?hd (cs := #[.slice none 0 0, .slice none 0 0, .slice none 0 0, .int .i64 0, .int .i64 0]) (t := 34) ?hr ?_; (case hd => rfl); (case hg => rfl); (case hr => first | (go_simp; done) | (go_simp; rfl))
    intro gb340 hg w123 hbox hb
    replace HO_267000 := As.mk (Kd.R_below (by (with_reducible repeat (first | apply Kd.R_alloc | apply Kd.R_drewN | apply Kd.R_drew)); exact HO_267000.out) hb)
    replace HO_267001 := As.mk (Kd.R_below (by (with_reducible repeat (first | apply Kd.R_alloc | apply Kd.R_drewN | apply Kd.R_drew)); exact HO_267001.out) hb)
    replace HO_267002 := As.mk (Kd.R_below (by (with_reducible repeat (first | apply Kd.R_alloc | apply Kd.R_drewN | apply Kd.R_drew)); exact HO_267002.out) hb)
    replace HO_293000 := As.mk (Kd.R_below (by (with_reducible repeat (first | apply Kd.R_alloc | apply Kd.R_drewN | apply Kd.R_drew)); exact HO_293000.out) hb)
    replace HO_293001 := As.mk (Kd.R_below (by (with_reducible repeat (first | apply Kd.R_alloc | apply Kd.R_drewN | apply Kd.R_drew)); exact HO_293001.out) hb)
    replace HO_293002 := As.mk (Kd.R_below (by (with_reducible repeat (first | apply Kd.R_alloc | apply Kd.R_drewN | apply Kd.R_drew)); exact HO_293002.out) hb)
    have BK340 := As.mk (hbox)
    have GW340 := As.mk (gs w hg)
    have GE340 := As.mk (gs w hg)
    replace HB := As.mk (below_step (be w) hb)
    have NB239_340 := As.mk (nl hg (bx BK239.out))
    have NB340_239 := As.mk (ng hg (bx BK239.out))
    replace BK239 := As.mk (blk_below (bx BK239.out) hb)
    have NB240_340 := As.mk (nl hg (bx BK240.out))
    have NB340_240 := As.mk (ng hg (bx BK240.out))
    replace BK240 := As.mk (blk_below (bx BK240.out) hb)
    have NB266_340 := As.mk (nl hg (bx BK266.out))
    have NB340_266 := As.mk (ng hg (bx BK266.out))
    replace BK266 := As.mk (blk_below (bx BK266.out) hb)
    have NB278_340 := As.mk (nl hg (bx BK278.out))
    have NB340_278 := As.mk (ng hg (bx BK278.out))
    replace BK278 := As.mk (blk_below (bx BK278.out) hb)
    have NB292_340 := As.mk (nl hg (bx BK292.out))
    have NB340_292 := As.mk (ng hg (bx BK292.out))
    replace BK292 := As.mk (blk_below (bx BK292.out) hb)
    clear hb hbox hg
    refine hK.out _ _ ⟨(blk_cell BK239.out 0).trans rfl, (blk_cell BK239.out 1).trans rfl, (blk_cell BK239.out 2).trans rfl, (blk_cell BK239.out 3).trans rfl, (blk_cell BK239.out 4).trans rfl, (blk_cell BK240.out 0).trans rfl, (blk_cell BK240.out 1).trans rfl⟩ (fun hHeld => ?_)
    clear hK K
    refine norm_ (a' := ?_) ?_ ?_
    rotate_left
    ·
     show Act.put _ (some 12) _ = _
     simp only [pk, i64_w, i32_w]
     rfl
    refine one_ (i := 1) (N := some 61) #[I, I, I, O, O, I, O] rfl rfl (by kernel_rfl) (by decide) (fun K hK => ?_)
    refine goes_ Try.func25 (by kernel_rfl) rfl #[.agg #[.slice A0_0 l0_0.length c0_0, .slice A0_1 l0_1.length c0_1, .slice A0_2 l0_2.length c0_2, .int .i64 a0_3, .int .i64 a0_4]] (by rfl) rfl rfl (by (try simp only [lm]); first | done | rfl | (simp only [List.length_drop, List.length_take]; rfl)) ?_
    with_reducible refine (laws_toMemory.calls kj114 _ _ l0_0 _ _ l0_1 _ _ l0_2 a0_3 a0_4 t316 t319 t322 t325 t326 _ ?side1 ?side2 ?side3 ?side4 ?side5 ?side6 A117.out).mono ?_
    (case side1 => exact Kd.C_below HR0_0.out (be w))
    (case side2 => exact HC0_0.out)
    (case side3 => exact Kd.C_below HR0_1.out (be w))
    (case side4 => exact HC0_1.out)
    (case side5 => exact Kd.C_below HR0_2.out (be w))
    (case side6 => exact HC0_2.out)
    rintro e w124 ⟨v317, v320, v323, rfl, ho0, ho1, ho2, hb⟩
    refine ⟨_, rfl, ?_⟩
    have HO318 := As.mk (Kd.R_lower (Kd.R_new' (Kd.R_new' ho0 (Kd.R_lt (by (with_reducible repeat (first | apply Kd.R_alloc | apply Kd.R_drewN | apply Kd.R_drew)); exact HO_267000.out))) (Kd.R_lt (by (with_reducible repeat (first | apply Kd.R_alloc | apply Kd.R_drewN | apply Kd.R_drew)); exact HO_293000.out))) (below_size (be w)))
    replace HO_267000 := As.mk (Kd.R_elder' (by (with_reducible repeat (first | apply Kd.R_alloc | apply Kd.R_drewN | apply Kd.R_drew)); exact HO_267000.out) (Kd.R_base ho0) hb)
    replace HO_293000 := As.mk (Kd.R_elder' (by (with_reducible repeat (first | apply Kd.R_alloc | apply Kd.R_drewN | apply Kd.R_drew)); exact HO_293000.out) (Kd.R_base ho0) hb)
    have HO321 := As.mk (Kd.R_lower (Kd.R_new' (Kd.R_new' (Kd.R_new' (Kd.R_new' ho1 (Kd.R_lt (by (with_reducible repeat (first | apply Kd.R_alloc | apply Kd.R_drewN | apply Kd.R_drew)); exact HO_267001.out))) (Kd.R_lt (by (with_reducible repeat (first | apply Kd.R_alloc | apply Kd.R_drewN | apply Kd.R_drew)); exact HO_267002.out))) (Kd.R_lt (by (with_reducible repeat (first | apply Kd.R_alloc | apply Kd.R_drewN | apply Kd.R_drew)); exact HO_293001.out))) (Kd.R_lt (by (with_reducible repeat (first | apply Kd.R_alloc | apply Kd.R_drewN | apply Kd.R_drew)); exact HO_293002.out))) (below_size (be w)))
    have HO324 := As.mk (Kd.R_lower (Kd.R_new' (Kd.R_new' (Kd.R_new' (Kd.R_new' ho2 (Kd.R_lt (by (with_reducible repeat (first | apply Kd.R_alloc | apply Kd.R_drewN | apply Kd.R_drew)); exact HO_267001.out))) (Kd.R_lt (by (with_reducible repeat (first | apply Kd.R_alloc | apply Kd.R_drewN | apply Kd.R_drew)); exact HO_267002.out))) (Kd.R_lt (by (with_reducible repeat (first | apply Kd.R_alloc | apply Kd.R_drewN | apply Kd.R_drew)); exact HO_293001.out))) (Kd.R_lt (by (with_reducible repeat (first | apply Kd.R_alloc | apply Kd.R_drewN | apply Kd.R_drew)); exact HO_293002.out))) (below_size (be w)))
    replace HO_267001 := As.mk (Kd.R_mono (Kd.R_told (Kd.R_told (Kd.R_old (by (with_reducible repeat (first | apply Kd.R_alloc | apply Kd.R_drewN | apply Kd.R_drew)); exact HO_267001.out) hb) (Kd.R_base ho1)) (Kd.R_base ho2)) (fun _ h_ => h_.1))
    replace HO_267002 := As.mk (Kd.R_mono (Kd.R_told (Kd.R_told (Kd.R_old (by (with_reducible repeat (first | apply Kd.R_alloc | apply Kd.R_drewN | apply Kd.R_drew)); exact HO_267002.out) hb) (Kd.R_base ho1)) (Kd.R_base ho2)) (fun _ h_ => h_.1))
    replace HO_293001 := As.mk (Kd.R_mono (Kd.R_told (Kd.R_told (Kd.R_old (by (with_reducible repeat (first | apply Kd.R_alloc | apply Kd.R_drewN | apply Kd.R_drew)); exact HO_293001.out) hb) (Kd.R_base ho1)) (Kd.R_base ho2)) (fun _ h_ => h_.1))
    replace HO_293002 := As.mk (Kd.R_mono (Kd.R_told (Kd.R_told (Kd.R_old (by (with_reducible repeat (first | apply Kd.R_alloc | apply Kd.R_drewN | apply Kd.R_drew)); exact HO_293002.out) hb) (Kd.R_base ho1)) (Kd.R_base ho2)) (fun _ h_ => h_.1))
    replace BK239 := As.mk (blk_below (bx BK239.out) hb)
    replace BK240 := As.mk (blk_below (bx BK240.out) hb)
    replace BK266 := As.mk (blk_below (bx BK266.out) hb)
    replace BK278 := As.mk (blk_below (bx BK278.out) hb)
    replace BK292 := As.mk (blk_below (bx BK292.out) hb)
    replace BK340 := As.mk (blk_below (bx BK340.out) hb)
    replace HB := As.mk (below_step (be w) hb)
    (try clear hb)
    (try clear hb2)
    (try clear hk)
    (try clear hi)
    (try clear ho0)
    (try clear ho1)
    (try clear ho2)
    refine hK.out _ _ ⟨(blk_cell BK239.out 0).trans rfl, (blk_cell BK239.out 1).trans rfl, (blk_cell BK239.out 2).trans rfl, (blk_cell BK239.out 3).trans rfl, (blk_cell BK239.out 4).trans rfl, (blk_cell BK240.out 0).trans rfl, (blk_cell BK240.out 1).trans rfl⟩ (fun hHeld => ?_)
    clear hK K
    refine norm_ (a' := ?_) ?_ ?_
    rotate_left
    ·
     show Act.put _ (some 61) _ = _
     simp only [pk, i64_w, i32_w]
     rfl
    refine one_ (i := 3) (N := some 63) #[I, I, I, I, O, I, O] rfl rfl (by kernel_rfl) (by decide) (fun K hK => ?_)
    refine goes_ Try.func26 (by kernel_rfl) rfl #[.agg #[.int .i64 a1_0, .int .i64 a1_1]] (by rfl) rfl rfl (by (try simp only [lm]); first | done | rfl | (simp only [List.length_drop, List.length_take]; rfl)) ?_
    with_reducible refine (laws_toValue.calls a1_0 a1_1 t327 t328 _ A118.out).mono ?_
    rintro e w125 ⟨rfl, hb⟩
    refine ⟨_, rfl, ?_⟩
    replace HO_267000 := As.mk (Kd.R_below (by (with_reducible repeat (first | apply Kd.R_alloc | apply Kd.R_drewN | apply Kd.R_drew)); exact HO_267000.out) hb)
    replace HO_267001 := As.mk (Kd.R_below (by (with_reducible repeat (first | apply Kd.R_alloc | apply Kd.R_drewN | apply Kd.R_drew)); exact HO_267001.out) hb)
    replace HO_267002 := As.mk (Kd.R_below (by (with_reducible repeat (first | apply Kd.R_alloc | apply Kd.R_drewN | apply Kd.R_drew)); exact HO_267002.out) hb)
    replace HO_293000 := As.mk (Kd.R_below (by (with_reducible repeat (first | apply Kd.R_alloc | apply Kd.R_drewN | apply Kd.R_drew)); exact HO_293000.out) hb)
    replace HO_293001 := As.mk (Kd.R_below (by (with_reducible repeat (first | apply Kd.R_alloc | apply Kd.R_drewN | apply Kd.R_drew)); exact HO_293001.out) hb)
    replace HO_293002 := As.mk (Kd.R_below (by (with_reducible repeat (first | apply Kd.R_alloc | apply Kd.R_drewN | apply Kd.R_drew)); exact HO_293002.out) hb)
    replace HO318 := As.mk (Kd.R_below (by (with_reducible repeat (first | apply Kd.R_alloc | apply Kd.R_drewN | apply Kd.R_drew)); exact HO318.out) hb)
    replace HO321 := As.mk (Kd.R_below (by (with_reducible repeat (first | apply Kd.R_alloc | apply Kd.R_drewN | apply Kd.R_drew)); exact HO321.out) hb)
    replace HO324 := As.mk (Kd.R_below (by (with_reducible repeat (first | apply Kd.R_alloc | apply Kd.R_drewN | apply Kd.R_drew)); exact HO324.out) hb)
    replace BK239 := As.mk (blk_below (bx BK239.out) hb)
    replace BK240 := As.mk (blk_below (bx BK240.out) hb)
    replace BK266 := As.mk (blk_below (bx BK266.out) hb)
    replace BK278 := As.mk (blk_below (bx BK278.out) hb)
    replace BK292 := As.mk (blk_below (bx BK292.out) hb)
    replace BK340 := As.mk (blk_below (bx BK340.out) hb)
    replace HB := As.mk (below_step (be w) hb)
    (try clear hb)
    (try clear hb2)
    (try clear hk)
    (try clear hi)
    obtain ⟨Ao126, co126, eo126⟩ := Kd.R_slice HO318.out
    (first | subst eo126 | (injection eo126 with f1_ f2_ f3_; have f4_ := f1_.symm; have f5_ := f3_.symm; clear f1_ f2_ f3_; subst f4_; subst f5_))
    obtain ⟨Ao127, co127, eo127⟩ := Kd.R_slice HO321.out
    (first | subst eo127 | (injection eo127 with f1_ f2_ f3_; have f4_ := f1_.symm; have f5_ := f3_.symm; clear f1_ f2_ f3_; subst f4_; subst f5_))
    obtain ⟨Ao128, co128, eo128⟩ := Kd.R_slice HO324.out
    (first | subst eo128 | (injection eo128 with f1_ f2_ f3_; have f4_ := f1_.symm; have f5_ := f3_.symm; clear f1_ f2_ f3_; subst f4_; subst f5_))
    refine hK.out _ _ ⟨(blk_cell BK239.out 0).trans rfl, (blk_cell BK239.out 1).trans rfl, (blk_cell BK239.out 2).trans rfl, (blk_cell BK239.out 3).trans rfl, (blk_cell BK239.out 4).trans rfl, (blk_cell BK240.out 0).trans rfl, (blk_cell BK240.out 1).trans rfl⟩ (fun hHeld => ?_)
    clear hK K
    refine norm_ (a' := ?_) ?_ ?_
    rotate_left
    ·
     show Act.put _ (some 63) _ = _
     simp only [pk, i64_w, i32_w]
     rfl
    refine one_ (i := 4) (N := some 64) #[I, I, I, I, I, I, O] rfl rfl (by kernel_rfl) (by decide) (fun K hK => ?_)
    refine goes_ Try.func22 (by kernel_rfl) rfl #[.agg #[.slice Ao126 t316.length co126, .slice Ao127 t319.length co127, .slice Ao128 t322.length co128, .int .i64 t325, .int .i64 t326], .agg #[.int .i64 t327, .int .i64 t328]] (by rfl) rfl rfl (by (try simp only [lm]); first | done | rfl | (simp only [List.length_drop, List.length_take]; rfl)) ?_
    with_reducible refine (impl_Freed.calls _ _ t316 _ _ t319 _ _ t322 t325 t326 t327 t328 t329 t332 t335 t338 t339 _ ?side1 ?side2 ?side3 ?side4 ?side5 ?side6 A119.out).mono ?_
    (case side1 => repeat (first | exact (Kd.R_reads' HO318.out).2.2 | (with_reducible refine Kd.C_alloc ?_ _) | (with_reducible refine Kd.C_drewN ?_ _) | (with_reducible refine Kd.C_drew ?_)))
    (case side2 => exact (Kd.R_reads' HO318.out).2.1)
    (case side3 => repeat (first | exact (Kd.R_reads' HO321.out).2.2 | (with_reducible refine Kd.C_alloc ?_ _) | (with_reducible refine Kd.C_drewN ?_ _) | (with_reducible refine Kd.C_drew ?_)))
    (case side4 => exact (Kd.R_reads' HO321.out).2.1)
    (case side5 => repeat (first | exact (Kd.R_reads' HO324.out).2.2 | (with_reducible refine Kd.C_alloc ?_ _) | (with_reducible refine Kd.C_drewN ?_ _) | (with_reducible refine Kd.C_drew ?_)))
    (case side6 => exact (Kd.R_reads' HO324.out).2.1)
    rintro e w129 ⟨v330, v333, v336, rfl, ho0, ho1, ho2, hb⟩
    refine ⟨_, rfl, ?_⟩
    have HO331 := As.mk (Kd.R_lower (Kd.R_new' (Kd.R_new' (Kd.R_new' ho0 (Kd.R_lt (by (with_reducible repeat (first | apply Kd.R_alloc | apply Kd.R_drewN | apply Kd.R_drew)); exact HO_267000.out))) (Kd.R_lt (by (with_reducible repeat (first | apply Kd.R_alloc | apply Kd.R_drewN | apply Kd.R_drew)); exact HO_293000.out))) (Kd.R_lt (by (with_reducible repeat (first | apply Kd.R_alloc | apply Kd.R_drewN | apply Kd.R_drew)); exact HO318.out))) (below_size (be w)))
    replace HO_267000 := As.mk (Kd.R_elder' (by (with_reducible repeat (first | apply Kd.R_alloc | apply Kd.R_drewN | apply Kd.R_drew)); exact HO_267000.out) (Kd.R_base ho0) hb)
    replace HO_293000 := As.mk (Kd.R_elder' (by (with_reducible repeat (first | apply Kd.R_alloc | apply Kd.R_drewN | apply Kd.R_drew)); exact HO_293000.out) (Kd.R_base ho0) hb)
    replace HO318 := As.mk (Kd.R_elder' (by (with_reducible repeat (first | apply Kd.R_alloc | apply Kd.R_drewN | apply Kd.R_drew)); exact HO318.out) (Kd.R_base ho0) hb)
    have HO334 := As.mk (Kd.R_lower (Kd.R_new' (Kd.R_new' (Kd.R_new' (Kd.R_new' (Kd.R_new' (Kd.R_new' ho1 (Kd.R_lt (by (with_reducible repeat (first | apply Kd.R_alloc | apply Kd.R_drewN | apply Kd.R_drew)); exact HO_267001.out))) (Kd.R_lt (by (with_reducible repeat (first | apply Kd.R_alloc | apply Kd.R_drewN | apply Kd.R_drew)); exact HO_267002.out))) (Kd.R_lt (by (with_reducible repeat (first | apply Kd.R_alloc | apply Kd.R_drewN | apply Kd.R_drew)); exact HO_293001.out))) (Kd.R_lt (by (with_reducible repeat (first | apply Kd.R_alloc | apply Kd.R_drewN | apply Kd.R_drew)); exact HO_293002.out))) (Kd.R_lt (by (with_reducible repeat (first | apply Kd.R_alloc | apply Kd.R_drewN | apply Kd.R_drew)); exact HO321.out))) (Kd.R_lt (by (with_reducible repeat (first | apply Kd.R_alloc | apply Kd.R_drewN | apply Kd.R_drew)); exact HO324.out))) (below_size (be w)))
    have HO337 := As.mk (Kd.R_lower (Kd.R_new' (Kd.R_new' (Kd.R_new' (Kd.R_new' (Kd.R_new' (Kd.R_new' ho2 (Kd.R_lt (by (with_reducible repeat (first | apply Kd.R_alloc | apply Kd.R_drewN | apply Kd.R_drew)); exact HO_267001.out))) (Kd.R_lt (by (with_reducible repeat (first | apply Kd.R_alloc | apply Kd.R_drewN | apply Kd.R_drew)); exact HO_267002.out))) (Kd.R_lt (by (with_reducible repeat (first | apply Kd.R_alloc | apply Kd.R_drewN | apply Kd.R_drew)); exact HO_293001.out))) (Kd.R_lt (by (with_reducible repeat (first | apply Kd.R_alloc | apply Kd.R_drewN | apply Kd.R_drew)); exact HO_293002.out))) (Kd.R_lt (by (with_reducible repeat (first | apply Kd.R_alloc | apply Kd.R_drewN | apply Kd.R_drew)); exact HO321.out))) (Kd.R_lt (by (with_reducible repeat (first | apply Kd.R_alloc | apply Kd.R_drewN | apply Kd.R_drew)); exact HO324.out))) (below_size (be w)))
    replace HO_267001 := As.mk (Kd.R_mono (Kd.R_told (Kd.R_told (Kd.R_old (by (with_reducible repeat (first | apply Kd.R_alloc | apply Kd.R_drewN | apply Kd.R_drew)); exact HO_267001.out) hb) (Kd.R_base ho1)) (Kd.R_base ho2)) (fun _ h_ => h_.1))
    replace HO_267002 := As.mk (Kd.R_mono (Kd.R_told (Kd.R_told (Kd.R_old (by (with_reducible repeat (first | apply Kd.R_alloc | apply Kd.R_drewN | apply Kd.R_drew)); exact HO_267002.out) hb) (Kd.R_base ho1)) (Kd.R_base ho2)) (fun _ h_ => h_.1))
    replace HO_293001 := As.mk (Kd.R_mono (Kd.R_told (Kd.R_told (Kd.R_old (by (with_reducible repeat (first | apply Kd.R_alloc | apply Kd.R_drewN | apply Kd.R_drew)); exact HO_293001.out) hb) (Kd.R_base ho1)) (Kd.R_base ho2)) (fun _ h_ => h_.1))
    replace HO_293002 := As.mk (Kd.R_mono (Kd.R_told (Kd.R_told (Kd.R_old (by (with_reducible repeat (first | apply Kd.R_alloc | apply Kd.R_drewN | apply Kd.R_drew)); exact HO_293002.out) hb) (Kd.R_base ho1)) (Kd.R_base ho2)) (fun _ h_ => h_.1))
    replace HO321 := As.mk (Kd.R_mono (Kd.R_told (Kd.R_told (Kd.R_old (by (with_reducible repeat (first | apply Kd.R_alloc | apply Kd.R_drewN | apply Kd.R_drew)); exact HO321.out) hb) (Kd.R_base ho1)) (Kd.R_base ho2)) (fun _ h_ => h_.1))
    replace HO324 := As.mk (Kd.R_mono (Kd.R_told (Kd.R_told (Kd.R_old (by (with_reducible repeat (first | apply Kd.R_alloc | apply Kd.R_drewN | apply Kd.R_drew)); exact HO324.out) hb) (Kd.R_base ho1)) (Kd.R_base ho2)) (fun _ h_ => h_.1))
    replace BK239 := As.mk (blk_below (bx BK239.out) hb)
    replace BK240 := As.mk (blk_below (bx BK240.out) hb)
    replace BK266 := As.mk (blk_below (bx BK266.out) hb)
    replace BK278 := As.mk (blk_below (bx BK278.out) hb)
    replace BK292 := As.mk (blk_below (bx BK292.out) hb)
    replace BK340 := As.mk (blk_below (bx BK340.out) hb)
    replace HB := As.mk (below_step (be w) hb)
    (try clear hb)
    (try clear hb2)
    (try clear hk)
    (try clear hi)
    (try clear ho0)
    (try clear ho1)
    (try clear ho2)
    refine hK.out _ _ ⟨(blk_cell BK239.out 0).trans rfl, (blk_cell BK239.out 1).trans rfl, (blk_cell BK239.out 2).trans rfl, (blk_cell BK239.out 3).trans rfl, (blk_cell BK239.out 4).trans rfl, (blk_cell BK240.out 0).trans rfl, (blk_cell BK240.out 1).trans rfl⟩ (fun hHeld => ?_)
    clear hK K
    refine norm_ (a' := ?_) ?_ ?_
    rotate_left
    ·
     show Act.put _ (some 64) _ = _
     simp only [pk, i64_w, i32_w]
     rfl
    exact norm_ (by simp only [putAll, Act.put, List.setIfInBounds_toArray, List.set_cons_zero, List.set_cons_succ]) (hCont (.slice Ao126 t316.length co126, .slice Ao127 t319.length co127, .slice Ao128 t322.length co128, v330, v333, v336, gb340) _ ⟨hHeld, (by (with_reducible repeat (first | apply Kd.R_alloc | apply Kd.R_drewN | apply Kd.R_drew)); exact Kd.R_mono HO318.out (fun _ hk => ⟨hk.2, ⟨hk.1.1.2, hk.1.2⟩⟩)), (by (with_reducible repeat (first | apply Kd.R_alloc | apply Kd.R_drewN | apply Kd.R_drew)); exact Kd.R_mono HO321.out (fun _ hk => ⟨hk.1.1.1.1.1.1, ⟨hk.1.2, ⟨hk.2, ⟨hk.1.1.1.1.1.2, ⟨hk.1.1.1.1.2, ⟨hk.1.1.1.2, hk.1.1.2⟩⟩⟩⟩⟩⟩)), (by (with_reducible repeat (first | apply Kd.R_alloc | apply Kd.R_drewN | apply Kd.R_drew)); exact Kd.R_mono HO324.out (fun _ hk => ⟨hk.1.1.1.1.1.1, ⟨hk.1.2, ⟨hk.2, ⟨hk.1.1.1.1.1.2, ⟨hk.1.1.1.1.2, ⟨hk.1.1.1.2, hk.1.1.2⟩⟩⟩⟩⟩⟩)), (by (with_reducible repeat (first | apply Kd.R_alloc | apply Kd.R_drewN | apply Kd.R_drew)); exact Kd.R_mono HO331.out (fun _ hk => ⟨hk.2, ⟨hk.1.1.2, hk.1.2⟩⟩)), (by (with_reducible repeat (first | apply Kd.R_alloc | apply Kd.R_drewN | apply Kd.R_drew)); exact Kd.R_mono HO334.out (fun _ hk => ⟨hk.1.2, ⟨hk.2, ⟨hk.1.1.1.1.1.1, ⟨hk.1.1.1.1.1.2, ⟨hk.1.1.1.1.2, ⟨hk.1.1.1.2, hk.1.1.2⟩⟩⟩⟩⟩⟩)), (by (with_reducible repeat (first | apply Kd.R_alloc | apply Kd.R_drewN | apply Kd.R_drew)); exact Kd.R_mono HO337.out (fun _ hk => ⟨hk.1.2, ⟨hk.2, ⟨hk.1.1.1.1.1.1, ⟨hk.1.1.1.1.1.2, ⟨hk.1.1.1.1.2, ⟨hk.1.1.1.2, hk.1.1.2⟩⟩⟩⟩⟩⟩)), (by (with_reducible repeat (first | apply Kd.R_alloc | apply Kd.R_drewN | apply Kd.R_drew)); exact Kd.R_mono HO_267000.out (fun _ hk => ⟨hk.1.2, ⟨hk.2, hk.1.1.2⟩⟩)), (by (with_reducible repeat (first | apply Kd.R_alloc | apply Kd.R_drewN | apply Kd.R_drew)); exact Kd.R_mono HO_267001.out (fun _ hk => ⟨hk.1.1.1.2, ⟨hk.1.1.2, ⟨hk.1.2, ⟨hk.2, ⟨hk.1.1.1.1.1, ⟨hk.1.1.1.1.2.2.2.1, hk.1.1.1.1.2.2.2.2⟩⟩⟩⟩⟩⟩)), (by (with_reducible repeat (first | apply Kd.R_alloc | apply Kd.R_drewN | apply Kd.R_drew)); exact Kd.R_mono HO_267002.out (fun _ hk => ⟨hk.1.1.1.2, ⟨hk.1.1.2, ⟨hk.1.2, ⟨hk.2, ⟨hk.1.1.1.1.1, ⟨hk.1.1.1.1.2.2.2.1, hk.1.1.1.1.2.2.2.2⟩⟩⟩⟩⟩⟩)), (by (with_reducible repeat (first | apply Kd.R_alloc | apply Kd.R_drewN | apply Kd.R_drew)); exact Kd.R_mono HO_293000.out (fun _ hk => ⟨hk.1.2, ⟨hk.2, hk.1.1.1⟩⟩)), (by (with_reducible repeat (first | apply Kd.R_alloc | apply Kd.R_drewN | apply Kd.R_drew)); exact Kd.R_mono HO_293001.out (fun _ hk => ⟨hk.1.1.1.2, ⟨hk.1.1.2, ⟨hk.1.2, ⟨hk.2, ⟨hk.1.1.1.1.1, ⟨hk.1.1.1.1.2.1, hk.1.1.1.1.2.2.2.2⟩⟩⟩⟩⟩⟩)), (by (with_reducible repeat (first | apply Kd.R_alloc | apply Kd.R_drewN | apply Kd.R_drew)); exact Kd.R_mono HO_293002.out (fun _ hk => ⟨hk.1.1.1.2, ⟨hk.1.1.2, ⟨hk.1.2, ⟨hk.2, ⟨hk.1.1.1.1.1, ⟨hk.1.1.1.1.2.1, hk.1.1.1.1.2.2.2.2⟩⟩⟩⟩⟩⟩)), (bx BK239.out), (bx BK240.out), (bx BK266.out), (bx BK278.out), (bx BK292.out), (bx BK340.out), GW340.out, GE340.out, NB239_340.out, NB340_239.out, NB240_340.out, NB340_240.out, NB266_340.out, NB340_266.out, NB278_340.out, NB340_278.out, NB292_340.out, NB340_292.out, (be w)⟩)
  rintro ⟨v317, v320, v323, v330, v333, v336, gb340⟩ w130 ⟨hS_, h0_, h1_, h2_, h3_, h4_, h5_, h6_, h7_, h8_, h9_, h10_, h11_, h12_, h13_, h14_, h15_, h16_, h17_, h18_, h19_, h20_, h21_, h22_, h23_, h24_, h25_, h26_, h27_, h28_, h29_, h30_⟩
  have n0_ : As (Kd.R k93 93 w130 w.heap.size (fun k_ => some k_ ≠ (v330 : Value).ownBlock ∧ some k_ ≠ (.slice Ao28 t255.length co28 : Value).ownBlock ∧ some k_ ≠ (.slice Ao54 t312.length co54 : Value).ownBlock) v317 t316) := ⟨h0_⟩
  have n1_ : As (Kd.R (Kd.int .i64) 3 w130 w.heap.size (fun k_ => some k_ ≠ (v323 : Value).ownBlock ∧ some k_ ≠ (v333 : Value).ownBlock ∧ some k_ ≠ (v336 : Value).ownBlock ∧ some k_ ≠ (.slice Ao30 t258.length co30 : Value).ownBlock ∧ some k_ ≠ (.slice Ao32 t261.length co32 : Value).ownBlock ∧ some k_ ≠ (.slice Ao56 t313.length co56 : Value).ownBlock ∧ some k_ ≠ (.slice Ao58 t314.length co58 : Value).ownBlock) v320 t319) := ⟨h1_⟩
  have n2_ : As (Kd.R (Kd.int .i64) 3 w130 w.heap.size (fun k_ => some k_ ≠ (v320 : Value).ownBlock ∧ some k_ ≠ (v333 : Value).ownBlock ∧ some k_ ≠ (v336 : Value).ownBlock ∧ some k_ ≠ (.slice Ao30 t258.length co30 : Value).ownBlock ∧ some k_ ≠ (.slice Ao32 t261.length co32 : Value).ownBlock ∧ some k_ ≠ (.slice Ao56 t313.length co56 : Value).ownBlock ∧ some k_ ≠ (.slice Ao58 t314.length co58 : Value).ownBlock) v323 t322) := ⟨h2_⟩
  have n3_ : As (Kd.R k93 93 w130 w.heap.size (fun k_ => some k_ ≠ (v317 : Value).ownBlock ∧ some k_ ≠ (.slice Ao28 t255.length co28 : Value).ownBlock ∧ some k_ ≠ (.slice Ao54 t312.length co54 : Value).ownBlock) v330 t329) := ⟨h3_⟩
  have n4_ : As (Kd.R (Kd.int .i64) 3 w130 w.heap.size (fun k_ => some k_ ≠ (v320 : Value).ownBlock ∧ some k_ ≠ (v323 : Value).ownBlock ∧ some k_ ≠ (v336 : Value).ownBlock ∧ some k_ ≠ (.slice Ao30 t258.length co30 : Value).ownBlock ∧ some k_ ≠ (.slice Ao32 t261.length co32 : Value).ownBlock ∧ some k_ ≠ (.slice Ao56 t313.length co56 : Value).ownBlock ∧ some k_ ≠ (.slice Ao58 t314.length co58 : Value).ownBlock) v333 t332) := ⟨h4_⟩
  have n5_ : As (Kd.R (Kd.int .i64) 3 w130 w.heap.size (fun k_ => some k_ ≠ (v320 : Value).ownBlock ∧ some k_ ≠ (v323 : Value).ownBlock ∧ some k_ ≠ (v333 : Value).ownBlock ∧ some k_ ≠ (.slice Ao30 t258.length co30 : Value).ownBlock ∧ some k_ ≠ (.slice Ao32 t261.length co32 : Value).ownBlock ∧ some k_ ≠ (.slice Ao56 t313.length co56 : Value).ownBlock ∧ some k_ ≠ (.slice Ao58 t314.length co58 : Value).ownBlock) v336 t335) := ⟨h5_⟩
  have n6_ : As (Kd.R k93 93 w130 w.heap.size (fun k_ => some k_ ≠ (v317 : Value).ownBlock ∧ some k_ ≠ (v330 : Value).ownBlock ∧ some k_ ≠ (.slice Ao54 t312.length co54 : Value).ownBlock) (.slice Ao28 t255.length co28) t255) := ⟨h6_⟩
  have n7_ : As (Kd.R (Kd.int .i64) 3 w130 w.heap.size (fun k_ => some k_ ≠ (v320 : Value).ownBlock ∧ some k_ ≠ (v323 : Value).ownBlock ∧ some k_ ≠ (v333 : Value).ownBlock ∧ some k_ ≠ (v336 : Value).ownBlock ∧ some k_ ≠ (.slice Ao32 t261.length co32 : Value).ownBlock ∧ some k_ ≠ (.slice Ao56 t313.length co56 : Value).ownBlock ∧ some k_ ≠ (.slice Ao58 t314.length co58 : Value).ownBlock) (.slice Ao30 t258.length co30) t258) := ⟨h7_⟩
  have n8_ : As (Kd.R (Kd.int .i64) 3 w130 w.heap.size (fun k_ => some k_ ≠ (v320 : Value).ownBlock ∧ some k_ ≠ (v323 : Value).ownBlock ∧ some k_ ≠ (v333 : Value).ownBlock ∧ some k_ ≠ (v336 : Value).ownBlock ∧ some k_ ≠ (.slice Ao30 t258.length co30 : Value).ownBlock ∧ some k_ ≠ (.slice Ao56 t313.length co56 : Value).ownBlock ∧ some k_ ≠ (.slice Ao58 t314.length co58 : Value).ownBlock) (.slice Ao32 t261.length co32) t261) := ⟨h8_⟩
  have n9_ : As (Kd.R k93 93 w130 w.heap.size (fun k_ => some k_ ≠ (v317 : Value).ownBlock ∧ some k_ ≠ (v330 : Value).ownBlock ∧ some k_ ≠ (.slice Ao28 t255.length co28 : Value).ownBlock) (.slice Ao54 t312.length co54) t312) := ⟨h9_⟩
  have n10_ : As (Kd.R (Kd.int .i64) 3 w130 w.heap.size (fun k_ => some k_ ≠ (v320 : Value).ownBlock ∧ some k_ ≠ (v323 : Value).ownBlock ∧ some k_ ≠ (v333 : Value).ownBlock ∧ some k_ ≠ (v336 : Value).ownBlock ∧ some k_ ≠ (.slice Ao30 t258.length co30 : Value).ownBlock ∧ some k_ ≠ (.slice Ao32 t261.length co32 : Value).ownBlock ∧ some k_ ≠ (.slice Ao58 t314.length co58 : Value).ownBlock) (.slice Ao56 t313.length co56) t313) := ⟨h10_⟩
  have n11_ : As (Kd.R (Kd.int .i64) 3 w130 w.heap.size (fun k_ => some k_ ≠ (v320 : Value).ownBlock ∧ some k_ ≠ (v323 : Value).ownBlock ∧ some k_ ≠ (v333 : Value).ownBlock ∧ some k_ ≠ (v336 : Value).ownBlock ∧ some k_ ≠ (.slice Ao30 t258.length co30 : Value).ownBlock ∧ some k_ ≠ (.slice Ao32 t261.length co32 : Value).ownBlock ∧ some k_ ≠ (.slice Ao56 t313.length co56 : Value).ownBlock) (.slice Ao58 t314.length co58) t314) := ⟨h11_⟩
  have n12_ : As (w130.heap[gb239]? = some (.cells #[.slice A0_0 l0_0.length c0_0, .slice A0_1 l0_1.length c0_1, .slice A0_2 l0_2.length c0_2, .int .i64 a0_3, .int .i64 a0_4] 47 (0, 0))) := ⟨h12_⟩
  have n13_ : As (w130.heap[gb240]? = some (.cells #[.int .i64 a1_0, .int .i64 a1_1] 48 (0, 0))) := ⟨h13_⟩
  have n14_ : As (w130.heap[gb266]? = some (.cells #[.slice Ao28 t255.length co28, .slice Ao30 t258.length co30, .slice Ao32 t261.length co32, .int .i64 t264, .int .i64 t265] 34 (0, 0))) := ⟨h14_⟩
  have n15_ : As (w130.heap[gb278]? = some (.cells #[.slice Ao41 t307.length co41, .slice Ao46 t308.length co46, .slice Ao47 t309.length co47, .int .i64 t276, .int .i64 t277] 34 (0, 0))) := ⟨h15_⟩
  have n16_ : As (w130.heap[gb292]? = some (.cells #[.slice Ao54 t312.length co54, .slice Ao56 t313.length co56, .slice Ao58 t314.length co58, .int .i64 t290, .int .i64 t291] 34 (0, 0))) := ⟨h16_⟩
  have n17_ : As (w130.heap[gb340]? = some (.cells #[.slice none 0 0, .slice none 0 0, .slice none 0 0, .int .i64 0, .int .i64 0] 34 (0, 0))) := ⟨h17_⟩
  have n18_ : As (w.heap.size ≤ gb340) := ⟨h18_⟩
  have n19_ : As (w.heap.size ≤ gb340) := ⟨h19_⟩
  have n20_ : As (gb239 ≠ gb340) := ⟨h20_⟩
  have n21_ : As (gb340 ≠ gb239) := ⟨h21_⟩
  have n22_ : As (gb240 ≠ gb340) := ⟨h22_⟩
  have n23_ : As (gb340 ≠ gb240) := ⟨h23_⟩
  have n24_ : As (gb266 ≠ gb340) := ⟨h24_⟩
  have n25_ : As (gb340 ≠ gb266) := ⟨h25_⟩
  have n26_ : As (gb278 ≠ gb340) := ⟨h26_⟩
  have n27_ : As (gb340 ≠ gb278) := ⟨h27_⟩
  have n28_ : As (gb292 ≠ gb340) := ⟨h28_⟩
  have n29_ : As (gb340 ≠ gb292) := ⟨h29_⟩
  have n30_ : As (Below w.heap.size w w130) := ⟨h30_⟩
  clear HO_267000
  clear HO_267001
  clear HO_267002
  clear HO_293000
  clear HO_293001
  clear HO_293002
  clear BK239
  clear BK240
  clear BK266
  clear BK278
  clear BK292
  clear HB
  clear h0_ h1_ h2_ h3_ h4_ h5_ h6_ h7_ h8_ h9_ h10_ h11_ h12_ h13_ h14_ h15_ h16_ h17_ h18_ h19_ h20_ h21_ h22_ h23_ h24_ h25_ h26_ h27_ h28_ h29_ h30_
  have HO318 := n0_
  have HO321 := n1_
  have HO324 := n2_
  have HO331 := n3_
  have HO334 := n4_
  have HO337 := n5_
  have HO_267000 := n6_
  have HO_267001 := n7_
  have HO_267002 := n8_
  have HO_293000 := n9_
  have HO_293001 := n10_
  have HO_293002 := n11_
  have BK239 := n12_
  have BK240 := n13_
  have BK266 := n14_
  have BK278 := n15_
  have BK292 := n16_
  have BK340 := n17_
  have GW340 := n18_
  have GE340 := n19_
  have NB239_340 := n20_
  have NB340_239 := n21_
  have NB240_340 := n22_
  have NB340_240 := n23_
  have NB266_340 := n24_
  have NB340_266 := n25_
  have NB278_340 := n26_
  have NB340_278 := n27_
  have NB292_340 := n28_
  have NB340_292 := n29_
  have HB := n30_
  clear n0_ n1_ n2_ n3_ n4_ n5_ n6_ n7_ n8_ n9_ n10_ n11_ n12_ n13_ n14_ n15_ n16_ n17_ n18_ n19_ n20_ n21_ n22_ n23_ n24_ n25_ n26_ n27_ n28_ n29_ n30_
  have hHeld : w130.cell? ⟨gb239, 0, none⟩ = some (.slice A0_0 l0_0.length c0_0) ∧ w130.cell? ⟨gb239, 1, none⟩ = some (.slice A0_1 l0_1.length c0_1) ∧ w130.cell? ⟨gb239, 2, none⟩ = some (.slice A0_2 l0_2.length c0_2) ∧ w130.cell? ⟨gb239, 3, none⟩ = some (.int .i64 a0_3) ∧ w130.cell? ⟨gb239, 4, none⟩ = some (.int .i64 a0_4) ∧ w130.cell? ⟨gb240, 0, none⟩ = some (.int .i64 a1_0) ∧ w130.cell? ⟨gb240, 1, none⟩ = some (.int .i64 a1_1) := hS_
  obtain ⟨Ao131, co131, eo131⟩ := Kd.R_slice HO331.out
  (first | subst eo131 | (injection eo131 with f1_ f2_ f3_; have f4_ := f1_.symm; have f5_ := f3_.symm; clear f1_ f2_ f3_; subst f4_; subst f5_))
  obtain ⟨Ao133, co133, eo133⟩ := Kd.R_slice HO334.out
  (first | subst eo133 | (injection eo133 with f1_ f2_ f3_; have f4_ := f1_.symm; have f5_ := f3_.symm; clear f1_ f2_ f3_; subst f4_; subst f5_))
  obtain ⟨Ao135, co135, eo135⟩ := Kd.R_slice HO337.out
  (first | subst eo135 | (injection eo135 with f1_ f2_ f3_; have f4_ := f1_.symm; have f5_ := f3_.symm; clear f1_ f2_ f3_; subst f4_; subst f5_))
  refine norm_ (a' := ?_) ?_ ?_
  rotate_left
  ·
   simp only [putAll, Act.put, List.setIfInBounds_toArray, List.set_cons_zero, List.set_cons_succ]
   rfl
  refine one_ (i := 6) (N := none) #[I, I, I, I, I, I, I] rfl rfl (by kernel_rfl) (by decide) (fun K hK => ?_)
  have hs132 : w130.cell? ⟨gb340, 0, none⟩ = some (.slice none 0 0) := (blk_cell BK340.out 0).trans rfl
  have hfs132 := blk_frozen BK340.out 0
  have hns132_0 := NB239_340.out
  have hns132_1 := NB240_340.out
  have hns132_2 := NB266_340.out
  have hns132_3 := NB278_340.out
  have hns132_4 := NB292_340.out
  have hms132_0 := NB340_239.out
  have hms132_1 := NB340_240.out
  have hms132_2 := NB340_266.out
  have hms132_3 := NB340_278.out
  have hms132_4 := NB340_292.out
  have hs134 : w130.cell? ⟨gb340, 1, none⟩ = some (.slice none 0 0) := (blk_cell BK340.out 1).trans rfl
  have hfs134 := blk_frozen BK340.out 1
  have hns134_0 := NB239_340.out
  have hns134_1 := NB240_340.out
  have hns134_2 := NB266_340.out
  have hns134_3 := NB278_340.out
  have hns134_4 := NB292_340.out
  have hms134_0 := NB340_239.out
  have hms134_1 := NB340_240.out
  have hms134_2 := NB340_266.out
  have hms134_3 := NB340_278.out
  have hms134_4 := NB340_292.out
  have hs136 : w130.cell? ⟨gb340, 2, none⟩ = some (.slice none 0 0) := (blk_cell BK340.out 2).trans rfl
  have hfs136 := blk_frozen BK340.out 2
  have hns136_0 := NB239_340.out
  have hns136_1 := NB240_340.out
  have hns136_2 := NB266_340.out
  have hns136_3 := NB278_340.out
  have hns136_4 := NB292_340.out
  have hms136_0 := NB340_239.out
  have hms136_1 := NB340_240.out
  have hms136_2 := NB340_266.out
  have hms136_3 := NB340_278.out
  have hms136_4 := NB340_292.out
  have hs137 : w130.cell? ⟨gb340, 3, none⟩ = some (.int .i64 0) := (blk_cell BK340.out 3).trans rfl
  have hfs137 := blk_frozen BK340.out 3
  have hns137_0 := NB239_340.out
  have hns137_1 := NB240_340.out
  have hns137_2 := NB266_340.out
  have hns137_3 := NB278_340.out
  have hns137_4 := NB292_340.out
  have hms137_0 := NB340_239.out
  have hms137_1 := NB340_240.out
  have hms137_2 := NB340_266.out
  have hms137_3 := NB340_278.out
  have hms137_4 := NB340_292.out
  have hs138 : w130.cell? ⟨gb340, 4, none⟩ = some (.int .i64 0) := (blk_cell BK340.out 4).trans rfl
  have hfs138 := blk_frozen BK340.out 4
  have hns138_0 := NB239_340.out
  have hns138_1 := NB240_340.out
  have hns138_2 := NB266_340.out
  have hns138_3 := NB278_340.out
  have hns138_4 := NB292_340.out
  have hms138_0 := NB340_239.out
  have hms138_1 := NB340_240.out
  have hms138_2 := NB340_266.out
  have hms138_3 := NB340_278.out
  have hms138_4 := NB340_292.out
  refine skip_ (w1 := ?_) (by rfl) rfl ?_ ?_
  rotate_left
  ·
   go_simp
   rfl
  refine hK.out _ _ ⟨((cell_far (p := ⟨gb340, _, none⟩) NB239_340.out _).trans (((cell_far (p := ⟨gb340, _, none⟩) NB239_340.out _).trans (((cell_far (p := ⟨gb340, _, none⟩) NB239_340.out _).trans (((cell_far (p := ⟨gb340, _, none⟩) NB239_340.out _).trans (((cell_far (p := ⟨gb340, _, none⟩) NB239_340.out _).trans (hHeld.1)))))))))), ((cell_far (p := ⟨gb340, _, none⟩) NB239_340.out _).trans (((cell_far (p := ⟨gb340, _, none⟩) NB239_340.out _).trans (((cell_far (p := ⟨gb340, _, none⟩) NB239_340.out _).trans (((cell_far (p := ⟨gb340, _, none⟩) NB239_340.out _).trans (((cell_far (p := ⟨gb340, _, none⟩) NB239_340.out _).trans (hHeld.2.1)))))))))), ((cell_far (p := ⟨gb340, _, none⟩) NB239_340.out _).trans (((cell_far (p := ⟨gb340, _, none⟩) NB239_340.out _).trans (((cell_far (p := ⟨gb340, _, none⟩) NB239_340.out _).trans (((cell_far (p := ⟨gb340, _, none⟩) NB239_340.out _).trans (((cell_far (p := ⟨gb340, _, none⟩) NB239_340.out _).trans (hHeld.2.2.1)))))))))), ((cell_far (p := ⟨gb340, _, none⟩) NB239_340.out _).trans (((cell_far (p := ⟨gb340, _, none⟩) NB239_340.out _).trans (((cell_far (p := ⟨gb340, _, none⟩) NB239_340.out _).trans (((cell_far (p := ⟨gb340, _, none⟩) NB239_340.out _).trans (((cell_far (p := ⟨gb340, _, none⟩) NB239_340.out _).trans (hHeld.2.2.2.1)))))))))), ((cell_far (p := ⟨gb340, _, none⟩) NB239_340.out _).trans (((cell_far (p := ⟨gb340, _, none⟩) NB239_340.out _).trans (((cell_far (p := ⟨gb340, _, none⟩) NB239_340.out _).trans (((cell_far (p := ⟨gb340, _, none⟩) NB239_340.out _).trans (((cell_far (p := ⟨gb340, _, none⟩) NB239_340.out _).trans (hHeld.2.2.2.2.1)))))))))), ((cell_far (p := ⟨gb340, _, none⟩) NB240_340.out _).trans (((cell_far (p := ⟨gb340, _, none⟩) NB240_340.out _).trans (((cell_far (p := ⟨gb340, _, none⟩) NB240_340.out _).trans (((cell_far (p := ⟨gb340, _, none⟩) NB240_340.out _).trans (((cell_far (p := ⟨gb340, _, none⟩) NB240_340.out _).trans (hHeld.2.2.2.2.2.1)))))))))), ((cell_far (p := ⟨gb340, _, none⟩) NB240_340.out _).trans (((cell_far (p := ⟨gb340, _, none⟩) NB240_340.out _).trans (((cell_far (p := ⟨gb340, _, none⟩) NB240_340.out _).trans (((cell_far (p := ⟨gb340, _, none⟩) NB240_340.out _).trans (((cell_far (p := ⟨gb340, _, none⟩) NB240_340.out _).trans (hHeld.2.2.2.2.2.2))))))))))⟩ (fun hHeld => ?_)
  clear hK K
  refine done_ (by kernel_rfl) ?_
  have hnb139 := NB340_239.out
  have hnc139 := NB239_340.out
  have hnb140 := NB340_240.out
  have hnc140 := NB240_340.out
  have hnb141 := NB340_266.out
  have hnc141 := NB266_340.out
  have hnb142 := NB340_278.out
  have hnc142 := NB278_340.out
  have hnb143 := NB340_292.out
  have hnc143 := NB292_340.out
  obtain ⟨hcz144_0, hcz144_1, hcz144_2, hcz144_3, hcz144_4, hfz144_0, hfz144_1, hfz144_2, hfz144_3, hfz144_4⟩ := cl5 BK340.out
  have hnb145 := NB266_239.out
  have hnc145 := NB239_266.out
  have hnb146 := NB266_240.out
  have hnc146 := NB240_266.out
  have hnb147 := NB266_278.out
  have hnc147 := NB278_266.out
  have hnb148 := NB266_292.out
  have hnc148 := NB292_266.out
  obtain ⟨hcz149_0, hcz149_1, hcz149_2, hcz149_3, hcz149_4, hfz149_0, hfz149_1, hfz149_2, hfz149_3, hfz149_4⟩ := cl5 BK266.out
  go_upto_if 68 with (first | ((with_reducible refine gate_callee (f := 27) rfl ?_); refine goesL_ (some 67) rfl rfl Try.func27 (by kernel_rfl) rfl #[.agg #[.slice Ao131 t329.length co131, .slice Ao133 t332.length co133, .slice Ao135 t335.length co135, .int .i64 t338, .int .i64 t339], .agg #[.slice Ao28 t255.length co28, .slice Ao30 t258.length co30, .slice Ao32 t261.length co32, .int .i64 t264, .int .i64 t265]] rfl (by (try simp only [lm]); first | done | rfl | (simp only [List.length_drop, List.length_take]; rfl)) ?_; (with_reducible refine (laws_eqMemory.calls kj114 _ _ t329 _ _ t332 _ _ t335 t338 t339 _ _ t255 _ _ t258 _ _ t261 t264 t265 t341 _ ?side1 ?side2 ?side3 ?side4 ?side5 ?side6 ?side7 ?side8 ?side9 ?side10 ?side11 ?side12 A120.out).mono ?_); (case side1 => refine (Kd.R_reads' (e := 93) (base := w.heap.size) (ok := fun k_ => (some k_ ≠ (v317 : Value).ownBlock ∧ (some k_ ≠ (.slice Ao28 t255.length co28 : Value).ownBlock ∧ some k_ ≠ (.slice Ao54 t312.length co54 : Value).ownBlock))) (n := t329.length) (c := co131) ?_).2.2; exact (by (with_reducible repeat (first | apply Kd.R_alloc | apply Kd.R_drewN | apply Kd.R_drew)); exact (Kd.R_mono (Kd.R_far (p := ⟨gb340, 4, none⟩) (Kd.R_far (p := ⟨gb340, 3, none⟩) (Kd.R_far (p := ⟨gb340, 2, none⟩) (Kd.R_far (p := ⟨gb340, 1, none⟩) (Kd.R_far (p := ⟨gb340, 0, none⟩) (Kd.R_types HO331.out BK340.out (by decide)) (fun _ hk => hk.2) (.slice Ao131 t329.length co131)) (fun _ hk => hk.2) (.slice Ao133 t332.length co133)) (fun _ hk => hk.2) (.slice Ao135 t335.length co135)) (fun _ hk => hk.2) (.int .i64 t338)) (fun _ hk => hk.2) (.int .i64 t339)) (fun _ h_ => h_.1)))); (case side2 => exact (Kd.R_reads' HO331.out).2.1); (case side3 => refine (Kd.R_reads' (e := 3) (base := w.heap.size) (ok := fun k_ => (some k_ ≠ (v320 : Value).ownBlock ∧ (some k_ ≠ (v323 : Value).ownBlock ∧ (some k_ ≠ (.slice Ao135 t335.length co135 : Value).ownBlock ∧ (some k_ ≠ (.slice Ao30 t258.length co30 : Value).ownBlock ∧ (some k_ ≠ (.slice Ao32 t261.length co32 : Value).ownBlock ∧ (some k_ ≠ (.slice Ao56 t313.length co56 : Value).ownBlock ∧ some k_ ≠ (.slice Ao58 t314.length co58 : Value).ownBlock))))))) (n := t332.length) (c := co133) ?_).2.2; exact (by (with_reducible repeat (first | apply Kd.R_alloc | apply Kd.R_drewN | apply Kd.R_drew)); exact (Kd.R_mono (Kd.R_far (p := ⟨gb340, 4, none⟩) (Kd.R_far (p := ⟨gb340, 3, none⟩) (Kd.R_far (p := ⟨gb340, 2, none⟩) (Kd.R_far (p := ⟨gb340, 1, none⟩) (Kd.R_far (p := ⟨gb340, 0, none⟩) (Kd.R_types HO334.out BK340.out (by decide)) (fun _ hk => hk.2) (.slice Ao131 t329.length co131)) (fun _ hk => hk.2) (.slice Ao133 t332.length co133)) (fun _ hk => hk.2) (.slice Ao135 t335.length co135)) (fun _ hk => hk.2) (.int .i64 t338)) (fun _ hk => hk.2) (.int .i64 t339)) (fun _ h_ => h_.1)))); (case side4 => exact (Kd.R_reads' HO334.out).2.1); (case side5 => refine (Kd.R_reads' (e := 3) (base := w.heap.size) (ok := fun k_ => (some k_ ≠ (v320 : Value).ownBlock ∧ (some k_ ≠ (v323 : Value).ownBlock ∧ (some k_ ≠ (.slice Ao133 t332.length co133 : Value).ownBlock ∧ (some k_ ≠ (.slice Ao30 t258.length co30 : Value).ownBlock ∧ (some k_ ≠ (.slice Ao32 t261.length co32 : Value).ownBlock ∧ (some k_ ≠ (.slice Ao56 t313.length co56 : Value).ownBlock ∧ some k_ ≠ (.slice Ao58 t314.length co58 : Value).ownBlock))))))) (n := t335.length) (c := co135) ?_).2.2; exact (by (with_reducible repeat (first | apply Kd.R_alloc | apply Kd.R_drewN | apply Kd.R_drew)); exact (Kd.R_mono (Kd.R_far (p := ⟨gb340, 4, none⟩) (Kd.R_far (p := ⟨gb340, 3, none⟩) (Kd.R_far (p := ⟨gb340, 2, none⟩) (Kd.R_far (p := ⟨gb340, 1, none⟩) (Kd.R_far (p := ⟨gb340, 0, none⟩) (Kd.R_types HO337.out BK340.out (by decide)) (fun _ hk => hk.2) (.slice Ao131 t329.length co131)) (fun _ hk => hk.2) (.slice Ao133 t332.length co133)) (fun _ hk => hk.2) (.slice Ao135 t335.length co135)) (fun _ hk => hk.2) (.int .i64 t338)) (fun _ hk => hk.2) (.int .i64 t339)) (fun _ h_ => h_.1)))); (case side6 => exact (Kd.R_reads' HO337.out).2.1); (case side7 => refine (Kd.R_reads' (e := 93) (base := w.heap.size) (ok := fun k_ => (some k_ ≠ (v317 : Value).ownBlock ∧ (some k_ ≠ (.slice Ao131 t329.length co131 : Value).ownBlock ∧ some k_ ≠ (.slice Ao54 t312.length co54 : Value).ownBlock))) (n := t255.length) (c := co28) ?_).2.2; exact (by (with_reducible repeat (first | apply Kd.R_alloc | apply Kd.R_drewN | apply Kd.R_drew)); exact (Kd.R_mono (Kd.R_far (p := ⟨gb340, 4, none⟩) (Kd.R_far (p := ⟨gb340, 3, none⟩) (Kd.R_far (p := ⟨gb340, 2, none⟩) (Kd.R_far (p := ⟨gb340, 1, none⟩) (Kd.R_far (p := ⟨gb340, 0, none⟩) (Kd.R_types HO_267000.out BK340.out (by decide)) (fun _ hk => hk.2) (.slice Ao131 t329.length co131)) (fun _ hk => hk.2) (.slice Ao133 t332.length co133)) (fun _ hk => hk.2) (.slice Ao135 t335.length co135)) (fun _ hk => hk.2) (.int .i64 t338)) (fun _ hk => hk.2) (.int .i64 t339)) (fun _ h_ => h_.1)))); (case side8 => exact (Kd.R_reads' HO_267000.out).2.1); (case side9 => refine (Kd.R_reads' (e := 3) (base := w.heap.size) (ok := fun k_ => (some k_ ≠ (v320 : Value).ownBlock ∧ (some k_ ≠ (v323 : Value).ownBlock ∧ (some k_ ≠ (.slice Ao133 t332.length co133 : Value).ownBlock ∧ (some k_ ≠ (.slice Ao135 t335.length co135 : Value).ownBlock ∧ (some k_ ≠ (.slice Ao32 t261.length co32 : Value).ownBlock ∧ (some k_ ≠ (.slice Ao56 t313.length co56 : Value).ownBlock ∧ some k_ ≠ (.slice Ao58 t314.length co58 : Value).ownBlock))))))) (n := t258.length) (c := co30) ?_).2.2; exact (by (with_reducible repeat (first | apply Kd.R_alloc | apply Kd.R_drewN | apply Kd.R_drew)); exact (Kd.R_mono (Kd.R_far (p := ⟨gb340, 4, none⟩) (Kd.R_far (p := ⟨gb340, 3, none⟩) (Kd.R_far (p := ⟨gb340, 2, none⟩) (Kd.R_far (p := ⟨gb340, 1, none⟩) (Kd.R_far (p := ⟨gb340, 0, none⟩) (Kd.R_types HO_267001.out BK340.out (by decide)) (fun _ hk => hk.2) (.slice Ao131 t329.length co131)) (fun _ hk => hk.2) (.slice Ao133 t332.length co133)) (fun _ hk => hk.2) (.slice Ao135 t335.length co135)) (fun _ hk => hk.2) (.int .i64 t338)) (fun _ hk => hk.2) (.int .i64 t339)) (fun _ h_ => h_.1)))); (case side10 => exact (Kd.R_reads' HO_267001.out).2.1); (case side11 => refine (Kd.R_reads' (e := 3) (base := w.heap.size) (ok := fun k_ => (some k_ ≠ (v320 : Value).ownBlock ∧ (some k_ ≠ (v323 : Value).ownBlock ∧ (some k_ ≠ (.slice Ao133 t332.length co133 : Value).ownBlock ∧ (some k_ ≠ (.slice Ao135 t335.length co135 : Value).ownBlock ∧ (some k_ ≠ (.slice Ao30 t258.length co30 : Value).ownBlock ∧ (some k_ ≠ (.slice Ao56 t313.length co56 : Value).ownBlock ∧ some k_ ≠ (.slice Ao58 t314.length co58 : Value).ownBlock))))))) (n := t261.length) (c := co32) ?_).2.2; exact (by (with_reducible repeat (first | apply Kd.R_alloc | apply Kd.R_drewN | apply Kd.R_drew)); exact (Kd.R_mono (Kd.R_far (p := ⟨gb340, 4, none⟩) (Kd.R_far (p := ⟨gb340, 3, none⟩) (Kd.R_far (p := ⟨gb340, 2, none⟩) (Kd.R_far (p := ⟨gb340, 1, none⟩) (Kd.R_far (p := ⟨gb340, 0, none⟩) (Kd.R_types HO_267002.out BK340.out (by decide)) (fun _ hk => hk.2) (.slice Ao131 t329.length co131)) (fun _ hk => hk.2) (.slice Ao133 t332.length co133)) (fun _ hk => hk.2) (.slice Ao135 t335.length co135)) (fun _ hk => hk.2) (.int .i64 t338)) (fun _ hk => hk.2) (.int .i64 t339)) (fun _ h_ => h_.1)))); (case side12 => exact (Kd.R_reads' HO_267002.out).2.1); rintro e w150 ⟨rfl, hb⟩; refine ⟨_, rfl, ?_⟩; replace HO_267000 := As.mk (Kd.R_below (by (with_reducible repeat (first | apply Kd.R_alloc | apply Kd.R_drewN | apply Kd.R_drew)); exact (Kd.R_mono (Kd.R_far (p := ⟨gb340, 4, none⟩) (Kd.R_far (p := ⟨gb340, 3, none⟩) (Kd.R_far (p := ⟨gb340, 2, none⟩) (Kd.R_far (p := ⟨gb340, 1, none⟩) (Kd.R_far (p := ⟨gb340, 0, none⟩) (Kd.R_types HO_267000.out BK340.out (by decide)) (fun _ hk => hk.2) (.slice Ao131 t329.length co131)) (fun _ hk => hk.2) (.slice Ao133 t332.length co133)) (fun _ hk => hk.2) (.slice Ao135 t335.length co135)) (fun _ hk => hk.2) (.int .i64 t338)) (fun _ hk => hk.2) (.int .i64 t339)) (fun _ h_ => h_.1))) hb); replace HO_267001 := As.mk (Kd.R_below (by (with_reducible repeat (first | apply Kd.R_alloc | apply Kd.R_drewN | apply Kd.R_drew)); exact (Kd.R_mono (Kd.R_far (p := ⟨gb340, 4, none⟩) (Kd.R_far (p := ⟨gb340, 3, none⟩) (Kd.R_far (p := ⟨gb340, 2, none⟩) (Kd.R_far (p := ⟨gb340, 1, none⟩) (Kd.R_far (p := ⟨gb340, 0, none⟩) (Kd.R_types HO_267001.out BK340.out (by decide)) (fun _ hk => hk.2) (.slice Ao131 t329.length co131)) (fun _ hk => hk.2) (.slice Ao133 t332.length co133)) (fun _ hk => hk.2) (.slice Ao135 t335.length co135)) (fun _ hk => hk.2) (.int .i64 t338)) (fun _ hk => hk.2) (.int .i64 t339)) (fun _ h_ => h_.1))) hb); replace HO_267002 := As.mk (Kd.R_below (by (with_reducible repeat (first | apply Kd.R_alloc | apply Kd.R_drewN | apply Kd.R_drew)); exact (Kd.R_mono (Kd.R_far (p := ⟨gb340, 4, none⟩) (Kd.R_far (p := ⟨gb340, 3, none⟩) (Kd.R_far (p := ⟨gb340, 2, none⟩) (Kd.R_far (p := ⟨gb340, 1, none⟩) (Kd.R_far (p := ⟨gb340, 0, none⟩) (Kd.R_types HO_267002.out BK340.out (by decide)) (fun _ hk => hk.2) (.slice Ao131 t329.length co131)) (fun _ hk => hk.2) (.slice Ao133 t332.length co133)) (fun _ hk => hk.2) (.slice Ao135 t335.length co135)) (fun _ hk => hk.2) (.int .i64 t338)) (fun _ hk => hk.2) (.int .i64 t339)) (fun _ h_ => h_.1))) hb); replace HO_293000 := As.mk (Kd.R_below (by (with_reducible repeat (first | apply Kd.R_alloc | apply Kd.R_drewN | apply Kd.R_drew)); exact (Kd.R_mono (Kd.R_far (p := ⟨gb340, 4, none⟩) (Kd.R_far (p := ⟨gb340, 3, none⟩) (Kd.R_far (p := ⟨gb340, 2, none⟩) (Kd.R_far (p := ⟨gb340, 1, none⟩) (Kd.R_far (p := ⟨gb340, 0, none⟩) (Kd.R_types HO_293000.out BK340.out (by decide)) (fun _ hk => hk.2) (.slice Ao131 t329.length co131)) (fun _ hk => hk.2) (.slice Ao133 t332.length co133)) (fun _ hk => hk.2) (.slice Ao135 t335.length co135)) (fun _ hk => hk.2) (.int .i64 t338)) (fun _ hk => hk.2) (.int .i64 t339)) (fun _ h_ => h_.1))) hb); replace HO_293001 := As.mk (Kd.R_below (by (with_reducible repeat (first | apply Kd.R_alloc | apply Kd.R_drewN | apply Kd.R_drew)); exact (Kd.R_mono (Kd.R_far (p := ⟨gb340, 4, none⟩) (Kd.R_far (p := ⟨gb340, 3, none⟩) (Kd.R_far (p := ⟨gb340, 2, none⟩) (Kd.R_far (p := ⟨gb340, 1, none⟩) (Kd.R_far (p := ⟨gb340, 0, none⟩) (Kd.R_types HO_293001.out BK340.out (by decide)) (fun _ hk => hk.2) (.slice Ao131 t329.length co131)) (fun _ hk => hk.2) (.slice Ao133 t332.length co133)) (fun _ hk => hk.2) (.slice Ao135 t335.length co135)) (fun _ hk => hk.2) (.int .i64 t338)) (fun _ hk => hk.2) (.int .i64 t339)) (fun _ h_ => h_.1))) hb); replace HO_293002 := As.mk (Kd.R_below (by (with_reducible repeat (first | apply Kd.R_alloc | apply Kd.R_drewN | apply Kd.R_drew)); exact (Kd.R_mono (Kd.R_far (p := ⟨gb340, 4, none⟩) (Kd.R_far (p := ⟨gb340, 3, none⟩) (Kd.R_far (p := ⟨gb340, 2, none⟩) (Kd.R_far (p := ⟨gb340, 1, none⟩) (Kd.R_far (p := ⟨gb340, 0, none⟩) (Kd.R_types HO_293002.out BK340.out (by decide)) (fun _ hk => hk.2) (.slice Ao131 t329.length co131)) (fun _ hk => hk.2) (.slice Ao133 t332.length co133)) (fun _ hk => hk.2) (.slice Ao135 t335.length co135)) (fun _ hk => hk.2) (.int .i64 t338)) (fun _ hk => hk.2) (.int .i64 t339)) (fun _ h_ => h_.1))) hb); replace HO318 := As.mk (Kd.R_below (by (with_reducible repeat (first | apply Kd.R_alloc | apply Kd.R_drewN | apply Kd.R_drew)); exact (Kd.R_mono (Kd.R_far (p := ⟨gb340, 4, none⟩) (Kd.R_far (p := ⟨gb340, 3, none⟩) (Kd.R_far (p := ⟨gb340, 2, none⟩) (Kd.R_far (p := ⟨gb340, 1, none⟩) (Kd.R_far (p := ⟨gb340, 0, none⟩) (Kd.R_types HO318.out BK340.out (by decide)) (fun _ hk => hk.2) (.slice Ao131 t329.length co131)) (fun _ hk => hk.2) (.slice Ao133 t332.length co133)) (fun _ hk => hk.2) (.slice Ao135 t335.length co135)) (fun _ hk => hk.2) (.int .i64 t338)) (fun _ hk => hk.2) (.int .i64 t339)) (fun _ h_ => h_.1))) hb); replace HO321 := As.mk (Kd.R_below (by (with_reducible repeat (first | apply Kd.R_alloc | apply Kd.R_drewN | apply Kd.R_drew)); exact (Kd.R_mono (Kd.R_far (p := ⟨gb340, 4, none⟩) (Kd.R_far (p := ⟨gb340, 3, none⟩) (Kd.R_far (p := ⟨gb340, 2, none⟩) (Kd.R_far (p := ⟨gb340, 1, none⟩) (Kd.R_far (p := ⟨gb340, 0, none⟩) (Kd.R_types HO321.out BK340.out (by decide)) (fun _ hk => hk.2) (.slice Ao131 t329.length co131)) (fun _ hk => hk.2) (.slice Ao133 t332.length co133)) (fun _ hk => hk.2) (.slice Ao135 t335.length co135)) (fun _ hk => hk.2) (.int .i64 t338)) (fun _ hk => hk.2) (.int .i64 t339)) (fun _ h_ => h_.1))) hb); replace HO324 := As.mk (Kd.R_below (by (with_reducible repeat (first | apply Kd.R_alloc | apply Kd.R_drewN | apply Kd.R_drew)); exact (Kd.R_mono (Kd.R_far (p := ⟨gb340, 4, none⟩) (Kd.R_far (p := ⟨gb340, 3, none⟩) (Kd.R_far (p := ⟨gb340, 2, none⟩) (Kd.R_far (p := ⟨gb340, 1, none⟩) (Kd.R_far (p := ⟨gb340, 0, none⟩) (Kd.R_types HO324.out BK340.out (by decide)) (fun _ hk => hk.2) (.slice Ao131 t329.length co131)) (fun _ hk => hk.2) (.slice Ao133 t332.length co133)) (fun _ hk => hk.2) (.slice Ao135 t335.length co135)) (fun _ hk => hk.2) (.int .i64 t338)) (fun _ hk => hk.2) (.int .i64 t339)) (fun _ h_ => h_.1))) hb); replace HO331 := As.mk (Kd.R_below (by (with_reducible repeat (first | apply Kd.R_alloc | apply Kd.R_drewN | apply Kd.R_drew)); exact (Kd.R_mono (Kd.R_far (p := ⟨gb340, 4, none⟩) (Kd.R_far (p := ⟨gb340, 3, none⟩) (Kd.R_far (p := ⟨gb340, 2, none⟩) (Kd.R_far (p := ⟨gb340, 1, none⟩) (Kd.R_far (p := ⟨gb340, 0, none⟩) (Kd.R_types HO331.out BK340.out (by decide)) (fun _ hk => hk.2) (.slice Ao131 t329.length co131)) (fun _ hk => hk.2) (.slice Ao133 t332.length co133)) (fun _ hk => hk.2) (.slice Ao135 t335.length co135)) (fun _ hk => hk.2) (.int .i64 t338)) (fun _ hk => hk.2) (.int .i64 t339)) (fun _ h_ => h_.1))) hb); replace HO334 := As.mk (Kd.R_below (by (with_reducible repeat (first | apply Kd.R_alloc | apply Kd.R_drewN | apply Kd.R_drew)); exact (Kd.R_mono (Kd.R_far (p := ⟨gb340, 4, none⟩) (Kd.R_far (p := ⟨gb340, 3, none⟩) (Kd.R_far (p := ⟨gb340, 2, none⟩) (Kd.R_far (p := ⟨gb340, 1, none⟩) (Kd.R_far (p := ⟨gb340, 0, none⟩) (Kd.R_types HO334.out BK340.out (by decide)) (fun _ hk => hk.2) (.slice Ao131 t329.length co131)) (fun _ hk => hk.2) (.slice Ao133 t332.length co133)) (fun _ hk => hk.2) (.slice Ao135 t335.length co135)) (fun _ hk => hk.2) (.int .i64 t338)) (fun _ hk => hk.2) (.int .i64 t339)) (fun _ h_ => h_.1))) hb); replace HO337 := As.mk (Kd.R_below (by (with_reducible repeat (first | apply Kd.R_alloc | apply Kd.R_drewN | apply Kd.R_drew)); exact (Kd.R_mono (Kd.R_far (p := ⟨gb340, 4, none⟩) (Kd.R_far (p := ⟨gb340, 3, none⟩) (Kd.R_far (p := ⟨gb340, 2, none⟩) (Kd.R_far (p := ⟨gb340, 1, none⟩) (Kd.R_far (p := ⟨gb340, 0, none⟩) (Kd.R_types HO337.out BK340.out (by decide)) (fun _ hk => hk.2) (.slice Ao131 t329.length co131)) (fun _ hk => hk.2) (.slice Ao133 t332.length co133)) (fun _ hk => hk.2) (.slice Ao135 t335.length co135)) (fun _ hk => hk.2) (.int .i64 t338)) (fun _ hk => hk.2) (.int .i64 t339)) (fun _ h_ => h_.1))) hb); replace BK239 := As.mk (blk_below (g := gb239) (o := .cells #[.slice A0_0 l0_0.length c0_0, .slice A0_1 l0_1.length c0_1, .slice A0_2 l0_2.length c0_2, .int .i64 a0_3, .int .i64 a0_4] 47 (0, 0)) (by refine pl ?_; refine blk_far ?_ NB239_340.out _; refine pl ?_; refine blk_far ?_ NB239_340.out _; refine pl ?_; refine blk_far ?_ NB239_340.out _; refine pl ?_; refine blk_far ?_ NB239_340.out _; refine pl ?_; refine blk_far ?_ NB239_340.out _; exact bx BK239.out) hb); replace BK240 := As.mk (blk_below (g := gb240) (o := .cells #[.int .i64 a1_0, .int .i64 a1_1] 48 (0, 0)) (by refine pl ?_; refine blk_far ?_ NB240_340.out _; refine pl ?_; refine blk_far ?_ NB240_340.out _; refine pl ?_; refine blk_far ?_ NB240_340.out _; refine pl ?_; refine blk_far ?_ NB240_340.out _; refine pl ?_; refine blk_far ?_ NB240_340.out _; exact bx BK240.out) hb); replace BK266 := As.mk (blk_below (g := gb266) (o := .cells #[.slice Ao28 t255.length co28, .slice Ao30 t258.length co30, .slice Ao32 t261.length co32, .int .i64 t264, .int .i64 t265] 34 (0, 0)) (by refine pl ?_; refine blk_far ?_ NB266_340.out _; refine pl ?_; refine blk_far ?_ NB266_340.out _; refine pl ?_; refine blk_far ?_ NB266_340.out _; refine pl ?_; refine blk_far ?_ NB266_340.out _; refine pl ?_; refine blk_far ?_ NB266_340.out _; exact bx BK266.out) hb); replace BK278 := As.mk (blk_below (g := gb278) (o := .cells #[.slice Ao41 t307.length co41, .slice Ao46 t308.length co46, .slice Ao47 t309.length co47, .int .i64 t276, .int .i64 t277] 34 (0, 0)) (by refine pl ?_; refine blk_far ?_ NB278_340.out _; refine pl ?_; refine blk_far ?_ NB278_340.out _; refine pl ?_; refine blk_far ?_ NB278_340.out _; refine pl ?_; refine blk_far ?_ NB278_340.out _; refine pl ?_; refine blk_far ?_ NB278_340.out _; exact bx BK278.out) hb); replace BK292 := As.mk (blk_below (g := gb292) (o := .cells #[.slice Ao54 t312.length co54, .slice Ao56 t313.length co56, .slice Ao58 t314.length co58, .int .i64 t290, .int .i64 t291] 34 (0, 0)) (by refine pl ?_; refine blk_far ?_ NB292_340.out _; refine pl ?_; refine blk_far ?_ NB292_340.out _; refine pl ?_; refine blk_far ?_ NB292_340.out _; refine pl ?_; refine blk_far ?_ NB292_340.out _; refine pl ?_; refine blk_far ?_ NB292_340.out _; exact bx BK292.out) hb); replace BK340 := As.mk (blk_below (g := gb340) (o := .cells #[.slice Ao131 t329.length co131, .slice Ao133 t332.length co133, .slice Ao135 t335.length co135, .int .i64 t338, .int .i64 t339] 34 (0, 0)) (by refine pl ?_; refine blk_put (cs := #[.slice Ao131 t329.length co131, .slice Ao133 t332.length co133, .slice Ao135 t335.length co135, .int .i64 t338, .int .i64 0]) ?_ 4 _ rfl; refine pl ?_; refine blk_put (cs := #[.slice Ao131 t329.length co131, .slice Ao133 t332.length co133, .slice Ao135 t335.length co135, .int .i64 0, .int .i64 0]) ?_ 3 _ rfl; refine pl ?_; refine blk_put (cs := #[.slice Ao131 t329.length co131, .slice Ao133 t332.length co133, .slice none 0 0, .int .i64 0, .int .i64 0]) ?_ 2 _ rfl; refine pl ?_; refine blk_put (cs := #[.slice Ao131 t329.length co131, .slice none 0 0, .slice none 0 0, .int .i64 0, .int .i64 0]) ?_ 1 _ rfl; refine pl ?_; refine blk_put (cs := #[.slice none 0 0, .slice none 0 0, .slice none 0 0, .int .i64 0, .int .i64 0]) ?_ 0 _ rfl; exact bx BK340.out) hb); replace HB := As.mk (below_step (be w) hb); (try clear hb); (try clear hb2); (try clear hk); (try clear hi)))
  (try simp only [pk])
  go_cut [] (fun wc => ∃ (kq : Nat), As (laws_FnExactFreed.j7 kq t311 t312 t313 t314 t290 t291 = some r) ∧ As (kq ≤ kj114) ∧ As (Kd.R k93 93 wc w.heap.size (fun _ => True) (.slice Ao54 t312.length co54) t312) ∧ As (Kd.R (Kd.int .i64) 3 wc w.heap.size (fun k_ => some k_ ≠ ((.slice Ao58 t314.length co58) : Value).ownBlock) (.slice Ao56 t313.length co56) t313) ∧ As (Kd.R (Kd.int .i64) 3 wc w.heap.size (fun k_ => some k_ ≠ ((.slice Ao56 t313.length co56) : Value).ownBlock) (.slice Ao58 t314.length co58) t314) ∧ As (wc.heap[gb292]? = some (.cells #[(.slice Ao54 t312.length co54), (.slice Ao56 t313.length co56), (.slice Ao58 t314.length co58), .int .i64 t290, .int .i64 t291] 34 (0, 0))) ∧ As (Below w.heap.size w wc))
  case first =>
   have H := HC121.out
   clear HC121
   by_cases c151 : t341 = true
   rotate_left
   ·
    replace c151 := Bool.eq_false_iff.mpr c151
    subst c151
    rw [if_neg (show ¬ (false = true) by decide)] at H
    exact absurd H (by rw [hrt.out]; simp)
   subst c151
   rw [if_pos rfl] at H
   have H' := As.mk H
   clear H
   go_wp2
   go_meet
   case rel => exact ⟨_, H', ⟨by have := HJ3.out; have := HJ17.out; have := HJ72.out; have := HJ81.out; have := HJ100.out; have := HJ104.out; have := HJ114.out; first | omega | exact Nat.le_refl _⟩, ⟨by (try simp only [hl279000_81]); (try simp only [hl279001_81]); (try simp only [hl279002_81]); (try simp only [hl293000_104]); (try simp only [hl293001_104]); (try simp only [hl293002_104]); (with_reducible repeat (first | apply Kd.R_alloc | apply Kd.R_drewN | apply Kd.R_drew)); exact Kd.R_mono HO_293000.out (fun _ hk => trivial)⟩, ⟨by (try simp only [hl279000_81]); (try simp only [hl279001_81]); (try simp only [hl279002_81]); (try simp only [hl293000_104]); (try simp only [hl293001_104]); (try simp only [hl293002_104]); (with_reducible repeat (first | apply Kd.R_alloc | apply Kd.R_drewN | apply Kd.R_drew)); exact Kd.R_mono HO_293001.out (fun _ hk => hk.2.2.2.2.2.2)⟩, ⟨by (try simp only [hl279000_81]); (try simp only [hl279001_81]); (try simp only [hl279002_81]); (try simp only [hl293000_104]); (try simp only [hl293001_104]); (try simp only [hl293002_104]); (with_reducible repeat (first | apply Kd.R_alloc | apply Kd.R_drewN | apply Kd.R_drew)); exact Kd.R_mono HO_293002.out (fun _ hk => hk.2.2.2.2.2.2)⟩, ⟨by (try simp only [hl279000_81]); (try simp only [hl279001_81]); (try simp only [hl279002_81]); (try simp only [hl293000_104]); (try simp only [hl293001_104]); (try simp only [hl293002_104]); exact bx BK292.out⟩, ⟨be w⟩⟩
  case rest =>
   clear HC121
   (try clear hcz144_0); (try clear hcz144_1); (try clear hcz144_2); (try clear hcz144_3); (try clear hcz144_4); (try clear hcz149_0); (try clear hcz149_1); (try clear hcz149_2); (try clear hcz149_3); (try clear hcz149_4); (try clear hfz144_0); (try clear hfz144_1); (try clear hfz144_2); (try clear hfz144_3); (try clear hfz144_4); (try clear hfz149_0); (try clear hfz149_1); (try clear hfz149_2); (try clear hfz149_3); (try clear hfz149_4)
   obtain ⟨kq, HA, HJ120, HO_293000, HO_293001, HO_293002, BK292, HB⟩ := hcut
   cases kq with
   | zero => exact absurd HA.out (by simp [laws_FnExactFreed.j7])
   | succ kj120 =>
    have H := HA.out
    clear HA
    simp only [laws_FnExactFreed.j7] at H
    obtain ⟨t342, A1520, H⟩ := Option.bind_eq_some_iff.mp H
    try dsimp only at H
    have A152 := As.mk A1520
    clear A1520
    by_cases c153 : t342 < 0
    ·
     rw [if_pos c153] at H
     have c153b0 : decide (t342 < 0) = true := decide_eq_true c153
     clear c153
     exact absurd H (by rw [hrt.out]; simp)
    rw [if_neg c153] at H
    have c153b0 : decide (t342 < 0) = false := decide_eq_false c153
    clear c153
    by_cases c154 : t342 = t311
    rotate_left
    ·
     rw [if_neg c154] at H
     have c154b0 : (t342 == t311) = false := beq_eq_false_iff_ne.mpr c154
     have c154b1 : (t342 != t311) = true := bne_iff_ne.mpr c154
     exact absurd H (by rw [hrt.out]; simp)
 
    rw [if_pos c154] at H
    have c154b0 : (t342 == t311) = true := beq_iff_eq.mpr c154
    have c154b1 : (t342 != t311) = false := bne_eq_false_iff_eq.mpr c154
    clear c154
    obtain rfl := Option.some.inj H
    obtain ⟨hcz155_0, hcz155_1, hcz155_2, hcz155_3, hcz155_4, hfz155_0, hfz155_1, hfz155_2, hfz155_3, hfz155_4⟩ := cl5 BK292.out
    go_wp2_with (first | ((with_reducible refine gate_callee (f := 29) rfl ?_); refine goesL_ (some 71) rfl rfl Try.func29 (by kernel_rfl) rfl #[.agg #[.slice Ao54 t312.length co54, .slice Ao56 t313.length co56, .slice Ao58 t314.length co58, .int .i64 t290, .int .i64 t291], .int .i64 1] rfl (by (try simp only [lm]); first | done | rfl | (simp only [List.length_drop, List.length_take]; rfl)) ?_; (with_reducible refine (laws_heldMemory.calls kj120 _ _ t312 _ _ t313 _ _ t314 t290 t291 1 t342 _ ?side1 ?side2 ?side3 ?side4 ?side5 ?side6 A152.out).mono ?_); (case side1 => repeat (first | exact (Kd.R_reads' HO_293000.out).2.2 | (with_reducible refine Kd.C_alloc ?_ _) | (with_reducible refine Kd.C_drewN ?_ _) | (with_reducible refine Kd.C_drew ?_))); (case side2 => exact (Kd.R_reads' HO_293000.out).2.1); (case side3 => repeat (first | exact (Kd.R_reads' HO_293001.out).2.2 | (with_reducible refine Kd.C_alloc ?_ _) | (with_reducible refine Kd.C_drewN ?_ _) | (with_reducible refine Kd.C_drew ?_))); (case side4 => exact (Kd.R_reads' HO_293001.out).2.1); (case side5 => repeat (first | exact (Kd.R_reads' HO_293002.out).2.2 | (with_reducible refine Kd.C_alloc ?_ _) | (with_reducible refine Kd.C_drewN ?_ _) | (with_reducible refine Kd.C_drew ?_))); (case side6 => exact (Kd.R_reads' HO_293002.out).2.1); rintro e w156 ⟨rfl, hb⟩; refine ⟨_, rfl, ?_⟩; replace HO_293000 := As.mk (Kd.R_below (by (with_reducible repeat (first | apply Kd.R_alloc | apply Kd.R_drewN | apply Kd.R_drew)); exact HO_293000.out) hb); replace HO_293001 := As.mk (Kd.R_below (by (with_reducible repeat (first | apply Kd.R_alloc | apply Kd.R_drewN | apply Kd.R_drew)); exact HO_293001.out) hb); replace HO_293002 := As.mk (Kd.R_below (by (with_reducible repeat (first | apply Kd.R_alloc | apply Kd.R_drewN | apply Kd.R_drew)); exact HO_293002.out) hb); replace HB := As.mk (below_step (be w) hb); (try clear hb); (try clear hb2); (try clear hk); (try clear hi)))
    go_ret
    exact ⟨by first | rfl | (simp [errW_none, errW_some] <;> rfl) | (simp [*, errW_none, errW_some] <;> rfl), be w⟩

end Go.Proofs.Ytnlhjblfemgggaa.PFnExactFreed
