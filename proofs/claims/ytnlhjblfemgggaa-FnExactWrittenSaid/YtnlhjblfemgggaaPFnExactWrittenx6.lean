/- Written by a program of this session (a turned copy of the kit's print): a contract for each Go function. No condition beside those in each statement. -/
import Derived.Test.YtnlhjblfemgggaaPFnExactWrittenx0
import Derived.Test.YtnlhjblfemgggaaPFnExactWrittenx1
import Derived.Test.YtnlhjblfemgggaaPFnExactWrittenx2
import Derived.Test.YtnlhjblfemgggaaPFnExactWrittenx3
import Derived.Test.YtnlhjblfemgggaaPFnExactWrittenx4
import Derived.Test.YtnlhjblfemgggaaPFnExactWrittenx5
namespace Go.Proofs.Ytnlhjblfemgggaa.PFnExactWritten
open Go.RowKit Go.Proofs.YtnlhjblfemgggaaW.PrintWords Go.Proofs.YtnlhjblfemgggaaW.PrintLast Go.Proofs.YtnlhjblfemgggaaW.PrintMore
attribute [local go_sem] max2_int min2_int max_two min_two max_three min_three max_four min_four   -- for this text's walks alone
set_option linter.unusedVariables false
set_option linter.unusedSimpArgs false

set_option maxHeartbeats 8000000 in
set_option maxRecDepth 100000 in
theorem laws_FnExactWritten.calls (k : Nat) (A0_0 : Option Addr) (c0_0 : Nat) (l0_0 : List (S98)) (A0_1 : Option Addr) (c0_1 : Nat) (l0_1 : List Int) (A0_2 : Option Addr) (c0_2 : Nat) (l0_2 : List Int) (a0_3 : Int) (a0_4 : Int) (a1_0 : Int) (a1_1 : Int) (a2 : Int) (r : Bool) (w : World) (hr0_0 : Kd.C k98 w A0_0 l0_0.length l0_0) (hc0_0 : l0_0.length ≤ c0_0) (hr0_1 : Kd.C (Kd.int .i64) w A0_1 l0_1.length l0_1) (hc0_1 : l0_1.length ≤ c0_1) (hr0_2 : Kd.C (Kd.int .i64) w A0_2 l0_2.length l0_2) (hc0_2 : l0_2.length ≤ c0_2) (hrt : As (r = true)) (h : laws_FnExactWritten.f k l0_0 l0_1 l0_2 a0_3 a0_4 a1_0 a1_1 a2 = some r) :
  Calls Try.prog 7 #[.agg #[.slice A0_0 l0_0.length c0_0, .slice A0_1 l0_1.length c0_1, .slice A0_2 l0_2.length c0_2, .int .i64 a0_3, .int .i64 a0_4], .agg #[.int .i64 a1_0, .int .i64 a1_1], .int .i64 a2] w fun e w' => e = .returned (.bool r) ∧ Below w.heap.size w w' := by
 refine laws_FnExactWritten.callsP0.2 ⟨?_⟩ k A0_0 c0_0 l0_0 A0_1 c0_1 l0_1 A0_2 c0_2 l0_2 a0_3 a0_4 a1_0 a1_1 a2 r w hr0_0 hc0_0 hr0_1 hc0_1 hr0_2 hc0_2 hrt h
 clear h hrt hc0_2 hr0_2 hc0_1 hr0_1 hc0_0 hr0_0 w r a2 a1_1 a1_0 a0_4 a0_3 l0_2 c0_2 A0_2 l0_1 c0_1 A0_1 l0_0 c0_0 A0_0 k
 delta laws_FnExactWritten.callsP0
 dsimp only
 (set_option tactic.hygienic false in intros)
 (try rename World => wc)
 clear HC116
 (try clear hcz111_0); (try clear hcz111_1); (try clear hcz111_2); (try clear hcz111_3); (try clear hcz111_4); (try clear hcz113_0); (try clear hcz113_1); (try clear hcz113_2); (try clear hcz113_3); (try clear hcz113_4); (try clear hcz67_0); (try clear hcz67_1); (try clear hcz67_2); (try clear hcz67_3); (try clear hcz67_4); (try clear hcz69_0); (try clear hcz69_1); (try clear hcz69_2); (try clear hcz69_3); (try clear hcz69_4); (try clear hcz88_0); (try clear hcz88_1); (try clear hcz88_2); (try clear hcz88_3); (try clear hcz88_4); (try clear hfz111_0); (try clear hfz111_1); (try clear hfz111_2); (try clear hfz111_3); (try clear hfz111_4); (try clear hfz113_0); (try clear hfz113_1); (try clear hfz113_2); (try clear hfz113_3); (try clear hfz113_4); (try clear hfz67_0); (try clear hfz67_1); (try clear hfz67_2); (try clear hfz67_3); (try clear hfz67_4); (try clear hfz69_0); (try clear hfz69_1); (try clear hfz69_2); (try clear hfz69_3); (try clear hfz69_4); (try clear hfz88_0); (try clear hfz88_1); (try clear hfz88_2); (try clear hfz88_3); (try clear hfz88_4)
 obtain ⟨kq, HA, HJ115, HO_284000, HO_284001, HO_284002, HO_296000, HO_296001, HO_296002, HO_310000, HO_310001, HO_310002, BK256, BK257, BK283, BK295, BK309, HB⟩ := hcut
 cases kq with
 | zero => exact absurd HA.out (by simp [laws_FnExactWritten.j6])
 | succ kj115 =>
  have H := HA.out
  clear HA
  simp only [laws_FnExactWritten.j6] at H
  obtain ⟨⟨t333, t336, t339, t342, t343⟩, A1180, H⟩ := Option.bind_eq_some_iff.mp H
  try dsimp only at H
  have A118 := As.mk A1180
  clear A1180
  obtain ⟨⟨t344, t345⟩, A1190, H⟩ := Option.bind_eq_some_iff.mp H
  try dsimp only at H
  have A119 := As.mk A1190
  clear A1190
  obtain ⟨⟨t346, t349, t352, t355, t356⟩, A1200, H⟩ := Option.bind_eq_some_iff.mp H
  try dsimp only at H
  have A120 := As.mk A1200
  clear A1200
  obtain ⟨t358, A1210, H⟩ := Option.bind_eq_some_iff.mp H
  try dsimp only at H
  have A121 := As.mk A1210
  clear A1210
  have HC122 := As.mk H
  clear H
  try go_wp2
  replace HO_284000 := As.mk (Kd.R_drew HO_284000.out)
  replace HO_284001 := As.mk (Kd.R_drew HO_284001.out)
  replace HO_284002 := As.mk (Kd.R_drew HO_284002.out)
  replace HO_310000 := As.mk (Kd.R_drew HO_310000.out)
  replace HO_310001 := As.mk (Kd.R_drew HO_310001.out)
  replace HO_310002 := As.mk (Kd.R_drew HO_310002.out)
  replace BK256 := As.mk (blk_drew BK256.out)
  replace BK257 := As.mk (blk_drew BK257.out)
  replace BK283 := As.mk (blk_drew BK283.out)
  replace BK295 := As.mk (blk_drew BK295.out)
  replace BK309 := As.mk (blk_drew BK309.out)
  replace HB := As.mk (below_drew1 HB.out)
  refine start_ (n := 8) (S := fun w' => w'.cell? ⟨gb256, 0, none⟩ = some (.slice A0_0 l0_0.length c0_0) ∧ w'.cell? ⟨gb256, 1, none⟩ = some (.slice A0_1 l0_1.length c0_1) ∧ w'.cell? ⟨gb256, 2, none⟩ = some (.slice A0_2 l0_2.length c0_2) ∧ w'.cell? ⟨gb256, 3, none⟩ = some (.int .i64 a0_3) ∧ w'.cell? ⟨gb256, 4, none⟩ = some (.int .i64 a0_4) ∧ w'.cell? ⟨gb257, 0, none⟩ = some (.int .i64 a1_0) ∧ w'.cell? ⟨gb257, 1, none⟩ = some (.int .i64 a1_1)) (ds := []) #[O, O, O, O, O, O, O, O] (by kernel_rfl) rfl rfl ⟨(blk_cell BK256.out 0).trans rfl, (blk_cell BK256.out 1).trans rfl, (blk_cell BK256.out 2).trans rfl, (blk_cell BK256.out 3).trans rfl, (blk_cell BK256.out 4).trans rfl, (blk_cell BK257.out 0).trans rfl, (blk_cell BK257.out 1).trans rfl⟩ (fun hHeld => ?_); refine with_tabW laws_FnExactWritten.tab24 laws_FnExactWritten.bits24 (fun HT_ HW_ => ?_)
  generalize wc.drew = w123 at HO_284000 HO_284001 HO_284002 HO_310000 HO_310001 HO_310002 BK256 BK257 BK283 BK295 BK309 HB hHeld ⊢
  refine pure_ (i := 4) (N := some 68) (v := ?_) (a' := ?_) #[O, O, O, O, I, O, O, O] rfl rfl (any_of HT_.out (by kernel_rfl)) (fun _ _ _ h => h) (Or.inl ⟨by rfl, ?_⟩) ?_ ?_
  rotate_left
  ·
   intro w'
   go_simp
   with_reducible rfl
  rotate_left
  ·
   simp only [pk, i64_w, i32_w]
   rfl
  refine take_ (i := 0) (N := some 64) (v := ?_) (a' := ?_) #[I, O, O, O, I, O, O, O] rfl rfl (take_ofW HT_.out HW_.out (by kernel_rfl)) (fun _ _ _ h => h) (Or.inl ⟨by rfl, ?_⟩) hHeld ?_ ?_
  rotate_left
  ·
   rintro w' ⟨s0, s1, s2, s3, s4, s5, s6⟩
   go_simp
   with_reducible rfl
  rotate_left
  ·
   simp only [pk, i64_w, i32_w]
   rfl
  refine take_ (i := 2) (N := some 66) (v := ?_) (a' := ?_) #[I, O, I, O, I, O, O, O] rfl rfl (take_ofW HT_.out HW_.out (by kernel_rfl)) (fun _ _ _ h => h) (Or.inl ⟨by rfl, ?_⟩) hHeld ?_ ?_
  rotate_left
  ·
   rintro w' ⟨s0, s1, s2, s3, s4, s5, s6⟩
   go_simp
   with_reducible rfl
  rotate_left
  ·
   simp only [pk, i64_w, i32_w]
   rfl
  refine join_ (σ := Value × Value × Value × Value × Value × Value × Nat) 1 #[true, true, true, true, true, true, true, false] (fun s_ => [(65, .agg #[s_.1, s_.2.1, s_.2.2.1, .int .i64 t342, .int .i64 t343]), (67, .agg #[.int .i64 t344, .int .i64 t345]), (69, .agg #[s_.2.2.2.1, s_.2.2.2.2.1, s_.2.2.2.2.2.1, .int .i64 t355, .int .i64 t356]), (14, .pointer (some ⟨s_.2.2.2.2.2.2, 0, none⟩))]) (fun s_ w' => (w'.cell? ⟨gb256, 0, none⟩ = some (.slice A0_0 l0_0.length c0_0) ∧ w'.cell? ⟨gb256, 1, none⟩ = some (.slice A0_1 l0_1.length c0_1) ∧ w'.cell? ⟨gb256, 2, none⟩ = some (.slice A0_2 l0_2.length c0_2) ∧ w'.cell? ⟨gb256, 3, none⟩ = some (.int .i64 a0_3) ∧ w'.cell? ⟨gb256, 4, none⟩ = some (.int .i64 a0_4) ∧ w'.cell? ⟨gb257, 0, none⟩ = some (.int .i64 a1_0) ∧ w'.cell? ⟨gb257, 1, none⟩ = some (.int .i64 a1_1)) ∧ (Kd.R k93 93 w' w.heap.size (fun k_ => some k_ ≠ (s_.2.2.2.1 : Value).ownBlock ∧ some k_ ≠ (.slice Ao29 t272.length co29 : Value).ownBlock ∧ some k_ ≠ (.slice Ao55 t329.length co55 : Value).ownBlock) s_.1 t333) ∧ (Kd.R (Kd.int .i64) 3 w' w.heap.size (fun k_ => some k_ ≠ (s_.2.2.1 : Value).ownBlock ∧ some k_ ≠ (s_.2.2.2.2.1 : Value).ownBlock ∧ some k_ ≠ (s_.2.2.2.2.2.1 : Value).ownBlock ∧ some k_ ≠ (.slice Ao31 t275.length co31 : Value).ownBlock ∧ some k_ ≠ (.slice Ao33 t278.length co33 : Value).ownBlock ∧ some k_ ≠ (.slice Ao57 t330.length co57 : Value).ownBlock ∧ some k_ ≠ (.slice Ao59 t331.length co59 : Value).ownBlock) s_.2.1 t336) ∧ (Kd.R (Kd.int .i64) 3 w' w.heap.size (fun k_ => some k_ ≠ (s_.2.1 : Value).ownBlock ∧ some k_ ≠ (s_.2.2.2.2.1 : Value).ownBlock ∧ some k_ ≠ (s_.2.2.2.2.2.1 : Value).ownBlock ∧ some k_ ≠ (.slice Ao31 t275.length co31 : Value).ownBlock ∧ some k_ ≠ (.slice Ao33 t278.length co33 : Value).ownBlock ∧ some k_ ≠ (.slice Ao57 t330.length co57 : Value).ownBlock ∧ some k_ ≠ (.slice Ao59 t331.length co59 : Value).ownBlock) s_.2.2.1 t339) ∧ (Kd.R k93 93 w' w.heap.size (fun k_ => some k_ ≠ (s_.1 : Value).ownBlock ∧ some k_ ≠ (.slice Ao29 t272.length co29 : Value).ownBlock ∧ some k_ ≠ (.slice Ao55 t329.length co55 : Value).ownBlock) s_.2.2.2.1 t346) ∧ (Kd.R (Kd.int .i64) 3 w' w.heap.size (fun k_ => some k_ ≠ (s_.2.1 : Value).ownBlock ∧ some k_ ≠ (s_.2.2.1 : Value).ownBlock ∧ some k_ ≠ (s_.2.2.2.2.2.1 : Value).ownBlock ∧ some k_ ≠ (.slice Ao31 t275.length co31 : Value).ownBlock ∧ some k_ ≠ (.slice Ao33 t278.length co33 : Value).ownBlock ∧ some k_ ≠ (.slice Ao57 t330.length co57 : Value).ownBlock ∧ some k_ ≠ (.slice Ao59 t331.length co59 : Value).ownBlock) s_.2.2.2.2.1 t349) ∧ (Kd.R (Kd.int .i64) 3 w' w.heap.size (fun k_ => some k_ ≠ (s_.2.1 : Value).ownBlock ∧ some k_ ≠ (s_.2.2.1 : Value).ownBlock ∧ some k_ ≠ (s_.2.2.2.2.1 : Value).ownBlock ∧ some k_ ≠ (.slice Ao31 t275.length co31 : Value).ownBlock ∧ some k_ ≠ (.slice Ao33 t278.length co33 : Value).ownBlock ∧ some k_ ≠ (.slice Ao57 t330.length co57 : Value).ownBlock ∧ some k_ ≠ (.slice Ao59 t331.length co59 : Value).ownBlock) s_.2.2.2.2.2.1 t352) ∧ (Kd.R k93 93 w' w.heap.size (fun k_ => some k_ ≠ (s_.1 : Value).ownBlock ∧ some k_ ≠ (s_.2.2.2.1 : Value).ownBlock ∧ some k_ ≠ (.slice Ao55 t329.length co55 : Value).ownBlock) (.slice Ao29 t272.length co29) t272) ∧ (Kd.R (Kd.int .i64) 3 w' w.heap.size (fun k_ => some k_ ≠ (s_.2.1 : Value).ownBlock ∧ some k_ ≠ (s_.2.2.1 : Value).ownBlock ∧ some k_ ≠ (s_.2.2.2.2.1 : Value).ownBlock ∧ some k_ ≠ (s_.2.2.2.2.2.1 : Value).ownBlock ∧ some k_ ≠ (.slice Ao33 t278.length co33 : Value).ownBlock ∧ some k_ ≠ (.slice Ao57 t330.length co57 : Value).ownBlock ∧ some k_ ≠ (.slice Ao59 t331.length co59 : Value).ownBlock) (.slice Ao31 t275.length co31) t275) ∧ (Kd.R (Kd.int .i64) 3 w' w.heap.size (fun k_ => some k_ ≠ (s_.2.1 : Value).ownBlock ∧ some k_ ≠ (s_.2.2.1 : Value).ownBlock ∧ some k_ ≠ (s_.2.2.2.2.1 : Value).ownBlock ∧ some k_ ≠ (s_.2.2.2.2.2.1 : Value).ownBlock ∧ some k_ ≠ (.slice Ao31 t275.length co31 : Value).ownBlock ∧ some k_ ≠ (.slice Ao57 t330.length co57 : Value).ownBlock ∧ some k_ ≠ (.slice Ao59 t331.length co59 : Value).ownBlock) (.slice Ao33 t278.length co33) t278) ∧ (Kd.R k93 93 w' w.heap.size (fun k_ => some k_ ≠ (s_.1 : Value).ownBlock ∧ some k_ ≠ (s_.2.2.2.1 : Value).ownBlock ∧ some k_ ≠ (.slice Ao29 t272.length co29 : Value).ownBlock) (.slice Ao55 t329.length co55) t329) ∧ (Kd.R (Kd.int .i64) 3 w' w.heap.size (fun k_ => some k_ ≠ (s_.2.1 : Value).ownBlock ∧ some k_ ≠ (s_.2.2.1 : Value).ownBlock ∧ some k_ ≠ (s_.2.2.2.2.1 : Value).ownBlock ∧ some k_ ≠ (s_.2.2.2.2.2.1 : Value).ownBlock ∧ some k_ ≠ (.slice Ao31 t275.length co31 : Value).ownBlock ∧ some k_ ≠ (.slice Ao33 t278.length co33 : Value).ownBlock ∧ some k_ ≠ (.slice Ao59 t331.length co59 : Value).ownBlock) (.slice Ao57 t330.length co57) t330) ∧ (Kd.R (Kd.int .i64) 3 w' w.heap.size (fun k_ => some k_ ≠ (s_.2.1 : Value).ownBlock ∧ some k_ ≠ (s_.2.2.1 : Value).ownBlock ∧ some k_ ≠ (s_.2.2.2.2.1 : Value).ownBlock ∧ some k_ ≠ (s_.2.2.2.2.2.1 : Value).ownBlock ∧ some k_ ≠ (.slice Ao31 t275.length co31 : Value).ownBlock ∧ some k_ ≠ (.slice Ao33 t278.length co33 : Value).ownBlock ∧ some k_ ≠ (.slice Ao57 t330.length co57 : Value).ownBlock) (.slice Ao59 t331.length co59) t331) ∧ (w'.heap[gb256]? = some (.cells #[.slice A0_0 l0_0.length c0_0, .slice A0_1 l0_1.length c0_1, .slice A0_2 l0_2.length c0_2, .int .i64 a0_3, .int .i64 a0_4] 47 (0, 0))) ∧ (w'.heap[gb257]? = some (.cells #[.int .i64 a1_0, .int .i64 a1_1] 48 (0, 0))) ∧ (w'.heap[gb283]? = some (.cells #[.slice Ao29 t272.length co29, .slice Ao31 t275.length co31, .slice Ao33 t278.length co33, .int .i64 t281, .int .i64 t282] 34 (0, 0))) ∧ (w'.heap[gb295]? = some (.cells #[.slice Ao42 t324.length co42, .slice Ao47 t325.length co47, .slice Ao48 t326.length co48, .int .i64 t293, .int .i64 t294] 34 (0, 0))) ∧ (w'.heap[gb309]? = some (.cells #[.slice Ao55 t329.length co55, .slice Ao57 t330.length co57, .slice Ao59 t331.length co59, .int .i64 t307, .int .i64 t308] 34 (0, 0))) ∧ (w'.heap[s_.2.2.2.2.2.2]? = some (.cells #[.slice none 0 0, .slice none 0 0, .slice none 0 0, .int .i64 0, .int .i64 0] 34 (0, 0))) ∧ (w.heap.size ≤ s_.2.2.2.2.2.2) ∧ (w.heap.size ≤ s_.2.2.2.2.2.2) ∧ (gb256 ≠ s_.2.2.2.2.2.2) ∧ (s_.2.2.2.2.2.2 ≠ gb256) ∧ (gb257 ≠ s_.2.2.2.2.2.2) ∧ (s_.2.2.2.2.2.2 ≠ gb257) ∧ (gb283 ≠ s_.2.2.2.2.2.2) ∧ (s_.2.2.2.2.2.2 ≠ gb283) ∧ (gb295 ≠ s_.2.2.2.2.2.2) ∧ (s_.2.2.2.2.2.2 ≠ gb295) ∧ (gb309 ≠ s_.2.2.2.2.2.2) ∧ (s_.2.2.2.2.2.2 ≠ gb309) ∧ (Below w.heap.size w w')) ?_ ?_
  rotate_left
  ·
   intro hCont
   refine two_ (i := 1) (j := 6) (Ni := some 65) (Nj := some 14) #[true, true, true, false, true, false, false, false] #[true, false, true, false, true, false, true, false] rfl rfl rfl rfl (two_of HT_.out (by kernel_rfl)) (by decide) (by decide) (fun K hK => ?_) (fun K hK => ?_)
   ·
    skip
    refine goes_ Try.func25 (by kernel_rfl) rfl #[.agg #[.slice A0_0 l0_0.length c0_0, .slice A0_1 l0_1.length c0_1, .slice A0_2 l0_2.length c0_2, .int .i64 a0_3, .int .i64 a0_4]] (by rfl) rfl rfl (by (try simp only [lm]); first | done | rfl | (simp only [List.length_drop, List.length_take]; rfl)) ?_
    with_reducible refine (laws_toMemory.calls kj115 _ _ l0_0 _ _ l0_1 _ _ l0_2 a0_3 a0_4 t333 t336 t339 t342 t343 _ ?side1 ?side2 ?side3 ?side4 ?side5 ?side6 A118.out).mono ?_
    (case side1 => exact Kd.C_below HR0_0.out (be w))
    (case side2 => exact HC0_0.out)
    (case side3 => exact Kd.C_below HR0_1.out (be w))
    (case side4 => exact HC0_1.out)
    (case side5 => exact Kd.C_below HR0_2.out (be w))
    (case side6 => exact HC0_2.out)
    rintro e w124 ⟨v334, v337, v340, rfl, ho0, ho1, ho2, hb⟩
    refine ⟨_, rfl, ?_⟩
    have HO335 := As.mk (Kd.R_lower (Kd.R_new' (Kd.R_new' ho0 (Kd.R_lt (by (with_reducible repeat (first | apply Kd.R_alloc | apply Kd.R_drewN | apply Kd.R_drew)); exact HO_284000.out))) (Kd.R_lt (by (with_reducible repeat (first | apply Kd.R_alloc | apply Kd.R_drewN | apply Kd.R_drew)); exact HO_310000.out))) (below_size (be w)))
    replace HO_284000 := As.mk (Kd.R_elder' (by (with_reducible repeat (first | apply Kd.R_alloc | apply Kd.R_drewN | apply Kd.R_drew)); exact HO_284000.out) (Kd.R_base ho0) hb)
    replace HO_310000 := As.mk (Kd.R_elder' (by (with_reducible repeat (first | apply Kd.R_alloc | apply Kd.R_drewN | apply Kd.R_drew)); exact HO_310000.out) (Kd.R_base ho0) hb)
    have HO338 := As.mk (Kd.R_lower (Kd.R_new' (Kd.R_new' (Kd.R_new' (Kd.R_new' ho1 (Kd.R_lt (by (with_reducible repeat (first | apply Kd.R_alloc | apply Kd.R_drewN | apply Kd.R_drew)); exact HO_284001.out))) (Kd.R_lt (by (with_reducible repeat (first | apply Kd.R_alloc | apply Kd.R_drewN | apply Kd.R_drew)); exact HO_284002.out))) (Kd.R_lt (by (with_reducible repeat (first | apply Kd.R_alloc | apply Kd.R_drewN | apply Kd.R_drew)); exact HO_310001.out))) (Kd.R_lt (by (with_reducible repeat (first | apply Kd.R_alloc | apply Kd.R_drewN | apply Kd.R_drew)); exact HO_310002.out))) (below_size (be w)))
    have HO341 := As.mk (Kd.R_lower (Kd.R_new' (Kd.R_new' (Kd.R_new' (Kd.R_new' ho2 (Kd.R_lt (by (with_reducible repeat (first | apply Kd.R_alloc | apply Kd.R_drewN | apply Kd.R_drew)); exact HO_284001.out))) (Kd.R_lt (by (with_reducible repeat (first | apply Kd.R_alloc | apply Kd.R_drewN | apply Kd.R_drew)); exact HO_284002.out))) (Kd.R_lt (by (with_reducible repeat (first | apply Kd.R_alloc | apply Kd.R_drewN | apply Kd.R_drew)); exact HO_310001.out))) (Kd.R_lt (by (with_reducible repeat (first | apply Kd.R_alloc | apply Kd.R_drewN | apply Kd.R_drew)); exact HO_310002.out))) (below_size (be w)))
    replace HO_284001 := As.mk (Kd.R_mono (Kd.R_told (Kd.R_told (Kd.R_old (by (with_reducible repeat (first | apply Kd.R_alloc | apply Kd.R_drewN | apply Kd.R_drew)); exact HO_284001.out) hb) (Kd.R_base ho1)) (Kd.R_base ho2)) (fun _ h_ => h_.1))
    replace HO_284002 := As.mk (Kd.R_mono (Kd.R_told (Kd.R_told (Kd.R_old (by (with_reducible repeat (first | apply Kd.R_alloc | apply Kd.R_drewN | apply Kd.R_drew)); exact HO_284002.out) hb) (Kd.R_base ho1)) (Kd.R_base ho2)) (fun _ h_ => h_.1))
    replace HO_310001 := As.mk (Kd.R_mono (Kd.R_told (Kd.R_told (Kd.R_old (by (with_reducible repeat (first | apply Kd.R_alloc | apply Kd.R_drewN | apply Kd.R_drew)); exact HO_310001.out) hb) (Kd.R_base ho1)) (Kd.R_base ho2)) (fun _ h_ => h_.1))
    replace HO_310002 := As.mk (Kd.R_mono (Kd.R_told (Kd.R_told (Kd.R_old (by (with_reducible repeat (first | apply Kd.R_alloc | apply Kd.R_drewN | apply Kd.R_drew)); exact HO_310002.out) hb) (Kd.R_base ho1)) (Kd.R_base ho2)) (fun _ h_ => h_.1))
    replace BK256 := As.mk (blk_below (bx BK256.out) hb)
    replace BK257 := As.mk (blk_below (bx BK257.out) hb)
    replace BK283 := As.mk (blk_below (bx BK283.out) hb)
    replace BK295 := As.mk (blk_below (bx BK295.out) hb)
    replace BK309 := As.mk (blk_below (bx BK309.out) hb)
    replace HB := As.mk (below_step (be w) hb)
    (try clear hb)
    (try clear hb2)
    (try clear hk)
    (try clear hi)
    (try clear ho0)
    (try clear ho1)
    (try clear ho2)
    refine hK.out _ _ ⟨(blk_cell BK256.out 0).trans rfl, (blk_cell BK256.out 1).trans rfl, (blk_cell BK256.out 2).trans rfl, (blk_cell BK256.out 3).trans rfl, (blk_cell BK256.out 4).trans rfl, (blk_cell BK257.out 0).trans rfl, (blk_cell BK257.out 1).trans rfl⟩ (fun hHeld => ?_)
    clear hK K
    refine norm_ (a' := ?_) ?_ ?_
    rotate_left
    ·
     show Act.put _ (some 65) _ = _
     simp only [pk, i64_w, i32_w]
     rfl
    refine two_ (i := 3) (j := 6) (Ni := some 67) (Nj := some 14) #[true, true, true, true, true, false, false, false] #[true, true, true, false, true, false, true, false] rfl rfl rfl rfl (two_of HT_.out (by kernel_rfl)) (by decide) (by decide) (fun K hK => ?_) (fun K hK => ?_)
    ·
     skip
     refine goes_ Try.func26 (by kernel_rfl) rfl #[.agg #[.int .i64 a1_0, .int .i64 a1_1]] (by rfl) rfl rfl (by (try simp only [lm]); first | done | rfl | (simp only [List.length_drop, List.length_take]; rfl)) ?_
     with_reducible refine (laws_toValue.calls a1_0 a1_1 t344 t345 _ A119.out).mono ?_
     rintro e w125 ⟨rfl, hb⟩
     refine ⟨_, rfl, ?_⟩
     replace HO_284000 := As.mk (Kd.R_below (by (with_reducible repeat (first | apply Kd.R_alloc | apply Kd.R_drewN | apply Kd.R_drew)); exact HO_284000.out) hb)
     replace HO_284001 := As.mk (Kd.R_below (by (with_reducible repeat (first | apply Kd.R_alloc | apply Kd.R_drewN | apply Kd.R_drew)); exact HO_284001.out) hb)
     replace HO_284002 := As.mk (Kd.R_below (by (with_reducible repeat (first | apply Kd.R_alloc | apply Kd.R_drewN | apply Kd.R_drew)); exact HO_284002.out) hb)
     replace HO_310000 := As.mk (Kd.R_below (by (with_reducible repeat (first | apply Kd.R_alloc | apply Kd.R_drewN | apply Kd.R_drew)); exact HO_310000.out) hb)
     replace HO_310001 := As.mk (Kd.R_below (by (with_reducible repeat (first | apply Kd.R_alloc | apply Kd.R_drewN | apply Kd.R_drew)); exact HO_310001.out) hb)
     replace HO_310002 := As.mk (Kd.R_below (by (with_reducible repeat (first | apply Kd.R_alloc | apply Kd.R_drewN | apply Kd.R_drew)); exact HO_310002.out) hb)
     replace HO335 := As.mk (Kd.R_below (by (with_reducible repeat (first | apply Kd.R_alloc | apply Kd.R_drewN | apply Kd.R_drew)); exact HO335.out) hb)
     replace HO338 := As.mk (Kd.R_below (by (with_reducible repeat (first | apply Kd.R_alloc | apply Kd.R_drewN | apply Kd.R_drew)); exact HO338.out) hb)
     replace HO341 := As.mk (Kd.R_below (by (with_reducible repeat (first | apply Kd.R_alloc | apply Kd.R_drewN | apply Kd.R_drew)); exact HO341.out) hb)
     replace BK256 := As.mk (blk_below (bx BK256.out) hb)
     replace BK257 := As.mk (blk_below (bx BK257.out) hb)
     replace BK283 := As.mk (blk_below (bx BK283.out) hb)
     replace BK295 := As.mk (blk_below (bx BK295.out) hb)
     replace BK309 := As.mk (blk_below (bx BK309.out) hb)
     replace HB := As.mk (below_step (be w) hb)
     (try clear hb)
     (try clear hb2)
     (try clear hk)
     (try clear hi)
     obtain ⟨Ao126, co126, eo126⟩ := Kd.R_slice HO335.out
     (first | subst eo126 | (injection eo126 with f1_ f2_ f3_; have f4_ := f1_.symm; have f5_ := f3_.symm; clear f1_ f2_ f3_; subst f4_; subst f5_))
     obtain ⟨Ao127, co127, eo127⟩ := Kd.R_slice HO338.out
     (first | subst eo127 | (injection eo127 with f1_ f2_ f3_; have f4_ := f1_.symm; have f5_ := f3_.symm; clear f1_ f2_ f3_; subst f4_; subst f5_))
     obtain ⟨Ao128, co128, eo128⟩ := Kd.R_slice HO341.out
     (first | subst eo128 | (injection eo128 with f1_ f2_ f3_; have f4_ := f1_.symm; have f5_ := f3_.symm; clear f1_ f2_ f3_; subst f4_; subst f5_))
     refine hK.out _ _ ⟨(blk_cell BK256.out 0).trans rfl, (blk_cell BK256.out 1).trans rfl, (blk_cell BK256.out 2).trans rfl, (blk_cell BK256.out 3).trans rfl, (blk_cell BK256.out 4).trans rfl, (blk_cell BK257.out 0).trans rfl, (blk_cell BK257.out 1).trans rfl⟩ (fun hHeld => ?_)
     clear hK K
     refine norm_ (a' := ?_) ?_ ?_
     rotate_left
     ·
      show Act.put _ (some 67) _ = _
      simp only [pk, i64_w, i32_w]
      rfl
     refine two_ (i := 5) (j := 6) (Ni := some 69) (Nj := some 14) #[true, true, true, true, true, true, false, false] #[true, true, true, true, true, false, true, false] rfl rfl rfl rfl (two_of HT_.out (by kernel_rfl)) (by decide) (by decide) (fun K hK => ?_) (fun K hK => ?_)
     ·
      skip
      refine goes_ Try.func21 (by kernel_rfl) rfl #[.agg #[.slice Ao126 t333.length co126, .slice Ao127 t336.length co127, .slice Ao128 t339.length co128, .int .i64 t342, .int .i64 t343], .agg #[.int .i64 t344, .int .i64 t345], .int .i64 a2] (by rfl) rfl rfl (by (try simp only [lm]); first | done | rfl | (simp only [List.length_drop, List.length_take]; rfl)) ?_
      with_reducible refine (impl_Written.calls _ _ t333 _ _ t336 _ _ t339 t342 t343 t344 t345 a2 t346 t349 t352 t355 t356 _ ?side1 ?side2 ?side3 ?side4 ?side5 ?side6 A120.out).mono ?_
      (case side1 => repeat (first | exact (Kd.R_reads' HO335.out).2.2 | (with_reducible refine Kd.C_alloc ?_ _) | (with_reducible refine Kd.C_drewN ?_ _) | (with_reducible refine Kd.C_drew ?_)))
      (case side2 => exact (Kd.R_reads' HO335.out).2.1)
      (case side3 => repeat (first | exact (Kd.R_reads' HO338.out).2.2 | (with_reducible refine Kd.C_alloc ?_ _) | (with_reducible refine Kd.C_drewN ?_ _) | (with_reducible refine Kd.C_drew ?_)))
      (case side4 => exact (Kd.R_reads' HO338.out).2.1)
      (case side5 => repeat (first | exact (Kd.R_reads' HO341.out).2.2 | (with_reducible refine Kd.C_alloc ?_ _) | (with_reducible refine Kd.C_drewN ?_ _) | (with_reducible refine Kd.C_drew ?_)))
      (case side6 => exact (Kd.R_reads' HO341.out).2.1)
      rintro e w129 ⟨v347, v350, v353, rfl, ho0, ho1, ho2, hb⟩
      refine ⟨_, rfl, ?_⟩
      have HO348 := As.mk (Kd.R_lower (Kd.R_new' (Kd.R_new' (Kd.R_new' ho0 (Kd.R_lt (by (with_reducible repeat (first | apply Kd.R_alloc | apply Kd.R_drewN | apply Kd.R_drew)); exact HO_284000.out))) (Kd.R_lt (by (with_reducible repeat (first | apply Kd.R_alloc | apply Kd.R_drewN | apply Kd.R_drew)); exact HO_310000.out))) (Kd.R_lt (by (with_reducible repeat (first | apply Kd.R_alloc | apply Kd.R_drewN | apply Kd.R_drew)); exact HO335.out))) (below_size (be w)))
      replace HO_284000 := As.mk (Kd.R_elder' (by (with_reducible repeat (first | apply Kd.R_alloc | apply Kd.R_drewN | apply Kd.R_drew)); exact HO_284000.out) (Kd.R_base ho0) hb)
      replace HO_310000 := As.mk (Kd.R_elder' (by (with_reducible repeat (first | apply Kd.R_alloc | apply Kd.R_drewN | apply Kd.R_drew)); exact HO_310000.out) (Kd.R_base ho0) hb)
      replace HO335 := As.mk (Kd.R_elder' (by (with_reducible repeat (first | apply Kd.R_alloc | apply Kd.R_drewN | apply Kd.R_drew)); exact HO335.out) (Kd.R_base ho0) hb)
      have HO351 := As.mk (Kd.R_lower (Kd.R_new' (Kd.R_new' (Kd.R_new' (Kd.R_new' (Kd.R_new' (Kd.R_new' ho1 (Kd.R_lt (by (with_reducible repeat (first | apply Kd.R_alloc | apply Kd.R_drewN | apply Kd.R_drew)); exact HO_284001.out))) (Kd.R_lt (by (with_reducible repeat (first | apply Kd.R_alloc | apply Kd.R_drewN | apply Kd.R_drew)); exact HO_284002.out))) (Kd.R_lt (by (with_reducible repeat (first | apply Kd.R_alloc | apply Kd.R_drewN | apply Kd.R_drew)); exact HO_310001.out))) (Kd.R_lt (by (with_reducible repeat (first | apply Kd.R_alloc | apply Kd.R_drewN | apply Kd.R_drew)); exact HO_310002.out))) (Kd.R_lt (by (with_reducible repeat (first | apply Kd.R_alloc | apply Kd.R_drewN | apply Kd.R_drew)); exact HO338.out))) (Kd.R_lt (by (with_reducible repeat (first | apply Kd.R_alloc | apply Kd.R_drewN | apply Kd.R_drew)); exact HO341.out))) (below_size (be w)))
      have HO354 := As.mk (Kd.R_lower (Kd.R_new' (Kd.R_new' (Kd.R_new' (Kd.R_new' (Kd.R_new' (Kd.R_new' ho2 (Kd.R_lt (by (with_reducible repeat (first | apply Kd.R_alloc | apply Kd.R_drewN | apply Kd.R_drew)); exact HO_284001.out))) (Kd.R_lt (by (with_reducible repeat (first | apply Kd.R_alloc | apply Kd.R_drewN | apply Kd.R_drew)); exact HO_284002.out))) (Kd.R_lt (by (with_reducible repeat (first | apply Kd.R_alloc | apply Kd.R_drewN | apply Kd.R_drew)); exact HO_310001.out))) (Kd.R_lt (by (with_reducible repeat (first | apply Kd.R_alloc | apply Kd.R_drewN | apply Kd.R_drew)); exact HO_310002.out))) (Kd.R_lt (by (with_reducible repeat (first | apply Kd.R_alloc | apply Kd.R_drewN | apply Kd.R_drew)); exact HO338.out))) (Kd.R_lt (by (with_reducible repeat (first | apply Kd.R_alloc | apply Kd.R_drewN | apply Kd.R_drew)); exact HO341.out))) (below_size (be w)))
      replace HO_284001 := As.mk (Kd.R_mono (Kd.R_told (Kd.R_told (Kd.R_old (by (with_reducible repeat (first | apply Kd.R_alloc | apply Kd.R_drewN | apply Kd.R_drew)); exact HO_284001.out) hb) (Kd.R_base ho1)) (Kd.R_base ho2)) (fun _ h_ => h_.1))
      replace HO_284002 := As.mk (Kd.R_mono (Kd.R_told (Kd.R_told (Kd.R_old (by (with_reducible repeat (first | apply Kd.R_alloc | apply Kd.R_drewN | apply Kd.R_drew)); exact HO_284002.out) hb) (Kd.R_base ho1)) (Kd.R_base ho2)) (fun _ h_ => h_.1))
      replace HO_310001 := As.mk (Kd.R_mono (Kd.R_told (Kd.R_told (Kd.R_old (by (with_reducible repeat (first | apply Kd.R_alloc | apply Kd.R_drewN | apply Kd.R_drew)); exact HO_310001.out) hb) (Kd.R_base ho1)) (Kd.R_base ho2)) (fun _ h_ => h_.1))
      replace HO_310002 := As.mk (Kd.R_mono (Kd.R_told (Kd.R_told (Kd.R_old (by (with_reducible repeat (first | apply Kd.R_alloc | apply Kd.R_drewN | apply Kd.R_drew)); exact HO_310002.out) hb) (Kd.R_base ho1)) (Kd.R_base ho2)) (fun _ h_ => h_.1))
      replace HO338 := As.mk (Kd.R_mono (Kd.R_told (Kd.R_told (Kd.R_old (by (with_reducible repeat (first | apply Kd.R_alloc | apply Kd.R_drewN | apply Kd.R_drew)); exact HO338.out) hb) (Kd.R_base ho1)) (Kd.R_base ho2)) (fun _ h_ => h_.1))
      replace HO341 := As.mk (Kd.R_mono (Kd.R_told (Kd.R_told (Kd.R_old (by (with_reducible repeat (first | apply Kd.R_alloc | apply Kd.R_drewN | apply Kd.R_drew)); exact HO341.out) hb) (Kd.R_base ho1)) (Kd.R_base ho2)) (fun _ h_ => h_.1))
      replace BK256 := As.mk (blk_below (bx BK256.out) hb)
      replace BK257 := As.mk (blk_below (bx BK257.out) hb)
      replace BK283 := As.mk (blk_below (bx BK283.out) hb)
      replace BK295 := As.mk (blk_below (bx BK295.out) hb)
      replace BK309 := As.mk (blk_below (bx BK309.out) hb)
      replace HB := As.mk (below_step (be w) hb)
      (try clear hb)
      (try clear hb2)
      (try clear hk)
      (try clear hi)
      (try clear ho0)
      (try clear ho1)
      (try clear ho2)
      refine hK.out _ _ ⟨(blk_cell BK256.out 0).trans rfl, (blk_cell BK256.out 1).trans rfl, (blk_cell BK256.out 2).trans rfl, (blk_cell BK256.out 3).trans rfl, (blk_cell BK256.out 4).trans rfl, (blk_cell BK257.out 0).trans rfl, (blk_cell BK257.out 1).trans rfl⟩ (fun hHeld => ?_)
      clear hK K
      refine norm_ (a' := ?_) ?_ ?_
      rotate_left
      ·
       show Act.put _ (some 69) _ = _
       simp only [pk, i64_w, i32_w]
       rfl
      refine one_ (i := 6) (N := some 14) #[I, I, I, I, I, I, I, O] rfl rfl (one_of HT_.out (by kernel_rfl)) (by decide) (fun K hK => ?_)
      refine box_step ?hg (N := 14) ?hd (cs := #[.slice none 0 0, .slice none 0 0, .slice none 0 0, .int .i64 0, .int .i64 0]) (t := 34) ?hr ?_; (case hd => rfl); (case hg => rfl); (case hr => first | (go_simp; done) | (go_simp; rfl))
      intro gb357 hg w130 hbox hb
      replace HO_284000 := As.mk (Kd.R_below (by (with_reducible repeat (first | apply Kd.R_alloc | apply Kd.R_drewN | apply Kd.R_drew)); exact HO_284000.out) hb)
      replace HO_284001 := As.mk (Kd.R_below (by (with_reducible repeat (first | apply Kd.R_alloc | apply Kd.R_drewN | apply Kd.R_drew)); exact HO_284001.out) hb)
      replace HO_284002 := As.mk (Kd.R_below (by (with_reducible repeat (first | apply Kd.R_alloc | apply Kd.R_drewN | apply Kd.R_drew)); exact HO_284002.out) hb)
      replace HO_310000 := As.mk (Kd.R_below (by (with_reducible repeat (first | apply Kd.R_alloc | apply Kd.R_drewN | apply Kd.R_drew)); exact HO_310000.out) hb)
      replace HO_310001 := As.mk (Kd.R_below (by (with_reducible repeat (first | apply Kd.R_alloc | apply Kd.R_drewN | apply Kd.R_drew)); exact HO_310001.out) hb)
      replace HO_310002 := As.mk (Kd.R_below (by (with_reducible repeat (first | apply Kd.R_alloc | apply Kd.R_drewN | apply Kd.R_drew)); exact HO_310002.out) hb)
      replace HO335 := As.mk (Kd.R_below (by (with_reducible repeat (first | apply Kd.R_alloc | apply Kd.R_drewN | apply Kd.R_drew)); exact HO335.out) hb)
      replace HO338 := As.mk (Kd.R_below (by (with_reducible repeat (first | apply Kd.R_alloc | apply Kd.R_drewN | apply Kd.R_drew)); exact HO338.out) hb)
      replace HO341 := As.mk (Kd.R_below (by (with_reducible repeat (first | apply Kd.R_alloc | apply Kd.R_drewN | apply Kd.R_drew)); exact HO341.out) hb)
      replace HO348 := As.mk (Kd.R_below (by (with_reducible repeat (first | apply Kd.R_alloc | apply Kd.R_drewN | apply Kd.R_drew)); exact HO348.out) hb)
      replace HO351 := As.mk (Kd.R_below (by (with_reducible repeat (first | apply Kd.R_alloc | apply Kd.R_drewN | apply Kd.R_drew)); exact HO351.out) hb)
      replace HO354 := As.mk (Kd.R_below (by (with_reducible repeat (first | apply Kd.R_alloc | apply Kd.R_drewN | apply Kd.R_drew)); exact HO354.out) hb)
      have BK357 := As.mk (hbox)
      have GW357 := As.mk (gs w hg)
      have GE357 := As.mk (gs w hg)
      replace HB := As.mk (below_step (be w) hb)
      have NB256_357 := As.mk (nl hg (bx BK256.out))
      have NB357_256 := As.mk (ng hg (bx BK256.out))
      replace BK256 := As.mk (blk_below (bx BK256.out) hb)
      have NB257_357 := As.mk (nl hg (bx BK257.out))
      have NB357_257 := As.mk (ng hg (bx BK257.out))
      replace BK257 := As.mk (blk_below (bx BK257.out) hb)
      have NB283_357 := As.mk (nl hg (bx BK283.out))
      have NB357_283 := As.mk (ng hg (bx BK283.out))
      replace BK283 := As.mk (blk_below (bx BK283.out) hb)
      have NB295_357 := As.mk (nl hg (bx BK295.out))
      have NB357_295 := As.mk (ng hg (bx BK295.out))
      replace BK295 := As.mk (blk_below (bx BK295.out) hb)
      have NB309_357 := As.mk (nl hg (bx BK309.out))
      have NB357_309 := As.mk (ng hg (bx BK309.out))
      replace BK309 := As.mk (blk_below (bx BK309.out) hb)
      clear hb hbox hg
      refine hK.out _ _ ⟨(blk_cell BK256.out 0).trans rfl, (blk_cell BK256.out 1).trans rfl, (blk_cell BK256.out 2).trans rfl, (blk_cell BK256.out 3).trans rfl, (blk_cell BK256.out 4).trans rfl, (blk_cell BK257.out 0).trans rfl, (blk_cell BK257.out 1).trans rfl⟩ (fun hHeld => ?_)
      clear hK K
      refine norm_ (a' := ?_) ?_ ?_
      rotate_left
      ·
       show Act.put _ (some 14) _ = _
       simp only [pk, i64_w, i32_w]
       rfl
      exact norm_ (by simp only [putAll, Act.put, List.setIfInBounds_toArray, List.set_cons_zero, List.set_cons_succ]) (hCont (.slice Ao126 t333.length co126, .slice Ao127 t336.length co127, .slice Ao128 t339.length co128, v347, v350, v353, gb357) _ ⟨hHeld, (by (with_reducible repeat (first | apply Kd.R_alloc | apply Kd.R_drewN | apply Kd.R_drew)); exact Kd.R_mono HO335.out (fun _ hk => ⟨hk.2, ⟨hk.1.1.2, hk.1.2⟩⟩)), (by (with_reducible repeat (first | apply Kd.R_alloc | apply Kd.R_drewN | apply Kd.R_drew)); exact Kd.R_mono HO338.out (fun _ hk => ⟨hk.1.1.1.1.1.1, ⟨hk.1.2, ⟨hk.2, ⟨hk.1.1.1.1.1.2, ⟨hk.1.1.1.1.2, ⟨hk.1.1.1.2, hk.1.1.2⟩⟩⟩⟩⟩⟩)), (by (with_reducible repeat (first | apply Kd.R_alloc | apply Kd.R_drewN | apply Kd.R_drew)); exact Kd.R_mono HO341.out (fun _ hk => ⟨hk.1.1.1.1.1.1, ⟨hk.1.2, ⟨hk.2, ⟨hk.1.1.1.1.1.2, ⟨hk.1.1.1.1.2, ⟨hk.1.1.1.2, hk.1.1.2⟩⟩⟩⟩⟩⟩)), (by (with_reducible repeat (first | apply Kd.R_alloc | apply Kd.R_drewN | apply Kd.R_drew)); exact Kd.R_mono HO348.out (fun _ hk => ⟨hk.2, ⟨hk.1.1.2, hk.1.2⟩⟩)), (by (with_reducible repeat (first | apply Kd.R_alloc | apply Kd.R_drewN | apply Kd.R_drew)); exact Kd.R_mono HO351.out (fun _ hk => ⟨hk.1.2, ⟨hk.2, ⟨hk.1.1.1.1.1.1, ⟨hk.1.1.1.1.1.2, ⟨hk.1.1.1.1.2, ⟨hk.1.1.1.2, hk.1.1.2⟩⟩⟩⟩⟩⟩)), (by (with_reducible repeat (first | apply Kd.R_alloc | apply Kd.R_drewN | apply Kd.R_drew)); exact Kd.R_mono HO354.out (fun _ hk => ⟨hk.1.2, ⟨hk.2, ⟨hk.1.1.1.1.1.1, ⟨hk.1.1.1.1.1.2, ⟨hk.1.1.1.1.2, ⟨hk.1.1.1.2, hk.1.1.2⟩⟩⟩⟩⟩⟩)), (by (with_reducible repeat (first | apply Kd.R_alloc | apply Kd.R_drewN | apply Kd.R_drew)); exact Kd.R_mono HO_284000.out (fun _ hk => ⟨hk.1.2, ⟨hk.2, hk.1.1.2⟩⟩)), (by (with_reducible repeat (first | apply Kd.R_alloc | apply Kd.R_drewN | apply Kd.R_drew)); exact Kd.R_mono HO_284001.out (fun _ hk => ⟨hk.1.1.1.2, ⟨hk.1.1.2, ⟨hk.1.2, ⟨hk.2, ⟨hk.1.1.1.1.1, ⟨hk.1.1.1.1.2.2.2.1, hk.1.1.1.1.2.2.2.2⟩⟩⟩⟩⟩⟩)), (by (with_reducible repeat (first | apply Kd.R_alloc | apply Kd.R_drewN | apply Kd.R_drew)); exact Kd.R_mono HO_284002.out (fun _ hk => ⟨hk.1.1.1.2, ⟨hk.1.1.2, ⟨hk.1.2, ⟨hk.2, ⟨hk.1.1.1.1.1, ⟨hk.1.1.1.1.2.2.2.1, hk.1.1.1.1.2.2.2.2⟩⟩⟩⟩⟩⟩)), (by (with_reducible repeat (first | apply Kd.R_alloc | apply Kd.R_drewN | apply Kd.R_drew)); exact Kd.R_mono HO_310000.out (fun _ hk => ⟨hk.1.2, ⟨hk.2, hk.1.1.1⟩⟩)), (by (with_reducible repeat (first | apply Kd.R_alloc | apply Kd.R_drewN | apply Kd.R_drew)); exact Kd.R_mono HO_310001.out (fun _ hk => ⟨hk.1.1.1.2, ⟨hk.1.1.2, ⟨hk.1.2, ⟨hk.2, ⟨hk.1.1.1.1.1, ⟨hk.1.1.1.1.2.1, hk.1.1.1.1.2.2.2.2⟩⟩⟩⟩⟩⟩)), (by (with_reducible repeat (first | apply Kd.R_alloc | apply Kd.R_drewN | apply Kd.R_drew)); exact Kd.R_mono HO_310002.out (fun _ hk => ⟨hk.1.1.1.2, ⟨hk.1.1.2, ⟨hk.1.2, ⟨hk.2, ⟨hk.1.1.1.1.1, ⟨hk.1.1.1.1.2.1, hk.1.1.1.1.2.2.2.2⟩⟩⟩⟩⟩⟩)), (bx BK256.out), (bx BK257.out), (bx BK283.out), (bx BK295.out), (bx BK309.out), (bx BK357.out), GW357.out, GE357.out, NB256_357.out, NB357_256.out, NB257_357.out, NB357_257.out, NB283_357.out, NB357_283.out, NB295_357.out, NB357_295.out, NB309_357.out, NB357_309.out, (be w)⟩)
     ·
      skip
      refine box_step ?hg (N := 14) ?hd (cs := #[.slice none 0 0, .slice none 0 0, .slice none 0 0, .int .i64 0, .int .i64 0]) (t := 34) ?hr ?_; (case hd => rfl); (case hg => rfl); (case hr => first | (go_simp; done) | (go_simp; rfl))
      intro gb357 hg w126 hbox hb
      replace HO_284000 := As.mk (Kd.R_below (by (with_reducible repeat (first | apply Kd.R_alloc | apply Kd.R_drewN | apply Kd.R_drew)); exact HO_284000.out) hb)
      replace HO_284001 := As.mk (Kd.R_below (by (with_reducible repeat (first | apply Kd.R_alloc | apply Kd.R_drewN | apply Kd.R_drew)); exact HO_284001.out) hb)
      replace HO_284002 := As.mk (Kd.R_below (by (with_reducible repeat (first | apply Kd.R_alloc | apply Kd.R_drewN | apply Kd.R_drew)); exact HO_284002.out) hb)
      replace HO_310000 := As.mk (Kd.R_below (by (with_reducible repeat (first | apply Kd.R_alloc | apply Kd.R_drewN | apply Kd.R_drew)); exact HO_310000.out) hb)
      replace HO_310001 := As.mk (Kd.R_below (by (with_reducible repeat (first | apply Kd.R_alloc | apply Kd.R_drewN | apply Kd.R_drew)); exact HO_310001.out) hb)
      replace HO_310002 := As.mk (Kd.R_below (by (with_reducible repeat (first | apply Kd.R_alloc | apply Kd.R_drewN | apply Kd.R_drew)); exact HO_310002.out) hb)
      replace HO335 := As.mk (Kd.R_below (by (with_reducible repeat (first | apply Kd.R_alloc | apply Kd.R_drewN | apply Kd.R_drew)); exact HO335.out) hb)
      replace HO338 := As.mk (Kd.R_below (by (with_reducible repeat (first | apply Kd.R_alloc | apply Kd.R_drewN | apply Kd.R_drew)); exact HO338.out) hb)
      replace HO341 := As.mk (Kd.R_below (by (with_reducible repeat (first | apply Kd.R_alloc | apply Kd.R_drewN | apply Kd.R_drew)); exact HO341.out) hb)
      have BK357 := As.mk (hbox)
      have GW357 := As.mk (gs w hg)
      have GE357 := As.mk (gs w hg)
      replace HB := As.mk (below_step (be w) hb)
      have NB256_357 := As.mk (nl hg (bx BK256.out))
      have NB357_256 := As.mk (ng hg (bx BK256.out))
      replace BK256 := As.mk (blk_below (bx BK256.out) hb)
      have NB257_357 := As.mk (nl hg (bx BK257.out))
      have NB357_257 := As.mk (ng hg (bx BK257.out))
      replace BK257 := As.mk (blk_below (bx BK257.out) hb)
      have NB283_357 := As.mk (nl hg (bx BK283.out))
      have NB357_283 := As.mk (ng hg (bx BK283.out))
      replace BK283 := As.mk (blk_below (bx BK283.out) hb)
      have NB295_357 := As.mk (nl hg (bx BK295.out))
      have NB357_295 := As.mk (ng hg (bx BK295.out))
      replace BK295 := As.mk (blk_below (bx BK295.out) hb)
      have NB309_357 := As.mk (nl hg (bx BK309.out))
      have NB357_309 := As.mk (ng hg (bx BK309.out))
      replace BK309 := As.mk (blk_below (bx BK309.out) hb)
      clear hb hbox hg
      obtain ⟨Ao127, co127, eo127⟩ := Kd.R_slice HO335.out
      (first | subst eo127 | (injection eo127 with f1_ f2_ f3_; have f4_ := f1_.symm; have f5_ := f3_.symm; clear f1_ f2_ f3_; subst f4_; subst f5_))
      obtain ⟨Ao128, co128, eo128⟩ := Kd.R_slice HO338.out
      (first | subst eo128 | (injection eo128 with f1_ f2_ f3_; have f4_ := f1_.symm; have f5_ := f3_.symm; clear f1_ f2_ f3_; subst f4_; subst f5_))
      obtain ⟨Ao129, co129, eo129⟩ := Kd.R_slice HO341.out
      (first | subst eo129 | (injection eo129 with f1_ f2_ f3_; have f4_ := f1_.symm; have f5_ := f3_.symm; clear f1_ f2_ f3_; subst f4_; subst f5_))
      refine hK.out _ _ ⟨(blk_cell BK256.out 0).trans rfl, (blk_cell BK256.out 1).trans rfl, (blk_cell BK256.out 2).trans rfl, (blk_cell BK256.out 3).trans rfl, (blk_cell BK256.out 4).trans rfl, (blk_cell BK257.out 0).trans rfl, (blk_cell BK257.out 1).trans rfl⟩ (fun hHeld => ?_)
      clear hK K
      refine norm_ (a' := ?_) ?_ ?_
      rotate_left
      ·
       show Act.put _ (some 14) _ = _
       simp only [pk, i64_w, i32_w]
       rfl
      refine one_ (i := 5) (N := some 69) #[I, I, I, I, I, I, I, O] rfl rfl (one_of HT_.out (by kernel_rfl)) (by decide) (fun K hK => ?_)
      refine goes_ Try.func21 (by kernel_rfl) rfl #[.agg #[.slice Ao127 t333.length co127, .slice Ao128 t336.length co128, .slice Ao129 t339.length co129, .int .i64 t342, .int .i64 t343], .agg #[.int .i64 t344, .int .i64 t345], .int .i64 a2] (by rfl) rfl rfl (by (try simp only [lm]); first | done | rfl | (simp only [List.length_drop, List.length_take]; rfl)) ?_
      with_reducible refine (impl_Written.calls _ _ t333 _ _ t336 _ _ t339 t342 t343 t344 t345 a2 t346 t349 t352 t355 t356 _ ?side1 ?side2 ?side3 ?side4 ?side5 ?side6 A120.out).mono ?_
      (case side1 => repeat (first | exact (Kd.R_reads' HO335.out).2.2 | (with_reducible refine Kd.C_alloc ?_ _) | (with_reducible refine Kd.C_drewN ?_ _) | (with_reducible refine Kd.C_drew ?_)))
      (case side2 => exact (Kd.R_reads' HO335.out).2.1)
      (case side3 => repeat (first | exact (Kd.R_reads' HO338.out).2.2 | (with_reducible refine Kd.C_alloc ?_ _) | (with_reducible refine Kd.C_drewN ?_ _) | (with_reducible refine Kd.C_drew ?_)))
      (case side4 => exact (Kd.R_reads' HO338.out).2.1)
      (case side5 => repeat (first | exact (Kd.R_reads' HO341.out).2.2 | (with_reducible refine Kd.C_alloc ?_ _) | (with_reducible refine Kd.C_drewN ?_ _) | (with_reducible refine Kd.C_drew ?_)))
      (case side6 => exact (Kd.R_reads' HO341.out).2.1)
      rintro e w130 ⟨v347, v350, v353, rfl, ho0, ho1, ho2, hb⟩
      refine ⟨_, rfl, ?_⟩
      have HO348 := As.mk (Kd.R_lower (Kd.R_new' (Kd.R_new' (Kd.R_new' ho0 (Kd.R_lt (by (with_reducible repeat (first | apply Kd.R_alloc | apply Kd.R_drewN | apply Kd.R_drew)); exact HO_284000.out))) (Kd.R_lt (by (with_reducible repeat (first | apply Kd.R_alloc | apply Kd.R_drewN | apply Kd.R_drew)); exact HO_310000.out))) (Kd.R_lt (by (with_reducible repeat (first | apply Kd.R_alloc | apply Kd.R_drewN | apply Kd.R_drew)); exact HO335.out))) (below_size (be w)))
      replace HO_284000 := As.mk (Kd.R_elder' (by (with_reducible repeat (first | apply Kd.R_alloc | apply Kd.R_drewN | apply Kd.R_drew)); exact HO_284000.out) (Kd.R_base ho0) hb)
      replace HO_310000 := As.mk (Kd.R_elder' (by (with_reducible repeat (first | apply Kd.R_alloc | apply Kd.R_drewN | apply Kd.R_drew)); exact HO_310000.out) (Kd.R_base ho0) hb)
      replace HO335 := As.mk (Kd.R_elder' (by (with_reducible repeat (first | apply Kd.R_alloc | apply Kd.R_drewN | apply Kd.R_drew)); exact HO335.out) (Kd.R_base ho0) hb)
      have HO351 := As.mk (Kd.R_lower (Kd.R_new' (Kd.R_new' (Kd.R_new' (Kd.R_new' (Kd.R_new' (Kd.R_new' ho1 (Kd.R_lt (by (with_reducible repeat (first | apply Kd.R_alloc | apply Kd.R_drewN | apply Kd.R_drew)); exact HO_284001.out))) (Kd.R_lt (by (with_reducible repeat (first | apply Kd.R_alloc | apply Kd.R_drewN | apply Kd.R_drew)); exact HO_284002.out))) (Kd.R_lt (by (with_reducible repeat (first | apply Kd.R_alloc | apply Kd.R_drewN | apply Kd.R_drew)); exact HO_310001.out))) (Kd.R_lt (by (with_reducible repeat (first | apply Kd.R_alloc | apply Kd.R_drewN | apply Kd.R_drew)); exact HO_310002.out))) (Kd.R_lt (by (with_reducible repeat (first | apply Kd.R_alloc | apply Kd.R_drewN | apply Kd.R_drew)); exact HO338.out))) (Kd.R_lt (by (with_reducible repeat (first | apply Kd.R_alloc | apply Kd.R_drewN | apply Kd.R_drew)); exact HO341.out))) (below_size (be w)))
      have HO354 := As.mk (Kd.R_lower (Kd.R_new' (Kd.R_new' (Kd.R_new' (Kd.R_new' (Kd.R_new' (Kd.R_new' ho2 (Kd.R_lt (by (with_reducible repeat (first | apply Kd.R_alloc | apply Kd.R_drewN | apply Kd.R_drew)); exact HO_284001.out))) (Kd.R_lt (by (with_reducible repeat (first | apply Kd.R_alloc | apply Kd.R_drewN | apply Kd.R_drew)); exact HO_284002.out))) (Kd.R_lt (by (with_reducible repeat (first | apply Kd.R_alloc | apply Kd.R_drewN | apply Kd.R_drew)); exact HO_310001.out))) (Kd.R_lt (by (with_reducible repeat (first | apply Kd.R_alloc | apply Kd.R_drewN | apply Kd.R_drew)); exact HO_310002.out))) (Kd.R_lt (by (with_reducible repeat (first | apply Kd.R_alloc | apply Kd.R_drewN | apply Kd.R_drew)); exact HO338.out))) (Kd.R_lt (by (with_reducible repeat (first | apply Kd.R_alloc | apply Kd.R_drewN | apply Kd.R_drew)); exact HO341.out))) (below_size (be w)))
      replace HO_284001 := As.mk (Kd.R_mono (Kd.R_told (Kd.R_told (Kd.R_old (by (with_reducible repeat (first | apply Kd.R_alloc | apply Kd.R_drewN | apply Kd.R_drew)); exact HO_284001.out) hb) (Kd.R_base ho1)) (Kd.R_base ho2)) (fun _ h_ => h_.1))
      replace HO_284002 := As.mk (Kd.R_mono (Kd.R_told (Kd.R_told (Kd.R_old (by (with_reducible repeat (first | apply Kd.R_alloc | apply Kd.R_drewN | apply Kd.R_drew)); exact HO_284002.out) hb) (Kd.R_base ho1)) (Kd.R_base ho2)) (fun _ h_ => h_.1))
      replace HO_310001 := As.mk (Kd.R_mono (Kd.R_told (Kd.R_told (Kd.R_old (by (with_reducible repeat (first | apply Kd.R_alloc | apply Kd.R_drewN | apply Kd.R_drew)); exact HO_310001.out) hb) (Kd.R_base ho1)) (Kd.R_base ho2)) (fun _ h_ => h_.1))
      replace HO_310002 := As.mk (Kd.R_mono (Kd.R_told (Kd.R_told (Kd.R_old (by (with_reducible repeat (first | apply Kd.R_alloc | apply Kd.R_drewN | apply Kd.R_drew)); exact HO_310002.out) hb) (Kd.R_base ho1)) (Kd.R_base ho2)) (fun _ h_ => h_.1))
      replace HO338 := As.mk (Kd.R_mono (Kd.R_told (Kd.R_told (Kd.R_old (by (with_reducible repeat (first | apply Kd.R_alloc | apply Kd.R_drewN | apply Kd.R_drew)); exact HO338.out) hb) (Kd.R_base ho1)) (Kd.R_base ho2)) (fun _ h_ => h_.1))
      replace HO341 := As.mk (Kd.R_mono (Kd.R_told (Kd.R_told (Kd.R_old (by (with_reducible repeat (first | apply Kd.R_alloc | apply Kd.R_drewN | apply Kd.R_drew)); exact HO341.out) hb) (Kd.R_base ho1)) (Kd.R_base ho2)) (fun _ h_ => h_.1))
      replace BK256 := As.mk (blk_below (bx BK256.out) hb)
      replace BK257 := As.mk (blk_below (bx BK257.out) hb)
      replace BK283 := As.mk (blk_below (bx BK283.out) hb)
      replace BK295 := As.mk (blk_below (bx BK295.out) hb)
      replace BK309 := As.mk (blk_below (bx BK309.out) hb)
      replace BK357 := As.mk (blk_below (bx BK357.out) hb)
      replace HB := As.mk (below_step (be w) hb)
      (try clear hb)
      (try clear hb2)
      (try clear hk)
      (try clear hi)
      (try clear ho0)
      (try clear ho1)
      (try clear ho2)
      refine hK.out _ _ ⟨(blk_cell BK256.out 0).trans rfl, (blk_cell BK256.out 1).trans rfl, (blk_cell BK256.out 2).trans rfl, (blk_cell BK256.out 3).trans rfl, (blk_cell BK256.out 4).trans rfl, (blk_cell BK257.out 0).trans rfl, (blk_cell BK257.out 1).trans rfl⟩ (fun hHeld => ?_)
      clear hK K
      refine norm_ (a' := ?_) ?_ ?_
      rotate_left
      ·
       show Act.put _ (some 69) _ = _
       simp only [pk, i64_w, i32_w]
       rfl
      exact norm_ (by simp only [putAll, Act.put, List.setIfInBounds_toArray, List.set_cons_zero, List.set_cons_succ]) (hCont (.slice Ao127 t333.length co127, .slice Ao128 t336.length co128, .slice Ao129 t339.length co129, v347, v350, v353, gb357) _ ⟨hHeld, (by (with_reducible repeat (first | apply Kd.R_alloc | apply Kd.R_drewN | apply Kd.R_drew)); exact Kd.R_mono HO335.out (fun _ hk => ⟨hk.2, ⟨hk.1.1.2, hk.1.2⟩⟩)), (by (with_reducible repeat (first | apply Kd.R_alloc | apply Kd.R_drewN | apply Kd.R_drew)); exact Kd.R_mono HO338.out (fun _ hk => ⟨hk.1.1.1.1.1.1, ⟨hk.1.2, ⟨hk.2, ⟨hk.1.1.1.1.1.2, ⟨hk.1.1.1.1.2, ⟨hk.1.1.1.2, hk.1.1.2⟩⟩⟩⟩⟩⟩)), (by (with_reducible repeat (first | apply Kd.R_alloc | apply Kd.R_drewN | apply Kd.R_drew)); exact Kd.R_mono HO341.out (fun _ hk => ⟨hk.1.1.1.1.1.1, ⟨hk.1.2, ⟨hk.2, ⟨hk.1.1.1.1.1.2, ⟨hk.1.1.1.1.2, ⟨hk.1.1.1.2, hk.1.1.2⟩⟩⟩⟩⟩⟩)), (by (with_reducible repeat (first | apply Kd.R_alloc | apply Kd.R_drewN | apply Kd.R_drew)); exact Kd.R_mono HO348.out (fun _ hk => ⟨hk.2, ⟨hk.1.1.2, hk.1.2⟩⟩)), (by (with_reducible repeat (first | apply Kd.R_alloc | apply Kd.R_drewN | apply Kd.R_drew)); exact Kd.R_mono HO351.out (fun _ hk => ⟨hk.1.2, ⟨hk.2, ⟨hk.1.1.1.1.1.1, ⟨hk.1.1.1.1.1.2, ⟨hk.1.1.1.1.2, ⟨hk.1.1.1.2, hk.1.1.2⟩⟩⟩⟩⟩⟩)), (by (with_reducible repeat (first | apply Kd.R_alloc | apply Kd.R_drewN | apply Kd.R_drew)); exact Kd.R_mono HO354.out (fun _ hk => ⟨hk.1.2, ⟨hk.2, ⟨hk.1.1.1.1.1.1, ⟨hk.1.1.1.1.1.2, ⟨hk.1.1.1.1.2, ⟨hk.1.1.1.2, hk.1.1.2⟩⟩⟩⟩⟩⟩)), (by (with_reducible repeat (first | apply Kd.R_alloc | apply Kd.R_drewN | apply Kd.R_drew)); exact Kd.R_mono HO_284000.out (fun _ hk => ⟨hk.1.2, ⟨hk.2, hk.1.1.2⟩⟩)), (by (with_reducible repeat (first | apply Kd.R_alloc | apply Kd.R_drewN | apply Kd.R_drew)); exact Kd.R_mono HO_284001.out (fun _ hk => ⟨hk.1.1.1.2, ⟨hk.1.1.2, ⟨hk.1.2, ⟨hk.2, ⟨hk.1.1.1.1.1, ⟨hk.1.1.1.1.2.2.2.1, hk.1.1.1.1.2.2.2.2⟩⟩⟩⟩⟩⟩)), (by (with_reducible repeat (first | apply Kd.R_alloc | apply Kd.R_drewN | apply Kd.R_drew)); exact Kd.R_mono HO_284002.out (fun _ hk => ⟨hk.1.1.1.2, ⟨hk.1.1.2, ⟨hk.1.2, ⟨hk.2, ⟨hk.1.1.1.1.1, ⟨hk.1.1.1.1.2.2.2.1, hk.1.1.1.1.2.2.2.2⟩⟩⟩⟩⟩⟩)), (by (with_reducible repeat (first | apply Kd.R_alloc | apply Kd.R_drewN | apply Kd.R_drew)); exact Kd.R_mono HO_310000.out (fun _ hk => ⟨hk.1.2, ⟨hk.2, hk.1.1.1⟩⟩)), (by (with_reducible repeat (first | apply Kd.R_alloc | apply Kd.R_drewN | apply Kd.R_drew)); exact Kd.R_mono HO_310001.out (fun _ hk => ⟨hk.1.1.1.2, ⟨hk.1.1.2, ⟨hk.1.2, ⟨hk.2, ⟨hk.1.1.1.1.1, ⟨hk.1.1.1.1.2.1, hk.1.1.1.1.2.2.2.2⟩⟩⟩⟩⟩⟩)), (by (with_reducible repeat (first | apply Kd.R_alloc | apply Kd.R_drewN | apply Kd.R_drew)); exact Kd.R_mono HO_310002.out (fun _ hk => ⟨hk.1.1.1.2, ⟨hk.1.1.2, ⟨hk.1.2, ⟨hk.2, ⟨hk.1.1.1.1.1, ⟨hk.1.1.1.1.2.1, hk.1.1.1.1.2.2.2.2⟩⟩⟩⟩⟩⟩)), (bx BK256.out), (bx BK257.out), (bx BK283.out), (bx BK295.out), (bx BK309.out), (bx BK357.out), GW357.out, GE357.out, NB256_357.out, NB357_256.out, NB257_357.out, NB357_257.out, NB283_357.out, NB357_283.out, NB295_357.out, NB357_295.out, NB309_357.out, NB357_309.out, (be w)⟩)
    ·
     skip
     refine box_step ?hg (N := 14) ?hd (cs := #[.slice none 0 0, .slice none 0 0, .slice none 0 0, .int .i64 0, .int .i64 0]) (t := 34) ?hr ?_; (case hd => rfl); (case hg => rfl); (case hr => first | (go_simp; done) | (go_simp; rfl))
     intro gb357 hg w125 hbox hb
     replace HO_284000 := As.mk (Kd.R_below (by (with_reducible repeat (first | apply Kd.R_alloc | apply Kd.R_drewN | apply Kd.R_drew)); exact HO_284000.out) hb)
     replace HO_284001 := As.mk (Kd.R_below (by (with_reducible repeat (first | apply Kd.R_alloc | apply Kd.R_drewN | apply Kd.R_drew)); exact HO_284001.out) hb)
     replace HO_284002 := As.mk (Kd.R_below (by (with_reducible repeat (first | apply Kd.R_alloc | apply Kd.R_drewN | apply Kd.R_drew)); exact HO_284002.out) hb)
     replace HO_310000 := As.mk (Kd.R_below (by (with_reducible repeat (first | apply Kd.R_alloc | apply Kd.R_drewN | apply Kd.R_drew)); exact HO_310000.out) hb)
     replace HO_310001 := As.mk (Kd.R_below (by (with_reducible repeat (first | apply Kd.R_alloc | apply Kd.R_drewN | apply Kd.R_drew)); exact HO_310001.out) hb)
     replace HO_310002 := As.mk (Kd.R_below (by (with_reducible repeat (first | apply Kd.R_alloc | apply Kd.R_drewN | apply Kd.R_drew)); exact HO_310002.out) hb)
     replace HO335 := As.mk (Kd.R_below (by (with_reducible repeat (first | apply Kd.R_alloc | apply Kd.R_drewN | apply Kd.R_drew)); exact HO335.out) hb)
     replace HO338 := As.mk (Kd.R_below (by (with_reducible repeat (first | apply Kd.R_alloc | apply Kd.R_drewN | apply Kd.R_drew)); exact HO338.out) hb)
     replace HO341 := As.mk (Kd.R_below (by (with_reducible repeat (first | apply Kd.R_alloc | apply Kd.R_drewN | apply Kd.R_drew)); exact HO341.out) hb)
     have BK357 := As.mk (hbox)
     have GW357 := As.mk (gs w hg)
     have GE357 := As.mk (gs w hg)
     replace HB := As.mk (below_step (be w) hb)
     have NB256_357 := As.mk (nl hg (bx BK256.out))
     have NB357_256 := As.mk (ng hg (bx BK256.out))
     replace BK256 := As.mk (blk_below (bx BK256.out) hb)
     have NB257_357 := As.mk (nl hg (bx BK257.out))
     have NB357_257 := As.mk (ng hg (bx BK257.out))
     replace BK257 := As.mk (blk_below (bx BK257.out) hb)
     have NB283_357 := As.mk (nl hg (bx BK283.out))
     have NB357_283 := As.mk (ng hg (bx BK283.out))
     replace BK283 := As.mk (blk_below (bx BK283.out) hb)
     have NB295_357 := As.mk (nl hg (bx BK295.out))
     have NB357_295 := As.mk (ng hg (bx BK295.out))
     replace BK295 := As.mk (blk_below (bx BK295.out) hb)
     have NB309_357 := As.mk (nl hg (bx BK309.out))
     have NB357_309 := As.mk (ng hg (bx BK309.out))
     replace BK309 := As.mk (blk_below (bx BK309.out) hb)
     clear hb hbox hg
     refine hK.out _ _ ⟨(blk_cell BK256.out 0).trans rfl, (blk_cell BK256.out 1).trans rfl, (blk_cell BK256.out 2).trans rfl, (blk_cell BK256.out 3).trans rfl, (blk_cell BK256.out 4).trans rfl, (blk_cell BK257.out 0).trans rfl, (blk_cell BK257.out 1).trans rfl⟩ (fun hHeld => ?_)
     clear hK K
     refine norm_ (a' := ?_) ?_ ?_
     rotate_left
     ·
      show Act.put _ (some 14) _ = _
      simp only [pk, i64_w, i32_w]
      rfl
     refine one_ (i := 3) (N := some 67) #[I, I, I, I, I, O, I, O] rfl rfl (one_of HT_.out (by kernel_rfl)) (by decide) (fun K hK => ?_)
     refine goes_ Try.func26 (by kernel_rfl) rfl #[.agg #[.int .i64 a1_0, .int .i64 a1_1]] (by rfl) rfl rfl (by (try simp only [lm]); first | done | rfl | (simp only [List.length_drop, List.length_take]; rfl)) ?_
     with_reducible refine (laws_toValue.calls a1_0 a1_1 t344 t345 _ A119.out).mono ?_
     rintro e w126 ⟨rfl, hb⟩
     refine ⟨_, rfl, ?_⟩
     replace HO_284000 := As.mk (Kd.R_below (by (with_reducible repeat (first | apply Kd.R_alloc | apply Kd.R_drewN | apply Kd.R_drew)); exact HO_284000.out) hb)
     replace HO_284001 := As.mk (Kd.R_below (by (with_reducible repeat (first | apply Kd.R_alloc | apply Kd.R_drewN | apply Kd.R_drew)); exact HO_284001.out) hb)
     replace HO_284002 := As.mk (Kd.R_below (by (with_reducible repeat (first | apply Kd.R_alloc | apply Kd.R_drewN | apply Kd.R_drew)); exact HO_284002.out) hb)
     replace HO_310000 := As.mk (Kd.R_below (by (with_reducible repeat (first | apply Kd.R_alloc | apply Kd.R_drewN | apply Kd.R_drew)); exact HO_310000.out) hb)
     replace HO_310001 := As.mk (Kd.R_below (by (with_reducible repeat (first | apply Kd.R_alloc | apply Kd.R_drewN | apply Kd.R_drew)); exact HO_310001.out) hb)
     replace HO_310002 := As.mk (Kd.R_below (by (with_reducible repeat (first | apply Kd.R_alloc | apply Kd.R_drewN | apply Kd.R_drew)); exact HO_310002.out) hb)
     replace HO335 := As.mk (Kd.R_below (by (with_reducible repeat (first | apply Kd.R_alloc | apply Kd.R_drewN | apply Kd.R_drew)); exact HO335.out) hb)
     replace HO338 := As.mk (Kd.R_below (by (with_reducible repeat (first | apply Kd.R_alloc | apply Kd.R_drewN | apply Kd.R_drew)); exact HO338.out) hb)
     replace HO341 := As.mk (Kd.R_below (by (with_reducible repeat (first | apply Kd.R_alloc | apply Kd.R_drewN | apply Kd.R_drew)); exact HO341.out) hb)
     replace BK256 := As.mk (blk_below (bx BK256.out) hb)
     replace BK257 := As.mk (blk_below (bx BK257.out) hb)
     replace BK283 := As.mk (blk_below (bx BK283.out) hb)
     replace BK295 := As.mk (blk_below (bx BK295.out) hb)
     replace BK309 := As.mk (blk_below (bx BK309.out) hb)
     replace BK357 := As.mk (blk_below (bx BK357.out) hb)
     replace HB := As.mk (below_step (be w) hb)
     (try clear hb)
     (try clear hb2)
     (try clear hk)
     (try clear hi)
     obtain ⟨Ao127, co127, eo127⟩ := Kd.R_slice HO335.out
     (first | subst eo127 | (injection eo127 with f1_ f2_ f3_; have f4_ := f1_.symm; have f5_ := f3_.symm; clear f1_ f2_ f3_; subst f4_; subst f5_))
     obtain ⟨Ao128, co128, eo128⟩ := Kd.R_slice HO338.out
     (first | subst eo128 | (injection eo128 with f1_ f2_ f3_; have f4_ := f1_.symm; have f5_ := f3_.symm; clear f1_ f2_ f3_; subst f4_; subst f5_))
     obtain ⟨Ao129, co129, eo129⟩ := Kd.R_slice HO341.out
     (first | subst eo129 | (injection eo129 with f1_ f2_ f3_; have f4_ := f1_.symm; have f5_ := f3_.symm; clear f1_ f2_ f3_; subst f4_; subst f5_))
     refine hK.out _ _ ⟨(blk_cell BK256.out 0).trans rfl, (blk_cell BK256.out 1).trans rfl, (blk_cell BK256.out 2).trans rfl, (blk_cell BK256.out 3).trans rfl, (blk_cell BK256.out 4).trans rfl, (blk_cell BK257.out 0).trans rfl, (blk_cell BK257.out 1).trans rfl⟩ (fun hHeld => ?_)
     clear hK K
     refine norm_ (a' := ?_) ?_ ?_
     rotate_left
     ·
      show Act.put _ (some 67) _ = _
      simp only [pk, i64_w, i32_w]
      rfl
     refine one_ (i := 5) (N := some 69) #[I, I, I, I, I, I, I, O] rfl rfl (one_of HT_.out (by kernel_rfl)) (by decide) (fun K hK => ?_)
     refine goes_ Try.func21 (by kernel_rfl) rfl #[.agg #[.slice Ao127 t333.length co127, .slice Ao128 t336.length co128, .slice Ao129 t339.length co129, .int .i64 t342, .int .i64 t343], .agg #[.int .i64 t344, .int .i64 t345], .int .i64 a2] (by rfl) rfl rfl (by (try simp only [lm]); first | done | rfl | (simp only [List.length_drop, List.length_take]; rfl)) ?_
     with_reducible refine (impl_Written.calls _ _ t333 _ _ t336 _ _ t339 t342 t343 t344 t345 a2 t346 t349 t352 t355 t356 _ ?side1 ?side2 ?side3 ?side4 ?side5 ?side6 A120.out).mono ?_
     (case side1 => repeat (first | exact (Kd.R_reads' HO335.out).2.2 | (with_reducible refine Kd.C_alloc ?_ _) | (with_reducible refine Kd.C_drewN ?_ _) | (with_reducible refine Kd.C_drew ?_)))
     (case side2 => exact (Kd.R_reads' HO335.out).2.1)
     (case side3 => repeat (first | exact (Kd.R_reads' HO338.out).2.2 | (with_reducible refine Kd.C_alloc ?_ _) | (with_reducible refine Kd.C_drewN ?_ _) | (with_reducible refine Kd.C_drew ?_)))
     (case side4 => exact (Kd.R_reads' HO338.out).2.1)
     (case side5 => repeat (first | exact (Kd.R_reads' HO341.out).2.2 | (with_reducible refine Kd.C_alloc ?_ _) | (with_reducible refine Kd.C_drewN ?_ _) | (with_reducible refine Kd.C_drew ?_)))
     (case side6 => exact (Kd.R_reads' HO341.out).2.1)
     rintro e w130 ⟨v347, v350, v353, rfl, ho0, ho1, ho2, hb⟩
     refine ⟨_, rfl, ?_⟩
     have HO348 := As.mk (Kd.R_lower (Kd.R_new' (Kd.R_new' (Kd.R_new' ho0 (Kd.R_lt (by (with_reducible repeat (first | apply Kd.R_alloc | apply Kd.R_drewN | apply Kd.R_drew)); exact HO_284000.out))) (Kd.R_lt (by (with_reducible repeat (first | apply Kd.R_alloc | apply Kd.R_drewN | apply Kd.R_drew)); exact HO_310000.out))) (Kd.R_lt (by (with_reducible repeat (first | apply Kd.R_alloc | apply Kd.R_drewN | apply Kd.R_drew)); exact HO335.out))) (below_size (be w)))
     replace HO_284000 := As.mk (Kd.R_elder' (by (with_reducible repeat (first | apply Kd.R_alloc | apply Kd.R_drewN | apply Kd.R_drew)); exact HO_284000.out) (Kd.R_base ho0) hb)
     replace HO_310000 := As.mk (Kd.R_elder' (by (with_reducible repeat (first | apply Kd.R_alloc | apply Kd.R_drewN | apply Kd.R_drew)); exact HO_310000.out) (Kd.R_base ho0) hb)
     replace HO335 := As.mk (Kd.R_elder' (by (with_reducible repeat (first | apply Kd.R_alloc | apply Kd.R_drewN | apply Kd.R_drew)); exact HO335.out) (Kd.R_base ho0) hb)
     have HO351 := As.mk (Kd.R_lower (Kd.R_new' (Kd.R_new' (Kd.R_new' (Kd.R_new' (Kd.R_new' (Kd.R_new' ho1 (Kd.R_lt (by (with_reducible repeat (first | apply Kd.R_alloc | apply Kd.R_drewN | apply Kd.R_drew)); exact HO_284001.out))) (Kd.R_lt (by (with_reducible repeat (first | apply Kd.R_alloc | apply Kd.R_drewN | apply Kd.R_drew)); exact HO_284002.out))) (Kd.R_lt (by (with_reducible repeat (first | apply Kd.R_alloc | apply Kd.R_drewN | apply Kd.R_drew)); exact HO_310001.out))) (Kd.R_lt (by (with_reducible repeat (first | apply Kd.R_alloc | apply Kd.R_drewN | apply Kd.R_drew)); exact HO_310002.out))) (Kd.R_lt (by (with_reducible repeat (first | apply Kd.R_alloc | apply Kd.R_drewN | apply Kd.R_drew)); exact HO338.out))) (Kd.R_lt (by (with_reducible repeat (first | apply Kd.R_alloc | apply Kd.R_drewN | apply Kd.R_drew)); exact HO341.out))) (below_size (be w)))
     have HO354 := As.mk (Kd.R_lower (Kd.R_new' (Kd.R_new' (Kd.R_new' (Kd.R_new' (Kd.R_new' (Kd.R_new' ho2 (Kd.R_lt (by (with_reducible repeat (first | apply Kd.R_alloc | apply Kd.R_drewN | apply Kd.R_drew)); exact HO_284001.out))) (Kd.R_lt (by (with_reducible repeat (first | apply Kd.R_alloc | apply Kd.R_drewN | apply Kd.R_drew)); exact HO_284002.out))) (Kd.R_lt (by (with_reducible repeat (first | apply Kd.R_alloc | apply Kd.R_drewN | apply Kd.R_drew)); exact HO_310001.out))) (Kd.R_lt (by (with_reducible repeat (first | apply Kd.R_alloc | apply Kd.R_drewN | apply Kd.R_drew)); exact HO_310002.out))) (Kd.R_lt (by (with_reducible repeat (first | apply Kd.R_alloc | apply Kd.R_drewN | apply Kd.R_drew)); exact HO338.out))) (Kd.R_lt (by (with_reducible repeat (first | apply Kd.R_alloc | apply Kd.R_drewN | apply Kd.R_drew)); exact HO341.out))) (below_size (be w)))
     replace HO_284001 := As.mk (Kd.R_mono (Kd.R_told (Kd.R_told (Kd.R_old (by (with_reducible repeat (first | apply Kd.R_alloc | apply Kd.R_drewN | apply Kd.R_drew)); exact HO_284001.out) hb) (Kd.R_base ho1)) (Kd.R_base ho2)) (fun _ h_ => h_.1))
     replace HO_284002 := As.mk (Kd.R_mono (Kd.R_told (Kd.R_told (Kd.R_old (by (with_reducible repeat (first | apply Kd.R_alloc | apply Kd.R_drewN | apply Kd.R_drew)); exact HO_284002.out) hb) (Kd.R_base ho1)) (Kd.R_base ho2)) (fun _ h_ => h_.1))
     replace HO_310001 := As.mk (Kd.R_mono (Kd.R_told (Kd.R_told (Kd.R_old (by (with_reducible repeat (first | apply Kd.R_alloc | apply Kd.R_drewN | apply Kd.R_drew)); exact HO_310001.out) hb) (Kd.R_base ho1)) (Kd.R_base ho2)) (fun _ h_ => h_.1))
     replace HO_310002 := As.mk (Kd.R_mono (Kd.R_told (Kd.R_told (Kd.R_old (by (with_reducible repeat (first | apply Kd.R_alloc | apply Kd.R_drewN | apply Kd.R_drew)); exact HO_310002.out) hb) (Kd.R_base ho1)) (Kd.R_base ho2)) (fun _ h_ => h_.1))
     replace HO338 := As.mk (Kd.R_mono (Kd.R_told (Kd.R_told (Kd.R_old (by (with_reducible repeat (first | apply Kd.R_alloc | apply Kd.R_drewN | apply Kd.R_drew)); exact HO338.out) hb) (Kd.R_base ho1)) (Kd.R_base ho2)) (fun _ h_ => h_.1))
     replace HO341 := As.mk (Kd.R_mono (Kd.R_told (Kd.R_told (Kd.R_old (by (with_reducible repeat (first | apply Kd.R_alloc | apply Kd.R_drewN | apply Kd.R_drew)); exact HO341.out) hb) (Kd.R_base ho1)) (Kd.R_base ho2)) (fun _ h_ => h_.1))
     replace BK256 := As.mk (blk_below (bx BK256.out) hb)
     replace BK257 := As.mk (blk_below (bx BK257.out) hb)
     replace BK283 := As.mk (blk_below (bx BK283.out) hb)
     replace BK295 := As.mk (blk_below (bx BK295.out) hb)
     replace BK309 := As.mk (blk_below (bx BK309.out) hb)
     replace BK357 := As.mk (blk_below (bx BK357.out) hb)
     replace HB := As.mk (below_step (be w) hb)
     (try clear hb)
     (try clear hb2)
     (try clear hk)
     (try clear hi)
     (try clear ho0)
     (try clear ho1)
     (try clear ho2)
     refine hK.out _ _ ⟨(blk_cell BK256.out 0).trans rfl, (blk_cell BK256.out 1).trans rfl, (blk_cell BK256.out 2).trans rfl, (blk_cell BK256.out 3).trans rfl, (blk_cell BK256.out 4).trans rfl, (blk_cell BK257.out 0).trans rfl, (blk_cell BK257.out 1).trans rfl⟩ (fun hHeld => ?_)
     clear hK K
     refine norm_ (a' := ?_) ?_ ?_
     rotate_left
     ·
      show Act.put _ (some 69) _ = _
      simp only [pk, i64_w, i32_w]
      rfl
     exact norm_ (by simp only [putAll, Act.put, List.setIfInBounds_toArray, List.set_cons_zero, List.set_cons_succ]) (hCont (.slice Ao127 t333.length co127, .slice Ao128 t336.length co128, .slice Ao129 t339.length co129, v347, v350, v353, gb357) _ ⟨hHeld, (by (with_reducible repeat (first | apply Kd.R_alloc | apply Kd.R_drewN | apply Kd.R_drew)); exact Kd.R_mono HO335.out (fun _ hk => ⟨hk.2, ⟨hk.1.1.2, hk.1.2⟩⟩)), (by (with_reducible repeat (first | apply Kd.R_alloc | apply Kd.R_drewN | apply Kd.R_drew)); exact Kd.R_mono HO338.out (fun _ hk => ⟨hk.1.1.1.1.1.1, ⟨hk.1.2, ⟨hk.2, ⟨hk.1.1.1.1.1.2, ⟨hk.1.1.1.1.2, ⟨hk.1.1.1.2, hk.1.1.2⟩⟩⟩⟩⟩⟩)), (by (with_reducible repeat (first | apply Kd.R_alloc | apply Kd.R_drewN | apply Kd.R_drew)); exact Kd.R_mono HO341.out (fun _ hk => ⟨hk.1.1.1.1.1.1, ⟨hk.1.2, ⟨hk.2, ⟨hk.1.1.1.1.1.2, ⟨hk.1.1.1.1.2, ⟨hk.1.1.1.2, hk.1.1.2⟩⟩⟩⟩⟩⟩)), (by (with_reducible repeat (first | apply Kd.R_alloc | apply Kd.R_drewN | apply Kd.R_drew)); exact Kd.R_mono HO348.out (fun _ hk => ⟨hk.2, ⟨hk.1.1.2, hk.1.2⟩⟩)), (by (with_reducible repeat (first | apply Kd.R_alloc | apply Kd.R_drewN | apply Kd.R_drew)); exact Kd.R_mono HO351.out (fun _ hk => ⟨hk.1.2, ⟨hk.2, ⟨hk.1.1.1.1.1.1, ⟨hk.1.1.1.1.1.2, ⟨hk.1.1.1.1.2, ⟨hk.1.1.1.2, hk.1.1.2⟩⟩⟩⟩⟩⟩)), (by (with_reducible repeat (first | apply Kd.R_alloc | apply Kd.R_drewN | apply Kd.R_drew)); exact Kd.R_mono HO354.out (fun _ hk => ⟨hk.1.2, ⟨hk.2, ⟨hk.1.1.1.1.1.1, ⟨hk.1.1.1.1.1.2, ⟨hk.1.1.1.1.2, ⟨hk.1.1.1.2, hk.1.1.2⟩⟩⟩⟩⟩⟩)), (by (with_reducible repeat (first | apply Kd.R_alloc | apply Kd.R_drewN | apply Kd.R_drew)); exact Kd.R_mono HO_284000.out (fun _ hk => ⟨hk.1.2, ⟨hk.2, hk.1.1.2⟩⟩)), (by (with_reducible repeat (first | apply Kd.R_alloc | apply Kd.R_drewN | apply Kd.R_drew)); exact Kd.R_mono HO_284001.out (fun _ hk => ⟨hk.1.1.1.2, ⟨hk.1.1.2, ⟨hk.1.2, ⟨hk.2, ⟨hk.1.1.1.1.1, ⟨hk.1.1.1.1.2.2.2.1, hk.1.1.1.1.2.2.2.2⟩⟩⟩⟩⟩⟩)), (by (with_reducible repeat (first | apply Kd.R_alloc | apply Kd.R_drewN | apply Kd.R_drew)); exact Kd.R_mono HO_284002.out (fun _ hk => ⟨hk.1.1.1.2, ⟨hk.1.1.2, ⟨hk.1.2, ⟨hk.2, ⟨hk.1.1.1.1.1, ⟨hk.1.1.1.1.2.2.2.1, hk.1.1.1.1.2.2.2.2⟩⟩⟩⟩⟩⟩)), (by (with_reducible repeat (first | apply Kd.R_alloc | apply Kd.R_drewN | apply Kd.R_drew)); exact Kd.R_mono HO_310000.out (fun _ hk => ⟨hk.1.2, ⟨hk.2, hk.1.1.1⟩⟩)), (by (with_reducible repeat (first | apply Kd.R_alloc | apply Kd.R_drewN | apply Kd.R_drew)); exact Kd.R_mono HO_310001.out (fun _ hk => ⟨hk.1.1.1.2, ⟨hk.1.1.2, ⟨hk.1.2, ⟨hk.2, ⟨hk.1.1.1.1.1, ⟨hk.1.1.1.1.2.1, hk.1.1.1.1.2.2.2.2⟩⟩⟩⟩⟩⟩)), (by (with_reducible repeat (first | apply Kd.R_alloc | apply Kd.R_drewN | apply Kd.R_drew)); exact Kd.R_mono HO_310002.out (fun _ hk => ⟨hk.1.1.1.2, ⟨hk.1.1.2, ⟨hk.1.2, ⟨hk.2, ⟨hk.1.1.1.1.1, ⟨hk.1.1.1.1.2.1, hk.1.1.1.1.2.2.2.2⟩⟩⟩⟩⟩⟩)), (bx BK256.out), (bx BK257.out), (bx BK283.out), (bx BK295.out), (bx BK309.out), (bx BK357.out), GW357.out, GE357.out, NB256_357.out, NB357_256.out, NB257_357.out, NB357_257.out, NB283_357.out, NB357_283.out, NB295_357.out, NB357_295.out, NB309_357.out, NB357_309.out, (be w)⟩)
   ·
    skip
    refine box_step ?hg (N := 14) ?hd (cs := #[.slice none 0 0, .slice none 0 0, .slice none 0 0, .int .i64 0, .int .i64 0]) (t := 34) ?hr ?_; (case hd => rfl); (case hg => rfl); (case hr => first | (go_simp; done) | (go_simp; rfl))
    intro gb357 hg w124 hbox hb
    replace HO_284000 := As.mk (Kd.R_below (by (with_reducible repeat (first | apply Kd.R_alloc | apply Kd.R_drewN | apply Kd.R_drew)); exact HO_284000.out) hb)
    replace HO_284001 := As.mk (Kd.R_below (by (with_reducible repeat (first | apply Kd.R_alloc | apply Kd.R_drewN | apply Kd.R_drew)); exact HO_284001.out) hb)
    replace HO_284002 := As.mk (Kd.R_below (by (with_reducible repeat (first | apply Kd.R_alloc | apply Kd.R_drewN | apply Kd.R_drew)); exact HO_284002.out) hb)
    replace HO_310000 := As.mk (Kd.R_below (by (with_reducible repeat (first | apply Kd.R_alloc | apply Kd.R_drewN | apply Kd.R_drew)); exact HO_310000.out) hb)
    replace HO_310001 := As.mk (Kd.R_below (by (with_reducible repeat (first | apply Kd.R_alloc | apply Kd.R_drewN | apply Kd.R_drew)); exact HO_310001.out) hb)
    replace HO_310002 := As.mk (Kd.R_below (by (with_reducible repeat (first | apply Kd.R_alloc | apply Kd.R_drewN | apply Kd.R_drew)); exact HO_310002.out) hb)
    have BK357 := As.mk (hbox)
    have GW357 := As.mk (gs w hg)
    have GE357 := As.mk (gs w hg)
    replace HB := As.mk (below_step (be w) hb)
    have NB256_357 := As.mk (nl hg (bx BK256.out))
    have NB357_256 := As.mk (ng hg (bx BK256.out))
    replace BK256 := As.mk (blk_below (bx BK256.out) hb)
    have NB257_357 := As.mk (nl hg (bx BK257.out))
    have NB357_257 := As.mk (ng hg (bx BK257.out))
    replace BK257 := As.mk (blk_below (bx BK257.out) hb)
    have NB283_357 := As.mk (nl hg (bx BK283.out))
    have NB357_283 := As.mk (ng hg (bx BK283.out))
    replace BK283 := As.mk (blk_below (bx BK283.out) hb)
    have NB295_357 := As.mk (nl hg (bx BK295.out))
    have NB357_295 := As.mk (ng hg (bx BK295.out))
    replace BK295 := As.mk (blk_below (bx BK295.out) hb)
    have NB309_357 := As.mk (nl hg (bx BK309.out))
    have NB357_309 := As.mk (ng hg (bx BK309.out))
    replace BK309 := As.mk (blk_below (bx BK309.out) hb)
    clear hb hbox hg
    refine hK.out _ _ ⟨(blk_cell BK256.out 0).trans rfl, (blk_cell BK256.out 1).trans rfl, (blk_cell BK256.out 2).trans rfl, (blk_cell BK256.out 3).trans rfl, (blk_cell BK256.out 4).trans rfl, (blk_cell BK257.out 0).trans rfl, (blk_cell BK257.out 1).trans rfl⟩ (fun hHeld => ?_)
    clear hK K
    refine norm_ (a' := ?_) ?_ ?_
    rotate_left
    ·
     show Act.put _ (some 14) _ = _
     simp only [pk, i64_w, i32_w]
     rfl
    refine one_ (i := 1) (N := some 65) #[I, I, I, O, I, O, I, O] rfl rfl (one_of HT_.out (by kernel_rfl)) (by decide) (fun K hK => ?_)
    refine goes_ Try.func25 (by kernel_rfl) rfl #[.agg #[.slice A0_0 l0_0.length c0_0, .slice A0_1 l0_1.length c0_1, .slice A0_2 l0_2.length c0_2, .int .i64 a0_3, .int .i64 a0_4]] (by rfl) rfl rfl (by (try simp only [lm]); first | done | rfl | (simp only [List.length_drop, List.length_take]; rfl)) ?_
    with_reducible refine (laws_toMemory.calls kj115 _ _ l0_0 _ _ l0_1 _ _ l0_2 a0_3 a0_4 t333 t336 t339 t342 t343 _ ?side1 ?side2 ?side3 ?side4 ?side5 ?side6 A118.out).mono ?_
    (case side1 => exact Kd.C_below HR0_0.out (be w))
    (case side2 => exact HC0_0.out)
    (case side3 => exact Kd.C_below HR0_1.out (be w))
    (case side4 => exact HC0_1.out)
    (case side5 => exact Kd.C_below HR0_2.out (be w))
    (case side6 => exact HC0_2.out)
    rintro e w125 ⟨v334, v337, v340, rfl, ho0, ho1, ho2, hb⟩
    refine ⟨_, rfl, ?_⟩
    have HO335 := As.mk (Kd.R_lower (Kd.R_new' (Kd.R_new' ho0 (Kd.R_lt (by (with_reducible repeat (first | apply Kd.R_alloc | apply Kd.R_drewN | apply Kd.R_drew)); exact HO_284000.out))) (Kd.R_lt (by (with_reducible repeat (first | apply Kd.R_alloc | apply Kd.R_drewN | apply Kd.R_drew)); exact HO_310000.out))) (below_size (be w)))
    replace HO_284000 := As.mk (Kd.R_elder' (by (with_reducible repeat (first | apply Kd.R_alloc | apply Kd.R_drewN | apply Kd.R_drew)); exact HO_284000.out) (Kd.R_base ho0) hb)
    replace HO_310000 := As.mk (Kd.R_elder' (by (with_reducible repeat (first | apply Kd.R_alloc | apply Kd.R_drewN | apply Kd.R_drew)); exact HO_310000.out) (Kd.R_base ho0) hb)
    have HO338 := As.mk (Kd.R_lower (Kd.R_new' (Kd.R_new' (Kd.R_new' (Kd.R_new' ho1 (Kd.R_lt (by (with_reducible repeat (first | apply Kd.R_alloc | apply Kd.R_drewN | apply Kd.R_drew)); exact HO_284001.out))) (Kd.R_lt (by (with_reducible repeat (first | apply Kd.R_alloc | apply Kd.R_drewN | apply Kd.R_drew)); exact HO_284002.out))) (Kd.R_lt (by (with_reducible repeat (first | apply Kd.R_alloc | apply Kd.R_drewN | apply Kd.R_drew)); exact HO_310001.out))) (Kd.R_lt (by (with_reducible repeat (first | apply Kd.R_alloc | apply Kd.R_drewN | apply Kd.R_drew)); exact HO_310002.out))) (below_size (be w)))
    have HO341 := As.mk (Kd.R_lower (Kd.R_new' (Kd.R_new' (Kd.R_new' (Kd.R_new' ho2 (Kd.R_lt (by (with_reducible repeat (first | apply Kd.R_alloc | apply Kd.R_drewN | apply Kd.R_drew)); exact HO_284001.out))) (Kd.R_lt (by (with_reducible repeat (first | apply Kd.R_alloc | apply Kd.R_drewN | apply Kd.R_drew)); exact HO_284002.out))) (Kd.R_lt (by (with_reducible repeat (first | apply Kd.R_alloc | apply Kd.R_drewN | apply Kd.R_drew)); exact HO_310001.out))) (Kd.R_lt (by (with_reducible repeat (first | apply Kd.R_alloc | apply Kd.R_drewN | apply Kd.R_drew)); exact HO_310002.out))) (below_size (be w)))
    replace HO_284001 := As.mk (Kd.R_mono (Kd.R_told (Kd.R_told (Kd.R_old (by (with_reducible repeat (first | apply Kd.R_alloc | apply Kd.R_drewN | apply Kd.R_drew)); exact HO_284001.out) hb) (Kd.R_base ho1)) (Kd.R_base ho2)) (fun _ h_ => h_.1))
    replace HO_284002 := As.mk (Kd.R_mono (Kd.R_told (Kd.R_told (Kd.R_old (by (with_reducible repeat (first | apply Kd.R_alloc | apply Kd.R_drewN | apply Kd.R_drew)); exact HO_284002.out) hb) (Kd.R_base ho1)) (Kd.R_base ho2)) (fun _ h_ => h_.1))
    replace HO_310001 := As.mk (Kd.R_mono (Kd.R_told (Kd.R_told (Kd.R_old (by (with_reducible repeat (first | apply Kd.R_alloc | apply Kd.R_drewN | apply Kd.R_drew)); exact HO_310001.out) hb) (Kd.R_base ho1)) (Kd.R_base ho2)) (fun _ h_ => h_.1))
    replace HO_310002 := As.mk (Kd.R_mono (Kd.R_told (Kd.R_told (Kd.R_old (by (with_reducible repeat (first | apply Kd.R_alloc | apply Kd.R_drewN | apply Kd.R_drew)); exact HO_310002.out) hb) (Kd.R_base ho1)) (Kd.R_base ho2)) (fun _ h_ => h_.1))
    replace BK256 := As.mk (blk_below (bx BK256.out) hb)
    replace BK257 := As.mk (blk_below (bx BK257.out) hb)
    replace BK283 := As.mk (blk_below (bx BK283.out) hb)
    replace BK295 := As.mk (blk_below (bx BK295.out) hb)
    replace BK309 := As.mk (blk_below (bx BK309.out) hb)
    replace BK357 := As.mk (blk_below (bx BK357.out) hb)
    replace HB := As.mk (below_step (be w) hb)
    (try clear hb)
    (try clear hb2)
    (try clear hk)
    (try clear hi)
    (try clear ho0)
    (try clear ho1)
    (try clear ho2)
    refine hK.out _ _ ⟨(blk_cell BK256.out 0).trans rfl, (blk_cell BK256.out 1).trans rfl, (blk_cell BK256.out 2).trans rfl, (blk_cell BK256.out 3).trans rfl, (blk_cell BK256.out 4).trans rfl, (blk_cell BK257.out 0).trans rfl, (blk_cell BK257.out 1).trans rfl⟩ (fun hHeld => ?_)
    clear hK K
    refine norm_ (a' := ?_) ?_ ?_
    rotate_left
    ·
     show Act.put _ (some 65) _ = _
     simp only [pk, i64_w, i32_w]
     rfl
    refine one_ (i := 3) (N := some 67) #[I, I, I, I, I, O, I, O] rfl rfl (one_of HT_.out (by kernel_rfl)) (by decide) (fun K hK => ?_)
    refine goes_ Try.func26 (by kernel_rfl) rfl #[.agg #[.int .i64 a1_0, .int .i64 a1_1]] (by rfl) rfl rfl (by (try simp only [lm]); first | done | rfl | (simp only [List.length_drop, List.length_take]; rfl)) ?_
    with_reducible refine (laws_toValue.calls a1_0 a1_1 t344 t345 _ A119.out).mono ?_
    rintro e w126 ⟨rfl, hb⟩
    refine ⟨_, rfl, ?_⟩
    replace HO_284000 := As.mk (Kd.R_below (by (with_reducible repeat (first | apply Kd.R_alloc | apply Kd.R_drewN | apply Kd.R_drew)); exact HO_284000.out) hb)
    replace HO_284001 := As.mk (Kd.R_below (by (with_reducible repeat (first | apply Kd.R_alloc | apply Kd.R_drewN | apply Kd.R_drew)); exact HO_284001.out) hb)
    replace HO_284002 := As.mk (Kd.R_below (by (with_reducible repeat (first | apply Kd.R_alloc | apply Kd.R_drewN | apply Kd.R_drew)); exact HO_284002.out) hb)
    replace HO_310000 := As.mk (Kd.R_below (by (with_reducible repeat (first | apply Kd.R_alloc | apply Kd.R_drewN | apply Kd.R_drew)); exact HO_310000.out) hb)
    replace HO_310001 := As.mk (Kd.R_below (by (with_reducible repeat (first | apply Kd.R_alloc | apply Kd.R_drewN | apply Kd.R_drew)); exact HO_310001.out) hb)
    replace HO_310002 := As.mk (Kd.R_below (by (with_reducible repeat (first | apply Kd.R_alloc | apply Kd.R_drewN | apply Kd.R_drew)); exact HO_310002.out) hb)
    replace HO335 := As.mk (Kd.R_below (by (with_reducible repeat (first | apply Kd.R_alloc | apply Kd.R_drewN | apply Kd.R_drew)); exact HO335.out) hb)
    replace HO338 := As.mk (Kd.R_below (by (with_reducible repeat (first | apply Kd.R_alloc | apply Kd.R_drewN | apply Kd.R_drew)); exact HO338.out) hb)
    replace HO341 := As.mk (Kd.R_below (by (with_reducible repeat (first | apply Kd.R_alloc | apply Kd.R_drewN | apply Kd.R_drew)); exact HO341.out) hb)
    replace BK256 := As.mk (blk_below (bx BK256.out) hb)
    replace BK257 := As.mk (blk_below (bx BK257.out) hb)
    replace BK283 := As.mk (blk_below (bx BK283.out) hb)
    replace BK295 := As.mk (blk_below (bx BK295.out) hb)
    replace BK309 := As.mk (blk_below (bx BK309.out) hb)
    replace BK357 := As.mk (blk_below (bx BK357.out) hb)
    replace HB := As.mk (below_step (be w) hb)
    (try clear hb)
    (try clear hb2)
    (try clear hk)
    (try clear hi)
    obtain ⟨Ao127, co127, eo127⟩ := Kd.R_slice HO335.out
    (first | subst eo127 | (injection eo127 with f1_ f2_ f3_; have f4_ := f1_.symm; have f5_ := f3_.symm; clear f1_ f2_ f3_; subst f4_; subst f5_))
    obtain ⟨Ao128, co128, eo128⟩ := Kd.R_slice HO338.out
    (first | subst eo128 | (injection eo128 with f1_ f2_ f3_; have f4_ := f1_.symm; have f5_ := f3_.symm; clear f1_ f2_ f3_; subst f4_; subst f5_))
    obtain ⟨Ao129, co129, eo129⟩ := Kd.R_slice HO341.out
    (first | subst eo129 | (injection eo129 with f1_ f2_ f3_; have f4_ := f1_.symm; have f5_ := f3_.symm; clear f1_ f2_ f3_; subst f4_; subst f5_))
    refine hK.out _ _ ⟨(blk_cell BK256.out 0).trans rfl, (blk_cell BK256.out 1).trans rfl, (blk_cell BK256.out 2).trans rfl, (blk_cell BK256.out 3).trans rfl, (blk_cell BK256.out 4).trans rfl, (blk_cell BK257.out 0).trans rfl, (blk_cell BK257.out 1).trans rfl⟩ (fun hHeld => ?_)
    clear hK K
    refine norm_ (a' := ?_) ?_ ?_
    rotate_left
    ·
     show Act.put _ (some 67) _ = _
     simp only [pk, i64_w, i32_w]
     rfl
    refine one_ (i := 5) (N := some 69) #[I, I, I, I, I, I, I, O] rfl rfl (one_of HT_.out (by kernel_rfl)) (by decide) (fun K hK => ?_)
    refine goes_ Try.func21 (by kernel_rfl) rfl #[.agg #[.slice Ao127 t333.length co127, .slice Ao128 t336.length co128, .slice Ao129 t339.length co129, .int .i64 t342, .int .i64 t343], .agg #[.int .i64 t344, .int .i64 t345], .int .i64 a2] (by rfl) rfl rfl (by (try simp only [lm]); first | done | rfl | (simp only [List.length_drop, List.length_take]; rfl)) ?_
    with_reducible refine (impl_Written.calls _ _ t333 _ _ t336 _ _ t339 t342 t343 t344 t345 a2 t346 t349 t352 t355 t356 _ ?side1 ?side2 ?side3 ?side4 ?side5 ?side6 A120.out).mono ?_
    (case side1 => repeat (first | exact (Kd.R_reads' HO335.out).2.2 | (with_reducible refine Kd.C_alloc ?_ _) | (with_reducible refine Kd.C_drewN ?_ _) | (with_reducible refine Kd.C_drew ?_)))
    (case side2 => exact (Kd.R_reads' HO335.out).2.1)
    (case side3 => repeat (first | exact (Kd.R_reads' HO338.out).2.2 | (with_reducible refine Kd.C_alloc ?_ _) | (with_reducible refine Kd.C_drewN ?_ _) | (with_reducible refine Kd.C_drew ?_)))
    (case side4 => exact (Kd.R_reads' HO338.out).2.1)
    (case side5 => repeat (first | exact (Kd.R_reads' HO341.out).2.2 | (with_reducible refine Kd.C_alloc ?_ _) | (with_reducible refine Kd.C_drewN ?_ _) | (with_reducible refine Kd.C_drew ?_)))
    (case side6 => exact (Kd.R_reads' HO341.out).2.1)
    rintro e w130 ⟨v347, v350, v353, rfl, ho0, ho1, ho2, hb⟩
    refine ⟨_, rfl, ?_⟩
    have HO348 := As.mk (Kd.R_lower (Kd.R_new' (Kd.R_new' (Kd.R_new' ho0 (Kd.R_lt (by (with_reducible repeat (first | apply Kd.R_alloc | apply Kd.R_drewN | apply Kd.R_drew)); exact HO_284000.out))) (Kd.R_lt (by (with_reducible repeat (first | apply Kd.R_alloc | apply Kd.R_drewN | apply Kd.R_drew)); exact HO_310000.out))) (Kd.R_lt (by (with_reducible repeat (first | apply Kd.R_alloc | apply Kd.R_drewN | apply Kd.R_drew)); exact HO335.out))) (below_size (be w)))
    replace HO_284000 := As.mk (Kd.R_elder' (by (with_reducible repeat (first | apply Kd.R_alloc | apply Kd.R_drewN | apply Kd.R_drew)); exact HO_284000.out) (Kd.R_base ho0) hb)
    replace HO_310000 := As.mk (Kd.R_elder' (by (with_reducible repeat (first | apply Kd.R_alloc | apply Kd.R_drewN | apply Kd.R_drew)); exact HO_310000.out) (Kd.R_base ho0) hb)
    replace HO335 := As.mk (Kd.R_elder' (by (with_reducible repeat (first | apply Kd.R_alloc | apply Kd.R_drewN | apply Kd.R_drew)); exact HO335.out) (Kd.R_base ho0) hb)
    have HO351 := As.mk (Kd.R_lower (Kd.R_new' (Kd.R_new' (Kd.R_new' (Kd.R_new' (Kd.R_new' (Kd.R_new' ho1 (Kd.R_lt (by (with_reducible repeat (first | apply Kd.R_alloc | apply Kd.R_drewN | apply Kd.R_drew)); exact HO_284001.out))) (Kd.R_lt (by (with_reducible repeat (first | apply Kd.R_alloc | apply Kd.R_drewN | apply Kd.R_drew)); exact HO_284002.out))) (Kd.R_lt (by (with_reducible repeat (first | apply Kd.R_alloc | apply Kd.R_drewN | apply Kd.R_drew)); exact HO_310001.out))) (Kd.R_lt (by (with_reducible repeat (first | apply Kd.R_alloc | apply Kd.R_drewN | apply Kd.R_drew)); exact HO_310002.out))) (Kd.R_lt (by (with_reducible repeat (first | apply Kd.R_alloc | apply Kd.R_drewN | apply Kd.R_drew)); exact HO338.out))) (Kd.R_lt (by (with_reducible repeat (first | apply Kd.R_alloc | apply Kd.R_drewN | apply Kd.R_drew)); exact HO341.out))) (below_size (be w)))
    have HO354 := As.mk (Kd.R_lower (Kd.R_new' (Kd.R_new' (Kd.R_new' (Kd.R_new' (Kd.R_new' (Kd.R_new' ho2 (Kd.R_lt (by (with_reducible repeat (first | apply Kd.R_alloc | apply Kd.R_drewN | apply Kd.R_drew)); exact HO_284001.out))) (Kd.R_lt (by (with_reducible repeat (first | apply Kd.R_alloc | apply Kd.R_drewN | apply Kd.R_drew)); exact HO_284002.out))) (Kd.R_lt (by (with_reducible repeat (first | apply Kd.R_alloc | apply Kd.R_drewN | apply Kd.R_drew)); exact HO_310001.out))) (Kd.R_lt (by (with_reducible repeat (first | apply Kd.R_alloc | apply Kd.R_drewN | apply Kd.R_drew)); exact HO_310002.out))) (Kd.R_lt (by (with_reducible repeat (first | apply Kd.R_alloc | apply Kd.R_drewN | apply Kd.R_drew)); exact HO338.out))) (Kd.R_lt (by (with_reducible repeat (first | apply Kd.R_alloc | apply Kd.R_drewN | apply Kd.R_drew)); exact HO341.out))) (below_size (be w)))
    replace HO_284001 := As.mk (Kd.R_mono (Kd.R_told (Kd.R_told (Kd.R_old (by (with_reducible repeat (first | apply Kd.R_alloc | apply Kd.R_drewN | apply Kd.R_drew)); exact HO_284001.out) hb) (Kd.R_base ho1)) (Kd.R_base ho2)) (fun _ h_ => h_.1))
    replace HO_284002 := As.mk (Kd.R_mono (Kd.R_told (Kd.R_told (Kd.R_old (by (with_reducible repeat (first | apply Kd.R_alloc | apply Kd.R_drewN | apply Kd.R_drew)); exact HO_284002.out) hb) (Kd.R_base ho1)) (Kd.R_base ho2)) (fun _ h_ => h_.1))
    replace HO_310001 := As.mk (Kd.R_mono (Kd.R_told (Kd.R_told (Kd.R_old (by (with_reducible repeat (first | apply Kd.R_alloc | apply Kd.R_drewN | apply Kd.R_drew)); exact HO_310001.out) hb) (Kd.R_base ho1)) (Kd.R_base ho2)) (fun _ h_ => h_.1))
    replace HO_310002 := As.mk (Kd.R_mono (Kd.R_told (Kd.R_told (Kd.R_old (by (with_reducible repeat (first | apply Kd.R_alloc | apply Kd.R_drewN | apply Kd.R_drew)); exact HO_310002.out) hb) (Kd.R_base ho1)) (Kd.R_base ho2)) (fun _ h_ => h_.1))
    replace HO338 := As.mk (Kd.R_mono (Kd.R_told (Kd.R_told (Kd.R_old (by (with_reducible repeat (first | apply Kd.R_alloc | apply Kd.R_drewN | apply Kd.R_drew)); exact HO338.out) hb) (Kd.R_base ho1)) (Kd.R_base ho2)) (fun _ h_ => h_.1))
    replace HO341 := As.mk (Kd.R_mono (Kd.R_told (Kd.R_told (Kd.R_old (by (with_reducible repeat (first | apply Kd.R_alloc | apply Kd.R_drewN | apply Kd.R_drew)); exact HO341.out) hb) (Kd.R_base ho1)) (Kd.R_base ho2)) (fun _ h_ => h_.1))
    replace BK256 := As.mk (blk_below (bx BK256.out) hb)
    replace BK257 := As.mk (blk_below (bx BK257.out) hb)
    replace BK283 := As.mk (blk_below (bx BK283.out) hb)
    replace BK295 := As.mk (blk_below (bx BK295.out) hb)
    replace BK309 := As.mk (blk_below (bx BK309.out) hb)
    replace BK357 := As.mk (blk_below (bx BK357.out) hb)
    replace HB := As.mk (below_step (be w) hb)
    (try clear hb)
    (try clear hb2)
    (try clear hk)
    (try clear hi)
    (try clear ho0)
    (try clear ho1)
    (try clear ho2)
    refine hK.out _ _ ⟨(blk_cell BK256.out 0).trans rfl, (blk_cell BK256.out 1).trans rfl, (blk_cell BK256.out 2).trans rfl, (blk_cell BK256.out 3).trans rfl, (blk_cell BK256.out 4).trans rfl, (blk_cell BK257.out 0).trans rfl, (blk_cell BK257.out 1).trans rfl⟩ (fun hHeld => ?_)
    clear hK K
    refine norm_ (a' := ?_) ?_ ?_
    rotate_left
    ·
     show Act.put _ (some 69) _ = _
     simp only [pk, i64_w, i32_w]
     rfl
    exact norm_ (by simp only [putAll, Act.put, List.setIfInBounds_toArray, List.set_cons_zero, List.set_cons_succ]) (hCont (.slice Ao127 t333.length co127, .slice Ao128 t336.length co128, .slice Ao129 t339.length co129, v347, v350, v353, gb357) _ ⟨hHeld, (by (with_reducible repeat (first | apply Kd.R_alloc | apply Kd.R_drewN | apply Kd.R_drew)); exact Kd.R_mono HO335.out (fun _ hk => ⟨hk.2, ⟨hk.1.1.2, hk.1.2⟩⟩)), (by (with_reducible repeat (first | apply Kd.R_alloc | apply Kd.R_drewN | apply Kd.R_drew)); exact Kd.R_mono HO338.out (fun _ hk => ⟨hk.1.1.1.1.1.1, ⟨hk.1.2, ⟨hk.2, ⟨hk.1.1.1.1.1.2, ⟨hk.1.1.1.1.2, ⟨hk.1.1.1.2, hk.1.1.2⟩⟩⟩⟩⟩⟩)), (by (with_reducible repeat (first | apply Kd.R_alloc | apply Kd.R_drewN | apply Kd.R_drew)); exact Kd.R_mono HO341.out (fun _ hk => ⟨hk.1.1.1.1.1.1, ⟨hk.1.2, ⟨hk.2, ⟨hk.1.1.1.1.1.2, ⟨hk.1.1.1.1.2, ⟨hk.1.1.1.2, hk.1.1.2⟩⟩⟩⟩⟩⟩)), (by (with_reducible repeat (first | apply Kd.R_alloc | apply Kd.R_drewN | apply Kd.R_drew)); exact Kd.R_mono HO348.out (fun _ hk => ⟨hk.2, ⟨hk.1.1.2, hk.1.2⟩⟩)), (by (with_reducible repeat (first | apply Kd.R_alloc | apply Kd.R_drewN | apply Kd.R_drew)); exact Kd.R_mono HO351.out (fun _ hk => ⟨hk.1.2, ⟨hk.2, ⟨hk.1.1.1.1.1.1, ⟨hk.1.1.1.1.1.2, ⟨hk.1.1.1.1.2, ⟨hk.1.1.1.2, hk.1.1.2⟩⟩⟩⟩⟩⟩)), (by (with_reducible repeat (first | apply Kd.R_alloc | apply Kd.R_drewN | apply Kd.R_drew)); exact Kd.R_mono HO354.out (fun _ hk => ⟨hk.1.2, ⟨hk.2, ⟨hk.1.1.1.1.1.1, ⟨hk.1.1.1.1.1.2, ⟨hk.1.1.1.1.2, ⟨hk.1.1.1.2, hk.1.1.2⟩⟩⟩⟩⟩⟩)), (by (with_reducible repeat (first | apply Kd.R_alloc | apply Kd.R_drewN | apply Kd.R_drew)); exact Kd.R_mono HO_284000.out (fun _ hk => ⟨hk.1.2, ⟨hk.2, hk.1.1.2⟩⟩)), (by (with_reducible repeat (first | apply Kd.R_alloc | apply Kd.R_drewN | apply Kd.R_drew)); exact Kd.R_mono HO_284001.out (fun _ hk => ⟨hk.1.1.1.2, ⟨hk.1.1.2, ⟨hk.1.2, ⟨hk.2, ⟨hk.1.1.1.1.1, ⟨hk.1.1.1.1.2.2.2.1, hk.1.1.1.1.2.2.2.2⟩⟩⟩⟩⟩⟩)), (by (with_reducible repeat (first | apply Kd.R_alloc | apply Kd.R_drewN | apply Kd.R_drew)); exact Kd.R_mono HO_284002.out (fun _ hk => ⟨hk.1.1.1.2, ⟨hk.1.1.2, ⟨hk.1.2, ⟨hk.2, ⟨hk.1.1.1.1.1, ⟨hk.1.1.1.1.2.2.2.1, hk.1.1.1.1.2.2.2.2⟩⟩⟩⟩⟩⟩)), (by (with_reducible repeat (first | apply Kd.R_alloc | apply Kd.R_drewN | apply Kd.R_drew)); exact Kd.R_mono HO_310000.out (fun _ hk => ⟨hk.1.2, ⟨hk.2, hk.1.1.1⟩⟩)), (by (with_reducible repeat (first | apply Kd.R_alloc | apply Kd.R_drewN | apply Kd.R_drew)); exact Kd.R_mono HO_310001.out (fun _ hk => ⟨hk.1.1.1.2, ⟨hk.1.1.2, ⟨hk.1.2, ⟨hk.2, ⟨hk.1.1.1.1.1, ⟨hk.1.1.1.1.2.1, hk.1.1.1.1.2.2.2.2⟩⟩⟩⟩⟩⟩)), (by (with_reducible repeat (first | apply Kd.R_alloc | apply Kd.R_drewN | apply Kd.R_drew)); exact Kd.R_mono HO_310002.out (fun _ hk => ⟨hk.1.1.1.2, ⟨hk.1.1.2, ⟨hk.1.2, ⟨hk.2, ⟨hk.1.1.1.1.1, ⟨hk.1.1.1.1.2.1, hk.1.1.1.1.2.2.2.2⟩⟩⟩⟩⟩⟩)), (bx BK256.out), (bx BK257.out), (bx BK283.out), (bx BK295.out), (bx BK309.out), (bx BK357.out), GW357.out, GE357.out, NB256_357.out, NB357_256.out, NB257_357.out, NB357_257.out, NB283_357.out, NB357_283.out, NB295_357.out, NB357_295.out, NB309_357.out, NB357_309.out, (be w)⟩)
  rintro ⟨v334, v337, v340, v347, v350, v353, gb357⟩ w131 ⟨hS_, h0_, h1_, h2_, h3_, h4_, h5_, h6_, h7_, h8_, h9_, h10_, h11_, h12_, h13_, h14_, h15_, h16_, h17_, h18_, h19_, h20_, h21_, h22_, h23_, h24_, h25_, h26_, h27_, h28_, h29_, h30_⟩
  have n0_ : As (Kd.R k93 93 w131 w.heap.size (fun k_ => some k_ ≠ (v347 : Value).ownBlock ∧ some k_ ≠ (.slice Ao29 t272.length co29 : Value).ownBlock ∧ some k_ ≠ (.slice Ao55 t329.length co55 : Value).ownBlock) v334 t333) := ⟨h0_⟩
  have n1_ : As (Kd.R (Kd.int .i64) 3 w131 w.heap.size (fun k_ => some k_ ≠ (v340 : Value).ownBlock ∧ some k_ ≠ (v350 : Value).ownBlock ∧ some k_ ≠ (v353 : Value).ownBlock ∧ some k_ ≠ (.slice Ao31 t275.length co31 : Value).ownBlock ∧ some k_ ≠ (.slice Ao33 t278.length co33 : Value).ownBlock ∧ some k_ ≠ (.slice Ao57 t330.length co57 : Value).ownBlock ∧ some k_ ≠ (.slice Ao59 t331.length co59 : Value).ownBlock) v337 t336) := ⟨h1_⟩
  have n2_ : As (Kd.R (Kd.int .i64) 3 w131 w.heap.size (fun k_ => some k_ ≠ (v337 : Value).ownBlock ∧ some k_ ≠ (v350 : Value).ownBlock ∧ some k_ ≠ (v353 : Value).ownBlock ∧ some k_ ≠ (.slice Ao31 t275.length co31 : Value).ownBlock ∧ some k_ ≠ (.slice Ao33 t278.length co33 : Value).ownBlock ∧ some k_ ≠ (.slice Ao57 t330.length co57 : Value).ownBlock ∧ some k_ ≠ (.slice Ao59 t331.length co59 : Value).ownBlock) v340 t339) := ⟨h2_⟩
  have n3_ : As (Kd.R k93 93 w131 w.heap.size (fun k_ => some k_ ≠ (v334 : Value).ownBlock ∧ some k_ ≠ (.slice Ao29 t272.length co29 : Value).ownBlock ∧ some k_ ≠ (.slice Ao55 t329.length co55 : Value).ownBlock) v347 t346) := ⟨h3_⟩
  have n4_ : As (Kd.R (Kd.int .i64) 3 w131 w.heap.size (fun k_ => some k_ ≠ (v337 : Value).ownBlock ∧ some k_ ≠ (v340 : Value).ownBlock ∧ some k_ ≠ (v353 : Value).ownBlock ∧ some k_ ≠ (.slice Ao31 t275.length co31 : Value).ownBlock ∧ some k_ ≠ (.slice Ao33 t278.length co33 : Value).ownBlock ∧ some k_ ≠ (.slice Ao57 t330.length co57 : Value).ownBlock ∧ some k_ ≠ (.slice Ao59 t331.length co59 : Value).ownBlock) v350 t349) := ⟨h4_⟩
  have n5_ : As (Kd.R (Kd.int .i64) 3 w131 w.heap.size (fun k_ => some k_ ≠ (v337 : Value).ownBlock ∧ some k_ ≠ (v340 : Value).ownBlock ∧ some k_ ≠ (v350 : Value).ownBlock ∧ some k_ ≠ (.slice Ao31 t275.length co31 : Value).ownBlock ∧ some k_ ≠ (.slice Ao33 t278.length co33 : Value).ownBlock ∧ some k_ ≠ (.slice Ao57 t330.length co57 : Value).ownBlock ∧ some k_ ≠ (.slice Ao59 t331.length co59 : Value).ownBlock) v353 t352) := ⟨h5_⟩
  have n6_ : As (Kd.R k93 93 w131 w.heap.size (fun k_ => some k_ ≠ (v334 : Value).ownBlock ∧ some k_ ≠ (v347 : Value).ownBlock ∧ some k_ ≠ (.slice Ao55 t329.length co55 : Value).ownBlock) (.slice Ao29 t272.length co29) t272) := ⟨h6_⟩
  have n7_ : As (Kd.R (Kd.int .i64) 3 w131 w.heap.size (fun k_ => some k_ ≠ (v337 : Value).ownBlock ∧ some k_ ≠ (v340 : Value).ownBlock ∧ some k_ ≠ (v350 : Value).ownBlock ∧ some k_ ≠ (v353 : Value).ownBlock ∧ some k_ ≠ (.slice Ao33 t278.length co33 : Value).ownBlock ∧ some k_ ≠ (.slice Ao57 t330.length co57 : Value).ownBlock ∧ some k_ ≠ (.slice Ao59 t331.length co59 : Value).ownBlock) (.slice Ao31 t275.length co31) t275) := ⟨h7_⟩
  have n8_ : As (Kd.R (Kd.int .i64) 3 w131 w.heap.size (fun k_ => some k_ ≠ (v337 : Value).ownBlock ∧ some k_ ≠ (v340 : Value).ownBlock ∧ some k_ ≠ (v350 : Value).ownBlock ∧ some k_ ≠ (v353 : Value).ownBlock ∧ some k_ ≠ (.slice Ao31 t275.length co31 : Value).ownBlock ∧ some k_ ≠ (.slice Ao57 t330.length co57 : Value).ownBlock ∧ some k_ ≠ (.slice Ao59 t331.length co59 : Value).ownBlock) (.slice Ao33 t278.length co33) t278) := ⟨h8_⟩
  have n9_ : As (Kd.R k93 93 w131 w.heap.size (fun k_ => some k_ ≠ (v334 : Value).ownBlock ∧ some k_ ≠ (v347 : Value).ownBlock ∧ some k_ ≠ (.slice Ao29 t272.length co29 : Value).ownBlock) (.slice Ao55 t329.length co55) t329) := ⟨h9_⟩
  have n10_ : As (Kd.R (Kd.int .i64) 3 w131 w.heap.size (fun k_ => some k_ ≠ (v337 : Value).ownBlock ∧ some k_ ≠ (v340 : Value).ownBlock ∧ some k_ ≠ (v350 : Value).ownBlock ∧ some k_ ≠ (v353 : Value).ownBlock ∧ some k_ ≠ (.slice Ao31 t275.length co31 : Value).ownBlock ∧ some k_ ≠ (.slice Ao33 t278.length co33 : Value).ownBlock ∧ some k_ ≠ (.slice Ao59 t331.length co59 : Value).ownBlock) (.slice Ao57 t330.length co57) t330) := ⟨h10_⟩
  have n11_ : As (Kd.R (Kd.int .i64) 3 w131 w.heap.size (fun k_ => some k_ ≠ (v337 : Value).ownBlock ∧ some k_ ≠ (v340 : Value).ownBlock ∧ some k_ ≠ (v350 : Value).ownBlock ∧ some k_ ≠ (v353 : Value).ownBlock ∧ some k_ ≠ (.slice Ao31 t275.length co31 : Value).ownBlock ∧ some k_ ≠ (.slice Ao33 t278.length co33 : Value).ownBlock ∧ some k_ ≠ (.slice Ao57 t330.length co57 : Value).ownBlock) (.slice Ao59 t331.length co59) t331) := ⟨h11_⟩
  have n12_ : As (w131.heap[gb256]? = some (.cells #[.slice A0_0 l0_0.length c0_0, .slice A0_1 l0_1.length c0_1, .slice A0_2 l0_2.length c0_2, .int .i64 a0_3, .int .i64 a0_4] 47 (0, 0))) := ⟨h12_⟩
  have n13_ : As (w131.heap[gb257]? = some (.cells #[.int .i64 a1_0, .int .i64 a1_1] 48 (0, 0))) := ⟨h13_⟩
  have n14_ : As (w131.heap[gb283]? = some (.cells #[.slice Ao29 t272.length co29, .slice Ao31 t275.length co31, .slice Ao33 t278.length co33, .int .i64 t281, .int .i64 t282] 34 (0, 0))) := ⟨h14_⟩
  have n15_ : As (w131.heap[gb295]? = some (.cells #[.slice Ao42 t324.length co42, .slice Ao47 t325.length co47, .slice Ao48 t326.length co48, .int .i64 t293, .int .i64 t294] 34 (0, 0))) := ⟨h15_⟩
  have n16_ : As (w131.heap[gb309]? = some (.cells #[.slice Ao55 t329.length co55, .slice Ao57 t330.length co57, .slice Ao59 t331.length co59, .int .i64 t307, .int .i64 t308] 34 (0, 0))) := ⟨h16_⟩
  have n17_ : As (w131.heap[gb357]? = some (.cells #[.slice none 0 0, .slice none 0 0, .slice none 0 0, .int .i64 0, .int .i64 0] 34 (0, 0))) := ⟨h17_⟩
  have n18_ : As (w.heap.size ≤ gb357) := ⟨h18_⟩
  have n19_ : As (w.heap.size ≤ gb357) := ⟨h19_⟩
  have n20_ : As (gb256 ≠ gb357) := ⟨h20_⟩
  have n21_ : As (gb357 ≠ gb256) := ⟨h21_⟩
  have n22_ : As (gb257 ≠ gb357) := ⟨h22_⟩
  have n23_ : As (gb357 ≠ gb257) := ⟨h23_⟩
  have n24_ : As (gb283 ≠ gb357) := ⟨h24_⟩
  have n25_ : As (gb357 ≠ gb283) := ⟨h25_⟩
  have n26_ : As (gb295 ≠ gb357) := ⟨h26_⟩
  have n27_ : As (gb357 ≠ gb295) := ⟨h27_⟩
  have n28_ : As (gb309 ≠ gb357) := ⟨h28_⟩
  have n29_ : As (gb357 ≠ gb309) := ⟨h29_⟩
  have n30_ : As (Below w.heap.size w w131) := ⟨h30_⟩
  clear HO_284000
  clear HO_284001
  clear HO_284002
  clear HO_310000
  clear HO_310001
  clear HO_310002
  clear BK256
  clear BK257
  clear BK283
  clear BK295
  clear BK309
  clear HB
  clear h0_ h1_ h2_ h3_ h4_ h5_ h6_ h7_ h8_ h9_ h10_ h11_ h12_ h13_ h14_ h15_ h16_ h17_ h18_ h19_ h20_ h21_ h22_ h23_ h24_ h25_ h26_ h27_ h28_ h29_ h30_
  have HO335 := n0_
  have HO338 := n1_
  have HO341 := n2_
  have HO348 := n3_
  have HO351 := n4_
  have HO354 := n5_
  have HO_284000 := n6_
  have HO_284001 := n7_
  have HO_284002 := n8_
  have HO_310000 := n9_
  have HO_310001 := n10_
  have HO_310002 := n11_
  have BK256 := n12_
  have BK257 := n13_
  have BK283 := n14_
  have BK295 := n15_
  have BK309 := n16_
  have BK357 := n17_
  have GW357 := n18_
  have GE357 := n19_
  have NB256_357 := n20_
  have NB357_256 := n21_
  have NB257_357 := n22_
  have NB357_257 := n23_
  have NB283_357 := n24_
  have NB357_283 := n25_
  have NB295_357 := n26_
  have NB357_295 := n27_
  have NB309_357 := n28_
  have NB357_309 := n29_
  have HB := n30_
  clear n0_ n1_ n2_ n3_ n4_ n5_ n6_ n7_ n8_ n9_ n10_ n11_ n12_ n13_ n14_ n15_ n16_ n17_ n18_ n19_ n20_ n21_ n22_ n23_ n24_ n25_ n26_ n27_ n28_ n29_ n30_
  have hHeld : w131.cell? ⟨gb256, 0, none⟩ = some (.slice A0_0 l0_0.length c0_0) ∧ w131.cell? ⟨gb256, 1, none⟩ = some (.slice A0_1 l0_1.length c0_1) ∧ w131.cell? ⟨gb256, 2, none⟩ = some (.slice A0_2 l0_2.length c0_2) ∧ w131.cell? ⟨gb256, 3, none⟩ = some (.int .i64 a0_3) ∧ w131.cell? ⟨gb256, 4, none⟩ = some (.int .i64 a0_4) ∧ w131.cell? ⟨gb257, 0, none⟩ = some (.int .i64 a1_0) ∧ w131.cell? ⟨gb257, 1, none⟩ = some (.int .i64 a1_1) := hS_
  obtain ⟨Ao132, co132, eo132⟩ := Kd.R_slice HO348.out
  (first | subst eo132 | (injection eo132 with f1_ f2_ f3_; have f4_ := f1_.symm; have f5_ := f3_.symm; clear f1_ f2_ f3_; subst f4_; subst f5_))
  obtain ⟨Ao134, co134, eo134⟩ := Kd.R_slice HO351.out
  (first | subst eo134 | (injection eo134 with f1_ f2_ f3_; have f4_ := f1_.symm; have f5_ := f3_.symm; clear f1_ f2_ f3_; subst f4_; subst f5_))
  obtain ⟨Ao136, co136, eo136⟩ := Kd.R_slice HO354.out
  (first | subst eo136 | (injection eo136 with f1_ f2_ f3_; have f4_ := f1_.symm; have f5_ := f3_.symm; clear f1_ f2_ f3_; subst f4_; subst f5_))
  refine norm_ (a' := ?_) ?_ ?_
  rotate_left
  ·
   simp only [putAll, Act.put, List.setIfInBounds_toArray, List.set_cons_zero, List.set_cons_succ]
   rfl
  refine one_ (i := 7) (N := none) #[I, I, I, I, I, I, I, I] rfl rfl (one_of HT_.out (by kernel_rfl)) (by decide) (fun K hK => ?_)
  have hs133 : w131.cell? ⟨gb357, 0, none⟩ = some (.slice none 0 0) := (blk_cell BK357.out 0).trans rfl
  have hfs133 := blk_frozen BK357.out 0
  have hns133_0 := NB256_357.out
  have hns133_1 := NB257_357.out
  have hns133_2 := NB283_357.out
  have hns133_3 := NB295_357.out
  have hns133_4 := NB309_357.out
  have hms133_0 := NB357_256.out
  have hms133_1 := NB357_257.out
  have hms133_2 := NB357_283.out
  have hms133_3 := NB357_295.out
  have hms133_4 := NB357_309.out
  have hs135 : w131.cell? ⟨gb357, 1, none⟩ = some (.slice none 0 0) := (blk_cell BK357.out 1).trans rfl
  have hfs135 := blk_frozen BK357.out 1
  have hns135_0 := NB256_357.out
  have hns135_1 := NB257_357.out
  have hns135_2 := NB283_357.out
  have hns135_3 := NB295_357.out
  have hns135_4 := NB309_357.out
  have hms135_0 := NB357_256.out
  have hms135_1 := NB357_257.out
  have hms135_2 := NB357_283.out
  have hms135_3 := NB357_295.out
  have hms135_4 := NB357_309.out
  have hs137 : w131.cell? ⟨gb357, 2, none⟩ = some (.slice none 0 0) := (blk_cell BK357.out 2).trans rfl
  have hfs137 := blk_frozen BK357.out 2
  have hns137_0 := NB256_357.out
  have hns137_1 := NB257_357.out
  have hns137_2 := NB283_357.out
  have hns137_3 := NB295_357.out
  have hns137_4 := NB309_357.out
  have hms137_0 := NB357_256.out
  have hms137_1 := NB357_257.out
  have hms137_2 := NB357_283.out
  have hms137_3 := NB357_295.out
  have hms137_4 := NB357_309.out
  have hs138 : w131.cell? ⟨gb357, 3, none⟩ = some (.int .i64 0) := (blk_cell BK357.out 3).trans rfl
  have hfs138 := blk_frozen BK357.out 3
  have hns138_0 := NB256_357.out
  have hns138_1 := NB257_357.out
  have hns138_2 := NB283_357.out
  have hns138_3 := NB295_357.out
  have hns138_4 := NB309_357.out
  have hms138_0 := NB357_256.out
  have hms138_1 := NB357_257.out
  have hms138_2 := NB357_283.out
  have hms138_3 := NB357_295.out
  have hms138_4 := NB357_309.out
  have hs139 : w131.cell? ⟨gb357, 4, none⟩ = some (.int .i64 0) := (blk_cell BK357.out 4).trans rfl
  have hfs139 := blk_frozen BK357.out 4
  have hns139_0 := NB256_357.out
  have hns139_1 := NB257_357.out
  have hns139_2 := NB283_357.out
  have hns139_3 := NB295_357.out
  have hns139_4 := NB309_357.out
  have hms139_0 := NB357_256.out
  have hms139_1 := NB357_257.out
  have hms139_2 := NB357_283.out
  have hms139_3 := NB357_295.out
  have hms139_4 := NB357_309.out
  refine skip_ (w1 := ?_) (by rfl) rfl ?_ ?_
  rotate_left
  ·
   go_simp
   rfl
  refine hK.out _ _ ⟨((cell_far (p := ⟨gb357, _, none⟩) NB256_357.out _).trans (((cell_far (p := ⟨gb357, _, none⟩) NB256_357.out _).trans (((cell_far (p := ⟨gb357, _, none⟩) NB256_357.out _).trans (((cell_far (p := ⟨gb357, _, none⟩) NB256_357.out _).trans (((cell_far (p := ⟨gb357, _, none⟩) NB256_357.out _).trans (hHeld.1)))))))))), ((cell_far (p := ⟨gb357, _, none⟩) NB256_357.out _).trans (((cell_far (p := ⟨gb357, _, none⟩) NB256_357.out _).trans (((cell_far (p := ⟨gb357, _, none⟩) NB256_357.out _).trans (((cell_far (p := ⟨gb357, _, none⟩) NB256_357.out _).trans (((cell_far (p := ⟨gb357, _, none⟩) NB256_357.out _).trans (hHeld.2.1)))))))))), ((cell_far (p := ⟨gb357, _, none⟩) NB256_357.out _).trans (((cell_far (p := ⟨gb357, _, none⟩) NB256_357.out _).trans (((cell_far (p := ⟨gb357, _, none⟩) NB256_357.out _).trans (((cell_far (p := ⟨gb357, _, none⟩) NB256_357.out _).trans (((cell_far (p := ⟨gb357, _, none⟩) NB256_357.out _).trans (hHeld.2.2.1)))))))))), ((cell_far (p := ⟨gb357, _, none⟩) NB256_357.out _).trans (((cell_far (p := ⟨gb357, _, none⟩) NB256_357.out _).trans (((cell_far (p := ⟨gb357, _, none⟩) NB256_357.out _).trans (((cell_far (p := ⟨gb357, _, none⟩) NB256_357.out _).trans (((cell_far (p := ⟨gb357, _, none⟩) NB256_357.out _).trans (hHeld.2.2.2.1)))))))))), ((cell_far (p := ⟨gb357, _, none⟩) NB256_357.out _).trans (((cell_far (p := ⟨gb357, _, none⟩) NB256_357.out _).trans (((cell_far (p := ⟨gb357, _, none⟩) NB256_357.out _).trans (((cell_far (p := ⟨gb357, _, none⟩) NB256_357.out _).trans (((cell_far (p := ⟨gb357, _, none⟩) NB256_357.out _).trans (hHeld.2.2.2.2.1)))))))))), ((cell_far (p := ⟨gb357, _, none⟩) NB257_357.out _).trans (((cell_far (p := ⟨gb357, _, none⟩) NB257_357.out _).trans (((cell_far (p := ⟨gb357, _, none⟩) NB257_357.out _).trans (((cell_far (p := ⟨gb357, _, none⟩) NB257_357.out _).trans (((cell_far (p := ⟨gb357, _, none⟩) NB257_357.out _).trans (hHeld.2.2.2.2.2.1)))))))))), ((cell_far (p := ⟨gb357, _, none⟩) NB257_357.out _).trans (((cell_far (p := ⟨gb357, _, none⟩) NB257_357.out _).trans (((cell_far (p := ⟨gb357, _, none⟩) NB257_357.out _).trans (((cell_far (p := ⟨gb357, _, none⟩) NB257_357.out _).trans (((cell_far (p := ⟨gb357, _, none⟩) NB257_357.out _).trans (hHeld.2.2.2.2.2.2))))))))))⟩ (fun hHeld => ?_)
  clear hK K
  refine done_ (done_of HT_.out (by kernel_rfl)) ?_
  have hnb140 := NB357_256.out
  have hnc140 := NB256_357.out
  have hnb141 := NB357_257.out
  have hnc141 := NB257_357.out
  have hnb142 := NB357_283.out
  have hnc142 := NB283_357.out
  have hnb143 := NB357_295.out
  have hnc143 := NB295_357.out
  have hnb144 := NB357_309.out
  have hnc144 := NB309_357.out
  obtain ⟨hcz145_0, hcz145_1, hcz145_2, hcz145_3, hcz145_4, hfz145_0, hfz145_1, hfz145_2, hfz145_3, hfz145_4⟩ := cl5 BK357.out
  have hnb146 := NB283_256.out
  have hnc146 := NB256_283.out
  have hnb147 := NB283_257.out
  have hnc147 := NB257_283.out
  have hnb148 := NB283_295.out
  have hnc148 := NB295_283.out
  have hnb149 := NB283_309.out
  have hnc149 := NB309_283.out
  obtain ⟨hcz150_0, hcz150_1, hcz150_2, hcz150_3, hcz150_4, hfz150_0, hfz150_1, hfz150_2, hfz150_3, hfz150_4⟩ := cl5 BK283.out
  go_upto_if 73 with (first | ((with_reducible refine gate_callee (f := 27) rfl ?_); refine goesL_ (some 72) rfl rfl Try.func27 (by kernel_rfl) rfl #[.agg #[.slice Ao132 t346.length co132, .slice Ao134 t349.length co134, .slice Ao136 t352.length co136, .int .i64 t355, .int .i64 t356], .agg #[.slice Ao29 t272.length co29, .slice Ao31 t275.length co31, .slice Ao33 t278.length co33, .int .i64 t281, .int .i64 t282]] rfl (by (try simp only [lm]); first | done | rfl | (simp only [List.length_drop, List.length_take]; rfl)) ?_; (with_reducible refine (laws_eqMemory.calls kj115 _ _ t346 _ _ t349 _ _ t352 t355 t356 _ _ t272 _ _ t275 _ _ t278 t281 t282 t358 _ ?side1 ?side2 ?side3 ?side4 ?side5 ?side6 ?side7 ?side8 ?side9 ?side10 ?side11 ?side12 A121.out).mono ?_); (case side1 => refine (Kd.R_reads' (e := 93) (base := w.heap.size) (ok := fun k_ => (some k_ ≠ (v334 : Value).ownBlock ∧ (some k_ ≠ (.slice Ao29 t272.length co29 : Value).ownBlock ∧ some k_ ≠ (.slice Ao55 t329.length co55 : Value).ownBlock))) (n := t346.length) (c := co132) ?_).2.2; exact (by (with_reducible repeat (first | apply Kd.R_alloc | apply Kd.R_drewN | apply Kd.R_drew)); exact (Kd.R_mono (Kd.R_far (p := ⟨gb357, 4, none⟩) (Kd.R_far (p := ⟨gb357, 3, none⟩) (Kd.R_far (p := ⟨gb357, 2, none⟩) (Kd.R_far (p := ⟨gb357, 1, none⟩) (Kd.R_far (p := ⟨gb357, 0, none⟩) (Kd.R_types HO348.out BK357.out (by decide)) (fun _ hk => hk.2) (.slice Ao132 t346.length co132)) (fun _ hk => hk.2) (.slice Ao134 t349.length co134)) (fun _ hk => hk.2) (.slice Ao136 t352.length co136)) (fun _ hk => hk.2) (.int .i64 t355)) (fun _ hk => hk.2) (.int .i64 t356)) (fun _ h_ => h_.1)))); (case side2 => exact (Kd.R_reads' HO348.out).2.1); (case side3 => refine (Kd.R_reads' (e := 3) (base := w.heap.size) (ok := fun k_ => (some k_ ≠ (v337 : Value).ownBlock ∧ (some k_ ≠ (v340 : Value).ownBlock ∧ (some k_ ≠ (.slice Ao136 t352.length co136 : Value).ownBlock ∧ (some k_ ≠ (.slice Ao31 t275.length co31 : Value).ownBlock ∧ (some k_ ≠ (.slice Ao33 t278.length co33 : Value).ownBlock ∧ (some k_ ≠ (.slice Ao57 t330.length co57 : Value).ownBlock ∧ some k_ ≠ (.slice Ao59 t331.length co59 : Value).ownBlock))))))) (n := t349.length) (c := co134) ?_).2.2; exact (by (with_reducible repeat (first | apply Kd.R_alloc | apply Kd.R_drewN | apply Kd.R_drew)); exact (Kd.R_mono (Kd.R_far (p := ⟨gb357, 4, none⟩) (Kd.R_far (p := ⟨gb357, 3, none⟩) (Kd.R_far (p := ⟨gb357, 2, none⟩) (Kd.R_far (p := ⟨gb357, 1, none⟩) (Kd.R_far (p := ⟨gb357, 0, none⟩) (Kd.R_types HO351.out BK357.out (by decide)) (fun _ hk => hk.2) (.slice Ao132 t346.length co132)) (fun _ hk => hk.2) (.slice Ao134 t349.length co134)) (fun _ hk => hk.2) (.slice Ao136 t352.length co136)) (fun _ hk => hk.2) (.int .i64 t355)) (fun _ hk => hk.2) (.int .i64 t356)) (fun _ h_ => h_.1)))); (case side4 => exact (Kd.R_reads' HO351.out).2.1); (case side5 => refine (Kd.R_reads' (e := 3) (base := w.heap.size) (ok := fun k_ => (some k_ ≠ (v337 : Value).ownBlock ∧ (some k_ ≠ (v340 : Value).ownBlock ∧ (some k_ ≠ (.slice Ao134 t349.length co134 : Value).ownBlock ∧ (some k_ ≠ (.slice Ao31 t275.length co31 : Value).ownBlock ∧ (some k_ ≠ (.slice Ao33 t278.length co33 : Value).ownBlock ∧ (some k_ ≠ (.slice Ao57 t330.length co57 : Value).ownBlock ∧ some k_ ≠ (.slice Ao59 t331.length co59 : Value).ownBlock))))))) (n := t352.length) (c := co136) ?_).2.2; exact (by (with_reducible repeat (first | apply Kd.R_alloc | apply Kd.R_drewN | apply Kd.R_drew)); exact (Kd.R_mono (Kd.R_far (p := ⟨gb357, 4, none⟩) (Kd.R_far (p := ⟨gb357, 3, none⟩) (Kd.R_far (p := ⟨gb357, 2, none⟩) (Kd.R_far (p := ⟨gb357, 1, none⟩) (Kd.R_far (p := ⟨gb357, 0, none⟩) (Kd.R_types HO354.out BK357.out (by decide)) (fun _ hk => hk.2) (.slice Ao132 t346.length co132)) (fun _ hk => hk.2) (.slice Ao134 t349.length co134)) (fun _ hk => hk.2) (.slice Ao136 t352.length co136)) (fun _ hk => hk.2) (.int .i64 t355)) (fun _ hk => hk.2) (.int .i64 t356)) (fun _ h_ => h_.1)))); (case side6 => exact (Kd.R_reads' HO354.out).2.1); (case side7 => refine (Kd.R_reads' (e := 93) (base := w.heap.size) (ok := fun k_ => (some k_ ≠ (v334 : Value).ownBlock ∧ (some k_ ≠ (.slice Ao132 t346.length co132 : Value).ownBlock ∧ some k_ ≠ (.slice Ao55 t329.length co55 : Value).ownBlock))) (n := t272.length) (c := co29) ?_).2.2; exact (by (with_reducible repeat (first | apply Kd.R_alloc | apply Kd.R_drewN | apply Kd.R_drew)); exact (Kd.R_mono (Kd.R_far (p := ⟨gb357, 4, none⟩) (Kd.R_far (p := ⟨gb357, 3, none⟩) (Kd.R_far (p := ⟨gb357, 2, none⟩) (Kd.R_far (p := ⟨gb357, 1, none⟩) (Kd.R_far (p := ⟨gb357, 0, none⟩) (Kd.R_types HO_284000.out BK357.out (by decide)) (fun _ hk => hk.2) (.slice Ao132 t346.length co132)) (fun _ hk => hk.2) (.slice Ao134 t349.length co134)) (fun _ hk => hk.2) (.slice Ao136 t352.length co136)) (fun _ hk => hk.2) (.int .i64 t355)) (fun _ hk => hk.2) (.int .i64 t356)) (fun _ h_ => h_.1)))); (case side8 => exact (Kd.R_reads' HO_284000.out).2.1); (case side9 => refine (Kd.R_reads' (e := 3) (base := w.heap.size) (ok := fun k_ => (some k_ ≠ (v337 : Value).ownBlock ∧ (some k_ ≠ (v340 : Value).ownBlock ∧ (some k_ ≠ (.slice Ao134 t349.length co134 : Value).ownBlock ∧ (some k_ ≠ (.slice Ao136 t352.length co136 : Value).ownBlock ∧ (some k_ ≠ (.slice Ao33 t278.length co33 : Value).ownBlock ∧ (some k_ ≠ (.slice Ao57 t330.length co57 : Value).ownBlock ∧ some k_ ≠ (.slice Ao59 t331.length co59 : Value).ownBlock))))))) (n := t275.length) (c := co31) ?_).2.2; exact (by (with_reducible repeat (first | apply Kd.R_alloc | apply Kd.R_drewN | apply Kd.R_drew)); exact (Kd.R_mono (Kd.R_far (p := ⟨gb357, 4, none⟩) (Kd.R_far (p := ⟨gb357, 3, none⟩) (Kd.R_far (p := ⟨gb357, 2, none⟩) (Kd.R_far (p := ⟨gb357, 1, none⟩) (Kd.R_far (p := ⟨gb357, 0, none⟩) (Kd.R_types HO_284001.out BK357.out (by decide)) (fun _ hk => hk.2) (.slice Ao132 t346.length co132)) (fun _ hk => hk.2) (.slice Ao134 t349.length co134)) (fun _ hk => hk.2) (.slice Ao136 t352.length co136)) (fun _ hk => hk.2) (.int .i64 t355)) (fun _ hk => hk.2) (.int .i64 t356)) (fun _ h_ => h_.1)))); (case side10 => exact (Kd.R_reads' HO_284001.out).2.1); (case side11 => refine (Kd.R_reads' (e := 3) (base := w.heap.size) (ok := fun k_ => (some k_ ≠ (v337 : Value).ownBlock ∧ (some k_ ≠ (v340 : Value).ownBlock ∧ (some k_ ≠ (.slice Ao134 t349.length co134 : Value).ownBlock ∧ (some k_ ≠ (.slice Ao136 t352.length co136 : Value).ownBlock ∧ (some k_ ≠ (.slice Ao31 t275.length co31 : Value).ownBlock ∧ (some k_ ≠ (.slice Ao57 t330.length co57 : Value).ownBlock ∧ some k_ ≠ (.slice Ao59 t331.length co59 : Value).ownBlock))))))) (n := t278.length) (c := co33) ?_).2.2; exact (by (with_reducible repeat (first | apply Kd.R_alloc | apply Kd.R_drewN | apply Kd.R_drew)); exact (Kd.R_mono (Kd.R_far (p := ⟨gb357, 4, none⟩) (Kd.R_far (p := ⟨gb357, 3, none⟩) (Kd.R_far (p := ⟨gb357, 2, none⟩) (Kd.R_far (p := ⟨gb357, 1, none⟩) (Kd.R_far (p := ⟨gb357, 0, none⟩) (Kd.R_types HO_284002.out BK357.out (by decide)) (fun _ hk => hk.2) (.slice Ao132 t346.length co132)) (fun _ hk => hk.2) (.slice Ao134 t349.length co134)) (fun _ hk => hk.2) (.slice Ao136 t352.length co136)) (fun _ hk => hk.2) (.int .i64 t355)) (fun _ hk => hk.2) (.int .i64 t356)) (fun _ h_ => h_.1)))); (case side12 => exact (Kd.R_reads' HO_284002.out).2.1); rintro e w151 ⟨rfl, hb⟩; refine ⟨_, rfl, ?_⟩; replace HO_284000 := As.mk (Kd.R_below (by (with_reducible repeat (first | apply Kd.R_alloc | apply Kd.R_drewN | apply Kd.R_drew)); exact (Kd.R_mono (Kd.R_far (p := ⟨gb357, 4, none⟩) (Kd.R_far (p := ⟨gb357, 3, none⟩) (Kd.R_far (p := ⟨gb357, 2, none⟩) (Kd.R_far (p := ⟨gb357, 1, none⟩) (Kd.R_far (p := ⟨gb357, 0, none⟩) (Kd.R_types HO_284000.out BK357.out (by decide)) (fun _ hk => hk.2) (.slice Ao132 t346.length co132)) (fun _ hk => hk.2) (.slice Ao134 t349.length co134)) (fun _ hk => hk.2) (.slice Ao136 t352.length co136)) (fun _ hk => hk.2) (.int .i64 t355)) (fun _ hk => hk.2) (.int .i64 t356)) (fun _ h_ => h_.1))) hb); replace HO_284001 := As.mk (Kd.R_below (by (with_reducible repeat (first | apply Kd.R_alloc | apply Kd.R_drewN | apply Kd.R_drew)); exact (Kd.R_mono (Kd.R_far (p := ⟨gb357, 4, none⟩) (Kd.R_far (p := ⟨gb357, 3, none⟩) (Kd.R_far (p := ⟨gb357, 2, none⟩) (Kd.R_far (p := ⟨gb357, 1, none⟩) (Kd.R_far (p := ⟨gb357, 0, none⟩) (Kd.R_types HO_284001.out BK357.out (by decide)) (fun _ hk => hk.2) (.slice Ao132 t346.length co132)) (fun _ hk => hk.2) (.slice Ao134 t349.length co134)) (fun _ hk => hk.2) (.slice Ao136 t352.length co136)) (fun _ hk => hk.2) (.int .i64 t355)) (fun _ hk => hk.2) (.int .i64 t356)) (fun _ h_ => h_.1))) hb); replace HO_284002 := As.mk (Kd.R_below (by (with_reducible repeat (first | apply Kd.R_alloc | apply Kd.R_drewN | apply Kd.R_drew)); exact (Kd.R_mono (Kd.R_far (p := ⟨gb357, 4, none⟩) (Kd.R_far (p := ⟨gb357, 3, none⟩) (Kd.R_far (p := ⟨gb357, 2, none⟩) (Kd.R_far (p := ⟨gb357, 1, none⟩) (Kd.R_far (p := ⟨gb357, 0, none⟩) (Kd.R_types HO_284002.out BK357.out (by decide)) (fun _ hk => hk.2) (.slice Ao132 t346.length co132)) (fun _ hk => hk.2) (.slice Ao134 t349.length co134)) (fun _ hk => hk.2) (.slice Ao136 t352.length co136)) (fun _ hk => hk.2) (.int .i64 t355)) (fun _ hk => hk.2) (.int .i64 t356)) (fun _ h_ => h_.1))) hb); replace HO_310000 := As.mk (Kd.R_below (by (with_reducible repeat (first | apply Kd.R_alloc | apply Kd.R_drewN | apply Kd.R_drew)); exact (Kd.R_mono (Kd.R_far (p := ⟨gb357, 4, none⟩) (Kd.R_far (p := ⟨gb357, 3, none⟩) (Kd.R_far (p := ⟨gb357, 2, none⟩) (Kd.R_far (p := ⟨gb357, 1, none⟩) (Kd.R_far (p := ⟨gb357, 0, none⟩) (Kd.R_types HO_310000.out BK357.out (by decide)) (fun _ hk => hk.2) (.slice Ao132 t346.length co132)) (fun _ hk => hk.2) (.slice Ao134 t349.length co134)) (fun _ hk => hk.2) (.slice Ao136 t352.length co136)) (fun _ hk => hk.2) (.int .i64 t355)) (fun _ hk => hk.2) (.int .i64 t356)) (fun _ h_ => h_.1))) hb); replace HO_310001 := As.mk (Kd.R_below (by (with_reducible repeat (first | apply Kd.R_alloc | apply Kd.R_drewN | apply Kd.R_drew)); exact (Kd.R_mono (Kd.R_far (p := ⟨gb357, 4, none⟩) (Kd.R_far (p := ⟨gb357, 3, none⟩) (Kd.R_far (p := ⟨gb357, 2, none⟩) (Kd.R_far (p := ⟨gb357, 1, none⟩) (Kd.R_far (p := ⟨gb357, 0, none⟩) (Kd.R_types HO_310001.out BK357.out (by decide)) (fun _ hk => hk.2) (.slice Ao132 t346.length co132)) (fun _ hk => hk.2) (.slice Ao134 t349.length co134)) (fun _ hk => hk.2) (.slice Ao136 t352.length co136)) (fun _ hk => hk.2) (.int .i64 t355)) (fun _ hk => hk.2) (.int .i64 t356)) (fun _ h_ => h_.1))) hb); replace HO_310002 := As.mk (Kd.R_below (by (with_reducible repeat (first | apply Kd.R_alloc | apply Kd.R_drewN | apply Kd.R_drew)); exact (Kd.R_mono (Kd.R_far (p := ⟨gb357, 4, none⟩) (Kd.R_far (p := ⟨gb357, 3, none⟩) (Kd.R_far (p := ⟨gb357, 2, none⟩) (Kd.R_far (p := ⟨gb357, 1, none⟩) (Kd.R_far (p := ⟨gb357, 0, none⟩) (Kd.R_types HO_310002.out BK357.out (by decide)) (fun _ hk => hk.2) (.slice Ao132 t346.length co132)) (fun _ hk => hk.2) (.slice Ao134 t349.length co134)) (fun _ hk => hk.2) (.slice Ao136 t352.length co136)) (fun _ hk => hk.2) (.int .i64 t355)) (fun _ hk => hk.2) (.int .i64 t356)) (fun _ h_ => h_.1))) hb); replace HO335 := As.mk (Kd.R_below (by (with_reducible repeat (first | apply Kd.R_alloc | apply Kd.R_drewN | apply Kd.R_drew)); exact (Kd.R_mono (Kd.R_far (p := ⟨gb357, 4, none⟩) (Kd.R_far (p := ⟨gb357, 3, none⟩) (Kd.R_far (p := ⟨gb357, 2, none⟩) (Kd.R_far (p := ⟨gb357, 1, none⟩) (Kd.R_far (p := ⟨gb357, 0, none⟩) (Kd.R_types HO335.out BK357.out (by decide)) (fun _ hk => hk.2) (.slice Ao132 t346.length co132)) (fun _ hk => hk.2) (.slice Ao134 t349.length co134)) (fun _ hk => hk.2) (.slice Ao136 t352.length co136)) (fun _ hk => hk.2) (.int .i64 t355)) (fun _ hk => hk.2) (.int .i64 t356)) (fun _ h_ => h_.1))) hb); replace HO338 := As.mk (Kd.R_below (by (with_reducible repeat (first | apply Kd.R_alloc | apply Kd.R_drewN | apply Kd.R_drew)); exact (Kd.R_mono (Kd.R_far (p := ⟨gb357, 4, none⟩) (Kd.R_far (p := ⟨gb357, 3, none⟩) (Kd.R_far (p := ⟨gb357, 2, none⟩) (Kd.R_far (p := ⟨gb357, 1, none⟩) (Kd.R_far (p := ⟨gb357, 0, none⟩) (Kd.R_types HO338.out BK357.out (by decide)) (fun _ hk => hk.2) (.slice Ao132 t346.length co132)) (fun _ hk => hk.2) (.slice Ao134 t349.length co134)) (fun _ hk => hk.2) (.slice Ao136 t352.length co136)) (fun _ hk => hk.2) (.int .i64 t355)) (fun _ hk => hk.2) (.int .i64 t356)) (fun _ h_ => h_.1))) hb); replace HO341 := As.mk (Kd.R_below (by (with_reducible repeat (first | apply Kd.R_alloc | apply Kd.R_drewN | apply Kd.R_drew)); exact (Kd.R_mono (Kd.R_far (p := ⟨gb357, 4, none⟩) (Kd.R_far (p := ⟨gb357, 3, none⟩) (Kd.R_far (p := ⟨gb357, 2, none⟩) (Kd.R_far (p := ⟨gb357, 1, none⟩) (Kd.R_far (p := ⟨gb357, 0, none⟩) (Kd.R_types HO341.out BK357.out (by decide)) (fun _ hk => hk.2) (.slice Ao132 t346.length co132)) (fun _ hk => hk.2) (.slice Ao134 t349.length co134)) (fun _ hk => hk.2) (.slice Ao136 t352.length co136)) (fun _ hk => hk.2) (.int .i64 t355)) (fun _ hk => hk.2) (.int .i64 t356)) (fun _ h_ => h_.1))) hb); replace HO348 := As.mk (Kd.R_below (by (with_reducible repeat (first | apply Kd.R_alloc | apply Kd.R_drewN | apply Kd.R_drew)); exact (Kd.R_mono (Kd.R_far (p := ⟨gb357, 4, none⟩) (Kd.R_far (p := ⟨gb357, 3, none⟩) (Kd.R_far (p := ⟨gb357, 2, none⟩) (Kd.R_far (p := ⟨gb357, 1, none⟩) (Kd.R_far (p := ⟨gb357, 0, none⟩) (Kd.R_types HO348.out BK357.out (by decide)) (fun _ hk => hk.2) (.slice Ao132 t346.length co132)) (fun _ hk => hk.2) (.slice Ao134 t349.length co134)) (fun _ hk => hk.2) (.slice Ao136 t352.length co136)) (fun _ hk => hk.2) (.int .i64 t355)) (fun _ hk => hk.2) (.int .i64 t356)) (fun _ h_ => h_.1))) hb); replace HO351 := As.mk (Kd.R_below (by (with_reducible repeat (first | apply Kd.R_alloc | apply Kd.R_drewN | apply Kd.R_drew)); exact (Kd.R_mono (Kd.R_far (p := ⟨gb357, 4, none⟩) (Kd.R_far (p := ⟨gb357, 3, none⟩) (Kd.R_far (p := ⟨gb357, 2, none⟩) (Kd.R_far (p := ⟨gb357, 1, none⟩) (Kd.R_far (p := ⟨gb357, 0, none⟩) (Kd.R_types HO351.out BK357.out (by decide)) (fun _ hk => hk.2) (.slice Ao132 t346.length co132)) (fun _ hk => hk.2) (.slice Ao134 t349.length co134)) (fun _ hk => hk.2) (.slice Ao136 t352.length co136)) (fun _ hk => hk.2) (.int .i64 t355)) (fun _ hk => hk.2) (.int .i64 t356)) (fun _ h_ => h_.1))) hb); replace HO354 := As.mk (Kd.R_below (by (with_reducible repeat (first | apply Kd.R_alloc | apply Kd.R_drewN | apply Kd.R_drew)); exact (Kd.R_mono (Kd.R_far (p := ⟨gb357, 4, none⟩) (Kd.R_far (p := ⟨gb357, 3, none⟩) (Kd.R_far (p := ⟨gb357, 2, none⟩) (Kd.R_far (p := ⟨gb357, 1, none⟩) (Kd.R_far (p := ⟨gb357, 0, none⟩) (Kd.R_types HO354.out BK357.out (by decide)) (fun _ hk => hk.2) (.slice Ao132 t346.length co132)) (fun _ hk => hk.2) (.slice Ao134 t349.length co134)) (fun _ hk => hk.2) (.slice Ao136 t352.length co136)) (fun _ hk => hk.2) (.int .i64 t355)) (fun _ hk => hk.2) (.int .i64 t356)) (fun _ h_ => h_.1))) hb); replace BK256 := As.mk (blk_below (g := gb256) (o := .cells #[.slice A0_0 l0_0.length c0_0, .slice A0_1 l0_1.length c0_1, .slice A0_2 l0_2.length c0_2, .int .i64 a0_3, .int .i64 a0_4] 47 (0, 0)) (by refine pl ?_; refine blk_far ?_ NB256_357.out _; refine pl ?_; refine blk_far ?_ NB256_357.out _; refine pl ?_; refine blk_far ?_ NB256_357.out _; refine pl ?_; refine blk_far ?_ NB256_357.out _; refine pl ?_; refine blk_far ?_ NB256_357.out _; exact bx BK256.out) hb); replace BK257 := As.mk (blk_below (g := gb257) (o := .cells #[.int .i64 a1_0, .int .i64 a1_1] 48 (0, 0)) (by refine pl ?_; refine blk_far ?_ NB257_357.out _; refine pl ?_; refine blk_far ?_ NB257_357.out _; refine pl ?_; refine blk_far ?_ NB257_357.out _; refine pl ?_; refine blk_far ?_ NB257_357.out _; refine pl ?_; refine blk_far ?_ NB257_357.out _; exact bx BK257.out) hb); replace BK283 := As.mk (blk_below (g := gb283) (o := .cells #[.slice Ao29 t272.length co29, .slice Ao31 t275.length co31, .slice Ao33 t278.length co33, .int .i64 t281, .int .i64 t282] 34 (0, 0)) (by refine pl ?_; refine blk_far ?_ NB283_357.out _; refine pl ?_; refine blk_far ?_ NB283_357.out _; refine pl ?_; refine blk_far ?_ NB283_357.out _; refine pl ?_; refine blk_far ?_ NB283_357.out _; refine pl ?_; refine blk_far ?_ NB283_357.out _; exact bx BK283.out) hb); replace BK295 := As.mk (blk_below (g := gb295) (o := .cells #[.slice Ao42 t324.length co42, .slice Ao47 t325.length co47, .slice Ao48 t326.length co48, .int .i64 t293, .int .i64 t294] 34 (0, 0)) (by refine pl ?_; refine blk_far ?_ NB295_357.out _; refine pl ?_; refine blk_far ?_ NB295_357.out _; refine pl ?_; refine blk_far ?_ NB295_357.out _; refine pl ?_; refine blk_far ?_ NB295_357.out _; refine pl ?_; refine blk_far ?_ NB295_357.out _; exact bx BK295.out) hb); replace BK309 := As.mk (blk_below (g := gb309) (o := .cells #[.slice Ao55 t329.length co55, .slice Ao57 t330.length co57, .slice Ao59 t331.length co59, .int .i64 t307, .int .i64 t308] 34 (0, 0)) (by refine pl ?_; refine blk_far ?_ NB309_357.out _; refine pl ?_; refine blk_far ?_ NB309_357.out _; refine pl ?_; refine blk_far ?_ NB309_357.out _; refine pl ?_; refine blk_far ?_ NB309_357.out _; refine pl ?_; refine blk_far ?_ NB309_357.out _; exact bx BK309.out) hb); replace BK357 := As.mk (blk_below (g := gb357) (o := .cells #[.slice Ao132 t346.length co132, .slice Ao134 t349.length co134, .slice Ao136 t352.length co136, .int .i64 t355, .int .i64 t356] 34 (0, 0)) (by refine pl ?_; refine blk_put (cs := #[.slice Ao132 t346.length co132, .slice Ao134 t349.length co134, .slice Ao136 t352.length co136, .int .i64 t355, .int .i64 0]) ?_ 4 _ rfl; refine pl ?_; refine blk_put (cs := #[.slice Ao132 t346.length co132, .slice Ao134 t349.length co134, .slice Ao136 t352.length co136, .int .i64 0, .int .i64 0]) ?_ 3 _ rfl; refine pl ?_; refine blk_put (cs := #[.slice Ao132 t346.length co132, .slice Ao134 t349.length co134, .slice none 0 0, .int .i64 0, .int .i64 0]) ?_ 2 _ rfl; refine pl ?_; refine blk_put (cs := #[.slice Ao132 t346.length co132, .slice none 0 0, .slice none 0 0, .int .i64 0, .int .i64 0]) ?_ 1 _ rfl; refine pl ?_; refine blk_put (cs := #[.slice none 0 0, .slice none 0 0, .slice none 0 0, .int .i64 0, .int .i64 0]) ?_ 0 _ rfl; exact bx BK357.out) hb); replace HB := As.mk (below_step (be w) hb); (try clear hb); (try clear hb2); (try clear hk); (try clear hi)))
  (try simp only [pk])
  go_cut [] (fun wc => ∃ (kq : Nat), As (laws_FnExactWritten.j7 kq t328 t329 t330 t331 t307 t308 = some r) ∧ As (kq ≤ kj115) ∧ As (Kd.R k93 93 wc w.heap.size (fun _ => True) (.slice Ao55 t329.length co55) t329) ∧ As (Kd.R (Kd.int .i64) 3 wc w.heap.size (fun k_ => some k_ ≠ ((.slice Ao59 t331.length co59) : Value).ownBlock) (.slice Ao57 t330.length co57) t330) ∧ As (Kd.R (Kd.int .i64) 3 wc w.heap.size (fun k_ => some k_ ≠ ((.slice Ao57 t330.length co57) : Value).ownBlock) (.slice Ao59 t331.length co59) t331) ∧ As (wc.heap[gb309]? = some (.cells #[(.slice Ao55 t329.length co55), (.slice Ao57 t330.length co57), (.slice Ao59 t331.length co59), .int .i64 t307, .int .i64 t308] 34 (0, 0))) ∧ As (Below w.heap.size w wc))
  case first =>
   have H := HC122.out
   clear HC122
   by_cases c152 : t358 = true
   rotate_left
   ·
    replace c152 := Bool.eq_false_iff.mpr c152
    subst c152
    rw [if_neg (show ¬ (false = true) by decide)] at H
    exact absurd H (by rw [hrt.out]; simp)
   subst c152
   rw [if_pos rfl] at H
   have H' := As.mk H
   clear H
   go_wp2
   go_meet
   case rel => exact ⟨_, H', ⟨by have := HJ4.out; have := HJ18.out; have := HJ73.out; have := HJ82.out; have := HJ101.out; have := HJ105.out; have := HJ115.out; first | omega | exact Nat.le_refl _⟩, ⟨by (try simp only [hl296000_82]); (try simp only [hl296001_82]); (try simp only [hl296002_82]); (try simp only [hl310000_105]); (try simp only [hl310001_105]); (try simp only [hl310002_105]); (with_reducible repeat (first | apply Kd.R_alloc | apply Kd.R_drewN | apply Kd.R_drew)); exact Kd.R_mono HO_310000.out (fun _ hk => trivial)⟩, ⟨by (try simp only [hl296000_82]); (try simp only [hl296001_82]); (try simp only [hl296002_82]); (try simp only [hl310000_105]); (try simp only [hl310001_105]); (try simp only [hl310002_105]); (with_reducible repeat (first | apply Kd.R_alloc | apply Kd.R_drewN | apply Kd.R_drew)); exact Kd.R_mono HO_310001.out (fun _ hk => hk.2.2.2.2.2.2)⟩, ⟨by (try simp only [hl296000_82]); (try simp only [hl296001_82]); (try simp only [hl296002_82]); (try simp only [hl310000_105]); (try simp only [hl310001_105]); (try simp only [hl310002_105]); (with_reducible repeat (first | apply Kd.R_alloc | apply Kd.R_drewN | apply Kd.R_drew)); exact Kd.R_mono HO_310002.out (fun _ hk => hk.2.2.2.2.2.2)⟩, ⟨by (try simp only [hl296000_82]); (try simp only [hl296001_82]); (try simp only [hl296002_82]); (try simp only [hl310000_105]); (try simp only [hl310001_105]); (try simp only [hl310002_105]); exact bx BK309.out⟩, ⟨be w⟩⟩
  case rest =>
   clear HC122
   (try clear hcz145_0); (try clear hcz145_1); (try clear hcz145_2); (try clear hcz145_3); (try clear hcz145_4); (try clear hcz150_0); (try clear hcz150_1); (try clear hcz150_2); (try clear hcz150_3); (try clear hcz150_4); (try clear hfz145_0); (try clear hfz145_1); (try clear hfz145_2); (try clear hfz145_3); (try clear hfz145_4); (try clear hfz150_0); (try clear hfz150_1); (try clear hfz150_2); (try clear hfz150_3); (try clear hfz150_4)
   obtain ⟨kq, HA, HJ121, HO_310000, HO_310001, HO_310002, BK309, HB⟩ := hcut
   cases kq with
   | zero => exact absurd HA.out (by simp [laws_FnExactWritten.j7])
   | succ kj121 =>
    have H := HA.out
    clear HA
    simp only [laws_FnExactWritten.j7] at H
    obtain ⟨t359, A1530, H⟩ := Option.bind_eq_some_iff.mp H
    try dsimp only at H
    have A153 := As.mk A1530
    clear A1530
    by_cases c154 : t359 < 0
    ·
     rw [if_pos c154] at H
     have c154b0 : decide (t359 < 0) = true := decide_eq_true c154
     clear c154
     exact absurd H (by rw [hrt.out]; simp)
    rw [if_neg c154] at H
    have c154b0 : decide (t359 < 0) = false := decide_eq_false c154
    clear c154
    by_cases c155 : t359 = t328
    rotate_left
    ·
     rw [if_neg c155] at H
     have c155b0 : (t359 == t328) = false := beq_eq_false_iff_ne.mpr c155
     have c155b1 : (t359 != t328) = true := bne_iff_ne.mpr c155
     exact absurd H (by rw [hrt.out]; simp)
 
    rw [if_pos c155] at H
    have c155b0 : (t359 == t328) = true := beq_iff_eq.mpr c155
    have c155b1 : (t359 != t328) = false := bne_eq_false_iff_eq.mpr c155
    clear c155
    obtain rfl := Option.some.inj H
    obtain ⟨hcz156_0, hcz156_1, hcz156_2, hcz156_3, hcz156_4, hfz156_0, hfz156_1, hfz156_2, hfz156_3, hfz156_4⟩ := cl5 BK309.out
    go_wp2_with (first | ((with_reducible refine gate_callee (f := 29) rfl ?_); refine goesL_ (some 76) rfl rfl Try.func29 (by kernel_rfl) rfl #[.agg #[.slice Ao55 t329.length co55, .slice Ao57 t330.length co57, .slice Ao59 t331.length co59, .int .i64 t307, .int .i64 t308], .int .i64 1] rfl (by (try simp only [lm]); first | done | rfl | (simp only [List.length_drop, List.length_take]; rfl)) ?_; (with_reducible refine (laws_heldMemory.calls kj121 _ _ t329 _ _ t330 _ _ t331 t307 t308 1 t359 _ ?side1 ?side2 ?side3 ?side4 ?side5 ?side6 A153.out).mono ?_); (case side1 => repeat (first | exact (Kd.R_reads' HO_310000.out).2.2 | (with_reducible refine Kd.C_alloc ?_ _) | (with_reducible refine Kd.C_drewN ?_ _) | (with_reducible refine Kd.C_drew ?_))); (case side2 => exact (Kd.R_reads' HO_310000.out).2.1); (case side3 => repeat (first | exact (Kd.R_reads' HO_310001.out).2.2 | (with_reducible refine Kd.C_alloc ?_ _) | (with_reducible refine Kd.C_drewN ?_ _) | (with_reducible refine Kd.C_drew ?_))); (case side4 => exact (Kd.R_reads' HO_310001.out).2.1); (case side5 => repeat (first | exact (Kd.R_reads' HO_310002.out).2.2 | (with_reducible refine Kd.C_alloc ?_ _) | (with_reducible refine Kd.C_drewN ?_ _) | (with_reducible refine Kd.C_drew ?_))); (case side6 => exact (Kd.R_reads' HO_310002.out).2.1); rintro e w157 ⟨rfl, hb⟩; refine ⟨_, rfl, ?_⟩; replace HO_310000 := As.mk (Kd.R_below (by (with_reducible repeat (first | apply Kd.R_alloc | apply Kd.R_drewN | apply Kd.R_drew)); exact HO_310000.out) hb); replace HO_310001 := As.mk (Kd.R_below (by (with_reducible repeat (first | apply Kd.R_alloc | apply Kd.R_drewN | apply Kd.R_drew)); exact HO_310001.out) hb); replace HO_310002 := As.mk (Kd.R_below (by (with_reducible repeat (first | apply Kd.R_alloc | apply Kd.R_drewN | apply Kd.R_drew)); exact HO_310002.out) hb); replace HB := As.mk (below_step (be w) hb); (try clear hb); (try clear hb2); (try clear hk); (try clear hi)))
    go_ret
    exact ⟨by first | rfl | (simp [errW_none, errW_some] <;> rfl) | (simp [*, errW_none, errW_some] <;> rfl), be w⟩

end Go.Proofs.Ytnlhjblfemgggaa.PFnExactWritten
