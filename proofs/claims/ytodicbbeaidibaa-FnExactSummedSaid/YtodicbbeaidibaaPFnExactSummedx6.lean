/- Written by a program of this session (a turned copy of the kit's print): a contract for each Go function. No condition beside those in each statement. -/
import Derived.Test.YtodicbbeaidibaaPFnExactSummedx0
import Derived.Test.YtodicbbeaidibaaPFnExactSummedx1
import Derived.Test.YtodicbbeaidibaaPFnExactSummedx2
import Derived.Test.YtodicbbeaidibaaPFnExactSummedx3
import Derived.Test.YtodicbbeaidibaaPFnExactSummedx4
import Derived.Test.YtodicbbeaidibaaPFnExactSummedx5
namespace Go.Proofs.Ytodicbbeaidibaa.PFnExactSummed
open Go.RowKit Go.Proofs.YtodicbbeaidibaaW.PrintWords Go.Proofs.YtodicbbeaidibaaW.PrintLast Go.Proofs.YtodicbbeaidibaaW.PrintMore
attribute [local go_sem] max2_int min2_int max_two min_two max_three min_three max_four min_four   -- for this text's walks alone
set_option linter.unusedVariables false
set_option linter.unusedSimpArgs false

set_option maxHeartbeats 8000000 in
set_option maxRecDepth 100000 in
theorem laws_FnExactSummed.calls (k : Nat) (A0_0 : Option Addr) (c0_0 : Nat) (l0_0 : List (S98)) (A0_1 : Option Addr) (c0_1 : Nat) (l0_1 : List Int) (A0_2 : Option Addr) (c0_2 : Nat) (l0_2 : List Int) (a0_3 : Int) (a0_4 : Int) (a1 : Int) (a2 : Int) (r : Bool) (w : World) (hr0_0 : Kd.C k98 w A0_0 l0_0.length l0_0) (hc0_0 : l0_0.length ≤ c0_0) (hr0_1 : Kd.C (Kd.int .i64) w A0_1 l0_1.length l0_1) (hc0_1 : l0_1.length ≤ c0_1) (hr0_2 : Kd.C (Kd.int .i64) w A0_2 l0_2.length l0_2) (hc0_2 : l0_2.length ≤ c0_2) (h : laws_FnExactSummed.f k l0_0 l0_1 l0_2 a0_3 a0_4 a1 a2 = some r) :
  Calls Try.prog 3 #[.agg #[.slice A0_0 l0_0.length c0_0, .slice A0_1 l0_1.length c0_1, .slice A0_2 l0_2.length c0_2, .int .i64 a0_3, .int .i64 a0_4], .int .i64 a1, .int .i64 a2] w fun e w' => e = .returned (.bool r) ∧ Below w.heap.size w w' := by
 refine laws_FnExactSummed.callsP0.2 ⟨?_⟩ k A0_0 c0_0 l0_0 A0_1 c0_1 l0_1 A0_2 c0_2 l0_2 a0_3 a0_4 a1 a2 r w hr0_0 hc0_0 hr0_1 hc0_1 hr0_2 hc0_2 h
 clear h hc0_2 hr0_2 hc0_1 hr0_1 hc0_0 hr0_0 w r a2 a1 a0_4 a0_3 l0_2 c0_2 A0_2 l0_1 c0_1 A0_1 l0_0 c0_0 A0_0 k
 delta laws_FnExactSummed.callsP0
 dsimp only
 (set_option tactic.hygienic false in intros)
 (try rename World => wc)
 clear HC114
 try clear c1
 try clear c2
 try clear p2
 try clear c3
 try clear c4
 try clear c5
 try clear c6
 try clear c7
 try clear c8
 try clear c9
 try clear c9b0
 try clear c10
 try clear c11
 try clear c12
 try clear c13
 try clear c14
 try clear c15
 try clear c16
 try clear c23
 try clear c31
 try clear c32
 try clear c39
 try clear c40
 try clear c41
 try clear c46
 try clear c47
 try clear c48
 try clear c49
 try clear c51
 try clear c52
 try clear c55
 try clear c56
 try clear c57
 try clear c59
 try clear c60
 try clear c64
 try clear c74
 try clear c77
 try clear c78
 try clear c79
 try clear c82
 try clear c82b0
 try clear c84
 try clear c85
 try clear c86
 try clear c87
 try clear c89
 try clear c90
 try clear c93
 try clear c94
 try clear c95
 try clear c97
 try clear c98
 try clear c102
 try clear c106
 try clear c107
 try clear c108
 try clear c113
 try clear c113b0
 try clear c115
 try clear c115b0
 try clear c115b1
 try clear hcz109_0
 try clear hcz109_1
 try clear hcz109_2
 try clear hcz109_3
 try clear hcz109_4
 try clear hcz111_0
 try clear hcz111_1
 try clear hcz111_2
 try clear hcz111_3
 try clear hcz111_4
 try clear hcz15_0
 try clear hcz15_1
 try clear hcz15_2
 try clear hcz15_3
 try clear hcz15_4
 try clear hcz24_0
 try clear hcz24_1
 try clear hcz24_2
 try clear hcz24_3
 try clear hcz24_4
 try clear hcz27_0
 try clear hcz27_1
 try clear hcz27_2
 try clear hcz27_3
 try clear hcz27_4
 try clear hcz33_0
 try clear hcz33_1
 try clear hcz33_2
 try clear hcz33_3
 try clear hcz33_4
 try clear hcz42_0
 try clear hcz42_1
 try clear hcz42_2
 try clear hcz42_3
 try clear hcz42_4
 try clear hcz50_0
 try clear hcz50_1
 try clear hcz50_2
 try clear hcz50_3
 try clear hcz50_4
 try clear hcz53_0
 try clear hcz53_1
 try clear hcz53_2
 try clear hcz53_3
 try clear hcz53_4
 try clear hcz58_0
 try clear hcz58_1
 try clear hcz58_2
 try clear hcz58_3
 try clear hcz58_4
 try clear hcz61_0
 try clear hcz61_1
 try clear hcz61_2
 try clear hcz61_3
 try clear hcz61_4
 try clear hcz7_0
 try clear hcz7_1
 try clear hcz7_2
 try clear hcz7_3
 try clear hcz7_4
 try clear hcz80_0
 try clear hcz80_1
 try clear hcz80_2
 try clear hcz80_3
 try clear hcz80_4
 try clear hcz88_0
 try clear hcz88_1
 try clear hcz88_2
 try clear hcz88_3
 try clear hcz88_4
 try clear hcz91_0
 try clear hcz91_1
 try clear hcz91_2
 try clear hcz91_3
 try clear hcz91_4
 try clear hcz96_0
 try clear hcz96_1
 try clear hcz96_2
 try clear hcz96_3
 try clear hcz96_4
 try clear hcz99_0
 try clear hcz99_1
 try clear hcz99_2
 try clear hcz99_3
 try clear hcz99_4
 try clear hfz109_0
 try clear hfz109_1
 try clear hfz109_2
 try clear hfz109_3
 try clear hfz109_4
 try clear hfz111_0
 try clear hfz111_1
 try clear hfz111_2
 try clear hfz111_3
 try clear hfz111_4
 try clear hfz15_0
 try clear hfz15_1
 try clear hfz15_2
 try clear hfz15_3
 try clear hfz15_4
 try clear hfz24_0
 try clear hfz24_1
 try clear hfz24_2
 try clear hfz24_3
 try clear hfz24_4
 try clear hfz27_0
 try clear hfz27_1
 try clear hfz27_2
 try clear hfz27_3
 try clear hfz27_4
 try clear hfz33_0
 try clear hfz33_1
 try clear hfz33_2
 try clear hfz33_3
 try clear hfz33_4
 try clear hfz42_0
 try clear hfz42_1
 try clear hfz42_2
 try clear hfz42_3
 try clear hfz42_4
 try clear hfz50_0
 try clear hfz50_1
 try clear hfz50_2
 try clear hfz50_3
 try clear hfz50_4
 try clear hfz53_0
 try clear hfz53_1
 try clear hfz53_2
 try clear hfz53_3
 try clear hfz53_4
 try clear hfz58_0
 try clear hfz58_1
 try clear hfz58_2
 try clear hfz58_3
 try clear hfz58_4
 try clear hfz61_0
 try clear hfz61_1
 try clear hfz61_2
 try clear hfz61_3
 try clear hfz61_4
 try clear hfz7_0
 try clear hfz7_1
 try clear hfz7_2
 try clear hfz7_3
 try clear hfz7_4
 try clear hfz80_0
 try clear hfz80_1
 try clear hfz80_2
 try clear hfz80_3
 try clear hfz80_4
 try clear hfz88_0
 try clear hfz88_1
 try clear hfz88_2
 try clear hfz88_3
 try clear hfz88_4
 try clear hfz91_0
 try clear hfz91_1
 try clear hfz91_2
 try clear hfz91_3
 try clear hfz91_4
 try clear hfz96_0
 try clear hfz96_1
 try clear hfz96_2
 try clear hfz96_3
 try clear hfz96_4
 try clear hfz99_0
 try clear hfz99_1
 try clear hfz99_2
 try clear hfz99_3
 try clear hfz99_4
 try clear p2
 obtain ⟨kq, HA, HJ113, HO_258000, HO_258001, HO_258002, HO_270000, HO_270001, HO_270002, HO_283000, HO_283001, HO_283002, BK232, BK257, BK269, BK282, HB⟩ := hcut
 cases kq with
 | zero => exact absurd HA.out (by simp [laws_FnExactSummed.j7])
 | succ kj113 =>
  have H := HA.out
  clear HA
  simp only [laws_FnExactSummed.j7] at H
  replace H := Option.bind_eq_some_iff.mp H
  obtain ⟨⟨t306, t309, t312, t315, t316⟩, A1160, H⟩ := H
  replace H : ((impl_Summed.f t306 t309 t312 t315 t316 a1 a2).bind fun bt317 => ((laws_eqMemory.f kj113 bt317.1 bt317.2.1 bt317.2.2.1 bt317.2.2.2.1 bt317.2.2.2.2.1 t245 t248 t251 t254 t255).bind fun t330 => (if t330 = true then (laws_FnExactSummed.j8 kj113 t301 (bt317.2.2.2.2.2 != t256) t302 t303 t304 t279 t280) else (laws_FnExactSummed.j8 kj113 t301 true t302 t303 t304 t279 t280)))) = some r := H
  have A116 := Aside0.mk A1160
  clear A1160
  replace H := Option.bind_eq_some_iff.mp H
  obtain ⟨⟨t317, t320, t323, t326, t327, t328⟩, A1170, H⟩ := H
  replace H : ((laws_eqMemory.f kj113 t317 t320 t323 t326 t327 t245 t248 t251 t254 t255).bind fun t330 => (if t330 = true then (laws_FnExactSummed.j8 kj113 t301 (t328 != t256) t302 t303 t304 t279 t280) else (laws_FnExactSummed.j8 kj113 t301 true t302 t303 t304 t279 t280))) = some r := H
  have A117 := Aside0.mk A1170
  clear A1170
  have HC118 := Aside0.mk H
  clear H
  have hnb119 := NB232_257.out
  have hnc119 := NB257_232.out
  have hnb120 := NB232_269.out
  have hnc120 := NB269_232.out
  have hnb121 := NB232_282.out
  have hnc121 := NB282_232.out
  have hcz122_0 : wc.cell? ⟨gb232, 0, none⟩ = some (.slice A0_0 l0_0.length c0_0) := (blk_cell BK232.out 0).trans rfl
  have hcz122_1 : wc.cell? ⟨gb232, 1, none⟩ = some (.slice A0_1 l0_1.length c0_1) := (blk_cell BK232.out 1).trans rfl
  have hcz122_2 : wc.cell? ⟨gb232, 2, none⟩ = some (.slice A0_2 l0_2.length c0_2) := (blk_cell BK232.out 2).trans rfl
  have hcz122_3 : wc.cell? ⟨gb232, 3, none⟩ = some (.int .i64 a0_3) := (blk_cell BK232.out 3).trans rfl
  have hcz122_4 : wc.cell? ⟨gb232, 4, none⟩ = some (.int .i64 a0_4) := (blk_cell BK232.out 4).trans rfl
  have hfz122_0 := blk_frozen BK232.out 0
  have hfz122_1 := blk_frozen BK232.out 1
  have hfz122_2 := blk_frozen BK232.out 2
  have hfz122_3 := blk_frozen BK232.out 3
  have hfz122_4 := blk_frozen BK232.out 4
  go_upto_region 25 with (first | ((with_reducible refine gate_callee (f := 12) rfl ?_); refine goesL_ (some 83) rfl rfl Try.func12 (by kernel_rfl) rfl #[.agg #[.slice A0_0 l0_0.length c0_0, .slice A0_1 l0_1.length c0_1, .slice A0_2 l0_2.length c0_2, .int .i64 a0_3, .int .i64 a0_4]] rfl (by (try simp only [List.map_toArray, List.map_cons, List.map_nil]); first | done | rfl | (simp only [List.length_drop, List.length_take]; rfl)) ?_; (with_reducible refine (laws_toMemory.calls kj113 _ _ l0_0 _ _ l0_1 _ _ l0_2 a0_3 a0_4 t306 t309 t312 t315 t316 _ ?side1 ?side2 ?side3 ?side4 ?side5 ?side6 A116.out).mono ?_); (case side1 => repeat (first | exact (Kd.C_below HR0_0.out HB.out) | (with_reducible refine Kd.C_alloc ?_ _) | (with_reducible refine Kd.C_drewN ?_ _) | (with_reducible refine Kd.C_drew ?_))); (case side2 => exact HC0_0.out); (case side3 => repeat (first | exact (Kd.C_below HR0_1.out HB.out) | (with_reducible refine Kd.C_alloc ?_ _) | (with_reducible refine Kd.C_drewN ?_ _) | (with_reducible refine Kd.C_drew ?_))); (case side4 => exact HC0_1.out); (case side5 => repeat (first | exact (Kd.C_below HR0_2.out HB.out) | (with_reducible refine Kd.C_alloc ?_ _) | (with_reducible refine Kd.C_drewN ?_ _) | (with_reducible refine Kd.C_drew ?_))); (case side6 => exact HC0_2.out); rintro e w123 ⟨v307, v310, v313, rfl, ho0, ho1, ho2, hb⟩; refine ⟨_, rfl, ?_⟩; have n0_ := Aside0.mk (Kd.R_elder' (by (with_reducible repeat (first | apply Kd.R_alloc | apply Kd.R_drewN | apply Kd.R_drew)); exact HO_258000.out) (Kd.R_base ho0) hb); have n1_ := Aside0.mk (Kd.R_mono (Kd.R_told (Kd.R_told (Kd.R_old (by (with_reducible repeat (first | apply Kd.R_alloc | apply Kd.R_drewN | apply Kd.R_drew)); exact HO_258001.out) hb) (Kd.R_base ho1)) (Kd.R_base ho2)) (fun _ h_ => h_.1)); have n2_ := Aside0.mk (Kd.R_mono (Kd.R_told (Kd.R_told (Kd.R_old (by (with_reducible repeat (first | apply Kd.R_alloc | apply Kd.R_drewN | apply Kd.R_drew)); exact HO_258002.out) hb) (Kd.R_base ho1)) (Kd.R_base ho2)) (fun _ h_ => h_.1)); have n3_ := Aside0.mk (Kd.R_elder' (by (with_reducible repeat (first | apply Kd.R_alloc | apply Kd.R_drewN | apply Kd.R_drew)); exact HO_270000.out) (Kd.R_base ho0) hb); have n4_ := Aside0.mk (Kd.R_mono (Kd.R_told (Kd.R_told (Kd.R_old (by (with_reducible repeat (first | apply Kd.R_alloc | apply Kd.R_drewN | apply Kd.R_drew)); exact HO_270001.out) hb) (Kd.R_base ho1)) (Kd.R_base ho2)) (fun _ h_ => h_.1)); have n5_ := Aside0.mk (Kd.R_mono (Kd.R_told (Kd.R_told (Kd.R_old (by (with_reducible repeat (first | apply Kd.R_alloc | apply Kd.R_drewN | apply Kd.R_drew)); exact HO_270002.out) hb) (Kd.R_base ho1)) (Kd.R_base ho2)) (fun _ h_ => h_.1)); have n6_ := Aside0.mk (Kd.R_elder' (by (with_reducible repeat (first | apply Kd.R_alloc | apply Kd.R_drewN | apply Kd.R_drew)); exact HO_283000.out) (Kd.R_base ho0) hb); have n7_ := Aside0.mk (Kd.R_mono (Kd.R_told (Kd.R_told (Kd.R_old (by (with_reducible repeat (first | apply Kd.R_alloc | apply Kd.R_drewN | apply Kd.R_drew)); exact HO_283001.out) hb) (Kd.R_base ho1)) (Kd.R_base ho2)) (fun _ h_ => h_.1)); have n8_ := Aside0.mk (Kd.R_mono (Kd.R_told (Kd.R_told (Kd.R_old (by (with_reducible repeat (first | apply Kd.R_alloc | apply Kd.R_drewN | apply Kd.R_drew)); exact HO_283002.out) hb) (Kd.R_base ho1)) (Kd.R_base ho2)) (fun _ h_ => h_.1)); have n9_ := Aside0.mk (Kd.R_lower (Kd.R_new' (Kd.R_new' (Kd.R_new' ho0 (Kd.R_lt (by (with_reducible repeat (first | apply Kd.R_alloc | apply Kd.R_drewN | apply Kd.R_drew)); exact HO_258000.out))) (Kd.R_lt (by (with_reducible repeat (first | apply Kd.R_alloc | apply Kd.R_drewN | apply Kd.R_drew)); exact HO_270000.out))) (Kd.R_lt (by (with_reducible repeat (first | apply Kd.R_alloc | apply Kd.R_drewN | apply Kd.R_drew)); exact HO_283000.out))) (below_size (by repeat (first | (with_reducible first | exact HB.out | apply below_alloc | apply pw_below_drewN | apply below_drew1 | refine below_set ?_ GE232.out | refine below_set ?_ GE257.out | refine below_set ?_ GE269.out | refine below_set ?_ GE282.out) | exact HB.out)))); have n10_ := Aside0.mk (Kd.R_lower (Kd.R_new' (Kd.R_new' (Kd.R_new' (Kd.R_new' (Kd.R_new' (Kd.R_new' ho1 (Kd.R_lt (by (with_reducible repeat (first | apply Kd.R_alloc | apply Kd.R_drewN | apply Kd.R_drew)); exact HO_258001.out))) (Kd.R_lt (by (with_reducible repeat (first | apply Kd.R_alloc | apply Kd.R_drewN | apply Kd.R_drew)); exact HO_258002.out))) (Kd.R_lt (by (with_reducible repeat (first | apply Kd.R_alloc | apply Kd.R_drewN | apply Kd.R_drew)); exact HO_270001.out))) (Kd.R_lt (by (with_reducible repeat (first | apply Kd.R_alloc | apply Kd.R_drewN | apply Kd.R_drew)); exact HO_270002.out))) (Kd.R_lt (by (with_reducible repeat (first | apply Kd.R_alloc | apply Kd.R_drewN | apply Kd.R_drew)); exact HO_283001.out))) (Kd.R_lt (by (with_reducible repeat (first | apply Kd.R_alloc | apply Kd.R_drewN | apply Kd.R_drew)); exact HO_283002.out))) (below_size (by repeat (first | (with_reducible first | exact HB.out | apply below_alloc | apply pw_below_drewN | apply below_drew1 | refine below_set ?_ GE232.out | refine below_set ?_ GE257.out | refine below_set ?_ GE269.out | refine below_set ?_ GE282.out) | exact HB.out)))); have n11_ := Aside0.mk (Kd.R_lower (Kd.R_new' (Kd.R_new' (Kd.R_new' (Kd.R_new' (Kd.R_new' (Kd.R_new' ho2 (Kd.R_lt (by (with_reducible repeat (first | apply Kd.R_alloc | apply Kd.R_drewN | apply Kd.R_drew)); exact HO_258001.out))) (Kd.R_lt (by (with_reducible repeat (first | apply Kd.R_alloc | apply Kd.R_drewN | apply Kd.R_drew)); exact HO_258002.out))) (Kd.R_lt (by (with_reducible repeat (first | apply Kd.R_alloc | apply Kd.R_drewN | apply Kd.R_drew)); exact HO_270001.out))) (Kd.R_lt (by (with_reducible repeat (first | apply Kd.R_alloc | apply Kd.R_drewN | apply Kd.R_drew)); exact HO_270002.out))) (Kd.R_lt (by (with_reducible repeat (first | apply Kd.R_alloc | apply Kd.R_drewN | apply Kd.R_drew)); exact HO_283001.out))) (Kd.R_lt (by (with_reducible repeat (first | apply Kd.R_alloc | apply Kd.R_drewN | apply Kd.R_drew)); exact HO_283002.out))) (below_size (by repeat (first | (with_reducible first | exact HB.out | apply below_alloc | apply pw_below_drewN | apply below_drew1 | refine below_set ?_ GE232.out | refine below_set ?_ GE257.out | refine below_set ?_ GE269.out | refine below_set ?_ GE282.out) | exact HB.out)))); have n12_ := Aside0.mk (blk_below (g := gb232) (o := .cells #[.slice A0_0 l0_0.length c0_0, .slice A0_1 l0_1.length c0_1, .slice A0_2 l0_2.length c0_2, .int .i64 a0_3, .int .i64 a0_4] 25 (0, 0)) (by (with_reducible repeat (first | refine blk_drewN ?_ _ | refine blk_drew ?_ | refine blk_alloc ?_ _)); exact BK232.out) hb); have n13_ := Aside0.mk (blk_below (g := gb257) (o := .cells #[.slice Ao22 t245.length co22, .slice Ao25 t248.length co25, .slice Ao26 t251.length co26, .int .i64 t254, .int .i64 t255] 29 (0, 0)) (by (with_reducible repeat (first | refine blk_drewN ?_ _ | refine blk_drew ?_ | refine blk_alloc ?_ _)); exact BK257.out) hb); have n14_ := Aside0.mk (blk_below (g := gb269) (o := .cells #[.slice Ao30 t297.length co30, .slice Ao34 t298.length co34, .slice Ao35 t299.length co35, .int .i64 t267, .int .i64 t268] 29 (0, 0)) (by (with_reducible repeat (first | refine blk_drewN ?_ _ | refine blk_drew ?_ | refine blk_alloc ?_ _)); exact BK269.out) hb); have n15_ := Aside0.mk (blk_below (g := gb282) (o := .cells #[.slice Ao38 t302.length co38, .slice Ao43 t303.length co43, .slice Ao44 t304.length co44, .int .i64 t279, .int .i64 t280] 29 (0, 0)) (by (with_reducible repeat (first | refine blk_drewN ?_ _ | refine blk_drew ?_ | refine blk_alloc ?_ _)); exact BK282.out) hb); have n16_ := Aside0.mk (below_step (by repeat (first | (with_reducible first | exact HB.out | apply below_alloc | apply pw_below_drewN | apply below_drew1 | refine below_set ?_ GE232.out | refine below_set ?_ GE257.out | refine below_set ?_ GE269.out | refine below_set ?_ GE282.out) | exact HB.out)) hb); clear HO_258000; clear HO_258001; clear HO_258002; clear HO_270000; clear HO_270001; clear HO_270002; clear HO_283000; clear HO_283001; clear HO_283002; clear BK232; clear BK257; clear BK269; clear BK282; clear HB; have HO_258000 := n0_; have HO_258001 := n1_; have HO_258002 := n2_; have HO_270000 := n3_; have HO_270001 := n4_; have HO_270002 := n5_; have HO_283000 := n6_; have HO_283001 := n7_; have HO_283002 := n8_; have HO308 := n9_; have HO311 := n10_; have HO314 := n11_; have BK232 := n12_; have BK257 := n13_; have BK269 := n14_; have BK282 := n15_; have HB := n16_; clear n0_ n1_ n2_ n3_ n4_ n5_ n6_ n7_ n8_ n9_ n10_ n11_ n12_ n13_ n14_ n15_ n16_; (try clear hb); (try clear hb2); (try clear hk); (try clear hi); (try clear ho0); (try clear ho1); (try clear ho2); obtain ⟨Ao124, co124, eo124⟩ := Kd.R_slice HO308.out; subst eo124; obtain ⟨Ao125, co125, eo125⟩ := Kd.R_slice HO311.out; subst eo125; obtain ⟨Ao126, co126, eo126⟩ := Kd.R_slice HO314.out; subst eo126) | ((with_reducible refine gate_callee (f := 13) rfl ?_); refine goesL_ (some 86) rfl rfl Try.func13 (by kernel_rfl) rfl #[.agg #[.slice Ao124 t306.length co124, .slice Ao125 t309.length co125, .slice Ao126 t312.length co126, .int .i64 t315, .int .i64 t316], .int .i64 a1, .int .i64 a2] rfl (by (try simp only [List.map_toArray, List.map_cons, List.map_nil]); first | done | rfl | (simp only [List.length_drop, List.length_take]; rfl)) ?_; (with_reducible refine (impl_Summed.calls _ _ t306 _ _ t309 _ _ t312 t315 t316 a1 a2 t317 t320 t323 t326 t327 t328 _ ?side1 ?side2 ?side3 ?side4 ?side5 ?side6 A117.out).mono ?_); (case side1 => repeat (first | exact (Kd.R_reads' HO308.out).2.2 | (with_reducible refine Kd.C_alloc ?_ _) | (with_reducible refine Kd.C_drewN ?_ _) | (with_reducible refine Kd.C_drew ?_))); (case side2 => exact (Kd.R_reads' HO308.out).2.1); (case side3 => repeat (first | exact (Kd.R_reads' HO311.out).2.2 | (with_reducible refine Kd.C_alloc ?_ _) | (with_reducible refine Kd.C_drewN ?_ _) | (with_reducible refine Kd.C_drew ?_))); (case side4 => exact (Kd.R_reads' HO311.out).2.1); (case side5 => repeat (first | exact (Kd.R_reads' HO314.out).2.2 | (with_reducible refine Kd.C_alloc ?_ _) | (with_reducible refine Kd.C_drewN ?_ _) | (with_reducible refine Kd.C_drew ?_))); (case side6 => exact (Kd.R_reads' HO314.out).2.1); rintro e w127 ⟨v318, v321, v324, rfl, ho0, ho1, ho2, hb⟩; refine ⟨_, rfl, ?_⟩; have n0_ := Aside0.mk (Kd.R_elder' (by (with_reducible repeat (first | apply Kd.R_alloc | apply Kd.R_drewN | apply Kd.R_drew)); exact HO_258000.out) (Kd.R_base ho0) hb); have n1_ := Aside0.mk (Kd.R_mono (Kd.R_told (Kd.R_told (Kd.R_old (by (with_reducible repeat (first | apply Kd.R_alloc | apply Kd.R_drewN | apply Kd.R_drew)); exact HO_258001.out) hb) (Kd.R_base ho1)) (Kd.R_base ho2)) (fun _ h_ => h_.1)); have n2_ := Aside0.mk (Kd.R_mono (Kd.R_told (Kd.R_told (Kd.R_old (by (with_reducible repeat (first | apply Kd.R_alloc | apply Kd.R_drewN | apply Kd.R_drew)); exact HO_258002.out) hb) (Kd.R_base ho1)) (Kd.R_base ho2)) (fun _ h_ => h_.1)); have n3_ := Aside0.mk (Kd.R_elder' (by (with_reducible repeat (first | apply Kd.R_alloc | apply Kd.R_drewN | apply Kd.R_drew)); exact HO_270000.out) (Kd.R_base ho0) hb); have n4_ := Aside0.mk (Kd.R_mono (Kd.R_told (Kd.R_told (Kd.R_old (by (with_reducible repeat (first | apply Kd.R_alloc | apply Kd.R_drewN | apply Kd.R_drew)); exact HO_270001.out) hb) (Kd.R_base ho1)) (Kd.R_base ho2)) (fun _ h_ => h_.1)); have n5_ := Aside0.mk (Kd.R_mono (Kd.R_told (Kd.R_told (Kd.R_old (by (with_reducible repeat (first | apply Kd.R_alloc | apply Kd.R_drewN | apply Kd.R_drew)); exact HO_270002.out) hb) (Kd.R_base ho1)) (Kd.R_base ho2)) (fun _ h_ => h_.1)); have n6_ := Aside0.mk (Kd.R_elder' (by (with_reducible repeat (first | apply Kd.R_alloc | apply Kd.R_drewN | apply Kd.R_drew)); exact HO_283000.out) (Kd.R_base ho0) hb); have n7_ := Aside0.mk (Kd.R_mono (Kd.R_told (Kd.R_told (Kd.R_old (by (with_reducible repeat (first | apply Kd.R_alloc | apply Kd.R_drewN | apply Kd.R_drew)); exact HO_283001.out) hb) (Kd.R_base ho1)) (Kd.R_base ho2)) (fun _ h_ => h_.1)); have n8_ := Aside0.mk (Kd.R_mono (Kd.R_told (Kd.R_told (Kd.R_old (by (with_reducible repeat (first | apply Kd.R_alloc | apply Kd.R_drewN | apply Kd.R_drew)); exact HO_283002.out) hb) (Kd.R_base ho1)) (Kd.R_base ho2)) (fun _ h_ => h_.1)); have n9_ := Aside0.mk (Kd.R_elder' (by (with_reducible repeat (first | apply Kd.R_alloc | apply Kd.R_drewN | apply Kd.R_drew)); exact HO308.out) (Kd.R_base ho0) hb); have n10_ := Aside0.mk (Kd.R_mono (Kd.R_told (Kd.R_told (Kd.R_old (by (with_reducible repeat (first | apply Kd.R_alloc | apply Kd.R_drewN | apply Kd.R_drew)); exact HO311.out) hb) (Kd.R_base ho1)) (Kd.R_base ho2)) (fun _ h_ => h_.1)); have n11_ := Aside0.mk (Kd.R_mono (Kd.R_told (Kd.R_told (Kd.R_old (by (with_reducible repeat (first | apply Kd.R_alloc | apply Kd.R_drewN | apply Kd.R_drew)); exact HO314.out) hb) (Kd.R_base ho1)) (Kd.R_base ho2)) (fun _ h_ => h_.1)); have n12_ := Aside0.mk (Kd.R_lower (Kd.R_new' (Kd.R_new' (Kd.R_new' (Kd.R_new' ho0 (Kd.R_lt (by (with_reducible repeat (first | apply Kd.R_alloc | apply Kd.R_drewN | apply Kd.R_drew)); exact HO_258000.out))) (Kd.R_lt (by (with_reducible repeat (first | apply Kd.R_alloc | apply Kd.R_drewN | apply Kd.R_drew)); exact HO_270000.out))) (Kd.R_lt (by (with_reducible repeat (first | apply Kd.R_alloc | apply Kd.R_drewN | apply Kd.R_drew)); exact HO_283000.out))) (Kd.R_lt (by (with_reducible repeat (first | apply Kd.R_alloc | apply Kd.R_drewN | apply Kd.R_drew)); exact HO308.out))) (below_size (by repeat (first | (with_reducible first | exact HB.out | apply below_alloc | apply pw_below_drewN | apply below_drew1 | refine below_set ?_ GE232.out | refine below_set ?_ GE257.out | refine below_set ?_ GE269.out | refine below_set ?_ GE282.out) | exact HB.out)))); have n13_ := Aside0.mk (Kd.R_lower (Kd.R_new' (Kd.R_new' (Kd.R_new' (Kd.R_new' (Kd.R_new' (Kd.R_new' (Kd.R_new' (Kd.R_new' ho1 (Kd.R_lt (by (with_reducible repeat (first | apply Kd.R_alloc | apply Kd.R_drewN | apply Kd.R_drew)); exact HO_258001.out))) (Kd.R_lt (by (with_reducible repeat (first | apply Kd.R_alloc | apply Kd.R_drewN | apply Kd.R_drew)); exact HO_258002.out))) (Kd.R_lt (by (with_reducible repeat (first | apply Kd.R_alloc | apply Kd.R_drewN | apply Kd.R_drew)); exact HO_270001.out))) (Kd.R_lt (by (with_reducible repeat (first | apply Kd.R_alloc | apply Kd.R_drewN | apply Kd.R_drew)); exact HO_270002.out))) (Kd.R_lt (by (with_reducible repeat (first | apply Kd.R_alloc | apply Kd.R_drewN | apply Kd.R_drew)); exact HO_283001.out))) (Kd.R_lt (by (with_reducible repeat (first | apply Kd.R_alloc | apply Kd.R_drewN | apply Kd.R_drew)); exact HO_283002.out))) (Kd.R_lt (by (with_reducible repeat (first | apply Kd.R_alloc | apply Kd.R_drewN | apply Kd.R_drew)); exact HO311.out))) (Kd.R_lt (by (with_reducible repeat (first | apply Kd.R_alloc | apply Kd.R_drewN | apply Kd.R_drew)); exact HO314.out))) (below_size (by repeat (first | (with_reducible first | exact HB.out | apply below_alloc | apply pw_below_drewN | apply below_drew1 | refine below_set ?_ GE232.out | refine below_set ?_ GE257.out | refine below_set ?_ GE269.out | refine below_set ?_ GE282.out) | exact HB.out)))); have n14_ := Aside0.mk (Kd.R_lower (Kd.R_new' (Kd.R_new' (Kd.R_new' (Kd.R_new' (Kd.R_new' (Kd.R_new' (Kd.R_new' (Kd.R_new' ho2 (Kd.R_lt (by (with_reducible repeat (first | apply Kd.R_alloc | apply Kd.R_drewN | apply Kd.R_drew)); exact HO_258001.out))) (Kd.R_lt (by (with_reducible repeat (first | apply Kd.R_alloc | apply Kd.R_drewN | apply Kd.R_drew)); exact HO_258002.out))) (Kd.R_lt (by (with_reducible repeat (first | apply Kd.R_alloc | apply Kd.R_drewN | apply Kd.R_drew)); exact HO_270001.out))) (Kd.R_lt (by (with_reducible repeat (first | apply Kd.R_alloc | apply Kd.R_drewN | apply Kd.R_drew)); exact HO_270002.out))) (Kd.R_lt (by (with_reducible repeat (first | apply Kd.R_alloc | apply Kd.R_drewN | apply Kd.R_drew)); exact HO_283001.out))) (Kd.R_lt (by (with_reducible repeat (first | apply Kd.R_alloc | apply Kd.R_drewN | apply Kd.R_drew)); exact HO_283002.out))) (Kd.R_lt (by (with_reducible repeat (first | apply Kd.R_alloc | apply Kd.R_drewN | apply Kd.R_drew)); exact HO311.out))) (Kd.R_lt (by (with_reducible repeat (first | apply Kd.R_alloc | apply Kd.R_drewN | apply Kd.R_drew)); exact HO314.out))) (below_size (by repeat (first | (with_reducible first | exact HB.out | apply below_alloc | apply pw_below_drewN | apply below_drew1 | refine below_set ?_ GE232.out | refine below_set ?_ GE257.out | refine below_set ?_ GE269.out | refine below_set ?_ GE282.out) | exact HB.out)))); have n15_ := Aside0.mk (blk_below (g := gb232) (o := .cells #[.slice A0_0 l0_0.length c0_0, .slice A0_1 l0_1.length c0_1, .slice A0_2 l0_2.length c0_2, .int .i64 a0_3, .int .i64 a0_4] 25 (0, 0)) (by (with_reducible repeat (first | refine blk_drewN ?_ _ | refine blk_drew ?_ | refine blk_alloc ?_ _)); exact BK232.out) hb); have n16_ := Aside0.mk (blk_below (g := gb257) (o := .cells #[.slice Ao22 t245.length co22, .slice Ao25 t248.length co25, .slice Ao26 t251.length co26, .int .i64 t254, .int .i64 t255] 29 (0, 0)) (by (with_reducible repeat (first | refine blk_drewN ?_ _ | refine blk_drew ?_ | refine blk_alloc ?_ _)); exact BK257.out) hb); have n17_ := Aside0.mk (blk_below (g := gb269) (o := .cells #[.slice Ao30 t297.length co30, .slice Ao34 t298.length co34, .slice Ao35 t299.length co35, .int .i64 t267, .int .i64 t268] 29 (0, 0)) (by (with_reducible repeat (first | refine blk_drewN ?_ _ | refine blk_drew ?_ | refine blk_alloc ?_ _)); exact BK269.out) hb); have n18_ := Aside0.mk (blk_below (g := gb282) (o := .cells #[.slice Ao38 t302.length co38, .slice Ao43 t303.length co43, .slice Ao44 t304.length co44, .int .i64 t279, .int .i64 t280] 29 (0, 0)) (by (with_reducible repeat (first | refine blk_drewN ?_ _ | refine blk_drew ?_ | refine blk_alloc ?_ _)); exact BK282.out) hb); have n19_ := Aside0.mk (below_step (by repeat (first | (with_reducible first | exact HB.out | apply below_alloc | apply pw_below_drewN | apply below_drew1 | refine below_set ?_ GE232.out | refine below_set ?_ GE257.out | refine below_set ?_ GE269.out | refine below_set ?_ GE282.out) | exact HB.out)) hb); clear HO_258000; clear HO_258001; clear HO_258002; clear HO_270000; clear HO_270001; clear HO_270002; clear HO_283000; clear HO_283001; clear HO_283002; clear HO308; clear HO311; clear HO314; clear BK232; clear BK257; clear BK269; clear BK282; clear HB; have HO_258000 := n0_; have HO_258001 := n1_; have HO_258002 := n2_; have HO_270000 := n3_; have HO_270001 := n4_; have HO_270002 := n5_; have HO_283000 := n6_; have HO_283001 := n7_; have HO_283002 := n8_; have HO308 := n9_; have HO311 := n10_; have HO314 := n11_; have HO319 := n12_; have HO322 := n13_; have HO325 := n14_; have BK232 := n15_; have BK257 := n16_; have BK269 := n17_; have BK282 := n18_; have HB := n19_; clear n0_ n1_ n2_ n3_ n4_ n5_ n6_ n7_ n8_ n9_ n10_ n11_ n12_ n13_ n14_ n15_ n16_ n17_ n18_ n19_; (try clear hb); (try clear hb2); (try clear hk); (try clear hi); (try clear ho0); (try clear ho1); (try clear ho2)) | ((with_reducible refine gate_dst (N := 16) rfl ?_); refine box_event ?hg (N := 16) ?hd (cs := #[.slice none 0 0, .slice none 0 0, .slice none 0 0, .int .i64 0, .int .i64 0]) (t := 29) ?hr ?_; (case hd => rfl); (case hg => rfl); (case hr => first | (go_simp; done) | (go_simp; rfl)); intro gb329 hg w128 hbox hb; have n0_ := Aside0.mk (Kd.R_below (by (with_reducible repeat (first | apply Kd.R_alloc | apply Kd.R_drewN | apply Kd.R_drew)); exact HO_258000.out) hb); have n1_ := Aside0.mk (Kd.R_below (by (with_reducible repeat (first | apply Kd.R_alloc | apply Kd.R_drewN | apply Kd.R_drew)); exact HO_258001.out) hb); have n2_ := Aside0.mk (Kd.R_below (by (with_reducible repeat (first | apply Kd.R_alloc | apply Kd.R_drewN | apply Kd.R_drew)); exact HO_258002.out) hb); have n3_ := Aside0.mk (Kd.R_below (by (with_reducible repeat (first | apply Kd.R_alloc | apply Kd.R_drewN | apply Kd.R_drew)); exact HO_270000.out) hb); have n4_ := Aside0.mk (Kd.R_below (by (with_reducible repeat (first | apply Kd.R_alloc | apply Kd.R_drewN | apply Kd.R_drew)); exact HO_270001.out) hb); have n5_ := Aside0.mk (Kd.R_below (by (with_reducible repeat (first | apply Kd.R_alloc | apply Kd.R_drewN | apply Kd.R_drew)); exact HO_270002.out) hb); have n6_ := Aside0.mk (Kd.R_below (by (with_reducible repeat (first | apply Kd.R_alloc | apply Kd.R_drewN | apply Kd.R_drew)); exact HO_283000.out) hb); have n7_ := Aside0.mk (Kd.R_below (by (with_reducible repeat (first | apply Kd.R_alloc | apply Kd.R_drewN | apply Kd.R_drew)); exact HO_283001.out) hb); have n8_ := Aside0.mk (Kd.R_below (by (with_reducible repeat (first | apply Kd.R_alloc | apply Kd.R_drewN | apply Kd.R_drew)); exact HO_283002.out) hb); have n9_ := Aside0.mk (Kd.R_below (by (with_reducible repeat (first | apply Kd.R_alloc | apply Kd.R_drewN | apply Kd.R_drew)); exact HO319.out) hb); have n10_ := Aside0.mk (Kd.R_below (by (with_reducible repeat (first | apply Kd.R_alloc | apply Kd.R_drewN | apply Kd.R_drew)); exact HO322.out) hb); have n11_ := Aside0.mk (Kd.R_below (by (with_reducible repeat (first | apply Kd.R_alloc | apply Kd.R_drewN | apply Kd.R_drew)); exact HO325.out) hb); have n12_ := Aside0.mk (blk_below (g := gb232) (o := .cells #[.slice A0_0 l0_0.length c0_0, .slice A0_1 l0_1.length c0_1, .slice A0_2 l0_2.length c0_2, .int .i64 a0_3, .int .i64 a0_4] 25 (0, 0)) (by (with_reducible repeat (first | refine blk_drewN ?_ _ | refine blk_drew ?_ | refine blk_alloc ?_ _)); exact BK232.out) hb); have n13_ := Aside0.mk (blk_below (g := gb257) (o := .cells #[.slice Ao22 t245.length co22, .slice Ao25 t248.length co25, .slice Ao26 t251.length co26, .int .i64 t254, .int .i64 t255] 29 (0, 0)) (by (with_reducible repeat (first | refine blk_drewN ?_ _ | refine blk_drew ?_ | refine blk_alloc ?_ _)); exact BK257.out) hb); have n14_ := Aside0.mk (blk_below (g := gb269) (o := .cells #[.slice Ao30 t297.length co30, .slice Ao34 t298.length co34, .slice Ao35 t299.length co35, .int .i64 t267, .int .i64 t268] 29 (0, 0)) (by (with_reducible repeat (first | refine blk_drewN ?_ _ | refine blk_drew ?_ | refine blk_alloc ?_ _)); exact BK269.out) hb); have n15_ := Aside0.mk (blk_below (g := gb282) (o := .cells #[.slice Ao38 t302.length co38, .slice Ao43 t303.length co43, .slice Ao44 t304.length co44, .int .i64 t279, .int .i64 t280] 29 (0, 0)) (by (with_reducible repeat (first | refine blk_drewN ?_ _ | refine blk_drew ?_ | refine blk_alloc ?_ _)); exact BK282.out) hb); have n16_ := Aside0.mk (below_step (by repeat (first | (with_reducible first | exact HB.out | apply below_alloc | apply pw_below_drewN | apply below_drew1 | refine below_set ?_ GE232.out | refine below_set ?_ GE257.out | refine below_set ?_ GE269.out | refine below_set ?_ GE282.out) | exact HB.out)) hb); have n17_ := Aside0.mk (hbox); have n18_ := Aside0.mk ((by rw [hg]; exact (below_size (by repeat (first | (with_reducible first | exact HB.out | apply below_alloc | apply pw_below_drewN | apply below_drew1 | refine below_set ?_ GE232.out | refine below_set ?_ GE257.out | refine below_set ?_ GE269.out | refine below_set ?_ GE282.out) | exact HB.out))) : w.heap.size ≤ gb329)); have n19_ := Aside0.mk ((by rw [hg]; exact (below_size (by repeat (first | (with_reducible first | exact HB.out | apply below_alloc | apply pw_below_drewN | apply below_drew1 | refine below_set ?_ GE232.out | refine below_set ?_ GE257.out | refine below_set ?_ GE269.out | refine below_set ?_ GE282.out) | exact HB.out))) : w.heap.size ≤ gb329)); have n20_ := Aside0.mk ((by rw [hg]; exact Nat.ne_of_lt (blk_lt (g := gb232) (o := .cells #[.slice A0_0 l0_0.length c0_0, .slice A0_1 l0_1.length c0_1, .slice A0_2 l0_2.length c0_2, .int .i64 a0_3, .int .i64 a0_4] 25 (0, 0)) (by (with_reducible repeat (first | refine blk_drewN ?_ _ | refine blk_drew ?_ | refine blk_alloc ?_ _)); exact BK232.out)) : gb232 ≠ gb329)); have n21_ := Aside0.mk ((by rw [hg]; exact Nat.ne_of_gt (blk_lt (g := gb232) (o := .cells #[.slice A0_0 l0_0.length c0_0, .slice A0_1 l0_1.length c0_1, .slice A0_2 l0_2.length c0_2, .int .i64 a0_3, .int .i64 a0_4] 25 (0, 0)) (by (with_reducible repeat (first | refine blk_drewN ?_ _ | refine blk_drew ?_ | refine blk_alloc ?_ _)); exact BK232.out)) : gb329 ≠ gb232)); have n22_ := Aside0.mk ((by rw [hg]; exact Nat.ne_of_lt (blk_lt (g := gb257) (o := .cells #[.slice Ao22 t245.length co22, .slice Ao25 t248.length co25, .slice Ao26 t251.length co26, .int .i64 t254, .int .i64 t255] 29 (0, 0)) (by (with_reducible repeat (first | refine blk_drewN ?_ _ | refine blk_drew ?_ | refine blk_alloc ?_ _)); exact BK257.out)) : gb257 ≠ gb329)); have n23_ := Aside0.mk ((by rw [hg]; exact Nat.ne_of_gt (blk_lt (g := gb257) (o := .cells #[.slice Ao22 t245.length co22, .slice Ao25 t248.length co25, .slice Ao26 t251.length co26, .int .i64 t254, .int .i64 t255] 29 (0, 0)) (by (with_reducible repeat (first | refine blk_drewN ?_ _ | refine blk_drew ?_ | refine blk_alloc ?_ _)); exact BK257.out)) : gb329 ≠ gb257)); have n24_ := Aside0.mk ((by rw [hg]; exact Nat.ne_of_lt (blk_lt (g := gb269) (o := .cells #[.slice Ao30 t297.length co30, .slice Ao34 t298.length co34, .slice Ao35 t299.length co35, .int .i64 t267, .int .i64 t268] 29 (0, 0)) (by (with_reducible repeat (first | refine blk_drewN ?_ _ | refine blk_drew ?_ | refine blk_alloc ?_ _)); exact BK269.out)) : gb269 ≠ gb329)); have n25_ := Aside0.mk ((by rw [hg]; exact Nat.ne_of_gt (blk_lt (g := gb269) (o := .cells #[.slice Ao30 t297.length co30, .slice Ao34 t298.length co34, .slice Ao35 t299.length co35, .int .i64 t267, .int .i64 t268] 29 (0, 0)) (by (with_reducible repeat (first | refine blk_drewN ?_ _ | refine blk_drew ?_ | refine blk_alloc ?_ _)); exact BK269.out)) : gb329 ≠ gb269)); have n26_ := Aside0.mk ((by rw [hg]; exact Nat.ne_of_lt (blk_lt (g := gb282) (o := .cells #[.slice Ao38 t302.length co38, .slice Ao43 t303.length co43, .slice Ao44 t304.length co44, .int .i64 t279, .int .i64 t280] 29 (0, 0)) (by (with_reducible repeat (first | refine blk_drewN ?_ _ | refine blk_drew ?_ | refine blk_alloc ?_ _)); exact BK282.out)) : gb282 ≠ gb329)); have n27_ := Aside0.mk ((by rw [hg]; exact Nat.ne_of_gt (blk_lt (g := gb282) (o := .cells #[.slice Ao38 t302.length co38, .slice Ao43 t303.length co43, .slice Ao44 t304.length co44, .int .i64 t279, .int .i64 t280] 29 (0, 0)) (by (with_reducible repeat (first | refine blk_drewN ?_ _ | refine blk_drew ?_ | refine blk_alloc ?_ _)); exact BK282.out)) : gb329 ≠ gb282)); clear HO_258000; clear HO_258001; clear HO_258002; clear HO_270000; clear HO_270001; clear HO_270002; clear HO_283000; clear HO_283001; clear HO_283002; clear HO319; clear HO322; clear HO325; clear BK232; clear BK257; clear BK269; clear BK282; clear HB; have HO_258000 := n0_; have HO_258001 := n1_; have HO_258002 := n2_; have HO_270000 := n3_; have HO_270001 := n4_; have HO_270002 := n5_; have HO_283000 := n6_; have HO_283001 := n7_; have HO_283002 := n8_; have HO319 := n9_; have HO322 := n10_; have HO325 := n11_; have BK232 := n12_; have BK257 := n13_; have BK269 := n14_; have BK282 := n15_; have HB := n16_; have BK329 := n17_; have GW329 := n18_; have GE329 := n19_; have NB232_329 := n20_; have NB329_232 := n21_; have NB257_329 := n22_; have NB329_257 := n23_; have NB269_329 := n24_; have NB329_269 := n25_; have NB282_329 := n26_; have NB329_282 := n27_; clear n0_ n1_ n2_ n3_ n4_ n5_ n6_ n7_ n8_ n9_ n10_ n11_ n12_ n13_ n14_ n15_ n16_ n17_ n18_ n19_ n20_ n21_ n22_ n23_ n24_ n25_ n26_ n27_; clear hb hbox hg; obtain ⟨Ao129, co129, eo129⟩ := Kd.R_slice HO319.out; subst eo129; have hnb130 := NB329_232.out; have hnc130 := NB232_329.out; have hnb131 := NB329_257.out; have hnc131 := NB257_329.out; have hnb132 := NB329_269.out; have hnc132 := NB269_329.out; have hnb133 := NB329_282.out; have hnc133 := NB282_329.out; have hcz134_0 : w128.cell? ⟨gb329, 0, none⟩ = some (.slice none 0 0) := (blk_cell BK329.out 0).trans rfl; have hcz134_1 : w128.cell? ⟨gb329, 1, none⟩ = some (.slice none 0 0) := (blk_cell BK329.out 1).trans rfl; have hcz134_2 : w128.cell? ⟨gb329, 2, none⟩ = some (.slice none 0 0) := (blk_cell BK329.out 2).trans rfl; have hcz134_3 : w128.cell? ⟨gb329, 3, none⟩ = some (.int .i64 0) := (blk_cell BK329.out 3).trans rfl; have hcz134_4 : w128.cell? ⟨gb329, 4, none⟩ = some (.int .i64 0) := (blk_cell BK329.out 4).trans rfl; have hfz134_0 := blk_frozen BK329.out 0; have hfz134_1 := blk_frozen BK329.out 1; have hfz134_2 := blk_frozen BK329.out 2; have hfz134_3 := blk_frozen BK329.out 3; have hfz134_4 := blk_frozen BK329.out 4; obtain ⟨Ao135, co135, eo135⟩ := Kd.R_slice HO322.out; subst eo135; obtain ⟨Ao136, co136, eo136⟩ := Kd.R_slice HO325.out; subst eo136))
  (try simp only [Act.put, List.setIfInBounds_toArray, List.set_cons_zero, List.set_cons_succ])
  go_cut [97] (fun v97 wc => ∃ (kq : Nat) (x97_117 : Bool), v97 = .bool x97_117 ∧ Aside0 (laws_FnExactSummed.j8 kq t301 x97_117 t302 t303 t304 t279 t280 = some r) ∧ Aside0 (kq ≤ kj113) ∧ Aside0 (Kd.R k96 96 wc w.heap.size (fun k_ => some k_ ≠ ((.slice Ao30 t297.length co30) : Value).ownBlock ∧ some k_ ≠ ((.slice Ao38 t302.length co38) : Value).ownBlock ∧ some k_ ≠ ((.slice Ao129 t317.length co129) : Value).ownBlock) (.slice Ao22 t245.length co22) t245) ∧ Aside0 (Kd.R (Kd.int .i64) 3 wc w.heap.size (fun k_ => some k_ ≠ ((.slice Ao26 t251.length co26) : Value).ownBlock ∧ some k_ ≠ ((.slice Ao34 t298.length co34) : Value).ownBlock ∧ some k_ ≠ ((.slice Ao35 t299.length co35) : Value).ownBlock ∧ some k_ ≠ ((.slice Ao43 t303.length co43) : Value).ownBlock ∧ some k_ ≠ ((.slice Ao44 t304.length co44) : Value).ownBlock ∧ some k_ ≠ ((.slice Ao135 t320.length co135) : Value).ownBlock ∧ some k_ ≠ ((.slice Ao136 t323.length co136) : Value).ownBlock) (.slice Ao25 t248.length co25) t248) ∧ Aside0 (Kd.R (Kd.int .i64) 3 wc w.heap.size (fun k_ => some k_ ≠ ((.slice Ao25 t248.length co25) : Value).ownBlock ∧ some k_ ≠ ((.slice Ao34 t298.length co34) : Value).ownBlock ∧ some k_ ≠ ((.slice Ao35 t299.length co35) : Value).ownBlock ∧ some k_ ≠ ((.slice Ao43 t303.length co43) : Value).ownBlock ∧ some k_ ≠ ((.slice Ao44 t304.length co44) : Value).ownBlock ∧ some k_ ≠ ((.slice Ao135 t320.length co135) : Value).ownBlock ∧ some k_ ≠ ((.slice Ao136 t323.length co136) : Value).ownBlock) (.slice Ao26 t251.length co26) t251) ∧ Aside0 (Kd.R k96 96 wc w.heap.size (fun k_ => some k_ ≠ ((.slice Ao22 t245.length co22) : Value).ownBlock ∧ some k_ ≠ ((.slice Ao38 t302.length co38) : Value).ownBlock ∧ some k_ ≠ ((.slice Ao129 t317.length co129) : Value).ownBlock) (.slice Ao30 t297.length co30) t297) ∧ Aside0 (Kd.R (Kd.int .i64) 3 wc w.heap.size (fun k_ => some k_ ≠ ((.slice Ao25 t248.length co25) : Value).ownBlock ∧ some k_ ≠ ((.slice Ao26 t251.length co26) : Value).ownBlock ∧ some k_ ≠ ((.slice Ao35 t299.length co35) : Value).ownBlock ∧ some k_ ≠ ((.slice Ao43 t303.length co43) : Value).ownBlock ∧ some k_ ≠ ((.slice Ao44 t304.length co44) : Value).ownBlock ∧ some k_ ≠ ((.slice Ao135 t320.length co135) : Value).ownBlock ∧ some k_ ≠ ((.slice Ao136 t323.length co136) : Value).ownBlock) (.slice Ao34 t298.length co34) t298) ∧ Aside0 (Kd.R (Kd.int .i64) 3 wc w.heap.size (fun k_ => some k_ ≠ ((.slice Ao25 t248.length co25) : Value).ownBlock ∧ some k_ ≠ ((.slice Ao26 t251.length co26) : Value).ownBlock ∧ some k_ ≠ ((.slice Ao34 t298.length co34) : Value).ownBlock ∧ some k_ ≠ ((.slice Ao43 t303.length co43) : Value).ownBlock ∧ some k_ ≠ ((.slice Ao44 t304.length co44) : Value).ownBlock ∧ some k_ ≠ ((.slice Ao135 t320.length co135) : Value).ownBlock ∧ some k_ ≠ ((.slice Ao136 t323.length co136) : Value).ownBlock) (.slice Ao35 t299.length co35) t299) ∧ Aside0 (Kd.R k96 96 wc w.heap.size (fun k_ => some k_ ≠ ((.slice Ao22 t245.length co22) : Value).ownBlock ∧ some k_ ≠ ((.slice Ao30 t297.length co30) : Value).ownBlock ∧ some k_ ≠ ((.slice Ao129 t317.length co129) : Value).ownBlock) (.slice Ao38 t302.length co38) t302) ∧ Aside0 (Kd.R (Kd.int .i64) 3 wc w.heap.size (fun k_ => some k_ ≠ ((.slice Ao25 t248.length co25) : Value).ownBlock ∧ some k_ ≠ ((.slice Ao26 t251.length co26) : Value).ownBlock ∧ some k_ ≠ ((.slice Ao34 t298.length co34) : Value).ownBlock ∧ some k_ ≠ ((.slice Ao35 t299.length co35) : Value).ownBlock ∧ some k_ ≠ ((.slice Ao44 t304.length co44) : Value).ownBlock ∧ some k_ ≠ ((.slice Ao135 t320.length co135) : Value).ownBlock ∧ some k_ ≠ ((.slice Ao136 t323.length co136) : Value).ownBlock) (.slice Ao43 t303.length co43) t303) ∧ Aside0 (Kd.R (Kd.int .i64) 3 wc w.heap.size (fun k_ => some k_ ≠ ((.slice Ao25 t248.length co25) : Value).ownBlock ∧ some k_ ≠ ((.slice Ao26 t251.length co26) : Value).ownBlock ∧ some k_ ≠ ((.slice Ao34 t298.length co34) : Value).ownBlock ∧ some k_ ≠ ((.slice Ao35 t299.length co35) : Value).ownBlock ∧ some k_ ≠ ((.slice Ao43 t303.length co43) : Value).ownBlock ∧ some k_ ≠ ((.slice Ao135 t320.length co135) : Value).ownBlock ∧ some k_ ≠ ((.slice Ao136 t323.length co136) : Value).ownBlock) (.slice Ao44 t304.length co44) t304) ∧ Aside0 (Kd.R k96 96 wc w.heap.size (fun k_ => some k_ ≠ ((.slice Ao22 t245.length co22) : Value).ownBlock ∧ some k_ ≠ ((.slice Ao30 t297.length co30) : Value).ownBlock ∧ some k_ ≠ ((.slice Ao38 t302.length co38) : Value).ownBlock) (.slice Ao129 t317.length co129) t317) ∧ Aside0 (Kd.R (Kd.int .i64) 3 wc w.heap.size (fun k_ => some k_ ≠ ((.slice Ao25 t248.length co25) : Value).ownBlock ∧ some k_ ≠ ((.slice Ao26 t251.length co26) : Value).ownBlock ∧ some k_ ≠ ((.slice Ao34 t298.length co34) : Value).ownBlock ∧ some k_ ≠ ((.slice Ao35 t299.length co35) : Value).ownBlock ∧ some k_ ≠ ((.slice Ao43 t303.length co43) : Value).ownBlock ∧ some k_ ≠ ((.slice Ao44 t304.length co44) : Value).ownBlock ∧ some k_ ≠ ((.slice Ao136 t323.length co136) : Value).ownBlock) (.slice Ao135 t320.length co135) t320) ∧ Aside0 (Kd.R (Kd.int .i64) 3 wc w.heap.size (fun k_ => some k_ ≠ ((.slice Ao25 t248.length co25) : Value).ownBlock ∧ some k_ ≠ ((.slice Ao26 t251.length co26) : Value).ownBlock ∧ some k_ ≠ ((.slice Ao34 t298.length co34) : Value).ownBlock ∧ some k_ ≠ ((.slice Ao35 t299.length co35) : Value).ownBlock ∧ some k_ ≠ ((.slice Ao43 t303.length co43) : Value).ownBlock ∧ some k_ ≠ ((.slice Ao44 t304.length co44) : Value).ownBlock ∧ some k_ ≠ ((.slice Ao135 t320.length co135) : Value).ownBlock) (.slice Ao136 t323.length co136) t323) ∧ Aside0 (wc.heap[gb232]? = some (.cells #[(.slice A0_0 l0_0.length c0_0), (.slice A0_1 l0_1.length c0_1), (.slice A0_2 l0_2.length c0_2), .int .i64 a0_3, .int .i64 a0_4] 25 (0, 0))) ∧ Aside0 (wc.heap[gb257]? = some (.cells #[(.slice Ao22 t245.length co22), (.slice Ao25 t248.length co25), (.slice Ao26 t251.length co26), .int .i64 t254, .int .i64 t255] 29 (0, 0))) ∧ Aside0 (wc.heap[gb269]? = some (.cells #[(.slice Ao30 t297.length co30), (.slice Ao34 t298.length co34), (.slice Ao35 t299.length co35), .int .i64 t267, .int .i64 t268] 29 (0, 0))) ∧ Aside0 (wc.heap[gb282]? = some (.cells #[(.slice Ao38 t302.length co38), (.slice Ao43 t303.length co43), (.slice Ao44 t304.length co44), .int .i64 t279, .int .i64 t280] 29 (0, 0))) ∧ Aside0 (wc.heap[gb329]? = some (.cells #[(.slice Ao129 t317.length co129), (.slice Ao135 t320.length co135), (.slice Ao136 t323.length co136), .int .i64 t326, .int .i64 t327] 29 (0, 0))) ∧ Aside0 (Below w.heap.size w wc))
  case first =>
   have H := HC118.out
   clear HC118
   replace H := Option.bind_eq_some_iff.mp H
   obtain ⟨t330, A1370, H⟩ := H
   replace H : (if t330 = true then (laws_FnExactSummed.j8 kj113 t301 (t328 != t256) t302 t303 t304 t279 t280) else (laws_FnExactSummed.j8 kj113 t301 true t302 t303 t304 t279 t280)) = some r := H
   have A137 := Aside0.mk A1370
   clear A1370
   by_cases c138 : t330 = true
   ·
    subst c138
    have H1 : (laws_FnExactSummed.j8 kj113 t301 (t328 != t256) t302 t303 t304 t279 t280) = some r := by rw [if_pos rfl] at H; exact H
    clear H
    have H := H1
    clear H1
    have H' := Aside0.mk H
    clear H
    have hnb139 := NB329_232.out
    have hnc139 := NB232_329.out
    have hnb140 := NB329_257.out
    have hnc140 := NB257_329.out
    have hnb141 := NB329_269.out
    have hnc141 := NB269_329.out
    have hnb142 := NB329_282.out
    have hnc142 := NB282_329.out
    have hcz143_0 : w128.cell? ⟨gb329, 0, none⟩ = some (.slice none 0 0) := (blk_cell BK329.out 0).trans rfl
    have hcz143_1 : w128.cell? ⟨gb329, 1, none⟩ = some (.slice none 0 0) := (blk_cell BK329.out 1).trans rfl
    have hcz143_2 : w128.cell? ⟨gb329, 2, none⟩ = some (.slice none 0 0) := (blk_cell BK329.out 2).trans rfl
    have hcz143_3 : w128.cell? ⟨gb329, 3, none⟩ = some (.int .i64 0) := (blk_cell BK329.out 3).trans rfl
    have hcz143_4 : w128.cell? ⟨gb329, 4, none⟩ = some (.int .i64 0) := (blk_cell BK329.out 4).trans rfl
    have hfz143_0 := blk_frozen BK329.out 0
    have hfz143_1 := blk_frozen BK329.out 1
    have hfz143_2 := blk_frozen BK329.out 2
    have hfz143_3 := blk_frozen BK329.out 3
    have hfz143_4 := blk_frozen BK329.out 4
    have hnb144 := NB257_232.out
    have hnc144 := NB232_257.out
    have hnb145 := NB257_269.out
    have hnc145 := NB269_257.out
    have hnb146 := NB257_282.out
    have hnc146 := NB282_257.out
    have hcz147_0 : w128.cell? ⟨gb257, 0, none⟩ = some (.slice Ao22 t245.length co22) := (blk_cell BK257.out 0).trans rfl
    have hcz147_1 : w128.cell? ⟨gb257, 1, none⟩ = some (.slice Ao25 t248.length co25) := (blk_cell BK257.out 1).trans rfl
    have hcz147_2 : w128.cell? ⟨gb257, 2, none⟩ = some (.slice Ao26 t251.length co26) := (blk_cell BK257.out 2).trans rfl
    have hcz147_3 : w128.cell? ⟨gb257, 3, none⟩ = some (.int .i64 t254) := (blk_cell BK257.out 3).trans rfl
    have hcz147_4 : w128.cell? ⟨gb257, 4, none⟩ = some (.int .i64 t255) := (blk_cell BK257.out 4).trans rfl
    have hfz147_0 := blk_frozen BK257.out 0
    have hfz147_1 := blk_frozen BK257.out 1
    have hfz147_2 := blk_frozen BK257.out 2
    have hfz147_3 := blk_frozen BK257.out 3
    have hfz147_4 := blk_frozen BK257.out 4
    go_wp2_with (first | ((with_reducible refine gate_callee (f := 14) rfl ?_); refine goesL_ (some 91) rfl rfl Try.func14 (by kernel_rfl) rfl #[.agg #[.slice Ao129 t317.length co129, .slice Ao135 t320.length co135, .slice Ao136 t323.length co136, .int .i64 t326, .int .i64 t327], .agg #[.slice Ao22 t245.length co22, .slice Ao25 t248.length co25, .slice Ao26 t251.length co26, .int .i64 t254, .int .i64 t255]] rfl (by (try simp only [List.map_toArray, List.map_cons, List.map_nil]); first | done | rfl | (simp only [List.length_drop, List.length_take]; rfl)) ?_; (with_reducible refine (laws_eqMemory.calls kj113 _ _ t317 _ _ t320 _ _ t323 t326 t327 _ _ t245 _ _ t248 _ _ t251 t254 t255 true _ ?side1 ?side2 ?side3 ?side4 ?side5 ?side6 ?side7 ?side8 ?side9 ?side10 ?side11 ?side12 A137.out).mono ?_); (case side1 => refine (Kd.R_reads' (e := 96) (base := w.heap.size) (ok := fun k_ => ((((True ∧ some k_ ≠ (.slice Ao22 t245.length co22 : Value).ownBlock) ∧ some k_ ≠ (.slice Ao30 t297.length co30 : Value).ownBlock) ∧ some k_ ≠ (.slice Ao38 t302.length co38 : Value).ownBlock) ∧ some k_ ≠ (.slice Ao124 t306.length co124 : Value).ownBlock)) (n := t317.length) (c := co129) ?_).2.2; exact (by (with_reducible repeat (first | apply Kd.R_alloc | apply Kd.R_drewN | apply Kd.R_drew)); exact (Kd.R_mono (Kd.R_far (p := ⟨gb329, 4, none⟩) (Kd.R_far (p := ⟨gb329, 3, none⟩) (Kd.R_far (p := ⟨gb329, 2, none⟩) (Kd.R_far (p := ⟨gb329, 1, none⟩) (Kd.R_far (p := ⟨gb329, 0, none⟩) (Kd.R_types HO319.out BK329.out (by decide)) (fun _ hk => hk.2) (.slice Ao129 t317.length co129)) (fun _ hk => hk.2) (.slice Ao135 t320.length co135)) (fun _ hk => hk.2) (.slice Ao136 t323.length co136)) (fun _ hk => hk.2) (.int .i64 t326)) (fun _ hk => hk.2) (.int .i64 t327)) (fun _ h_ => h_.1)))); (case side2 => exact (Kd.R_reads' HO319.out).2.1); (case side3 => refine (Kd.R_reads' (e := 3) (base := w.heap.size) (ok := fun k_ => ((((((((some k_ ≠ (.slice Ao136 t323.length co136 : Value).ownBlock ∧ some k_ ≠ (.slice Ao25 t248.length co25 : Value).ownBlock) ∧ some k_ ≠ (.slice Ao26 t251.length co26 : Value).ownBlock) ∧ some k_ ≠ (.slice Ao34 t298.length co34 : Value).ownBlock) ∧ some k_ ≠ (.slice Ao35 t299.length co35 : Value).ownBlock) ∧ some k_ ≠ (.slice Ao43 t303.length co43 : Value).ownBlock) ∧ some k_ ≠ (.slice Ao44 t304.length co44 : Value).ownBlock) ∧ some k_ ≠ (.slice Ao125 t309.length co125 : Value).ownBlock) ∧ some k_ ≠ (.slice Ao126 t312.length co126 : Value).ownBlock)) (n := t320.length) (c := co135) ?_).2.2; exact (by (with_reducible repeat (first | apply Kd.R_alloc | apply Kd.R_drewN | apply Kd.R_drew)); exact (Kd.R_mono (Kd.R_far (p := ⟨gb329, 4, none⟩) (Kd.R_far (p := ⟨gb329, 3, none⟩) (Kd.R_far (p := ⟨gb329, 2, none⟩) (Kd.R_far (p := ⟨gb329, 1, none⟩) (Kd.R_far (p := ⟨gb329, 0, none⟩) (Kd.R_types HO322.out BK329.out (by decide)) (fun _ hk => hk.2) (.slice Ao129 t317.length co129)) (fun _ hk => hk.2) (.slice Ao135 t320.length co135)) (fun _ hk => hk.2) (.slice Ao136 t323.length co136)) (fun _ hk => hk.2) (.int .i64 t326)) (fun _ hk => hk.2) (.int .i64 t327)) (fun _ h_ => h_.1)))); (case side4 => exact (Kd.R_reads' HO322.out).2.1); (case side5 => refine (Kd.R_reads' (e := 3) (base := w.heap.size) (ok := fun k_ => ((((((((some k_ ≠ (.slice Ao135 t320.length co135 : Value).ownBlock ∧ some k_ ≠ (.slice Ao25 t248.length co25 : Value).ownBlock) ∧ some k_ ≠ (.slice Ao26 t251.length co26 : Value).ownBlock) ∧ some k_ ≠ (.slice Ao34 t298.length co34 : Value).ownBlock) ∧ some k_ ≠ (.slice Ao35 t299.length co35 : Value).ownBlock) ∧ some k_ ≠ (.slice Ao43 t303.length co43 : Value).ownBlock) ∧ some k_ ≠ (.slice Ao44 t304.length co44 : Value).ownBlock) ∧ some k_ ≠ (.slice Ao125 t309.length co125 : Value).ownBlock) ∧ some k_ ≠ (.slice Ao126 t312.length co126 : Value).ownBlock)) (n := t323.length) (c := co136) ?_).2.2; exact (by (with_reducible repeat (first | apply Kd.R_alloc | apply Kd.R_drewN | apply Kd.R_drew)); exact (Kd.R_mono (Kd.R_far (p := ⟨gb329, 4, none⟩) (Kd.R_far (p := ⟨gb329, 3, none⟩) (Kd.R_far (p := ⟨gb329, 2, none⟩) (Kd.R_far (p := ⟨gb329, 1, none⟩) (Kd.R_far (p := ⟨gb329, 0, none⟩) (Kd.R_types HO325.out BK329.out (by decide)) (fun _ hk => hk.2) (.slice Ao129 t317.length co129)) (fun _ hk => hk.2) (.slice Ao135 t320.length co135)) (fun _ hk => hk.2) (.slice Ao136 t323.length co136)) (fun _ hk => hk.2) (.int .i64 t326)) (fun _ hk => hk.2) (.int .i64 t327)) (fun _ h_ => h_.1)))); (case side6 => exact (Kd.R_reads' HO325.out).2.1); (case side7 => refine (Kd.R_reads' (e := 96) (base := w.heap.size) (ok := fun k_ => (((some k_ ≠ (.slice Ao30 t297.length co30 : Value).ownBlock ∧ some k_ ≠ (.slice Ao38 t302.length co38 : Value).ownBlock) ∧ some k_ ≠ (.slice Ao124 t306.length co124 : Value).ownBlock) ∧ some k_ ≠ (.slice Ao129 t317.length co129 : Value).ownBlock)) (n := t245.length) (c := co22) ?_).2.2; exact (by (with_reducible repeat (first | apply Kd.R_alloc | apply Kd.R_drewN | apply Kd.R_drew)); exact (Kd.R_mono (Kd.R_far (p := ⟨gb329, 4, none⟩) (Kd.R_far (p := ⟨gb329, 3, none⟩) (Kd.R_far (p := ⟨gb329, 2, none⟩) (Kd.R_far (p := ⟨gb329, 1, none⟩) (Kd.R_far (p := ⟨gb329, 0, none⟩) (Kd.R_types HO_258000.out BK329.out (by decide)) (fun _ hk => hk.2) (.slice Ao129 t317.length co129)) (fun _ hk => hk.2) (.slice Ao135 t320.length co135)) (fun _ hk => hk.2) (.slice Ao136 t323.length co136)) (fun _ hk => hk.2) (.int .i64 t326)) (fun _ hk => hk.2) (.int .i64 t327)) (fun _ h_ => h_.1)))); (case side8 => exact (Kd.R_reads' HO_258000.out).2.1); (case side9 => refine (Kd.R_reads' (e := 3) (base := w.heap.size) (ok := fun k_ => (((((some k_ ≠ (.slice Ao26 t251.length co26 : Value).ownBlock ∧ (some k_ ≠ (.slice Ao34 t298.length co34 : Value).ownBlock ∧ (some k_ ≠ (.slice Ao35 t299.length co35 : Value).ownBlock ∧ (some k_ ≠ (.slice Ao43 t303.length co43 : Value).ownBlock ∧ some k_ ≠ (.slice Ao44 t304.length co44 : Value).ownBlock)))) ∧ some k_ ≠ (.slice Ao125 t309.length co125 : Value).ownBlock) ∧ some k_ ≠ (.slice Ao126 t312.length co126 : Value).ownBlock) ∧ some k_ ≠ (.slice Ao135 t320.length co135 : Value).ownBlock) ∧ some k_ ≠ (.slice Ao136 t323.length co136 : Value).ownBlock)) (n := t248.length) (c := co25) ?_).2.2; exact (by (with_reducible repeat (first | apply Kd.R_alloc | apply Kd.R_drewN | apply Kd.R_drew)); exact (Kd.R_mono (Kd.R_far (p := ⟨gb329, 4, none⟩) (Kd.R_far (p := ⟨gb329, 3, none⟩) (Kd.R_far (p := ⟨gb329, 2, none⟩) (Kd.R_far (p := ⟨gb329, 1, none⟩) (Kd.R_far (p := ⟨gb329, 0, none⟩) (Kd.R_types HO_258001.out BK329.out (by decide)) (fun _ hk => hk.2) (.slice Ao129 t317.length co129)) (fun _ hk => hk.2) (.slice Ao135 t320.length co135)) (fun _ hk => hk.2) (.slice Ao136 t323.length co136)) (fun _ hk => hk.2) (.int .i64 t326)) (fun _ hk => hk.2) (.int .i64 t327)) (fun _ h_ => h_.1)))); (case side10 => exact (Kd.R_reads' HO_258001.out).2.1); (case side11 => refine (Kd.R_reads' (e := 3) (base := w.heap.size) (ok := fun k_ => (((((some k_ ≠ (.slice Ao25 t248.length co25 : Value).ownBlock ∧ (some k_ ≠ (.slice Ao34 t298.length co34 : Value).ownBlock ∧ (some k_ ≠ (.slice Ao35 t299.length co35 : Value).ownBlock ∧ (some k_ ≠ (.slice Ao43 t303.length co43 : Value).ownBlock ∧ some k_ ≠ (.slice Ao44 t304.length co44 : Value).ownBlock)))) ∧ some k_ ≠ (.slice Ao125 t309.length co125 : Value).ownBlock) ∧ some k_ ≠ (.slice Ao126 t312.length co126 : Value).ownBlock) ∧ some k_ ≠ (.slice Ao135 t320.length co135 : Value).ownBlock) ∧ some k_ ≠ (.slice Ao136 t323.length co136 : Value).ownBlock)) (n := t251.length) (c := co26) ?_).2.2; exact (by (with_reducible repeat (first | apply Kd.R_alloc | apply Kd.R_drewN | apply Kd.R_drew)); exact (Kd.R_mono (Kd.R_far (p := ⟨gb329, 4, none⟩) (Kd.R_far (p := ⟨gb329, 3, none⟩) (Kd.R_far (p := ⟨gb329, 2, none⟩) (Kd.R_far (p := ⟨gb329, 1, none⟩) (Kd.R_far (p := ⟨gb329, 0, none⟩) (Kd.R_types HO_258002.out BK329.out (by decide)) (fun _ hk => hk.2) (.slice Ao129 t317.length co129)) (fun _ hk => hk.2) (.slice Ao135 t320.length co135)) (fun _ hk => hk.2) (.slice Ao136 t323.length co136)) (fun _ hk => hk.2) (.int .i64 t326)) (fun _ hk => hk.2) (.int .i64 t327)) (fun _ h_ => h_.1)))); (case side12 => exact (Kd.R_reads' HO_258002.out).2.1); rintro e w148 ⟨rfl, hb⟩; refine ⟨_, rfl, ?_⟩; have n0_ := Aside0.mk (Kd.R_below (by (with_reducible repeat (first | apply Kd.R_alloc | apply Kd.R_drewN | apply Kd.R_drew)); exact (Kd.R_mono (Kd.R_far (p := ⟨gb329, 4, none⟩) (Kd.R_far (p := ⟨gb329, 3, none⟩) (Kd.R_far (p := ⟨gb329, 2, none⟩) (Kd.R_far (p := ⟨gb329, 1, none⟩) (Kd.R_far (p := ⟨gb329, 0, none⟩) (Kd.R_types HO_258000.out BK329.out (by decide)) (fun _ hk => hk.2) (.slice Ao129 t317.length co129)) (fun _ hk => hk.2) (.slice Ao135 t320.length co135)) (fun _ hk => hk.2) (.slice Ao136 t323.length co136)) (fun _ hk => hk.2) (.int .i64 t326)) (fun _ hk => hk.2) (.int .i64 t327)) (fun _ h_ => h_.1))) hb); have n1_ := Aside0.mk (Kd.R_below (by (with_reducible repeat (first | apply Kd.R_alloc | apply Kd.R_drewN | apply Kd.R_drew)); exact (Kd.R_mono (Kd.R_far (p := ⟨gb329, 4, none⟩) (Kd.R_far (p := ⟨gb329, 3, none⟩) (Kd.R_far (p := ⟨gb329, 2, none⟩) (Kd.R_far (p := ⟨gb329, 1, none⟩) (Kd.R_far (p := ⟨gb329, 0, none⟩) (Kd.R_types HO_258001.out BK329.out (by decide)) (fun _ hk => hk.2) (.slice Ao129 t317.length co129)) (fun _ hk => hk.2) (.slice Ao135 t320.length co135)) (fun _ hk => hk.2) (.slice Ao136 t323.length co136)) (fun _ hk => hk.2) (.int .i64 t326)) (fun _ hk => hk.2) (.int .i64 t327)) (fun _ h_ => h_.1))) hb); have n2_ := Aside0.mk (Kd.R_below (by (with_reducible repeat (first | apply Kd.R_alloc | apply Kd.R_drewN | apply Kd.R_drew)); exact (Kd.R_mono (Kd.R_far (p := ⟨gb329, 4, none⟩) (Kd.R_far (p := ⟨gb329, 3, none⟩) (Kd.R_far (p := ⟨gb329, 2, none⟩) (Kd.R_far (p := ⟨gb329, 1, none⟩) (Kd.R_far (p := ⟨gb329, 0, none⟩) (Kd.R_types HO_258002.out BK329.out (by decide)) (fun _ hk => hk.2) (.slice Ao129 t317.length co129)) (fun _ hk => hk.2) (.slice Ao135 t320.length co135)) (fun _ hk => hk.2) (.slice Ao136 t323.length co136)) (fun _ hk => hk.2) (.int .i64 t326)) (fun _ hk => hk.2) (.int .i64 t327)) (fun _ h_ => h_.1))) hb); have n3_ := Aside0.mk (Kd.R_below (by (with_reducible repeat (first | apply Kd.R_alloc | apply Kd.R_drewN | apply Kd.R_drew)); exact (Kd.R_mono (Kd.R_far (p := ⟨gb329, 4, none⟩) (Kd.R_far (p := ⟨gb329, 3, none⟩) (Kd.R_far (p := ⟨gb329, 2, none⟩) (Kd.R_far (p := ⟨gb329, 1, none⟩) (Kd.R_far (p := ⟨gb329, 0, none⟩) (Kd.R_types HO_270000.out BK329.out (by decide)) (fun _ hk => hk.2) (.slice Ao129 t317.length co129)) (fun _ hk => hk.2) (.slice Ao135 t320.length co135)) (fun _ hk => hk.2) (.slice Ao136 t323.length co136)) (fun _ hk => hk.2) (.int .i64 t326)) (fun _ hk => hk.2) (.int .i64 t327)) (fun _ h_ => h_.1))) hb); have n4_ := Aside0.mk (Kd.R_below (by (with_reducible repeat (first | apply Kd.R_alloc | apply Kd.R_drewN | apply Kd.R_drew)); exact (Kd.R_mono (Kd.R_far (p := ⟨gb329, 4, none⟩) (Kd.R_far (p := ⟨gb329, 3, none⟩) (Kd.R_far (p := ⟨gb329, 2, none⟩) (Kd.R_far (p := ⟨gb329, 1, none⟩) (Kd.R_far (p := ⟨gb329, 0, none⟩) (Kd.R_types HO_270001.out BK329.out (by decide)) (fun _ hk => hk.2) (.slice Ao129 t317.length co129)) (fun _ hk => hk.2) (.slice Ao135 t320.length co135)) (fun _ hk => hk.2) (.slice Ao136 t323.length co136)) (fun _ hk => hk.2) (.int .i64 t326)) (fun _ hk => hk.2) (.int .i64 t327)) (fun _ h_ => h_.1))) hb); have n5_ := Aside0.mk (Kd.R_below (by (with_reducible repeat (first | apply Kd.R_alloc | apply Kd.R_drewN | apply Kd.R_drew)); exact (Kd.R_mono (Kd.R_far (p := ⟨gb329, 4, none⟩) (Kd.R_far (p := ⟨gb329, 3, none⟩) (Kd.R_far (p := ⟨gb329, 2, none⟩) (Kd.R_far (p := ⟨gb329, 1, none⟩) (Kd.R_far (p := ⟨gb329, 0, none⟩) (Kd.R_types HO_270002.out BK329.out (by decide)) (fun _ hk => hk.2) (.slice Ao129 t317.length co129)) (fun _ hk => hk.2) (.slice Ao135 t320.length co135)) (fun _ hk => hk.2) (.slice Ao136 t323.length co136)) (fun _ hk => hk.2) (.int .i64 t326)) (fun _ hk => hk.2) (.int .i64 t327)) (fun _ h_ => h_.1))) hb); have n6_ := Aside0.mk (Kd.R_below (by (with_reducible repeat (first | apply Kd.R_alloc | apply Kd.R_drewN | apply Kd.R_drew)); exact (Kd.R_mono (Kd.R_far (p := ⟨gb329, 4, none⟩) (Kd.R_far (p := ⟨gb329, 3, none⟩) (Kd.R_far (p := ⟨gb329, 2, none⟩) (Kd.R_far (p := ⟨gb329, 1, none⟩) (Kd.R_far (p := ⟨gb329, 0, none⟩) (Kd.R_types HO_283000.out BK329.out (by decide)) (fun _ hk => hk.2) (.slice Ao129 t317.length co129)) (fun _ hk => hk.2) (.slice Ao135 t320.length co135)) (fun _ hk => hk.2) (.slice Ao136 t323.length co136)) (fun _ hk => hk.2) (.int .i64 t326)) (fun _ hk => hk.2) (.int .i64 t327)) (fun _ h_ => h_.1))) hb); have n7_ := Aside0.mk (Kd.R_below (by (with_reducible repeat (first | apply Kd.R_alloc | apply Kd.R_drewN | apply Kd.R_drew)); exact (Kd.R_mono (Kd.R_far (p := ⟨gb329, 4, none⟩) (Kd.R_far (p := ⟨gb329, 3, none⟩) (Kd.R_far (p := ⟨gb329, 2, none⟩) (Kd.R_far (p := ⟨gb329, 1, none⟩) (Kd.R_far (p := ⟨gb329, 0, none⟩) (Kd.R_types HO_283001.out BK329.out (by decide)) (fun _ hk => hk.2) (.slice Ao129 t317.length co129)) (fun _ hk => hk.2) (.slice Ao135 t320.length co135)) (fun _ hk => hk.2) (.slice Ao136 t323.length co136)) (fun _ hk => hk.2) (.int .i64 t326)) (fun _ hk => hk.2) (.int .i64 t327)) (fun _ h_ => h_.1))) hb); have n8_ := Aside0.mk (Kd.R_below (by (with_reducible repeat (first | apply Kd.R_alloc | apply Kd.R_drewN | apply Kd.R_drew)); exact (Kd.R_mono (Kd.R_far (p := ⟨gb329, 4, none⟩) (Kd.R_far (p := ⟨gb329, 3, none⟩) (Kd.R_far (p := ⟨gb329, 2, none⟩) (Kd.R_far (p := ⟨gb329, 1, none⟩) (Kd.R_far (p := ⟨gb329, 0, none⟩) (Kd.R_types HO_283002.out BK329.out (by decide)) (fun _ hk => hk.2) (.slice Ao129 t317.length co129)) (fun _ hk => hk.2) (.slice Ao135 t320.length co135)) (fun _ hk => hk.2) (.slice Ao136 t323.length co136)) (fun _ hk => hk.2) (.int .i64 t326)) (fun _ hk => hk.2) (.int .i64 t327)) (fun _ h_ => h_.1))) hb); have n9_ := Aside0.mk (Kd.R_below (by (with_reducible repeat (first | apply Kd.R_alloc | apply Kd.R_drewN | apply Kd.R_drew)); exact (Kd.R_mono (Kd.R_far (p := ⟨gb329, 4, none⟩) (Kd.R_far (p := ⟨gb329, 3, none⟩) (Kd.R_far (p := ⟨gb329, 2, none⟩) (Kd.R_far (p := ⟨gb329, 1, none⟩) (Kd.R_far (p := ⟨gb329, 0, none⟩) (Kd.R_types HO319.out BK329.out (by decide)) (fun _ hk => hk.2) (.slice Ao129 t317.length co129)) (fun _ hk => hk.2) (.slice Ao135 t320.length co135)) (fun _ hk => hk.2) (.slice Ao136 t323.length co136)) (fun _ hk => hk.2) (.int .i64 t326)) (fun _ hk => hk.2) (.int .i64 t327)) (fun _ h_ => h_.1))) hb); have n10_ := Aside0.mk (Kd.R_below (by (with_reducible repeat (first | apply Kd.R_alloc | apply Kd.R_drewN | apply Kd.R_drew)); exact (Kd.R_mono (Kd.R_far (p := ⟨gb329, 4, none⟩) (Kd.R_far (p := ⟨gb329, 3, none⟩) (Kd.R_far (p := ⟨gb329, 2, none⟩) (Kd.R_far (p := ⟨gb329, 1, none⟩) (Kd.R_far (p := ⟨gb329, 0, none⟩) (Kd.R_types HO322.out BK329.out (by decide)) (fun _ hk => hk.2) (.slice Ao129 t317.length co129)) (fun _ hk => hk.2) (.slice Ao135 t320.length co135)) (fun _ hk => hk.2) (.slice Ao136 t323.length co136)) (fun _ hk => hk.2) (.int .i64 t326)) (fun _ hk => hk.2) (.int .i64 t327)) (fun _ h_ => h_.1))) hb); have n11_ := Aside0.mk (Kd.R_below (by (with_reducible repeat (first | apply Kd.R_alloc | apply Kd.R_drewN | apply Kd.R_drew)); exact (Kd.R_mono (Kd.R_far (p := ⟨gb329, 4, none⟩) (Kd.R_far (p := ⟨gb329, 3, none⟩) (Kd.R_far (p := ⟨gb329, 2, none⟩) (Kd.R_far (p := ⟨gb329, 1, none⟩) (Kd.R_far (p := ⟨gb329, 0, none⟩) (Kd.R_types HO325.out BK329.out (by decide)) (fun _ hk => hk.2) (.slice Ao129 t317.length co129)) (fun _ hk => hk.2) (.slice Ao135 t320.length co135)) (fun _ hk => hk.2) (.slice Ao136 t323.length co136)) (fun _ hk => hk.2) (.int .i64 t326)) (fun _ hk => hk.2) (.int .i64 t327)) (fun _ h_ => h_.1))) hb); have n12_ := Aside0.mk (blk_below (g := gb232) (o := .cells #[.slice A0_0 l0_0.length c0_0, .slice A0_1 l0_1.length c0_1, .slice A0_2 l0_2.length c0_2, .int .i64 a0_3, .int .i64 a0_4] 25 (0, 0)) (by (with_reducible repeat (first | refine blk_drewN ?_ _ | refine blk_drew ?_ | refine blk_alloc ?_ _)); refine blk_far ?_ NB232_329.out _; (with_reducible repeat (first | refine blk_drewN ?_ _ | refine blk_drew ?_ | refine blk_alloc ?_ _)); refine blk_far ?_ NB232_329.out _; (with_reducible repeat (first | refine blk_drewN ?_ _ | refine blk_drew ?_ | refine blk_alloc ?_ _)); refine blk_far ?_ NB232_329.out _; (with_reducible repeat (first | refine blk_drewN ?_ _ | refine blk_drew ?_ | refine blk_alloc ?_ _)); refine blk_far ?_ NB232_329.out _; (with_reducible repeat (first | refine blk_drewN ?_ _ | refine blk_drew ?_ | refine blk_alloc ?_ _)); refine blk_far ?_ NB232_329.out _; (with_reducible repeat (first | refine blk_drewN ?_ _ | refine blk_drew ?_ | refine blk_alloc ?_ _)); exact BK232.out) hb); have n13_ := Aside0.mk (blk_below (g := gb257) (o := .cells #[.slice Ao22 t245.length co22, .slice Ao25 t248.length co25, .slice Ao26 t251.length co26, .int .i64 t254, .int .i64 t255] 29 (0, 0)) (by (with_reducible repeat (first | refine blk_drewN ?_ _ | refine blk_drew ?_ | refine blk_alloc ?_ _)); refine blk_far ?_ NB257_329.out _; (with_reducible repeat (first | refine blk_drewN ?_ _ | refine blk_drew ?_ | refine blk_alloc ?_ _)); refine blk_far ?_ NB257_329.out _; (with_reducible repeat (first | refine blk_drewN ?_ _ | refine blk_drew ?_ | refine blk_alloc ?_ _)); refine blk_far ?_ NB257_329.out _; (with_reducible repeat (first | refine blk_drewN ?_ _ | refine blk_drew ?_ | refine blk_alloc ?_ _)); refine blk_far ?_ NB257_329.out _; (with_reducible repeat (first | refine blk_drewN ?_ _ | refine blk_drew ?_ | refine blk_alloc ?_ _)); refine blk_far ?_ NB257_329.out _; (with_reducible repeat (first | refine blk_drewN ?_ _ | refine blk_drew ?_ | refine blk_alloc ?_ _)); exact BK257.out) hb); have n14_ := Aside0.mk (blk_below (g := gb269) (o := .cells #[.slice Ao30 t297.length co30, .slice Ao34 t298.length co34, .slice Ao35 t299.length co35, .int .i64 t267, .int .i64 t268] 29 (0, 0)) (by (with_reducible repeat (first | refine blk_drewN ?_ _ | refine blk_drew ?_ | refine blk_alloc ?_ _)); refine blk_far ?_ NB269_329.out _; (with_reducible repeat (first | refine blk_drewN ?_ _ | refine blk_drew ?_ | refine blk_alloc ?_ _)); refine blk_far ?_ NB269_329.out _; (with_reducible repeat (first | refine blk_drewN ?_ _ | refine blk_drew ?_ | refine blk_alloc ?_ _)); refine blk_far ?_ NB269_329.out _; (with_reducible repeat (first | refine blk_drewN ?_ _ | refine blk_drew ?_ | refine blk_alloc ?_ _)); refine blk_far ?_ NB269_329.out _; (with_reducible repeat (first | refine blk_drewN ?_ _ | refine blk_drew ?_ | refine blk_alloc ?_ _)); refine blk_far ?_ NB269_329.out _; (with_reducible repeat (first | refine blk_drewN ?_ _ | refine blk_drew ?_ | refine blk_alloc ?_ _)); exact BK269.out) hb); have n15_ := Aside0.mk (blk_below (g := gb282) (o := .cells #[.slice Ao38 t302.length co38, .slice Ao43 t303.length co43, .slice Ao44 t304.length co44, .int .i64 t279, .int .i64 t280] 29 (0, 0)) (by (with_reducible repeat (first | refine blk_drewN ?_ _ | refine blk_drew ?_ | refine blk_alloc ?_ _)); refine blk_far ?_ NB282_329.out _; (with_reducible repeat (first | refine blk_drewN ?_ _ | refine blk_drew ?_ | refine blk_alloc ?_ _)); refine blk_far ?_ NB282_329.out _; (with_reducible repeat (first | refine blk_drewN ?_ _ | refine blk_drew ?_ | refine blk_alloc ?_ _)); refine blk_far ?_ NB282_329.out _; (with_reducible repeat (first | refine blk_drewN ?_ _ | refine blk_drew ?_ | refine blk_alloc ?_ _)); refine blk_far ?_ NB282_329.out _; (with_reducible repeat (first | refine blk_drewN ?_ _ | refine blk_drew ?_ | refine blk_alloc ?_ _)); refine blk_far ?_ NB282_329.out _; (with_reducible repeat (first | refine blk_drewN ?_ _ | refine blk_drew ?_ | refine blk_alloc ?_ _)); exact BK282.out) hb); have n16_ := Aside0.mk (blk_below (g := gb329) (o := .cells #[.slice Ao129 t317.length co129, .slice Ao135 t320.length co135, .slice Ao136 t323.length co136, .int .i64 t326, .int .i64 t327] 29 (0, 0)) (by (with_reducible repeat (first | refine blk_drewN ?_ _ | refine blk_drew ?_ | refine blk_alloc ?_ _)); refine blk_put (cs := #[.slice Ao129 t317.length co129, .slice Ao135 t320.length co135, .slice Ao136 t323.length co136, .int .i64 t326, .int .i64 0]) ?_ 4 _ rfl; (with_reducible repeat (first | refine blk_drewN ?_ _ | refine blk_drew ?_ | refine blk_alloc ?_ _)); refine blk_put (cs := #[.slice Ao129 t317.length co129, .slice Ao135 t320.length co135, .slice Ao136 t323.length co136, .int .i64 0, .int .i64 0]) ?_ 3 _ rfl; (with_reducible repeat (first | refine blk_drewN ?_ _ | refine blk_drew ?_ | refine blk_alloc ?_ _)); refine blk_put (cs := #[.slice Ao129 t317.length co129, .slice Ao135 t320.length co135, .slice none 0 0, .int .i64 0, .int .i64 0]) ?_ 2 _ rfl; (with_reducible repeat (first | refine blk_drewN ?_ _ | refine blk_drew ?_ | refine blk_alloc ?_ _)); refine blk_put (cs := #[.slice Ao129 t317.length co129, .slice none 0 0, .slice none 0 0, .int .i64 0, .int .i64 0]) ?_ 1 _ rfl; (with_reducible repeat (first | refine blk_drewN ?_ _ | refine blk_drew ?_ | refine blk_alloc ?_ _)); refine blk_put (cs := #[.slice none 0 0, .slice none 0 0, .slice none 0 0, .int .i64 0, .int .i64 0]) ?_ 0 _ rfl; (with_reducible repeat (first | refine blk_drewN ?_ _ | refine blk_drew ?_ | refine blk_alloc ?_ _)); exact BK329.out) hb); have n17_ := Aside0.mk (below_step (by repeat (first | (with_reducible first | exact HB.out | apply below_alloc | apply pw_below_drewN | apply below_drew1 | refine below_set ?_ GE232.out | refine below_set ?_ GE257.out | refine below_set ?_ GE269.out | refine below_set ?_ GE282.out | refine below_set ?_ GE329.out) | exact HB.out)) hb); clear HO_258000; clear HO_258001; clear HO_258002; clear HO_270000; clear HO_270001; clear HO_270002; clear HO_283000; clear HO_283001; clear HO_283002; clear HO319; clear HO322; clear HO325; clear BK232; clear BK257; clear BK269; clear BK282; clear BK329; clear HB; have HO_258000 := n0_; have HO_258001 := n1_; have HO_258002 := n2_; have HO_270000 := n3_; have HO_270001 := n4_; have HO_270002 := n5_; have HO_283000 := n6_; have HO_283001 := n7_; have HO_283002 := n8_; have HO319 := n9_; have HO322 := n10_; have HO325 := n11_; have BK232 := n12_; have BK257 := n13_; have BK269 := n14_; have BK282 := n15_; have BK329 := n16_; have HB := n17_; clear n0_ n1_ n2_ n3_ n4_ n5_ n6_ n7_ n8_ n9_ n10_ n11_ n12_ n13_ n14_ n15_ n16_ n17_; (try clear hb); (try clear hb2); (try clear hk); (try clear hi)))
    go_meet
    case rel => exact ⟨_, ((t328 != t256)), (by first | rfl | (simp; done) | (simp [*]; done)), H', ⟨by have := HJ4.out; have := HJ13.out; have := HJ62.out; have := HJ66.out; have := HJ75.out; have := HJ100.out; have := HJ104.out; have := HJ113.out; first | omega | exact Nat.le_refl _⟩, ⟨by (try simp only [hl270000_75]); (try simp only [hl270001_75]); (try simp only [hl270002_75]); (try simp only [hl283000_104]); (try simp only [hl283001_104]); (try simp only [hl283002_104]); (with_reducible repeat (first | apply Kd.R_alloc | apply Kd.R_drewN | apply Kd.R_drew)); exact Kd.R_mono HO_258000.out (fun _ hk => ⟨hk.1.1.1, ⟨hk.1.1.2, hk.2⟩⟩)⟩, ⟨by (try simp only [hl270000_75]); (try simp only [hl270001_75]); (try simp only [hl270002_75]); (try simp only [hl283000_104]); (try simp only [hl283001_104]); (try simp only [hl283002_104]); (with_reducible repeat (first | apply Kd.R_alloc | apply Kd.R_drewN | apply Kd.R_drew)); exact Kd.R_mono HO_258001.out (fun _ hk => ⟨hk.1.1.1.1.1, ⟨hk.1.1.1.1.2.1, ⟨hk.1.1.1.1.2.2.1, ⟨hk.1.1.1.1.2.2.2.1, ⟨hk.1.1.1.1.2.2.2.2, ⟨hk.1.2, hk.2⟩⟩⟩⟩⟩⟩)⟩, ⟨by (try simp only [hl270000_75]); (try simp only [hl270001_75]); (try simp only [hl270002_75]); (try simp only [hl283000_104]); (try simp only [hl283001_104]); (try simp only [hl283002_104]); (with_reducible repeat (first | apply Kd.R_alloc | apply Kd.R_drewN | apply Kd.R_drew)); exact Kd.R_mono HO_258002.out (fun _ hk => ⟨hk.1.1.1.1.1, ⟨hk.1.1.1.1.2.1, ⟨hk.1.1.1.1.2.2.1, ⟨hk.1.1.1.1.2.2.2.1, ⟨hk.1.1.1.1.2.2.2.2, ⟨hk.1.2, hk.2⟩⟩⟩⟩⟩⟩)⟩, ⟨by (try simp only [hl270000_75]); (try simp only [hl270001_75]); (try simp only [hl270002_75]); (try simp only [hl283000_104]); (try simp only [hl283001_104]); (try simp only [hl283002_104]); (with_reducible repeat (first | apply Kd.R_alloc | apply Kd.R_drewN | apply Kd.R_drew)); exact Kd.R_mono HO_270000.out (fun _ hk => ⟨hk.1.1.1, ⟨hk.1.1.2, hk.2⟩⟩)⟩, ⟨by (try simp only [hl270000_75]); (try simp only [hl270001_75]); (try simp only [hl270002_75]); (try simp only [hl283000_104]); (try simp only [hl283001_104]); (try simp only [hl283002_104]); (with_reducible repeat (first | apply Kd.R_alloc | apply Kd.R_drewN | apply Kd.R_drew)); exact Kd.R_mono HO_270001.out (fun _ hk => ⟨hk.1.1.1.1.1, ⟨hk.1.1.1.1.2.1, ⟨hk.1.1.1.1.2.2.1, ⟨hk.1.1.1.1.2.2.2.1, ⟨hk.1.1.1.1.2.2.2.2, ⟨hk.1.2, hk.2⟩⟩⟩⟩⟩⟩)⟩, ⟨by (try simp only [hl270000_75]); (try simp only [hl270001_75]); (try simp only [hl270002_75]); (try simp only [hl283000_104]); (try simp only [hl283001_104]); (try simp only [hl283002_104]); (with_reducible repeat (first | apply Kd.R_alloc | apply Kd.R_drewN | apply Kd.R_drew)); exact Kd.R_mono HO_270002.out (fun _ hk => ⟨hk.1.1.1.1.1, ⟨hk.1.1.1.1.2.1, ⟨hk.1.1.1.1.2.2.1, ⟨hk.1.1.1.1.2.2.2.1, ⟨hk.1.1.1.1.2.2.2.2, ⟨hk.1.2, hk.2⟩⟩⟩⟩⟩⟩)⟩, ⟨by (try simp only [hl270000_75]); (try simp only [hl270001_75]); (try simp only [hl270002_75]); (try simp only [hl283000_104]); (try simp only [hl283001_104]); (try simp only [hl283002_104]); (with_reducible repeat (first | apply Kd.R_alloc | apply Kd.R_drewN | apply Kd.R_drew)); exact Kd.R_mono HO_283000.out (fun _ hk => ⟨hk.1.1.1, ⟨hk.1.1.2, hk.2⟩⟩)⟩, ⟨by (try simp only [hl270000_75]); (try simp only [hl270001_75]); (try simp only [hl270002_75]); (try simp only [hl283000_104]); (try simp only [hl283001_104]); (try simp only [hl283002_104]); (with_reducible repeat (first | apply Kd.R_alloc | apply Kd.R_drewN | apply Kd.R_drew)); exact Kd.R_mono HO_283001.out (fun _ hk => ⟨hk.1.1.1.1.1, ⟨hk.1.1.1.1.2.1, ⟨hk.1.1.1.1.2.2.1, ⟨hk.1.1.1.1.2.2.2.1, ⟨hk.1.1.1.1.2.2.2.2, ⟨hk.1.2, hk.2⟩⟩⟩⟩⟩⟩)⟩, ⟨by (try simp only [hl270000_75]); (try simp only [hl270001_75]); (try simp only [hl270002_75]); (try simp only [hl283000_104]); (try simp only [hl283001_104]); (try simp only [hl283002_104]); (with_reducible repeat (first | apply Kd.R_alloc | apply Kd.R_drewN | apply Kd.R_drew)); exact Kd.R_mono HO_283002.out (fun _ hk => ⟨hk.1.1.1.1.1, ⟨hk.1.1.1.1.2.1, ⟨hk.1.1.1.1.2.2.1, ⟨hk.1.1.1.1.2.2.2.1, ⟨hk.1.1.1.1.2.2.2.2, ⟨hk.1.2, hk.2⟩⟩⟩⟩⟩⟩)⟩, ⟨by (try simp only [hl270000_75]); (try simp only [hl270001_75]); (try simp only [hl270002_75]); (try simp only [hl283000_104]); (try simp only [hl283001_104]); (try simp only [hl283002_104]); (with_reducible repeat (first | apply Kd.R_alloc | apply Kd.R_drewN | apply Kd.R_drew)); exact Kd.R_mono HO319.out (fun _ hk => ⟨hk.1.1.1.2, ⟨hk.1.1.2, hk.1.2⟩⟩)⟩, ⟨by (try simp only [hl270000_75]); (try simp only [hl270001_75]); (try simp only [hl270002_75]); (try simp only [hl283000_104]); (try simp only [hl283001_104]); (try simp only [hl283002_104]); (with_reducible repeat (first | apply Kd.R_alloc | apply Kd.R_drewN | apply Kd.R_drew)); exact Kd.R_mono HO322.out (fun _ hk => ⟨hk.1.1.1.1.1.1.1.2, ⟨hk.1.1.1.1.1.1.2, ⟨hk.1.1.1.1.1.2, ⟨hk.1.1.1.1.2, ⟨hk.1.1.1.2, ⟨hk.1.1.2, hk.1.1.1.1.1.1.1.1⟩⟩⟩⟩⟩⟩)⟩, ⟨by (try simp only [hl270000_75]); (try simp only [hl270001_75]); (try simp only [hl270002_75]); (try simp only [hl283000_104]); (try simp only [hl283001_104]); (try simp only [hl283002_104]); (with_reducible repeat (first | apply Kd.R_alloc | apply Kd.R_drewN | apply Kd.R_drew)); exact Kd.R_mono HO325.out (fun _ hk => ⟨hk.1.1.1.1.1.1.1.2, ⟨hk.1.1.1.1.1.1.2, ⟨hk.1.1.1.1.1.2, ⟨hk.1.1.1.1.2, ⟨hk.1.1.1.2, ⟨hk.1.1.2, hk.1.1.1.1.1.1.1.1⟩⟩⟩⟩⟩⟩)⟩, ⟨by (try simp only [hl270000_75]); (try simp only [hl270001_75]); (try simp only [hl270002_75]); (try simp only [hl283000_104]); (try simp only [hl283001_104]); (try simp only [hl283002_104]); (with_reducible repeat (first | refine blk_drewN ?_ _ | refine blk_drew ?_ | refine blk_alloc ?_ _)); exact BK232.out⟩, ⟨by (try simp only [hl270000_75]); (try simp only [hl270001_75]); (try simp only [hl270002_75]); (try simp only [hl283000_104]); (try simp only [hl283001_104]); (try simp only [hl283002_104]); (with_reducible repeat (first | refine blk_drewN ?_ _ | refine blk_drew ?_ | refine blk_alloc ?_ _)); exact BK257.out⟩, ⟨by (try simp only [hl270000_75]); (try simp only [hl270001_75]); (try simp only [hl270002_75]); (try simp only [hl283000_104]); (try simp only [hl283001_104]); (try simp only [hl283002_104]); (with_reducible repeat (first | refine blk_drewN ?_ _ | refine blk_drew ?_ | refine blk_alloc ?_ _)); exact BK269.out⟩, ⟨by (try simp only [hl270000_75]); (try simp only [hl270001_75]); (try simp only [hl270002_75]); (try simp only [hl283000_104]); (try simp only [hl283001_104]); (try simp only [hl283002_104]); (with_reducible repeat (first | refine blk_drewN ?_ _ | refine blk_drew ?_ | refine blk_alloc ?_ _)); exact BK282.out⟩, ⟨by (try simp only [hl270000_75]); (try simp only [hl270001_75]); (try simp only [hl270002_75]); (try simp only [hl283000_104]); (try simp only [hl283001_104]); (try simp only [hl283002_104]); (with_reducible repeat (first | refine blk_drewN ?_ _ | refine blk_drew ?_ | refine blk_alloc ?_ _)); exact BK329.out⟩, ⟨by repeat (first | (with_reducible first | exact HB.out | apply below_alloc | apply pw_below_drewN | apply below_drew1 | refine below_set ?_ GE232.out | refine below_set ?_ GE257.out | refine below_set ?_ GE269.out | refine below_set ?_ GE282.out | refine below_set ?_ GE329.out) | exact HB.out)⟩⟩
   ·
    replace c138 := Bool.eq_false_iff.mpr c138
    subst c138
    have H1 : (laws_FnExactSummed.j8 kj113 t301 true t302 t303 t304 t279 t280) = some r := by rw [if_neg (show ¬ (false = true) by decide)] at H; exact H
    clear H
    have H := H1
    clear H1
    have H' := Aside0.mk H
    clear H
    have hnb149 := NB329_232.out
    have hnc149 := NB232_329.out
    have hnb150 := NB329_257.out
    have hnc150 := NB257_329.out
    have hnb151 := NB329_269.out
    have hnc151 := NB269_329.out
    have hnb152 := NB329_282.out
    have hnc152 := NB282_329.out
    have hcz153_0 : w128.cell? ⟨gb329, 0, none⟩ = some (.slice none 0 0) := (blk_cell BK329.out 0).trans rfl
    have hcz153_1 : w128.cell? ⟨gb329, 1, none⟩ = some (.slice none 0 0) := (blk_cell BK329.out 1).trans rfl
    have hcz153_2 : w128.cell? ⟨gb329, 2, none⟩ = some (.slice none 0 0) := (blk_cell BK329.out 2).trans rfl
    have hcz153_3 : w128.cell? ⟨gb329, 3, none⟩ = some (.int .i64 0) := (blk_cell BK329.out 3).trans rfl
    have hcz153_4 : w128.cell? ⟨gb329, 4, none⟩ = some (.int .i64 0) := (blk_cell BK329.out 4).trans rfl
    have hfz153_0 := blk_frozen BK329.out 0
    have hfz153_1 := blk_frozen BK329.out 1
    have hfz153_2 := blk_frozen BK329.out 2
    have hfz153_3 := blk_frozen BK329.out 3
    have hfz153_4 := blk_frozen BK329.out 4
    have hnb154 := NB257_232.out
    have hnc154 := NB232_257.out
    have hnb155 := NB257_269.out
    have hnc155 := NB269_257.out
    have hnb156 := NB257_282.out
    have hnc156 := NB282_257.out
    have hcz157_0 : w128.cell? ⟨gb257, 0, none⟩ = some (.slice Ao22 t245.length co22) := (blk_cell BK257.out 0).trans rfl
    have hcz157_1 : w128.cell? ⟨gb257, 1, none⟩ = some (.slice Ao25 t248.length co25) := (blk_cell BK257.out 1).trans rfl
    have hcz157_2 : w128.cell? ⟨gb257, 2, none⟩ = some (.slice Ao26 t251.length co26) := (blk_cell BK257.out 2).trans rfl
    have hcz157_3 : w128.cell? ⟨gb257, 3, none⟩ = some (.int .i64 t254) := (blk_cell BK257.out 3).trans rfl
    have hcz157_4 : w128.cell? ⟨gb257, 4, none⟩ = some (.int .i64 t255) := (blk_cell BK257.out 4).trans rfl
    have hfz157_0 := blk_frozen BK257.out 0
    have hfz157_1 := blk_frozen BK257.out 1
    have hfz157_2 := blk_frozen BK257.out 2
    have hfz157_3 := blk_frozen BK257.out 3
    have hfz157_4 := blk_frozen BK257.out 4
    go_wp2_with (first | ((with_reducible refine gate_callee (f := 14) rfl ?_); refine goesL_ (some 91) rfl rfl Try.func14 (by kernel_rfl) rfl #[.agg #[.slice Ao129 t317.length co129, .slice Ao135 t320.length co135, .slice Ao136 t323.length co136, .int .i64 t326, .int .i64 t327], .agg #[.slice Ao22 t245.length co22, .slice Ao25 t248.length co25, .slice Ao26 t251.length co26, .int .i64 t254, .int .i64 t255]] rfl (by (try simp only [List.map_toArray, List.map_cons, List.map_nil]); first | done | rfl | (simp only [List.length_drop, List.length_take]; rfl)) ?_; (with_reducible refine (laws_eqMemory.calls kj113 _ _ t317 _ _ t320 _ _ t323 t326 t327 _ _ t245 _ _ t248 _ _ t251 t254 t255 false _ ?side1 ?side2 ?side3 ?side4 ?side5 ?side6 ?side7 ?side8 ?side9 ?side10 ?side11 ?side12 A137.out).mono ?_); (case side1 => refine (Kd.R_reads' (e := 96) (base := w.heap.size) (ok := fun k_ => ((((True ∧ some k_ ≠ (.slice Ao22 t245.length co22 : Value).ownBlock) ∧ some k_ ≠ (.slice Ao30 t297.length co30 : Value).ownBlock) ∧ some k_ ≠ (.slice Ao38 t302.length co38 : Value).ownBlock) ∧ some k_ ≠ (.slice Ao124 t306.length co124 : Value).ownBlock)) (n := t317.length) (c := co129) ?_).2.2; exact (by (with_reducible repeat (first | apply Kd.R_alloc | apply Kd.R_drewN | apply Kd.R_drew)); exact (Kd.R_mono (Kd.R_far (p := ⟨gb329, 4, none⟩) (Kd.R_far (p := ⟨gb329, 3, none⟩) (Kd.R_far (p := ⟨gb329, 2, none⟩) (Kd.R_far (p := ⟨gb329, 1, none⟩) (Kd.R_far (p := ⟨gb329, 0, none⟩) (Kd.R_types HO319.out BK329.out (by decide)) (fun _ hk => hk.2) (.slice Ao129 t317.length co129)) (fun _ hk => hk.2) (.slice Ao135 t320.length co135)) (fun _ hk => hk.2) (.slice Ao136 t323.length co136)) (fun _ hk => hk.2) (.int .i64 t326)) (fun _ hk => hk.2) (.int .i64 t327)) (fun _ h_ => h_.1)))); (case side2 => exact (Kd.R_reads' HO319.out).2.1); (case side3 => refine (Kd.R_reads' (e := 3) (base := w.heap.size) (ok := fun k_ => ((((((((some k_ ≠ (.slice Ao136 t323.length co136 : Value).ownBlock ∧ some k_ ≠ (.slice Ao25 t248.length co25 : Value).ownBlock) ∧ some k_ ≠ (.slice Ao26 t251.length co26 : Value).ownBlock) ∧ some k_ ≠ (.slice Ao34 t298.length co34 : Value).ownBlock) ∧ some k_ ≠ (.slice Ao35 t299.length co35 : Value).ownBlock) ∧ some k_ ≠ (.slice Ao43 t303.length co43 : Value).ownBlock) ∧ some k_ ≠ (.slice Ao44 t304.length co44 : Value).ownBlock) ∧ some k_ ≠ (.slice Ao125 t309.length co125 : Value).ownBlock) ∧ some k_ ≠ (.slice Ao126 t312.length co126 : Value).ownBlock)) (n := t320.length) (c := co135) ?_).2.2; exact (by (with_reducible repeat (first | apply Kd.R_alloc | apply Kd.R_drewN | apply Kd.R_drew)); exact (Kd.R_mono (Kd.R_far (p := ⟨gb329, 4, none⟩) (Kd.R_far (p := ⟨gb329, 3, none⟩) (Kd.R_far (p := ⟨gb329, 2, none⟩) (Kd.R_far (p := ⟨gb329, 1, none⟩) (Kd.R_far (p := ⟨gb329, 0, none⟩) (Kd.R_types HO322.out BK329.out (by decide)) (fun _ hk => hk.2) (.slice Ao129 t317.length co129)) (fun _ hk => hk.2) (.slice Ao135 t320.length co135)) (fun _ hk => hk.2) (.slice Ao136 t323.length co136)) (fun _ hk => hk.2) (.int .i64 t326)) (fun _ hk => hk.2) (.int .i64 t327)) (fun _ h_ => h_.1)))); (case side4 => exact (Kd.R_reads' HO322.out).2.1); (case side5 => refine (Kd.R_reads' (e := 3) (base := w.heap.size) (ok := fun k_ => ((((((((some k_ ≠ (.slice Ao135 t320.length co135 : Value).ownBlock ∧ some k_ ≠ (.slice Ao25 t248.length co25 : Value).ownBlock) ∧ some k_ ≠ (.slice Ao26 t251.length co26 : Value).ownBlock) ∧ some k_ ≠ (.slice Ao34 t298.length co34 : Value).ownBlock) ∧ some k_ ≠ (.slice Ao35 t299.length co35 : Value).ownBlock) ∧ some k_ ≠ (.slice Ao43 t303.length co43 : Value).ownBlock) ∧ some k_ ≠ (.slice Ao44 t304.length co44 : Value).ownBlock) ∧ some k_ ≠ (.slice Ao125 t309.length co125 : Value).ownBlock) ∧ some k_ ≠ (.slice Ao126 t312.length co126 : Value).ownBlock)) (n := t323.length) (c := co136) ?_).2.2; exact (by (with_reducible repeat (first | apply Kd.R_alloc | apply Kd.R_drewN | apply Kd.R_drew)); exact (Kd.R_mono (Kd.R_far (p := ⟨gb329, 4, none⟩) (Kd.R_far (p := ⟨gb329, 3, none⟩) (Kd.R_far (p := ⟨gb329, 2, none⟩) (Kd.R_far (p := ⟨gb329, 1, none⟩) (Kd.R_far (p := ⟨gb329, 0, none⟩) (Kd.R_types HO325.out BK329.out (by decide)) (fun _ hk => hk.2) (.slice Ao129 t317.length co129)) (fun _ hk => hk.2) (.slice Ao135 t320.length co135)) (fun _ hk => hk.2) (.slice Ao136 t323.length co136)) (fun _ hk => hk.2) (.int .i64 t326)) (fun _ hk => hk.2) (.int .i64 t327)) (fun _ h_ => h_.1)))); (case side6 => exact (Kd.R_reads' HO325.out).2.1); (case side7 => refine (Kd.R_reads' (e := 96) (base := w.heap.size) (ok := fun k_ => (((some k_ ≠ (.slice Ao30 t297.length co30 : Value).ownBlock ∧ some k_ ≠ (.slice Ao38 t302.length co38 : Value).ownBlock) ∧ some k_ ≠ (.slice Ao124 t306.length co124 : Value).ownBlock) ∧ some k_ ≠ (.slice Ao129 t317.length co129 : Value).ownBlock)) (n := t245.length) (c := co22) ?_).2.2; exact (by (with_reducible repeat (first | apply Kd.R_alloc | apply Kd.R_drewN | apply Kd.R_drew)); exact (Kd.R_mono (Kd.R_far (p := ⟨gb329, 4, none⟩) (Kd.R_far (p := ⟨gb329, 3, none⟩) (Kd.R_far (p := ⟨gb329, 2, none⟩) (Kd.R_far (p := ⟨gb329, 1, none⟩) (Kd.R_far (p := ⟨gb329, 0, none⟩) (Kd.R_types HO_258000.out BK329.out (by decide)) (fun _ hk => hk.2) (.slice Ao129 t317.length co129)) (fun _ hk => hk.2) (.slice Ao135 t320.length co135)) (fun _ hk => hk.2) (.slice Ao136 t323.length co136)) (fun _ hk => hk.2) (.int .i64 t326)) (fun _ hk => hk.2) (.int .i64 t327)) (fun _ h_ => h_.1)))); (case side8 => exact (Kd.R_reads' HO_258000.out).2.1); (case side9 => refine (Kd.R_reads' (e := 3) (base := w.heap.size) (ok := fun k_ => (((((some k_ ≠ (.slice Ao26 t251.length co26 : Value).ownBlock ∧ (some k_ ≠ (.slice Ao34 t298.length co34 : Value).ownBlock ∧ (some k_ ≠ (.slice Ao35 t299.length co35 : Value).ownBlock ∧ (some k_ ≠ (.slice Ao43 t303.length co43 : Value).ownBlock ∧ some k_ ≠ (.slice Ao44 t304.length co44 : Value).ownBlock)))) ∧ some k_ ≠ (.slice Ao125 t309.length co125 : Value).ownBlock) ∧ some k_ ≠ (.slice Ao126 t312.length co126 : Value).ownBlock) ∧ some k_ ≠ (.slice Ao135 t320.length co135 : Value).ownBlock) ∧ some k_ ≠ (.slice Ao136 t323.length co136 : Value).ownBlock)) (n := t248.length) (c := co25) ?_).2.2; exact (by (with_reducible repeat (first | apply Kd.R_alloc | apply Kd.R_drewN | apply Kd.R_drew)); exact (Kd.R_mono (Kd.R_far (p := ⟨gb329, 4, none⟩) (Kd.R_far (p := ⟨gb329, 3, none⟩) (Kd.R_far (p := ⟨gb329, 2, none⟩) (Kd.R_far (p := ⟨gb329, 1, none⟩) (Kd.R_far (p := ⟨gb329, 0, none⟩) (Kd.R_types HO_258001.out BK329.out (by decide)) (fun _ hk => hk.2) (.slice Ao129 t317.length co129)) (fun _ hk => hk.2) (.slice Ao135 t320.length co135)) (fun _ hk => hk.2) (.slice Ao136 t323.length co136)) (fun _ hk => hk.2) (.int .i64 t326)) (fun _ hk => hk.2) (.int .i64 t327)) (fun _ h_ => h_.1)))); (case side10 => exact (Kd.R_reads' HO_258001.out).2.1); (case side11 => refine (Kd.R_reads' (e := 3) (base := w.heap.size) (ok := fun k_ => (((((some k_ ≠ (.slice Ao25 t248.length co25 : Value).ownBlock ∧ (some k_ ≠ (.slice Ao34 t298.length co34 : Value).ownBlock ∧ (some k_ ≠ (.slice Ao35 t299.length co35 : Value).ownBlock ∧ (some k_ ≠ (.slice Ao43 t303.length co43 : Value).ownBlock ∧ some k_ ≠ (.slice Ao44 t304.length co44 : Value).ownBlock)))) ∧ some k_ ≠ (.slice Ao125 t309.length co125 : Value).ownBlock) ∧ some k_ ≠ (.slice Ao126 t312.length co126 : Value).ownBlock) ∧ some k_ ≠ (.slice Ao135 t320.length co135 : Value).ownBlock) ∧ some k_ ≠ (.slice Ao136 t323.length co136 : Value).ownBlock)) (n := t251.length) (c := co26) ?_).2.2; exact (by (with_reducible repeat (first | apply Kd.R_alloc | apply Kd.R_drewN | apply Kd.R_drew)); exact (Kd.R_mono (Kd.R_far (p := ⟨gb329, 4, none⟩) (Kd.R_far (p := ⟨gb329, 3, none⟩) (Kd.R_far (p := ⟨gb329, 2, none⟩) (Kd.R_far (p := ⟨gb329, 1, none⟩) (Kd.R_far (p := ⟨gb329, 0, none⟩) (Kd.R_types HO_258002.out BK329.out (by decide)) (fun _ hk => hk.2) (.slice Ao129 t317.length co129)) (fun _ hk => hk.2) (.slice Ao135 t320.length co135)) (fun _ hk => hk.2) (.slice Ao136 t323.length co136)) (fun _ hk => hk.2) (.int .i64 t326)) (fun _ hk => hk.2) (.int .i64 t327)) (fun _ h_ => h_.1)))); (case side12 => exact (Kd.R_reads' HO_258002.out).2.1); rintro e w158 ⟨rfl, hb⟩; refine ⟨_, rfl, ?_⟩; have n0_ := Aside0.mk (Kd.R_below (by (with_reducible repeat (first | apply Kd.R_alloc | apply Kd.R_drewN | apply Kd.R_drew)); exact (Kd.R_mono (Kd.R_far (p := ⟨gb329, 4, none⟩) (Kd.R_far (p := ⟨gb329, 3, none⟩) (Kd.R_far (p := ⟨gb329, 2, none⟩) (Kd.R_far (p := ⟨gb329, 1, none⟩) (Kd.R_far (p := ⟨gb329, 0, none⟩) (Kd.R_types HO_258000.out BK329.out (by decide)) (fun _ hk => hk.2) (.slice Ao129 t317.length co129)) (fun _ hk => hk.2) (.slice Ao135 t320.length co135)) (fun _ hk => hk.2) (.slice Ao136 t323.length co136)) (fun _ hk => hk.2) (.int .i64 t326)) (fun _ hk => hk.2) (.int .i64 t327)) (fun _ h_ => h_.1))) hb); have n1_ := Aside0.mk (Kd.R_below (by (with_reducible repeat (first | apply Kd.R_alloc | apply Kd.R_drewN | apply Kd.R_drew)); exact (Kd.R_mono (Kd.R_far (p := ⟨gb329, 4, none⟩) (Kd.R_far (p := ⟨gb329, 3, none⟩) (Kd.R_far (p := ⟨gb329, 2, none⟩) (Kd.R_far (p := ⟨gb329, 1, none⟩) (Kd.R_far (p := ⟨gb329, 0, none⟩) (Kd.R_types HO_258001.out BK329.out (by decide)) (fun _ hk => hk.2) (.slice Ao129 t317.length co129)) (fun _ hk => hk.2) (.slice Ao135 t320.length co135)) (fun _ hk => hk.2) (.slice Ao136 t323.length co136)) (fun _ hk => hk.2) (.int .i64 t326)) (fun _ hk => hk.2) (.int .i64 t327)) (fun _ h_ => h_.1))) hb); have n2_ := Aside0.mk (Kd.R_below (by (with_reducible repeat (first | apply Kd.R_alloc | apply Kd.R_drewN | apply Kd.R_drew)); exact (Kd.R_mono (Kd.R_far (p := ⟨gb329, 4, none⟩) (Kd.R_far (p := ⟨gb329, 3, none⟩) (Kd.R_far (p := ⟨gb329, 2, none⟩) (Kd.R_far (p := ⟨gb329, 1, none⟩) (Kd.R_far (p := ⟨gb329, 0, none⟩) (Kd.R_types HO_258002.out BK329.out (by decide)) (fun _ hk => hk.2) (.slice Ao129 t317.length co129)) (fun _ hk => hk.2) (.slice Ao135 t320.length co135)) (fun _ hk => hk.2) (.slice Ao136 t323.length co136)) (fun _ hk => hk.2) (.int .i64 t326)) (fun _ hk => hk.2) (.int .i64 t327)) (fun _ h_ => h_.1))) hb); have n3_ := Aside0.mk (Kd.R_below (by (with_reducible repeat (first | apply Kd.R_alloc | apply Kd.R_drewN | apply Kd.R_drew)); exact (Kd.R_mono (Kd.R_far (p := ⟨gb329, 4, none⟩) (Kd.R_far (p := ⟨gb329, 3, none⟩) (Kd.R_far (p := ⟨gb329, 2, none⟩) (Kd.R_far (p := ⟨gb329, 1, none⟩) (Kd.R_far (p := ⟨gb329, 0, none⟩) (Kd.R_types HO_270000.out BK329.out (by decide)) (fun _ hk => hk.2) (.slice Ao129 t317.length co129)) (fun _ hk => hk.2) (.slice Ao135 t320.length co135)) (fun _ hk => hk.2) (.slice Ao136 t323.length co136)) (fun _ hk => hk.2) (.int .i64 t326)) (fun _ hk => hk.2) (.int .i64 t327)) (fun _ h_ => h_.1))) hb); have n4_ := Aside0.mk (Kd.R_below (by (with_reducible repeat (first | apply Kd.R_alloc | apply Kd.R_drewN | apply Kd.R_drew)); exact (Kd.R_mono (Kd.R_far (p := ⟨gb329, 4, none⟩) (Kd.R_far (p := ⟨gb329, 3, none⟩) (Kd.R_far (p := ⟨gb329, 2, none⟩) (Kd.R_far (p := ⟨gb329, 1, none⟩) (Kd.R_far (p := ⟨gb329, 0, none⟩) (Kd.R_types HO_270001.out BK329.out (by decide)) (fun _ hk => hk.2) (.slice Ao129 t317.length co129)) (fun _ hk => hk.2) (.slice Ao135 t320.length co135)) (fun _ hk => hk.2) (.slice Ao136 t323.length co136)) (fun _ hk => hk.2) (.int .i64 t326)) (fun _ hk => hk.2) (.int .i64 t327)) (fun _ h_ => h_.1))) hb); have n5_ := Aside0.mk (Kd.R_below (by (with_reducible repeat (first | apply Kd.R_alloc | apply Kd.R_drewN | apply Kd.R_drew)); exact (Kd.R_mono (Kd.R_far (p := ⟨gb329, 4, none⟩) (Kd.R_far (p := ⟨gb329, 3, none⟩) (Kd.R_far (p := ⟨gb329, 2, none⟩) (Kd.R_far (p := ⟨gb329, 1, none⟩) (Kd.R_far (p := ⟨gb329, 0, none⟩) (Kd.R_types HO_270002.out BK329.out (by decide)) (fun _ hk => hk.2) (.slice Ao129 t317.length co129)) (fun _ hk => hk.2) (.slice Ao135 t320.length co135)) (fun _ hk => hk.2) (.slice Ao136 t323.length co136)) (fun _ hk => hk.2) (.int .i64 t326)) (fun _ hk => hk.2) (.int .i64 t327)) (fun _ h_ => h_.1))) hb); have n6_ := Aside0.mk (Kd.R_below (by (with_reducible repeat (first | apply Kd.R_alloc | apply Kd.R_drewN | apply Kd.R_drew)); exact (Kd.R_mono (Kd.R_far (p := ⟨gb329, 4, none⟩) (Kd.R_far (p := ⟨gb329, 3, none⟩) (Kd.R_far (p := ⟨gb329, 2, none⟩) (Kd.R_far (p := ⟨gb329, 1, none⟩) (Kd.R_far (p := ⟨gb329, 0, none⟩) (Kd.R_types HO_283000.out BK329.out (by decide)) (fun _ hk => hk.2) (.slice Ao129 t317.length co129)) (fun _ hk => hk.2) (.slice Ao135 t320.length co135)) (fun _ hk => hk.2) (.slice Ao136 t323.length co136)) (fun _ hk => hk.2) (.int .i64 t326)) (fun _ hk => hk.2) (.int .i64 t327)) (fun _ h_ => h_.1))) hb); have n7_ := Aside0.mk (Kd.R_below (by (with_reducible repeat (first | apply Kd.R_alloc | apply Kd.R_drewN | apply Kd.R_drew)); exact (Kd.R_mono (Kd.R_far (p := ⟨gb329, 4, none⟩) (Kd.R_far (p := ⟨gb329, 3, none⟩) (Kd.R_far (p := ⟨gb329, 2, none⟩) (Kd.R_far (p := ⟨gb329, 1, none⟩) (Kd.R_far (p := ⟨gb329, 0, none⟩) (Kd.R_types HO_283001.out BK329.out (by decide)) (fun _ hk => hk.2) (.slice Ao129 t317.length co129)) (fun _ hk => hk.2) (.slice Ao135 t320.length co135)) (fun _ hk => hk.2) (.slice Ao136 t323.length co136)) (fun _ hk => hk.2) (.int .i64 t326)) (fun _ hk => hk.2) (.int .i64 t327)) (fun _ h_ => h_.1))) hb); have n8_ := Aside0.mk (Kd.R_below (by (with_reducible repeat (first | apply Kd.R_alloc | apply Kd.R_drewN | apply Kd.R_drew)); exact (Kd.R_mono (Kd.R_far (p := ⟨gb329, 4, none⟩) (Kd.R_far (p := ⟨gb329, 3, none⟩) (Kd.R_far (p := ⟨gb329, 2, none⟩) (Kd.R_far (p := ⟨gb329, 1, none⟩) (Kd.R_far (p := ⟨gb329, 0, none⟩) (Kd.R_types HO_283002.out BK329.out (by decide)) (fun _ hk => hk.2) (.slice Ao129 t317.length co129)) (fun _ hk => hk.2) (.slice Ao135 t320.length co135)) (fun _ hk => hk.2) (.slice Ao136 t323.length co136)) (fun _ hk => hk.2) (.int .i64 t326)) (fun _ hk => hk.2) (.int .i64 t327)) (fun _ h_ => h_.1))) hb); have n9_ := Aside0.mk (Kd.R_below (by (with_reducible repeat (first | apply Kd.R_alloc | apply Kd.R_drewN | apply Kd.R_drew)); exact (Kd.R_mono (Kd.R_far (p := ⟨gb329, 4, none⟩) (Kd.R_far (p := ⟨gb329, 3, none⟩) (Kd.R_far (p := ⟨gb329, 2, none⟩) (Kd.R_far (p := ⟨gb329, 1, none⟩) (Kd.R_far (p := ⟨gb329, 0, none⟩) (Kd.R_types HO319.out BK329.out (by decide)) (fun _ hk => hk.2) (.slice Ao129 t317.length co129)) (fun _ hk => hk.2) (.slice Ao135 t320.length co135)) (fun _ hk => hk.2) (.slice Ao136 t323.length co136)) (fun _ hk => hk.2) (.int .i64 t326)) (fun _ hk => hk.2) (.int .i64 t327)) (fun _ h_ => h_.1))) hb); have n10_ := Aside0.mk (Kd.R_below (by (with_reducible repeat (first | apply Kd.R_alloc | apply Kd.R_drewN | apply Kd.R_drew)); exact (Kd.R_mono (Kd.R_far (p := ⟨gb329, 4, none⟩) (Kd.R_far (p := ⟨gb329, 3, none⟩) (Kd.R_far (p := ⟨gb329, 2, none⟩) (Kd.R_far (p := ⟨gb329, 1, none⟩) (Kd.R_far (p := ⟨gb329, 0, none⟩) (Kd.R_types HO322.out BK329.out (by decide)) (fun _ hk => hk.2) (.slice Ao129 t317.length co129)) (fun _ hk => hk.2) (.slice Ao135 t320.length co135)) (fun _ hk => hk.2) (.slice Ao136 t323.length co136)) (fun _ hk => hk.2) (.int .i64 t326)) (fun _ hk => hk.2) (.int .i64 t327)) (fun _ h_ => h_.1))) hb); have n11_ := Aside0.mk (Kd.R_below (by (with_reducible repeat (first | apply Kd.R_alloc | apply Kd.R_drewN | apply Kd.R_drew)); exact (Kd.R_mono (Kd.R_far (p := ⟨gb329, 4, none⟩) (Kd.R_far (p := ⟨gb329, 3, none⟩) (Kd.R_far (p := ⟨gb329, 2, none⟩) (Kd.R_far (p := ⟨gb329, 1, none⟩) (Kd.R_far (p := ⟨gb329, 0, none⟩) (Kd.R_types HO325.out BK329.out (by decide)) (fun _ hk => hk.2) (.slice Ao129 t317.length co129)) (fun _ hk => hk.2) (.slice Ao135 t320.length co135)) (fun _ hk => hk.2) (.slice Ao136 t323.length co136)) (fun _ hk => hk.2) (.int .i64 t326)) (fun _ hk => hk.2) (.int .i64 t327)) (fun _ h_ => h_.1))) hb); have n12_ := Aside0.mk (blk_below (g := gb232) (o := .cells #[.slice A0_0 l0_0.length c0_0, .slice A0_1 l0_1.length c0_1, .slice A0_2 l0_2.length c0_2, .int .i64 a0_3, .int .i64 a0_4] 25 (0, 0)) (by (with_reducible repeat (first | refine blk_drewN ?_ _ | refine blk_drew ?_ | refine blk_alloc ?_ _)); refine blk_far ?_ NB232_329.out _; (with_reducible repeat (first | refine blk_drewN ?_ _ | refine blk_drew ?_ | refine blk_alloc ?_ _)); refine blk_far ?_ NB232_329.out _; (with_reducible repeat (first | refine blk_drewN ?_ _ | refine blk_drew ?_ | refine blk_alloc ?_ _)); refine blk_far ?_ NB232_329.out _; (with_reducible repeat (first | refine blk_drewN ?_ _ | refine blk_drew ?_ | refine blk_alloc ?_ _)); refine blk_far ?_ NB232_329.out _; (with_reducible repeat (first | refine blk_drewN ?_ _ | refine blk_drew ?_ | refine blk_alloc ?_ _)); refine blk_far ?_ NB232_329.out _; (with_reducible repeat (first | refine blk_drewN ?_ _ | refine blk_drew ?_ | refine blk_alloc ?_ _)); exact BK232.out) hb); have n13_ := Aside0.mk (blk_below (g := gb257) (o := .cells #[.slice Ao22 t245.length co22, .slice Ao25 t248.length co25, .slice Ao26 t251.length co26, .int .i64 t254, .int .i64 t255] 29 (0, 0)) (by (with_reducible repeat (first | refine blk_drewN ?_ _ | refine blk_drew ?_ | refine blk_alloc ?_ _)); refine blk_far ?_ NB257_329.out _; (with_reducible repeat (first | refine blk_drewN ?_ _ | refine blk_drew ?_ | refine blk_alloc ?_ _)); refine blk_far ?_ NB257_329.out _; (with_reducible repeat (first | refine blk_drewN ?_ _ | refine blk_drew ?_ | refine blk_alloc ?_ _)); refine blk_far ?_ NB257_329.out _; (with_reducible repeat (first | refine blk_drewN ?_ _ | refine blk_drew ?_ | refine blk_alloc ?_ _)); refine blk_far ?_ NB257_329.out _; (with_reducible repeat (first | refine blk_drewN ?_ _ | refine blk_drew ?_ | refine blk_alloc ?_ _)); refine blk_far ?_ NB257_329.out _; (with_reducible repeat (first | refine blk_drewN ?_ _ | refine blk_drew ?_ | refine blk_alloc ?_ _)); exact BK257.out) hb); have n14_ := Aside0.mk (blk_below (g := gb269) (o := .cells #[.slice Ao30 t297.length co30, .slice Ao34 t298.length co34, .slice Ao35 t299.length co35, .int .i64 t267, .int .i64 t268] 29 (0, 0)) (by (with_reducible repeat (first | refine blk_drewN ?_ _ | refine blk_drew ?_ | refine blk_alloc ?_ _)); refine blk_far ?_ NB269_329.out _; (with_reducible repeat (first | refine blk_drewN ?_ _ | refine blk_drew ?_ | refine blk_alloc ?_ _)); refine blk_far ?_ NB269_329.out _; (with_reducible repeat (first | refine blk_drewN ?_ _ | refine blk_drew ?_ | refine blk_alloc ?_ _)); refine blk_far ?_ NB269_329.out _; (with_reducible repeat (first | refine blk_drewN ?_ _ | refine blk_drew ?_ | refine blk_alloc ?_ _)); refine blk_far ?_ NB269_329.out _; (with_reducible repeat (first | refine blk_drewN ?_ _ | refine blk_drew ?_ | refine blk_alloc ?_ _)); refine blk_far ?_ NB269_329.out _; (with_reducible repeat (first | refine blk_drewN ?_ _ | refine blk_drew ?_ | refine blk_alloc ?_ _)); exact BK269.out) hb); have n15_ := Aside0.mk (blk_below (g := gb282) (o := .cells #[.slice Ao38 t302.length co38, .slice Ao43 t303.length co43, .slice Ao44 t304.length co44, .int .i64 t279, .int .i64 t280] 29 (0, 0)) (by (with_reducible repeat (first | refine blk_drewN ?_ _ | refine blk_drew ?_ | refine blk_alloc ?_ _)); refine blk_far ?_ NB282_329.out _; (with_reducible repeat (first | refine blk_drewN ?_ _ | refine blk_drew ?_ | refine blk_alloc ?_ _)); refine blk_far ?_ NB282_329.out _; (with_reducible repeat (first | refine blk_drewN ?_ _ | refine blk_drew ?_ | refine blk_alloc ?_ _)); refine blk_far ?_ NB282_329.out _; (with_reducible repeat (first | refine blk_drewN ?_ _ | refine blk_drew ?_ | refine blk_alloc ?_ _)); refine blk_far ?_ NB282_329.out _; (with_reducible repeat (first | refine blk_drewN ?_ _ | refine blk_drew ?_ | refine blk_alloc ?_ _)); refine blk_far ?_ NB282_329.out _; (with_reducible repeat (first | refine blk_drewN ?_ _ | refine blk_drew ?_ | refine blk_alloc ?_ _)); exact BK282.out) hb); have n16_ := Aside0.mk (blk_below (g := gb329) (o := .cells #[.slice Ao129 t317.length co129, .slice Ao135 t320.length co135, .slice Ao136 t323.length co136, .int .i64 t326, .int .i64 t327] 29 (0, 0)) (by (with_reducible repeat (first | refine blk_drewN ?_ _ | refine blk_drew ?_ | refine blk_alloc ?_ _)); refine blk_put (cs := #[.slice Ao129 t317.length co129, .slice Ao135 t320.length co135, .slice Ao136 t323.length co136, .int .i64 t326, .int .i64 0]) ?_ 4 _ rfl; (with_reducible repeat (first | refine blk_drewN ?_ _ | refine blk_drew ?_ | refine blk_alloc ?_ _)); refine blk_put (cs := #[.slice Ao129 t317.length co129, .slice Ao135 t320.length co135, .slice Ao136 t323.length co136, .int .i64 0, .int .i64 0]) ?_ 3 _ rfl; (with_reducible repeat (first | refine blk_drewN ?_ _ | refine blk_drew ?_ | refine blk_alloc ?_ _)); refine blk_put (cs := #[.slice Ao129 t317.length co129, .slice Ao135 t320.length co135, .slice none 0 0, .int .i64 0, .int .i64 0]) ?_ 2 _ rfl; (with_reducible repeat (first | refine blk_drewN ?_ _ | refine blk_drew ?_ | refine blk_alloc ?_ _)); refine blk_put (cs := #[.slice Ao129 t317.length co129, .slice none 0 0, .slice none 0 0, .int .i64 0, .int .i64 0]) ?_ 1 _ rfl; (with_reducible repeat (first | refine blk_drewN ?_ _ | refine blk_drew ?_ | refine blk_alloc ?_ _)); refine blk_put (cs := #[.slice none 0 0, .slice none 0 0, .slice none 0 0, .int .i64 0, .int .i64 0]) ?_ 0 _ rfl; (with_reducible repeat (first | refine blk_drewN ?_ _ | refine blk_drew ?_ | refine blk_alloc ?_ _)); exact BK329.out) hb); have n17_ := Aside0.mk (below_step (by repeat (first | (with_reducible first | exact HB.out | apply below_alloc | apply pw_below_drewN | apply below_drew1 | refine below_set ?_ GE232.out | refine below_set ?_ GE257.out | refine below_set ?_ GE269.out | refine below_set ?_ GE282.out | refine below_set ?_ GE329.out) | exact HB.out)) hb); clear HO_258000; clear HO_258001; clear HO_258002; clear HO_270000; clear HO_270001; clear HO_270002; clear HO_283000; clear HO_283001; clear HO_283002; clear HO319; clear HO322; clear HO325; clear BK232; clear BK257; clear BK269; clear BK282; clear BK329; clear HB; have HO_258000 := n0_; have HO_258001 := n1_; have HO_258002 := n2_; have HO_270000 := n3_; have HO_270001 := n4_; have HO_270002 := n5_; have HO_283000 := n6_; have HO_283001 := n7_; have HO_283002 := n8_; have HO319 := n9_; have HO322 := n10_; have HO325 := n11_; have BK232 := n12_; have BK257 := n13_; have BK269 := n14_; have BK282 := n15_; have BK329 := n16_; have HB := n17_; clear n0_ n1_ n2_ n3_ n4_ n5_ n6_ n7_ n8_ n9_ n10_ n11_ n12_ n13_ n14_ n15_ n16_ n17_; (try clear hb); (try clear hb2); (try clear hk); (try clear hi)))
    go_meet
    case rel => exact ⟨_, (true), (by first | rfl | (simp; done) | (simp [*]; done)), H', ⟨by have := HJ4.out; have := HJ13.out; have := HJ62.out; have := HJ66.out; have := HJ75.out; have := HJ100.out; have := HJ104.out; have := HJ113.out; first | omega | exact Nat.le_refl _⟩, ⟨by (try simp only [hl270000_75]); (try simp only [hl270001_75]); (try simp only [hl270002_75]); (try simp only [hl283000_104]); (try simp only [hl283001_104]); (try simp only [hl283002_104]); (with_reducible repeat (first | apply Kd.R_alloc | apply Kd.R_drewN | apply Kd.R_drew)); exact Kd.R_mono HO_258000.out (fun _ hk => ⟨hk.1.1.1, ⟨hk.1.1.2, hk.2⟩⟩)⟩, ⟨by (try simp only [hl270000_75]); (try simp only [hl270001_75]); (try simp only [hl270002_75]); (try simp only [hl283000_104]); (try simp only [hl283001_104]); (try simp only [hl283002_104]); (with_reducible repeat (first | apply Kd.R_alloc | apply Kd.R_drewN | apply Kd.R_drew)); exact Kd.R_mono HO_258001.out (fun _ hk => ⟨hk.1.1.1.1.1, ⟨hk.1.1.1.1.2.1, ⟨hk.1.1.1.1.2.2.1, ⟨hk.1.1.1.1.2.2.2.1, ⟨hk.1.1.1.1.2.2.2.2, ⟨hk.1.2, hk.2⟩⟩⟩⟩⟩⟩)⟩, ⟨by (try simp only [hl270000_75]); (try simp only [hl270001_75]); (try simp only [hl270002_75]); (try simp only [hl283000_104]); (try simp only [hl283001_104]); (try simp only [hl283002_104]); (with_reducible repeat (first | apply Kd.R_alloc | apply Kd.R_drewN | apply Kd.R_drew)); exact Kd.R_mono HO_258002.out (fun _ hk => ⟨hk.1.1.1.1.1, ⟨hk.1.1.1.1.2.1, ⟨hk.1.1.1.1.2.2.1, ⟨hk.1.1.1.1.2.2.2.1, ⟨hk.1.1.1.1.2.2.2.2, ⟨hk.1.2, hk.2⟩⟩⟩⟩⟩⟩)⟩, ⟨by (try simp only [hl270000_75]); (try simp only [hl270001_75]); (try simp only [hl270002_75]); (try simp only [hl283000_104]); (try simp only [hl283001_104]); (try simp only [hl283002_104]); (with_reducible repeat (first | apply Kd.R_alloc | apply Kd.R_drewN | apply Kd.R_drew)); exact Kd.R_mono HO_270000.out (fun _ hk => ⟨hk.1.1.1, ⟨hk.1.1.2, hk.2⟩⟩)⟩, ⟨by (try simp only [hl270000_75]); (try simp only [hl270001_75]); (try simp only [hl270002_75]); (try simp only [hl283000_104]); (try simp only [hl283001_104]); (try simp only [hl283002_104]); (with_reducible repeat (first | apply Kd.R_alloc | apply Kd.R_drewN | apply Kd.R_drew)); exact Kd.R_mono HO_270001.out (fun _ hk => ⟨hk.1.1.1.1.1, ⟨hk.1.1.1.1.2.1, ⟨hk.1.1.1.1.2.2.1, ⟨hk.1.1.1.1.2.2.2.1, ⟨hk.1.1.1.1.2.2.2.2, ⟨hk.1.2, hk.2⟩⟩⟩⟩⟩⟩)⟩, ⟨by (try simp only [hl270000_75]); (try simp only [hl270001_75]); (try simp only [hl270002_75]); (try simp only [hl283000_104]); (try simp only [hl283001_104]); (try simp only [hl283002_104]); (with_reducible repeat (first | apply Kd.R_alloc | apply Kd.R_drewN | apply Kd.R_drew)); exact Kd.R_mono HO_270002.out (fun _ hk => ⟨hk.1.1.1.1.1, ⟨hk.1.1.1.1.2.1, ⟨hk.1.1.1.1.2.2.1, ⟨hk.1.1.1.1.2.2.2.1, ⟨hk.1.1.1.1.2.2.2.2, ⟨hk.1.2, hk.2⟩⟩⟩⟩⟩⟩)⟩, ⟨by (try simp only [hl270000_75]); (try simp only [hl270001_75]); (try simp only [hl270002_75]); (try simp only [hl283000_104]); (try simp only [hl283001_104]); (try simp only [hl283002_104]); (with_reducible repeat (first | apply Kd.R_alloc | apply Kd.R_drewN | apply Kd.R_drew)); exact Kd.R_mono HO_283000.out (fun _ hk => ⟨hk.1.1.1, ⟨hk.1.1.2, hk.2⟩⟩)⟩, ⟨by (try simp only [hl270000_75]); (try simp only [hl270001_75]); (try simp only [hl270002_75]); (try simp only [hl283000_104]); (try simp only [hl283001_104]); (try simp only [hl283002_104]); (with_reducible repeat (first | apply Kd.R_alloc | apply Kd.R_drewN | apply Kd.R_drew)); exact Kd.R_mono HO_283001.out (fun _ hk => ⟨hk.1.1.1.1.1, ⟨hk.1.1.1.1.2.1, ⟨hk.1.1.1.1.2.2.1, ⟨hk.1.1.1.1.2.2.2.1, ⟨hk.1.1.1.1.2.2.2.2, ⟨hk.1.2, hk.2⟩⟩⟩⟩⟩⟩)⟩, ⟨by (try simp only [hl270000_75]); (try simp only [hl270001_75]); (try simp only [hl270002_75]); (try simp only [hl283000_104]); (try simp only [hl283001_104]); (try simp only [hl283002_104]); (with_reducible repeat (first | apply Kd.R_alloc | apply Kd.R_drewN | apply Kd.R_drew)); exact Kd.R_mono HO_283002.out (fun _ hk => ⟨hk.1.1.1.1.1, ⟨hk.1.1.1.1.2.1, ⟨hk.1.1.1.1.2.2.1, ⟨hk.1.1.1.1.2.2.2.1, ⟨hk.1.1.1.1.2.2.2.2, ⟨hk.1.2, hk.2⟩⟩⟩⟩⟩⟩)⟩, ⟨by (try simp only [hl270000_75]); (try simp only [hl270001_75]); (try simp only [hl270002_75]); (try simp only [hl283000_104]); (try simp only [hl283001_104]); (try simp only [hl283002_104]); (with_reducible repeat (first | apply Kd.R_alloc | apply Kd.R_drewN | apply Kd.R_drew)); exact Kd.R_mono HO319.out (fun _ hk => ⟨hk.1.1.1.2, ⟨hk.1.1.2, hk.1.2⟩⟩)⟩, ⟨by (try simp only [hl270000_75]); (try simp only [hl270001_75]); (try simp only [hl270002_75]); (try simp only [hl283000_104]); (try simp only [hl283001_104]); (try simp only [hl283002_104]); (with_reducible repeat (first | apply Kd.R_alloc | apply Kd.R_drewN | apply Kd.R_drew)); exact Kd.R_mono HO322.out (fun _ hk => ⟨hk.1.1.1.1.1.1.1.2, ⟨hk.1.1.1.1.1.1.2, ⟨hk.1.1.1.1.1.2, ⟨hk.1.1.1.1.2, ⟨hk.1.1.1.2, ⟨hk.1.1.2, hk.1.1.1.1.1.1.1.1⟩⟩⟩⟩⟩⟩)⟩, ⟨by (try simp only [hl270000_75]); (try simp only [hl270001_75]); (try simp only [hl270002_75]); (try simp only [hl283000_104]); (try simp only [hl283001_104]); (try simp only [hl283002_104]); (with_reducible repeat (first | apply Kd.R_alloc | apply Kd.R_drewN | apply Kd.R_drew)); exact Kd.R_mono HO325.out (fun _ hk => ⟨hk.1.1.1.1.1.1.1.2, ⟨hk.1.1.1.1.1.1.2, ⟨hk.1.1.1.1.1.2, ⟨hk.1.1.1.1.2, ⟨hk.1.1.1.2, ⟨hk.1.1.2, hk.1.1.1.1.1.1.1.1⟩⟩⟩⟩⟩⟩)⟩, ⟨by (try simp only [hl270000_75]); (try simp only [hl270001_75]); (try simp only [hl270002_75]); (try simp only [hl283000_104]); (try simp only [hl283001_104]); (try simp only [hl283002_104]); (with_reducible repeat (first | refine blk_drewN ?_ _ | refine blk_drew ?_ | refine blk_alloc ?_ _)); exact BK232.out⟩, ⟨by (try simp only [hl270000_75]); (try simp only [hl270001_75]); (try simp only [hl270002_75]); (try simp only [hl283000_104]); (try simp only [hl283001_104]); (try simp only [hl283002_104]); (with_reducible repeat (first | refine blk_drewN ?_ _ | refine blk_drew ?_ | refine blk_alloc ?_ _)); exact BK257.out⟩, ⟨by (try simp only [hl270000_75]); (try simp only [hl270001_75]); (try simp only [hl270002_75]); (try simp only [hl283000_104]); (try simp only [hl283001_104]); (try simp only [hl283002_104]); (with_reducible repeat (first | refine blk_drewN ?_ _ | refine blk_drew ?_ | refine blk_alloc ?_ _)); exact BK269.out⟩, ⟨by (try simp only [hl270000_75]); (try simp only [hl270001_75]); (try simp only [hl270002_75]); (try simp only [hl283000_104]); (try simp only [hl283001_104]); (try simp only [hl283002_104]); (with_reducible repeat (first | refine blk_drewN ?_ _ | refine blk_drew ?_ | refine blk_alloc ?_ _)); exact BK282.out⟩, ⟨by (try simp only [hl270000_75]); (try simp only [hl270001_75]); (try simp only [hl270002_75]); (try simp only [hl283000_104]); (try simp only [hl283001_104]); (try simp only [hl283002_104]); (with_reducible repeat (first | refine blk_drewN ?_ _ | refine blk_drew ?_ | refine blk_alloc ?_ _)); exact BK329.out⟩, ⟨by repeat (first | (with_reducible first | exact HB.out | apply below_alloc | apply pw_below_drewN | apply below_drew1 | refine below_set ?_ GE232.out | refine below_set ?_ GE257.out | refine below_set ?_ GE269.out | refine below_set ?_ GE282.out | refine below_set ?_ GE329.out) | exact HB.out)⟩⟩
  case rest =>
   clear HC118
   try clear c1
   try clear c2
   try clear p2
   try clear c3
   try clear c4
   try clear c5
   try clear c6
   try clear c7
   try clear c8
   try clear c9
   try clear c9b0
   try clear c10
   try clear c11
   try clear c12
   try clear c13
   try clear c14
   try clear c15
   try clear c16
   try clear c23
   try clear c31
   try clear c32
   try clear c39
   try clear c40
   try clear c41
   try clear c46
   try clear c47
   try clear c48
   try clear c49
   try clear c51
   try clear c52
   try clear c55
   try clear c56
   try clear c57
   try clear c59
   try clear c60
   try clear c64
   try clear c74
   try clear c77
   try clear c78
   try clear c79
   try clear c82
   try clear c82b0
   try clear c84
   try clear c85
   try clear c86
   try clear c87
   try clear c89
   try clear c90
   try clear c93
   try clear c94
   try clear c95
   try clear c97
   try clear c98
   try clear c102
   try clear c106
   try clear c107
   try clear c108
   try clear c113
   try clear c113b0
   try clear c115
   try clear c115b0
   try clear c115b1
   try clear c119
   try clear c120
   try clear c121
   try clear c130
   try clear c131
   try clear c132
   try clear c133
   try clear c138
   try clear c139
   try clear c140
   try clear c141
   try clear c142
   try clear c144
   try clear c145
   try clear c146
   try clear c149
   try clear c150
   try clear c151
   try clear c152
   try clear c154
   try clear c155
   try clear c156
   try clear hcz109_0
   try clear hcz109_1
   try clear hcz109_2
   try clear hcz109_3
   try clear hcz109_4
   try clear hcz111_0
   try clear hcz111_1
   try clear hcz111_2
   try clear hcz111_3
   try clear hcz111_4
   try clear hcz122_0
   try clear hcz122_1
   try clear hcz122_2
   try clear hcz122_3
   try clear hcz122_4
   try clear hcz134_0
   try clear hcz134_1
   try clear hcz134_2
   try clear hcz134_3
   try clear hcz134_4
   try clear hcz143_0
   try clear hcz143_1
   try clear hcz143_2
   try clear hcz143_3
   try clear hcz143_4
   try clear hcz147_0
   try clear hcz147_1
   try clear hcz147_2
   try clear hcz147_3
   try clear hcz147_4
   try clear hcz153_0
   try clear hcz153_1
   try clear hcz153_2
   try clear hcz153_3
   try clear hcz153_4
   try clear hcz157_0
   try clear hcz157_1
   try clear hcz157_2
   try clear hcz157_3
   try clear hcz157_4
   try clear hcz15_0
   try clear hcz15_1
   try clear hcz15_2
   try clear hcz15_3
   try clear hcz15_4
   try clear hcz24_0
   try clear hcz24_1
   try clear hcz24_2
   try clear hcz24_3
   try clear hcz24_4
   try clear hcz27_0
   try clear hcz27_1
   try clear hcz27_2
   try clear hcz27_3
   try clear hcz27_4
   try clear hcz33_0
   try clear hcz33_1
   try clear hcz33_2
   try clear hcz33_3
   try clear hcz33_4
   try clear hcz42_0
   try clear hcz42_1
   try clear hcz42_2
   try clear hcz42_3
   try clear hcz42_4
   try clear hcz50_0
   try clear hcz50_1
   try clear hcz50_2
   try clear hcz50_3
   try clear hcz50_4
   try clear hcz53_0
   try clear hcz53_1
   try clear hcz53_2
   try clear hcz53_3
   try clear hcz53_4
   try clear hcz58_0
   try clear hcz58_1
   try clear hcz58_2
   try clear hcz58_3
   try clear hcz58_4
   try clear hcz61_0
   try clear hcz61_1
   try clear hcz61_2
   try clear hcz61_3
   try clear hcz61_4
   try clear hcz7_0
   try clear hcz7_1
   try clear hcz7_2
   try clear hcz7_3
   try clear hcz7_4
   try clear hcz80_0
   try clear hcz80_1
   try clear hcz80_2
   try clear hcz80_3
   try clear hcz80_4
   try clear hcz88_0
   try clear hcz88_1
   try clear hcz88_2
   try clear hcz88_3
   try clear hcz88_4
   try clear hcz91_0
   try clear hcz91_1
   try clear hcz91_2
   try clear hcz91_3
   try clear hcz91_4
   try clear hcz96_0
   try clear hcz96_1
   try clear hcz96_2
   try clear hcz96_3
   try clear hcz96_4
   try clear hcz99_0
   try clear hcz99_1
   try clear hcz99_2
   try clear hcz99_3
   try clear hcz99_4
   try clear hfz109_0
   try clear hfz109_1
   try clear hfz109_2
   try clear hfz109_3
   try clear hfz109_4
   try clear hfz111_0
   try clear hfz111_1
   try clear hfz111_2
   try clear hfz111_3
   try clear hfz111_4
   try clear hfz122_0
   try clear hfz122_1
   try clear hfz122_2
   try clear hfz122_3
   try clear hfz122_4
   try clear hfz134_0
   try clear hfz134_1
   try clear hfz134_2
   try clear hfz134_3
   try clear hfz134_4
   try clear hfz143_0
   try clear hfz143_1
   try clear hfz143_2
   try clear hfz143_3
   try clear hfz143_4
   try clear hfz147_0
   try clear hfz147_1
   try clear hfz147_2
   try clear hfz147_3
   try clear hfz147_4
   try clear hfz153_0
   try clear hfz153_1
   try clear hfz153_2
   try clear hfz153_3
   try clear hfz153_4
   try clear hfz157_0
   try clear hfz157_1
   try clear hfz157_2
   try clear hfz157_3
   try clear hfz157_4
   try clear hfz15_0
   try clear hfz15_1
   try clear hfz15_2
   try clear hfz15_3
   try clear hfz15_4
   try clear hfz24_0
   try clear hfz24_1
   try clear hfz24_2
   try clear hfz24_3
   try clear hfz24_4
   try clear hfz27_0
   try clear hfz27_1
   try clear hfz27_2
   try clear hfz27_3
   try clear hfz27_4
   try clear hfz33_0
   try clear hfz33_1
   try clear hfz33_2
   try clear hfz33_3
   try clear hfz33_4
   try clear hfz42_0
   try clear hfz42_1
   try clear hfz42_2
   try clear hfz42_3
   try clear hfz42_4
   try clear hfz50_0
   try clear hfz50_1
   try clear hfz50_2
   try clear hfz50_3
   try clear hfz50_4
   try clear hfz53_0
   try clear hfz53_1
   try clear hfz53_2
   try clear hfz53_3
   try clear hfz53_4
   try clear hfz58_0
   try clear hfz58_1
   try clear hfz58_2
   try clear hfz58_3
   try clear hfz58_4
   try clear hfz61_0
   try clear hfz61_1
   try clear hfz61_2
   try clear hfz61_3
   try clear hfz61_4
   try clear hfz7_0
   try clear hfz7_1
   try clear hfz7_2
   try clear hfz7_3
   try clear hfz7_4
   try clear hfz80_0
   try clear hfz80_1
   try clear hfz80_2
   try clear hfz80_3
   try clear hfz80_4
   try clear hfz88_0
   try clear hfz88_1
   try clear hfz88_2
   try clear hfz88_3
   try clear hfz88_4
   try clear hfz91_0
   try clear hfz91_1
   try clear hfz91_2
   try clear hfz91_3
   try clear hfz91_4
   try clear hfz96_0
   try clear hfz96_1
   try clear hfz96_2
   try clear hfz96_3
   try clear hfz96_4
   try clear hfz99_0
   try clear hfz99_1
   try clear hfz99_2
   try clear hfz99_3
   try clear hfz99_4
   try clear p2
   obtain ⟨kq, x97_117, rfl, HA, HJ117, HO_258000, HO_258001, HO_258002, HO_270000, HO_270001, HO_270002, HO_283000, HO_283001, HO_283002, HO_330000, HO_330001, HO_330002, BK232, BK257, BK269, BK282, BK329, HB⟩ := hcut
   cases kq with
   | zero => exact absurd HA.out (by simp [laws_FnExactSummed.j8])
   | succ kj117 =>
    have H := HA.out
    clear HA
    simp only [laws_FnExactSummed.j8] at H
    have HC159 := Aside0.mk H
    clear H
    go_upto_if 97 with (fail)
    go_cut [] (fun wc => ∃ (kq : Nat), Aside0 (laws_FnExactSummed.j9 kq t301 t302 t303 t304 t279 t280 = some r) ∧ Aside0 (kq ≤ kj117) ∧ Aside0 (Kd.R k96 96 wc w.heap.size (fun _ => True) (.slice Ao38 t302.length co38) t302) ∧ Aside0 (Kd.R (Kd.int .i64) 3 wc w.heap.size (fun k_ => some k_ ≠ ((.slice Ao44 t304.length co44) : Value).ownBlock) (.slice Ao43 t303.length co43) t303) ∧ Aside0 (Kd.R (Kd.int .i64) 3 wc w.heap.size (fun k_ => some k_ ≠ ((.slice Ao43 t303.length co43) : Value).ownBlock) (.slice Ao44 t304.length co44) t304) ∧ Aside0 (wc.heap[gb282]? = some (.cells #[(.slice Ao38 t302.length co38), (.slice Ao43 t303.length co43), (.slice Ao44 t304.length co44), .int .i64 t279, .int .i64 t280] 29 (0, 0))) ∧ Aside0 (Below w.heap.size w wc))
    case first =>
     have H := HC159.out
     clear HC159
     by_cases c160 : x97_117 = true
     ·
      subst c160
      have H1 : (some false) = some r := by rw [if_pos rfl] at H; exact H
      clear H
      have H := H1
      clear H1
      obtain rfl := Option.some.inj H
      go_wp2
      go_ret
      exact ⟨by first | rfl | (simp [errW_none, errW_some] <;> rfl) | (simp [*, errW_none, errW_some] <;> rfl), by repeat (first | (with_reducible first | exact HB.out | apply below_alloc | apply pw_below_drewN | apply below_drew1 | refine below_set ?_ GE232.out | refine below_set ?_ GE257.out | refine below_set ?_ GE269.out | refine below_set ?_ GE282.out | refine below_set ?_ GE329.out) | exact HB.out)⟩
     ·
      replace c160 := Bool.eq_false_iff.mpr c160
      subst c160
      have H1 : (laws_FnExactSummed.j9 kj117 t301 t302 t303 t304 t279 t280) = some r := by rw [if_neg (show ¬ (false = true) by decide)] at H; exact H
      clear H
      have H := H1
      clear H1
      have H' := Aside0.mk H
      clear H
      go_wp2
      go_meet
      case rel => exact ⟨_, H', ⟨by have := HJ4.out; have := HJ13.out; have := HJ62.out; have := HJ66.out; have := HJ75.out; have := HJ100.out; have := HJ104.out; have := HJ113.out; have := HJ117.out; first | omega | exact Nat.le_refl _⟩, ⟨by (try simp only [hl270000_75]); (try simp only [hl270001_75]); (try simp only [hl270002_75]); (try simp only [hl283000_104]); (try simp only [hl283001_104]); (try simp only [hl283002_104]); (with_reducible repeat (first | apply Kd.R_alloc | apply Kd.R_drewN | apply Kd.R_drew)); exact Kd.R_mono HO_283000.out (fun _ hk => trivial)⟩, ⟨by (try simp only [hl270000_75]); (try simp only [hl270001_75]); (try simp only [hl270002_75]); (try simp only [hl283000_104]); (try simp only [hl283001_104]); (try simp only [hl283002_104]); (with_reducible repeat (first | apply Kd.R_alloc | apply Kd.R_drewN | apply Kd.R_drew)); exact Kd.R_mono HO_283001.out (fun _ hk => hk.2.2.2.2.1)⟩, ⟨by (try simp only [hl270000_75]); (try simp only [hl270001_75]); (try simp only [hl270002_75]); (try simp only [hl283000_104]); (try simp only [hl283001_104]); (try simp only [hl283002_104]); (with_reducible repeat (first | apply Kd.R_alloc | apply Kd.R_drewN | apply Kd.R_drew)); exact Kd.R_mono HO_283002.out (fun _ hk => hk.2.2.2.2.1)⟩, ⟨by (try simp only [hl270000_75]); (try simp only [hl270001_75]); (try simp only [hl270002_75]); (try simp only [hl283000_104]); (try simp only [hl283001_104]); (try simp only [hl283002_104]); (with_reducible repeat (first | refine blk_drewN ?_ _ | refine blk_drew ?_ | refine blk_alloc ?_ _)); exact BK282.out⟩, ⟨by repeat (first | (with_reducible first | exact HB.out | apply below_alloc | apply pw_below_drewN | apply below_drew1 | refine below_set ?_ GE232.out | refine below_set ?_ GE257.out | refine below_set ?_ GE269.out | refine below_set ?_ GE282.out | refine below_set ?_ GE329.out) | exact HB.out)⟩⟩
    case rest =>
     clear HC159
     try clear c1
     try clear c2
     try clear p2
     try clear c3
     try clear c4
     try clear c5
     try clear c6
     try clear c7
     try clear c8
     try clear c9
     try clear c9b0
     try clear c10
     try clear c11
     try clear c12
     try clear c13
     try clear c14
     try clear c15
     try clear c16
     try clear c23
     try clear c31
     try clear c32
     try clear c39
     try clear c40
     try clear c41
     try clear c46
     try clear c47
     try clear c48
     try clear c49
     try clear c51
     try clear c52
     try clear c55
     try clear c56
     try clear c57
     try clear c59
     try clear c60
     try clear c64
     try clear c74
     try clear c77
     try clear c78
     try clear c79
     try clear c82
     try clear c82b0
     try clear c84
     try clear c85
     try clear c86
     try clear c87
     try clear c89
     try clear c90
     try clear c93
     try clear c94
     try clear c95
     try clear c97
     try clear c98
     try clear c102
     try clear c106
     try clear c107
     try clear c108
     try clear c113
     try clear c113b0
     try clear c115
     try clear c115b0
     try clear c115b1
     try clear c119
     try clear c120
     try clear c121
     try clear c130
     try clear c131
     try clear c132
     try clear c133
     try clear c138
     try clear c139
     try clear c140
     try clear c141
     try clear c142
     try clear c144
     try clear c145
     try clear c146
     try clear c149
     try clear c150
     try clear c151
     try clear c152
     try clear c154
     try clear c155
     try clear c156
     try clear c160
     try clear hcz109_0
     try clear hcz109_1
     try clear hcz109_2
     try clear hcz109_3
     try clear hcz109_4
     try clear hcz111_0
     try clear hcz111_1
     try clear hcz111_2
     try clear hcz111_3
     try clear hcz111_4
     try clear hcz122_0
     try clear hcz122_1
     try clear hcz122_2
     try clear hcz122_3
     try clear hcz122_4
     try clear hcz134_0
     try clear hcz134_1
     try clear hcz134_2
     try clear hcz134_3
     try clear hcz134_4
     try clear hcz143_0
     try clear hcz143_1
     try clear hcz143_2
     try clear hcz143_3
     try clear hcz143_4
     try clear hcz147_0
     try clear hcz147_1
     try clear hcz147_2
     try clear hcz147_3
     try clear hcz147_4
     try clear hcz153_0
     try clear hcz153_1
     try clear hcz153_2
     try clear hcz153_3
     try clear hcz153_4
     try clear hcz157_0
     try clear hcz157_1
     try clear hcz157_2
     try clear hcz157_3
     try clear hcz157_4
     try clear hcz15_0
     try clear hcz15_1
     try clear hcz15_2
     try clear hcz15_3
     try clear hcz15_4
     try clear hcz24_0
     try clear hcz24_1
     try clear hcz24_2
     try clear hcz24_3
     try clear hcz24_4
     try clear hcz27_0
     try clear hcz27_1
     try clear hcz27_2
     try clear hcz27_3
     try clear hcz27_4
     try clear hcz33_0
     try clear hcz33_1
     try clear hcz33_2
     try clear hcz33_3
     try clear hcz33_4
     try clear hcz42_0
     try clear hcz42_1
     try clear hcz42_2
     try clear hcz42_3
     try clear hcz42_4
     try clear hcz50_0
     try clear hcz50_1
     try clear hcz50_2
     try clear hcz50_3
     try clear hcz50_4
     try clear hcz53_0
     try clear hcz53_1
     try clear hcz53_2
     try clear hcz53_3
     try clear hcz53_4
     try clear hcz58_0
     try clear hcz58_1
     try clear hcz58_2
     try clear hcz58_3
     try clear hcz58_4
     try clear hcz61_0
     try clear hcz61_1
     try clear hcz61_2
     try clear hcz61_3
     try clear hcz61_4
     try clear hcz7_0
     try clear hcz7_1
     try clear hcz7_2
     try clear hcz7_3
     try clear hcz7_4
     try clear hcz80_0
     try clear hcz80_1
     try clear hcz80_2
     try clear hcz80_3
     try clear hcz80_4
     try clear hcz88_0
     try clear hcz88_1
     try clear hcz88_2
     try clear hcz88_3
     try clear hcz88_4
     try clear hcz91_0
     try clear hcz91_1
     try clear hcz91_2
     try clear hcz91_3
     try clear hcz91_4
     try clear hcz96_0
     try clear hcz96_1
     try clear hcz96_2
     try clear hcz96_3
     try clear hcz96_4
     try clear hcz99_0
     try clear hcz99_1
     try clear hcz99_2
     try clear hcz99_3
     try clear hcz99_4
     try clear hfz109_0
     try clear hfz109_1
     try clear hfz109_2
     try clear hfz109_3
     try clear hfz109_4
     try clear hfz111_0
     try clear hfz111_1
     try clear hfz111_2
     try clear hfz111_3
     try clear hfz111_4
     try clear hfz122_0
     try clear hfz122_1
     try clear hfz122_2
     try clear hfz122_3
     try clear hfz122_4
     try clear hfz134_0
     try clear hfz134_1
     try clear hfz134_2
     try clear hfz134_3
     try clear hfz134_4
     try clear hfz143_0
     try clear hfz143_1
     try clear hfz143_2
     try clear hfz143_3
     try clear hfz143_4
     try clear hfz147_0
     try clear hfz147_1
     try clear hfz147_2
     try clear hfz147_3
     try clear hfz147_4
     try clear hfz153_0
     try clear hfz153_1
     try clear hfz153_2
     try clear hfz153_3
     try clear hfz153_4
     try clear hfz157_0
     try clear hfz157_1
     try clear hfz157_2
     try clear hfz157_3
     try clear hfz157_4
     try clear hfz15_0
     try clear hfz15_1
     try clear hfz15_2
     try clear hfz15_3
     try clear hfz15_4
     try clear hfz24_0
     try clear hfz24_1
     try clear hfz24_2
     try clear hfz24_3
     try clear hfz24_4
     try clear hfz27_0
     try clear hfz27_1
     try clear hfz27_2
     try clear hfz27_3
     try clear hfz27_4
     try clear hfz33_0
     try clear hfz33_1
     try clear hfz33_2
     try clear hfz33_3
     try clear hfz33_4
     try clear hfz42_0
     try clear hfz42_1
     try clear hfz42_2
     try clear hfz42_3
     try clear hfz42_4
     try clear hfz50_0
     try clear hfz50_1
     try clear hfz50_2
     try clear hfz50_3
     try clear hfz50_4
     try clear hfz53_0
     try clear hfz53_1
     try clear hfz53_2
     try clear hfz53_3
     try clear hfz53_4
     try clear hfz58_0
     try clear hfz58_1
     try clear hfz58_2
     try clear hfz58_3
     try clear hfz58_4
     try clear hfz61_0
     try clear hfz61_1
     try clear hfz61_2
     try clear hfz61_3
     try clear hfz61_4
     try clear hfz7_0
     try clear hfz7_1
     try clear hfz7_2
     try clear hfz7_3
     try clear hfz7_4
     try clear hfz80_0
     try clear hfz80_1
     try clear hfz80_2
     try clear hfz80_3
     try clear hfz80_4
     try clear hfz88_0
     try clear hfz88_1
     try clear hfz88_2
     try clear hfz88_3
     try clear hfz88_4
     try clear hfz91_0
     try clear hfz91_1
     try clear hfz91_2
     try clear hfz91_3
     try clear hfz91_4
     try clear hfz96_0
     try clear hfz96_1
     try clear hfz96_2
     try clear hfz96_3
     try clear hfz96_4
     try clear hfz99_0
     try clear hfz99_1
     try clear hfz99_2
     try clear hfz99_3
     try clear hfz99_4
     try clear p2
     obtain ⟨kq, HA, HJ158, HO_283000, HO_283001, HO_283002, BK282, HB⟩ := hcut
     cases kq with
     | zero => exact absurd HA.out (by simp [laws_FnExactSummed.j9])
     | succ kj158 =>
      have H := HA.out
      clear HA
      simp only [laws_FnExactSummed.j9] at H
      replace H := Option.bind_eq_some_iff.mp H
      obtain ⟨t331, A1610, H⟩ := H
      replace H : (if t331 < 0 then (some false) else (if t331 = t301 then (some true) else (some false))) = some r := H
      have A161 := Aside0.mk A1610
      clear A1610
      by_cases c162 : t331 < 0
      ·
       rw [if_pos c162] at H
       have c162b0 : decide (t331 < 0) = true := decide_eq_true c162
       clear c162
       obtain rfl := Option.some.inj H
       have hcz163_0 : wc.cell? ⟨gb282, 0, none⟩ = some (.slice Ao38 t302.length co38) := (blk_cell BK282.out 0).trans rfl
       have hcz163_1 : wc.cell? ⟨gb282, 1, none⟩ = some (.slice Ao43 t303.length co43) := (blk_cell BK282.out 1).trans rfl
       have hcz163_2 : wc.cell? ⟨gb282, 2, none⟩ = some (.slice Ao44 t304.length co44) := (blk_cell BK282.out 2).trans rfl
       have hcz163_3 : wc.cell? ⟨gb282, 3, none⟩ = some (.int .i64 t279) := (blk_cell BK282.out 3).trans rfl
       have hcz163_4 : wc.cell? ⟨gb282, 4, none⟩ = some (.int .i64 t280) := (blk_cell BK282.out 4).trans rfl
       have hfz163_0 := blk_frozen BK282.out 0
       have hfz163_1 := blk_frozen BK282.out 1
       have hfz163_2 := blk_frozen BK282.out 2
       have hfz163_3 := blk_frozen BK282.out 3
       have hfz163_4 := blk_frozen BK282.out 4
       go_wp2_with (first | ((with_reducible refine gate_callee (f := 16) rfl ?_); refine goesL_ (some 100) rfl rfl Try.func16 (by kernel_rfl) rfl #[.agg #[.slice Ao38 t302.length co38, .slice Ao43 t303.length co43, .slice Ao44 t304.length co44, .int .i64 t279, .int .i64 t280], .int .i64 1] rfl (by (try simp only [List.map_toArray, List.map_cons, List.map_nil]); first | done | rfl | (simp only [List.length_drop, List.length_take]; rfl)) ?_; (with_reducible refine (laws_heldMemory.calls kj158 _ _ t302 _ _ t303 _ _ t304 t279 t280 1 t331 _ ?side1 ?side2 ?side3 ?side4 ?side5 ?side6 A161.out).mono ?_); (case side1 => repeat (first | exact (Kd.R_reads' HO_283000.out).2.2 | (with_reducible refine Kd.C_alloc ?_ _) | (with_reducible refine Kd.C_drewN ?_ _) | (with_reducible refine Kd.C_drew ?_))); (case side2 => exact (Kd.R_reads' HO_283000.out).2.1); (case side3 => repeat (first | exact (Kd.R_reads' HO_283001.out).2.2 | (with_reducible refine Kd.C_alloc ?_ _) | (with_reducible refine Kd.C_drewN ?_ _) | (with_reducible refine Kd.C_drew ?_))); (case side4 => exact (Kd.R_reads' HO_283001.out).2.1); (case side5 => repeat (first | exact (Kd.R_reads' HO_283002.out).2.2 | (with_reducible refine Kd.C_alloc ?_ _) | (with_reducible refine Kd.C_drewN ?_ _) | (with_reducible refine Kd.C_drew ?_))); (case side6 => exact (Kd.R_reads' HO_283002.out).2.1); rintro e w164 ⟨rfl, hb⟩; refine ⟨_, rfl, ?_⟩; have n0_ := Aside0.mk (Kd.R_below (by (with_reducible repeat (first | apply Kd.R_alloc | apply Kd.R_drewN | apply Kd.R_drew)); exact HO_283000.out) hb); have n1_ := Aside0.mk (Kd.R_below (by (with_reducible repeat (first | apply Kd.R_alloc | apply Kd.R_drewN | apply Kd.R_drew)); exact HO_283001.out) hb); have n2_ := Aside0.mk (Kd.R_below (by (with_reducible repeat (first | apply Kd.R_alloc | apply Kd.R_drewN | apply Kd.R_drew)); exact HO_283002.out) hb); have n3_ := Aside0.mk (below_step (by repeat (first | (with_reducible first | exact HB.out | apply below_alloc | apply pw_below_drewN | apply below_drew1) | exact HB.out)) hb); clear HO_283000; clear HO_283001; clear HO_283002; clear HB; have HO_283000 := n0_; have HO_283001 := n1_; have HO_283002 := n2_; have HB := n3_; clear n0_ n1_ n2_ n3_; (try clear hb); (try clear hb2); (try clear hk); (try clear hi)))
       go_ret
       exact ⟨by first | rfl | (simp [errW_none, errW_some] <;> rfl) | (simp [*, errW_none, errW_some] <;> rfl), by repeat (first | (with_reducible first | exact HB.out | apply below_alloc | apply pw_below_drewN | apply below_drew1) | exact HB.out)⟩
      ·
       rw [if_neg c162] at H
       have c162b0 : decide (t331 < 0) = false := decide_eq_false c162
       clear c162
       by_cases c165 : t331 = t301
       ·
        rw [if_pos c165] at H
        have c165b0 : (t331 == t301) = true := beq_iff_eq.mpr c165
        have c165b1 : (t331 != t301) = false := bne_eq_false_iff_eq.mpr c165
        clear c165
        obtain rfl := Option.some.inj H
        have hcz166_0 : wc.cell? ⟨gb282, 0, none⟩ = some (.slice Ao38 t302.length co38) := (blk_cell BK282.out 0).trans rfl
        have hcz166_1 : wc.cell? ⟨gb282, 1, none⟩ = some (.slice Ao43 t303.length co43) := (blk_cell BK282.out 1).trans rfl
        have hcz166_2 : wc.cell? ⟨gb282, 2, none⟩ = some (.slice Ao44 t304.length co44) := (blk_cell BK282.out 2).trans rfl
        have hcz166_3 : wc.cell? ⟨gb282, 3, none⟩ = some (.int .i64 t279) := (blk_cell BK282.out 3).trans rfl
        have hcz166_4 : wc.cell? ⟨gb282, 4, none⟩ = some (.int .i64 t280) := (blk_cell BK282.out 4).trans rfl
        have hfz166_0 := blk_frozen BK282.out 0
        have hfz166_1 := blk_frozen BK282.out 1
        have hfz166_2 := blk_frozen BK282.out 2
        have hfz166_3 := blk_frozen BK282.out 3
        have hfz166_4 := blk_frozen BK282.out 4
        go_wp2_with (first | ((with_reducible refine gate_callee (f := 16) rfl ?_); refine goesL_ (some 100) rfl rfl Try.func16 (by kernel_rfl) rfl #[.agg #[.slice Ao38 t302.length co38, .slice Ao43 t303.length co43, .slice Ao44 t304.length co44, .int .i64 t279, .int .i64 t280], .int .i64 1] rfl (by (try simp only [List.map_toArray, List.map_cons, List.map_nil]); first | done | rfl | (simp only [List.length_drop, List.length_take]; rfl)) ?_; (with_reducible refine (laws_heldMemory.calls kj158 _ _ t302 _ _ t303 _ _ t304 t279 t280 1 t331 _ ?side1 ?side2 ?side3 ?side4 ?side5 ?side6 A161.out).mono ?_); (case side1 => repeat (first | exact (Kd.R_reads' HO_283000.out).2.2 | (with_reducible refine Kd.C_alloc ?_ _) | (with_reducible refine Kd.C_drewN ?_ _) | (with_reducible refine Kd.C_drew ?_))); (case side2 => exact (Kd.R_reads' HO_283000.out).2.1); (case side3 => repeat (first | exact (Kd.R_reads' HO_283001.out).2.2 | (with_reducible refine Kd.C_alloc ?_ _) | (with_reducible refine Kd.C_drewN ?_ _) | (with_reducible refine Kd.C_drew ?_))); (case side4 => exact (Kd.R_reads' HO_283001.out).2.1); (case side5 => repeat (first | exact (Kd.R_reads' HO_283002.out).2.2 | (with_reducible refine Kd.C_alloc ?_ _) | (with_reducible refine Kd.C_drewN ?_ _) | (with_reducible refine Kd.C_drew ?_))); (case side6 => exact (Kd.R_reads' HO_283002.out).2.1); rintro e w167 ⟨rfl, hb⟩; refine ⟨_, rfl, ?_⟩; have n0_ := Aside0.mk (Kd.R_below (by (with_reducible repeat (first | apply Kd.R_alloc | apply Kd.R_drewN | apply Kd.R_drew)); exact HO_283000.out) hb); have n1_ := Aside0.mk (Kd.R_below (by (with_reducible repeat (first | apply Kd.R_alloc | apply Kd.R_drewN | apply Kd.R_drew)); exact HO_283001.out) hb); have n2_ := Aside0.mk (Kd.R_below (by (with_reducible repeat (first | apply Kd.R_alloc | apply Kd.R_drewN | apply Kd.R_drew)); exact HO_283002.out) hb); have n3_ := Aside0.mk (below_step (by repeat (first | (with_reducible first | exact HB.out | apply below_alloc | apply pw_below_drewN | apply below_drew1) | exact HB.out)) hb); clear HO_283000; clear HO_283001; clear HO_283002; clear HB; have HO_283000 := n0_; have HO_283001 := n1_; have HO_283002 := n2_; have HB := n3_; clear n0_ n1_ n2_ n3_; (try clear hb); (try clear hb2); (try clear hk); (try clear hi)))
        go_ret
        exact ⟨by first | rfl | (simp [errW_none, errW_some] <;> rfl) | (simp [*, errW_none, errW_some] <;> rfl), by repeat (first | (with_reducible first | exact HB.out | apply below_alloc | apply pw_below_drewN | apply below_drew1) | exact HB.out)⟩
       ·
        rw [if_neg c165] at H
        have c165b0 : (t331 == t301) = false := beq_eq_false_iff_ne.mpr c165
        have c165b1 : (t331 != t301) = true := bne_iff_ne.mpr c165
        obtain rfl := Option.some.inj H
        have hcz168_0 : wc.cell? ⟨gb282, 0, none⟩ = some (.slice Ao38 t302.length co38) := (blk_cell BK282.out 0).trans rfl
        have hcz168_1 : wc.cell? ⟨gb282, 1, none⟩ = some (.slice Ao43 t303.length co43) := (blk_cell BK282.out 1).trans rfl
        have hcz168_2 : wc.cell? ⟨gb282, 2, none⟩ = some (.slice Ao44 t304.length co44) := (blk_cell BK282.out 2).trans rfl
        have hcz168_3 : wc.cell? ⟨gb282, 3, none⟩ = some (.int .i64 t279) := (blk_cell BK282.out 3).trans rfl
        have hcz168_4 : wc.cell? ⟨gb282, 4, none⟩ = some (.int .i64 t280) := (blk_cell BK282.out 4).trans rfl
        have hfz168_0 := blk_frozen BK282.out 0
        have hfz168_1 := blk_frozen BK282.out 1
        have hfz168_2 := blk_frozen BK282.out 2
        have hfz168_3 := blk_frozen BK282.out 3
        have hfz168_4 := blk_frozen BK282.out 4
        go_wp2_with (first | ((with_reducible refine gate_callee (f := 16) rfl ?_); refine goesL_ (some 100) rfl rfl Try.func16 (by kernel_rfl) rfl #[.agg #[.slice Ao38 t302.length co38, .slice Ao43 t303.length co43, .slice Ao44 t304.length co44, .int .i64 t279, .int .i64 t280], .int .i64 1] rfl (by (try simp only [List.map_toArray, List.map_cons, List.map_nil]); first | done | rfl | (simp only [List.length_drop, List.length_take]; rfl)) ?_; (with_reducible refine (laws_heldMemory.calls kj158 _ _ t302 _ _ t303 _ _ t304 t279 t280 1 t331 _ ?side1 ?side2 ?side3 ?side4 ?side5 ?side6 A161.out).mono ?_); (case side1 => repeat (first | exact (Kd.R_reads' HO_283000.out).2.2 | (with_reducible refine Kd.C_alloc ?_ _) | (with_reducible refine Kd.C_drewN ?_ _) | (with_reducible refine Kd.C_drew ?_))); (case side2 => exact (Kd.R_reads' HO_283000.out).2.1); (case side3 => repeat (first | exact (Kd.R_reads' HO_283001.out).2.2 | (with_reducible refine Kd.C_alloc ?_ _) | (with_reducible refine Kd.C_drewN ?_ _) | (with_reducible refine Kd.C_drew ?_))); (case side4 => exact (Kd.R_reads' HO_283001.out).2.1); (case side5 => repeat (first | exact (Kd.R_reads' HO_283002.out).2.2 | (with_reducible refine Kd.C_alloc ?_ _) | (with_reducible refine Kd.C_drewN ?_ _) | (with_reducible refine Kd.C_drew ?_))); (case side6 => exact (Kd.R_reads' HO_283002.out).2.1); rintro e w169 ⟨rfl, hb⟩; refine ⟨_, rfl, ?_⟩; have n0_ := Aside0.mk (Kd.R_below (by (with_reducible repeat (first | apply Kd.R_alloc | apply Kd.R_drewN | apply Kd.R_drew)); exact HO_283000.out) hb); have n1_ := Aside0.mk (Kd.R_below (by (with_reducible repeat (first | apply Kd.R_alloc | apply Kd.R_drewN | apply Kd.R_drew)); exact HO_283001.out) hb); have n2_ := Aside0.mk (Kd.R_below (by (with_reducible repeat (first | apply Kd.R_alloc | apply Kd.R_drewN | apply Kd.R_drew)); exact HO_283002.out) hb); have n3_ := Aside0.mk (below_step (by repeat (first | (with_reducible first | exact HB.out | apply below_alloc | apply pw_below_drewN | apply below_drew1) | exact HB.out)) hb); clear HO_283000; clear HO_283001; clear HO_283002; clear HB; have HO_283000 := n0_; have HO_283001 := n1_; have HO_283002 := n2_; have HB := n3_; clear n0_ n1_ n2_ n3_; (try clear hb); (try clear hb2); (try clear hk); (try clear hi)))
        go_ret
        exact ⟨by first | rfl | (simp [errW_none, errW_some] <;> rfl) | (simp [*, errW_none, errW_some] <;> rfl), by repeat (first | (with_reducible first | exact HB.out | apply below_alloc | apply pw_below_drewN | apply below_drew1) | exact HB.out)⟩

end Go.Proofs.Ytodicbbeaidibaa.PFnExactSummed
